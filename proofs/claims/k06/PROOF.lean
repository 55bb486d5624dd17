import PyProof.Rows.All
import Wide.All
import OpenK.AllK
import Wide.FinOn
import HandS.ForMost
import HandS.Deep
import HandS.Evl
import HandS.TupAny
import HandS.Flow
import HandS.Style
import HandS.IsInst
import HandS.Wide
import HandS.TupLe
import KE.DataIsa
import HandS.Text
import KE.SortData
import HandS.Set
import HandS.SetFor
import HandS.Strs
import KE.GoesEnum
import HandS.Conv
import HandS.Defaults
import HandS.HeadHook1
import HandS.HeadHook2
import HandS.Replace
import HandS.TupMul
import PyProof.StrBlock2
import HandS.ExcInit
import HandS.Nested
import KE.KExcSuper
import HandS.ExcField
import HandS.TryOnly
import HandS.WordsExc
import KE.DataMinMax
import HandS.Dict
import HandS.More
import HandS.SetTxt0
import KE.KExcIs
import HandS.ExcIs
import HandS.ExcValue
import PySem.Challenge.RW_treesheld_k06_whole_lines
import HandS.Head0
import HandS.Head1
import HandS.Head2
import HandS.HeadEnd
import KE.KStateDown
set_option Elab.async false
set_option linter.all false
set_option maxRecDepth 100000
set_option maxHeartbeats 1000000
/-! A layer over HandS: code is told by total functions on data (PyData), own lists by value, objects by number. -/
namespace Sm
open PySem L2 Evl

/-! ### data and how it lies -/
abbrev LP := Addr → List V → Prop
mutual
def Rep (T L : LP) : PyData → V → Prop
  | .none, v => v = .non
  | .bool b, v => v = .bl b
  | .int i, v => v = .int i
  | .str s, v => v = .str s
  | .tuple ds, v => ∃ a vs, v = .ref a ∧ T a vs ∧ RepAll T L ds vs
  | .list ds, v => ∃ a vs, v = .ref a ∧ L a vs ∧ RepAll T L ds vs
  | .dict _, _ => False
def RepAll (T L : LP) : List PyData → List V → Prop
  | [], vs => vs = []
  | d :: ds, vs => ∃ v r, vs = v :: r ∧ Rep T L d v ∧ RepAll T L ds r
end
mutual
theorem Rep.mono {T T' L L' : LP} (hT : ∀ a vs, T a vs → T' a vs) (hL : ∀ a vs, L a vs → L' a vs) : ∀ (d : PyData) (v : V), Rep T L d v → Rep T' L' d v
  | .none, v, h => by simpa [Rep] using h
  | .bool b, v, h => by simpa [Rep] using h
  | .int i, v, h => by simpa [Rep] using h
  | .str s, v, h => by simpa [Rep] using h
  | .tuple ds, v, h => by
    simp only [Rep] at h ⊢
    obtain ⟨a, vs, e, t, r⟩ := h
    exact ⟨a, vs, e, hT _ _ t, RepAll.mono hT hL ds vs r⟩
  | .list ds, v, h => by
    simp only [Rep] at h ⊢
    obtain ⟨a, vs, e, t, r⟩ := h
    exact ⟨a, vs, e, hL _ _ t, RepAll.mono hT hL ds vs r⟩
  | .dict _, v, h => by simp [Rep] at h
theorem RepAll.mono {T T' L L' : LP} (hT : ∀ a vs, T a vs → T' a vs) (hL : ∀ a vs, L a vs → L' a vs) : ∀ (ds : List PyData) (vs : List V), RepAll T L ds vs → RepAll T' L' ds vs
  | [], vs, h => by simpa [RepAll] using h
  | d :: ds, vs, h => by
    simp only [RepAll] at h ⊢
    obtain ⟨v, r, e, h1, h2⟩ := h
    exact ⟨v, r, e, Rep.mono hT hL d v h1, RepAll.mono hT hL ds r h2⟩
end
/- no list within -/
mutual
def nl : PyData → Bool
  | .list _ => false
  | .dict _ => false
  | .tuple ds => nlAll ds
  | _ => true
def nlAll : List PyData → Bool
  | [] => true
  | d :: ds => nl d && nlAll ds
end
mutual
theorem Rep.nl {T L L' : LP} : ∀ (d : PyData) (v : V), nl d = true → Rep T L d v → Rep T L' d v
  | .none, v, _, h => by simpa [Rep] using h
  | .bool b, v, _, h => by simpa [Rep] using h
  | .int i, v, _, h => by simpa [Rep] using h
  | .str s, v, _, h => by simpa [Rep] using h
  | .tuple ds, v, n, h => by
    simp only [Rep] at h ⊢
    obtain ⟨a, vs, e, t, r⟩ := h
    exact ⟨a, vs, e, t, RepAll.nl ds vs (by simpa [Sm.nl] using n) r⟩
  | .list ds, v, n, h => by simp [Sm.nl] at n
  | .dict _, v, n, h => by simp [Sm.nl] at n
theorem RepAll.nl {T L L' : LP} : ∀ (ds : List PyData) (vs : List V), nlAll ds = true → RepAll T L ds vs → RepAll T L' ds vs
  | [], vs, _, h => by simpa [RepAll] using h
  | d :: ds, vs, n, h => by
    simp only [RepAll] at h ⊢
    simp only [nlAll, Bool.and_eq_true] at n
    obtain ⟨v, r, e, h1, h2⟩ := h
    exact ⟨v, r, e, Rep.nl d v n.1 h1, RepAll.nl ds r n.2 h2⟩
end
theorem RepAll.len {T L : LP} : ∀ {ds : List PyData} {vs : List V}, RepAll T L ds vs → vs.length = ds.length
  | [], vs, h => by simp only [RepAll] at h; subst h; rfl
  | d :: ds, vs, h => by
    simp only [RepAll] at h
    obtain ⟨v, r, rfl, _, h2⟩ := h
    simp [RepAll.len h2]
theorem RepAll.get {T L : LP} : ∀ {ds : List PyData} {vs : List V} {i : Nat} {d : PyData}, RepAll T L ds vs → ds[i]? = some d → ∃ v, vs[i]? = some v ∧ Rep T L d v
  | [], vs, i, d, h, e => by simp at e
  | x :: ds, vs, 0, d, h, e => by
    simp only [RepAll] at h
    obtain ⟨v, r, rfl, h1, _⟩ := h
    simp at e; subst e
    exact ⟨v, rfl, h1⟩
  | x :: ds, vs, i + 1, d, h, e => by
    simp only [RepAll] at h
    obtain ⟨v, r, rfl, _, h2⟩ := h
    simp at e
    obtain ⟨w, h3, h4⟩ := RepAll.get h2 e
    exact ⟨w, by simpa using h3, h4⟩
theorem RepAll.get' {T L : LP} {ds : List PyData} {vs : List V} {i : Nat} {v : V} (h : RepAll T L ds vs) (e : vs[i]? = some v) : ∃ d, ds[i]? = some d ∧ Rep T L d v := by
  have hl := h.len
  have hi : i < ds.length := by
    have := (List.getElem?_eq_some_iff.mp e).1
    omega
  obtain ⟨w, h1, h2⟩ := h.get (List.getElem?_eq_getElem hi)
  rw [e] at h1; cases h1
  exact ⟨_, List.getElem?_eq_getElem hi, h2⟩
theorem RepAll.nil {T L : LP} : RepAll T L [] [] := by simp [RepAll]
theorem RepAll.cons {T L : LP} {d : PyData} {v : V} {ds : List PyData} {vs : List V} (h : Rep T L d v) (r : RepAll T L ds vs) : RepAll T L (d :: ds) (v :: vs) := by
  simp only [RepAll]
  exact ⟨v, vs, rfl, h, r⟩
theorem RepAll.append {T L : LP} : ∀ {ds es : List PyData} {vs us : List V}, RepAll T L ds vs → RepAll T L es us → RepAll T L (ds ++ es) (vs ++ us)
  | [], es, vs, us, h, r => by simp only [RepAll] at h; subst h; exact r
  | d :: ds, es, vs, us, h, r => by
    simp only [RepAll] at h
    obtain ⟨v, q, rfl, h1, h2⟩ := h
    exact .cons h1 (RepAll.append h2 r)
theorem RepAll.take {T L : LP} : ∀ {ds : List PyData} {vs : List V} (n : Nat), RepAll T L ds vs → RepAll T L (ds.take n) (vs.take n)
  | ds, vs, 0, h => by simpa using RepAll.nil
  | [], vs, n + 1, h => by simp only [RepAll] at h; subst h; simpa using RepAll.nil
  | d :: ds, vs, n + 1, h => by
    simp only [RepAll] at h
    obtain ⟨v, q, rfl, h1, h2⟩ := h
    exact .cons h1 (RepAll.take n h2)
theorem RepAll.drop {T L : LP} : ∀ {ds : List PyData} {vs : List V} (n : Nat), RepAll T L ds vs → RepAll T L (ds.drop n) (vs.drop n)
  | ds, vs, 0, h => by simpa using h
  | [], vs, n + 1, h => by simp only [RepAll] at h; subst h; simpa using RepAll.nil
  | d :: ds, vs, n + 1, h => by
    simp only [RepAll] at h
    obtain ⟨v, q, rfl, h1, h2⟩ := h
    simpa using RepAll.drop n h2
theorem RepAll.set {T L : LP} : ∀ {ds : List PyData} {vs : List V} (i : Nat) {d : PyData} {v : V}, RepAll T L ds vs → Rep T L d v → RepAll T L (ds.set i d) (vs.set i v)
  | [], vs, i, d, v, h, _ => by simp only [RepAll] at h; subst h; simpa using RepAll.nil
  | x :: ds, vs, 0, d, v, h, r => by
    simp only [RepAll] at h
    obtain ⟨y, q, rfl, h1, h2⟩ := h
    exact .cons r h2
  | x :: ds, vs, i + 1, d, v, h, r => by
    simp only [RepAll] at h
    obtain ⟨y, q, rfl, h1, h2⟩ := h
    exact .cons h1 (RepAll.set i h2 r)
theorem RepAll.eraseIdx {T L : LP} : ∀ {ds : List PyData} {vs : List V} (i : Nat), RepAll T L ds vs → RepAll T L (ds.eraseIdx i) (vs.eraseIdx i)
  | [], vs, i, h => by simp only [RepAll] at h; subst h; simpa using RepAll.nil
  | x :: ds, vs, 0, h => by
    simp only [RepAll] at h
    obtain ⟨y, q, rfl, h1, h2⟩ := h
    simpa using h2
  | x :: ds, vs, i + 1, h => by
    simp only [RepAll] at h
    obtain ⟨y, q, rfl, h1, h2⟩ := h
    exact .cons h1 (RepAll.eraseIdx i h2)
theorem RepAll.ints {T L : LP} : ∀ (ns : List Int), RepAll T L (ns.map PyData.int) (ns.map V.int)
  | [] => .nil
  | n :: ns => .cons (by simp [Rep]) (RepAll.ints ns)
/- the kit's own relation -/
mutual
theorem Rep.dp {K : PySem.W.Frag} {H : Hp} : ∀ (d : PyData) (v : V), Rep (SqT K H) (SqL K H) d v → Dp K H v d
  | .none, v, h => by simp only [Rep] at h; subst h; exact .non
  | .bool b, v, h => by simp only [Rep] at h; subst h; exact .bl b
  | .int i, v, h => by simp only [Rep] at h; subst h; exact .int i
  | .str s, v, h => by simp only [Rep] at h; subst h; exact .str s
  | .tuple ds, v, h => by
    simp only [Rep] at h
    obtain ⟨a, vs, rfl, t, r⟩ := h
    exact .tup t (RepAll.dp ds vs r)
  | .list ds, v, h => by
    simp only [Rep] at h
    obtain ⟨a, vs, rfl, t, r⟩ := h
    exact .lst t (RepAll.dp ds vs r)
  | .dict _, v, h => by simp [Rep] at h
theorem RepAll.dp {K : PySem.W.Frag} {H : Hp} : ∀ (ds : List PyData) (vs : List V), RepAll (SqT K H) (SqL K H) ds vs → DpAll K H vs ds
  | [], vs, h => by simp only [RepAll] at h; subst h; exact .nil
  | d :: ds, vs, h => by
    simp only [RepAll] at h
    obtain ⟨v, r, rfl, h1, h2⟩ := h
    exact .cons (Rep.dp d v h1) (RepAll.dp ds r h2)
end

/-! ### values, slots, objects, places -/
inductive Val where
  | d (x : PyData) | ref (n : Nat) | fn (k : Nat)
/-- what the text gives: the written part, the classes' addresses and attributes, the defs that are used as values -/
structure Glo where
  K : PySem.W.Frag
  cl : Nat → Addr
  nm : Nat → List Str
  fa : Nat → Addr
  nd : ∀ c, (nm c).Nodup
  sz : ∀ c, (nm c).length < 900
/-- a slot, an attribute: unknown; a value; a list of its own; a dict of its own; data whose lists are locked -/
inductive Sl where
  | un | v (x : Val) | l (xs : List PyData) | k (kvs : List (Key × PyData)) | z (d : PyData)
inductive Ob where
  | lst (xs : List PyData) | ins (c : Nat) (fs : List Sl) | vls (xs : List Val)
inductive Pl where
  | s (i : Nat) | o (n : Nat) | f (n : Nat) (j : Nat)
  deriving DecidableEq
abbrev En := List Sl
abbrev Hs := List Ob
abbrev As := Pl → Addr
abbrev Sl.d (x : PyData) : Sl := .v (.d x)

def FrzL (H : Hp) : LP := fun a vs => ∃ o, H a = some (.frz o (.lst vs))
def WrL (K : PySem.W.Frag) : LP := fun a xs => ∃ (o : Obj) (its : Array Value) (n : Nat), K.lookup a = some o ∧ o.cls = .type "list" ∧ o.dict = none ∧ o.data = .seq its n ∧ its.size ≤ sizeLine ∧ Vals xs its.toList
/-- lists for ever: locked, or written -/
def SL (K : PySem.W.Frag) (H : Hp) : LP := fun a vs => FrzL H a vs ∨ WrL K a vs
def isMut : Sl → Bool
  | .l _ => true
  | .k _ => true
  | _ => false
def hlive (h : Hs) : Pl → Prop
  | .s _ => False
  | .o n => n < h.length
  | .f n j => ∃ c fs s, h[n]? = some (.ins c fs) ∧ fs[j]? = some s ∧ isMut s = true
def live (env : En) (h : Hs) : Pl → Prop
  | .s i => ∃ s, env[i]? = some s ∧ isMut s = true
  | p => hlive h p
theorem hlive.live {env : En} {h : Hs} : ∀ {p : Pl}, hlive h p → live env h p
  | .s _, x => x.elim
  | .o _, x => x
  | .f _ _, x => x
/-- a def's frame: what may be written from its entry on -/
structure Fm where
  G : Glo
  rw : Bool
  h0 : Hs
  A0 : As
  H0 : Hp
  xc : Nat → Addr
  wx : Value → Option Addr → L2.St → Hp → Prop
def Fm.W (F : Fm) (a : Addr) : Prop := F.rw = true ∧ ∃ p, hlive F.h0 p ∧ F.A0 p = a
/-- lists that stay as they are while the def runs -/
def FL (F : Fm) (H : Hp) : LP := fun a vs => (Rd F.H0 a (.lst vs) ∧ ¬ F.W a) ∨ SL F.G.K H a vs
def RepV (G : Glo) (T L : LP) (n : Nat) (A : As) : Val → V → Prop
  | .d x, v => Rep T L x v
  | .ref m, v => m < n ∧ v = .ref (A (.o m))
  | .fn k, v => v = .ref (G.fa k)
def KvAll (T L : LP) : List (Key × PyData) → List (Key × V) → Prop
  | [], ks => ks = []
  | p :: ps, ks => ∃ v r, ks = (p.1, v) :: r ∧ Rep T L p.2 v ∧ KvAll T L ps r
/-- what a slot (an attribute) holds; its own list or dict stands at loc -/
def SlOf (G : Glo) (L : LP) (n : Nat) (A : As) (H : Hp) (loc : Addr) : Sl → Option V → Prop
  | .un, _ => True
  | .v x, o => ∃ v, o = some v ∧ RepV G (SqT G.K H) L n A x v
  | .l xs, o => o = some (.ref loc) ∧ ∃ vs, H loc = some (.lst vs) ∧ RepAll (SqT G.K H) (SL G.K H) xs vs
  | .k kvs, o => o = some (.ref loc) ∧ ∃ ks, H loc = some (.dK ks) ∧ KvAll (SqT G.K H) (SL G.K H) kvs ks
  | .z d, o => ∃ v, o = some v ∧ Rep (SqT G.K H) (SL G.K H) d v
def ObOf (G : Glo) (n : Nat) (A : As) (H : Hp) (m : Nat) : Ob → Prop
  | .lst xs => ∃ vs, H (A (.o m)) = some (.lst vs) ∧ RepAll (SqT G.K H) (SL G.K H) xs vs
  | .ins c fs => ∃ dx fs', H (A (.o m)) = some (.ins (G.cl c) dx fs') ∧ (fs'.map (·.1)).Nodup ∧ (∀ g, g ∈ fs'.map (·.1) → g ∈ G.nm c) ∧ fs.length = (G.nm c).length ∧
      ∀ (j : Nat) s x, fs[j]? = some s → (G.nm c)[j]? = some x → SlOf G (SL G.K H) n A H (A (.f m j)) s (fs'.lookup x)
  | .vls xs => ∃ vs, H (A (.o m)) = some (.lst vs) ∧ Paired (fun x v => RepV G (SqT G.K H) (SL G.K H) n A x v) xs vs
theorem vls_mono {α β : Type} {f g : α → β → Prop} (i : ∀ x y, f x y → g x y) : ∀ {l : List α} {m : List β}, Paired f l m → Paired g l m
  | _, _, .nil => .nil
  | _, _, .cons h t => .cons (i _ _ h) (vls_mono i t)
structure SR (F : Fm) (env : En) (h : Hs) (A : As) (σ : L2.St) (H : Hp) : Prop where
  fr : ∀ a o, F.H0 a = some o → ¬ F.W a → H a = some o
  tp : ∀ a vs, F.H0 a = some (.tup vs) → H a = some (.tup vs)
  fz : ∀ a o u, F.H0 a = some (.frz o u) → H a = some (.frz o u)
  dm : ∀ a o, F.H0 a = some o → ∃ o', H a = some o'
  le : F.rw = true → F.h0.length ≤ h.length
  oo : F.rw = true → ∀ m, m < F.h0.length → A (.o m) = F.A0 (.o m)
  nw : F.rw = true → ∀ p, hlive h p → F.W (A p) ∨ F.H0 (A p) = none
  ow : ∀ i, live env [] (.s i) → F.H0 (A (.s i)) = none
  ln : σ.length = env.length
  sl : ∀ i s, env[i]? = some s → SlOf F.G (FL F H) h.length A H (A (.s i)) s (σ[i]?.join)
  ob : ∀ n o, h[n]? = some o → ObOf F.G h.length A H n o
  ij : ∀ p q, live env h p → live env h q → A p = A q → p = q
  ro : F.rw = false → ∀ n j, hlive h (.f n j) → ∃ o, F.H0 (A (.f n j)) = some o
/-- a step that may write objects -/
structure Step (h : Hs) (A : As) (H : Hp) (h' : Hs) (A' : As) (H' : Hp) : Prop where
  fr : ∀ a o, H a = some o → (∀ p, hlive h p → A p ≠ a) → H' a = some o
  tp : ∀ a vs, H a = some (.tup vs) → H' a = some (.tup vs)
  fz : ∀ a o u, H a = some (.frz o u) → H' a = some (.frz o u)
  dm : ∀ a o, H a = some o → ∃ o', H' a = some o'
  le : h.length ≤ h'.length
  oo : ∀ m, m < h.length → A' (.o m) = A (.o m)
  nw : ∀ p, hlive h' p → (∃ q, hlive h q ∧ A' p = A q) ∨ H (A' p) = none

/-! ### how these carry over -/
/-- tuples and locked things stay -/
def Pres (H H' : Hp) : Prop := (∀ a vs, H a = some (.tup vs) → H' a = some (.tup vs)) ∧ ∀ a o u, H a = some (.frz o u) → H' a = some (.frz o u)
theorem Ex.pres {H H' : Hp} (e : Ex H H') : Pres H H' := ⟨fun a _ h => e a _ h, fun a _ _ h => e a _ h⟩
theorem Pres.refl (H : Hp) : Pres H H := ⟨fun _ _ h => h, fun _ _ _ h => h⟩
theorem Pres.trans {H H1 H2 : Hp} (a : Pres H H1) (b : Pres H1 H2) : Pres H H2 := ⟨fun x vs h => b.1 _ _ (a.1 _ _ h), fun x o u h => b.2 _ _ _ (a.2 _ _ _ h)⟩
theorem Step.pres {h h' : Hs} {A A' : As} {H H' : Hp} (s : Step h A H h' A' H') : Pres H H' := ⟨s.tp, s.fz⟩
section
variable {G : Glo} {K : PySem.W.Frag} {H H' : Hp} {L L' : LP} {n n' : Nat} {A A' : As} {F : Fm}
theorem Pres.sqT (e : Pres H H') (a : Addr) (vs : List V) (h : SqT K H a vs) : SqT K H' a vs := by
  rcases h with (h | ⟨o, h⟩) | h
  · exact .inl (.inl (e.1 _ _ h))
  · exact .inl (.inr ⟨o, e.2 _ _ _ h⟩)
  · exact .inr h
theorem Pres.sL (e : Pres H H') (a : Addr) (vs : List V) (h : SL K H a vs) : SL K H' a vs := by
  rcases h with ⟨o, h⟩ | h
  · exact .inl ⟨o, e.2 _ _ _ h⟩
  · exact .inr h
theorem Pres.fL (e : Pres H H') (a : Addr) (vs : List V) (h : FL F H a vs) : FL F H' a vs := by
  rcases h with h | h
  · exact .inl h
  · exact .inr (e.sL a vs h)
theorem SL.sq {a : Addr} {vs : List V} (h : SL K H a vs) : SqL K H a vs := by
  rcases h with ⟨o, h⟩ | h
  · exact .inl (.inr ⟨o, h⟩)
  · exact .inr h
theorem SL.fl {a : Addr} {vs : List V} (h : SL F.G.K H a vs) : FL F H a vs := .inr h
theorem RepV.mono (hT : ∀ a vs, SqT K H a vs → SqT K H' a vs) (hL : ∀ a vs, L a vs → L' a vs) (hn : n ≤ n') (ho : ∀ m, m < n → A' (.o m) = A (.o m)) : ∀ {x : Val} {v : V}, RepV G (SqT K H) L n A x v → RepV G (SqT K H') L' n' A' x v
  | .d x, v, h => Rep.mono hT hL x v h
  | .ref m, v, ⟨h1, h2⟩ => ⟨Nat.lt_of_lt_of_le h1 hn, by rw [ho m h1]; exact h2⟩
  | .fn _, v, h => h
theorem KvAll.mono {T T' : LP} (hT : ∀ a vs, T a vs → T' a vs) (hL : ∀ a vs, L a vs → L' a vs) : ∀ {ps : List (Key × PyData)} {ks : List (Key × V)}, KvAll T L ps ks → KvAll T' L' ps ks
  | [], ks, h => h
  | p :: ps, ks, ⟨v, r, e, h1, h2⟩ => ⟨v, r, e, Rep.mono hT hL _ _ h1, KvAll.mono hT hL h2⟩
theorem SlOf.mono (e : Pres H H') (hL : ∀ a vs, L a vs → L' a vs) (hn : n ≤ n') (ho : ∀ m, m < n → A' (.o m) = A (.o m)) {loc loc' : Addr} : ∀ {s : Sl} {o : Option V}, (isMut s = true → loc' = loc ∧ ∀ u, H loc = some u → H' loc = some u) →
    SlOf G L n A H loc s o → SlOf G L' n' A' H' loc' s o
  | .un, _, _, h => h
  | .v x, _, _, ⟨v, e1, r⟩ => ⟨v, e1, r.mono (e.sqT) hL hn ho⟩
  | .l xs, _, hm, ⟨e1, vs, e2, r⟩ => by
    obtain ⟨rfl, k⟩ := hm rfl
    exact ⟨e1, vs, k _ e2, RepAll.mono e.sqT e.sL _ _ r⟩
  | .k kvs, _, hm, ⟨e1, vs, e2, r⟩ => by
    obtain ⟨rfl, k⟩ := hm rfl
    exact ⟨e1, vs, k _ e2, KvAll.mono e.sqT e.sL r⟩
  | .z d, _, _, ⟨v, e1, r⟩ => ⟨v, e1, Rep.mono e.sqT e.sL _ _ r⟩
end
end Sm

set_option Elab.async false
set_option linter.all false
set_option maxRecDepth 100000
set_option maxHeartbeats 1000000
namespace Sm
open PySem L2 Evl

section
variable {F : Fm} {env : En} {h h' : Hs} {A A' : As} {σ : L2.St} {H H' : Hp}
theorem Step.refl : Step h A H h A H := ⟨fun _ _ e _ => e, fun _ _ e => e, fun _ _ _ e => e, fun _ o e => ⟨o, e⟩, Nat.le_refl _, fun _ _ => rfl, fun p hp => .inl ⟨p, hp, rfl⟩⟩
theorem Step.ex (e : Ex H H') : Step h A H h A H' := ⟨fun a o q _ => e a o q, fun a _ q => e a _ q, fun a _ _ q => e a _ q, fun a o q => ⟨o, e a o q⟩, Nat.le_refl _, fun _ _ => rfl, fun p hp => .inl ⟨p, hp, rfl⟩⟩
theorem Step.trans {h1 h2 h3 : Hs} {A1 A2 A3 : As} {H1 H2 H3 : Hp} (s : Step h1 A1 H1 h2 A2 H2) (t : Step h2 A2 H2 h3 A3 H3) : Step h1 A1 H1 h3 A3 H3 where
  fr := fun a o e n => by
    have e2 := s.fr a o e n
    refine t.fr a o e2 fun p hp q => ?_
    rcases s.nw p hp with ⟨p', hp', eq⟩ | z
    · exact n p' hp' (eq.symm.trans q)
    · rw [q, e] at z; cases z
  tp := fun a vs e => t.tp a vs (s.tp a vs e)
  fz := fun a o u e => t.fz a o u (s.fz a o u e)
  dm := fun a o e => let ⟨o', e'⟩ := s.dm a o e; t.dm a o' e'
  le := Nat.le_trans s.le t.le
  oo := fun m hm => (t.oo m (Nat.lt_of_lt_of_le hm s.le)).trans (s.oo m hm)
  nw := fun p hp => by
    rcases t.nw p hp with ⟨q, hq, e⟩ | z
    · rcases s.nw q hq with ⟨q', hq', e'⟩ | z
      · exact .inl ⟨q', hq', e.trans e'⟩
      · exact .inr (by rw [e]; exact z)
    · by_cases hh : ∃ q, hlive h1 q ∧ A1 q = A3 p
      · obtain ⟨q, hq, e⟩ := hh
        exact .inl ⟨q, hq, e.symm⟩
      · refine .inr ?_
        cases e : H1 (A3 p) with
        | none => rfl
        | some o =>
          have := s.fr _ o e fun q hq eq => hh ⟨q, hq, eq⟩
          rw [z] at this; cases this

/-- the heap grows -/
theorem SR.ex (R : SR F env h A σ H) (e : Ex H H') : SR F env h A σ H' where
  fr := fun a o q w => e a o (R.fr a o q w)
  tp := fun a vs q => e a _ (R.tp a vs q)
  fz := fun a o u q => e a _ (R.fz a o u q)
  dm := fun a o q => let ⟨o', e'⟩ := R.dm a o q; ⟨o', e a o' e'⟩
  le := R.le
  oo := R.oo
  nw := R.nw
  ow := R.ow
  ln := R.ln
  sl := fun i s q => (R.sl i s q).mono (Ex.pres e) (Pres.fL (Ex.pres e)) (Nat.le_refl _) (fun _ _ => rfl) fun _ => ⟨rfl, fun u z => e _ u z⟩
  ob := fun n o q => by
    have z := R.ob n o q
    cases o with
    | lst xs =>
      obtain ⟨vs, e1, r⟩ := z
      exact ⟨vs, e _ _ e1, RepAll.mono (Ex.pres e).sqT (Ex.pres e).sL _ _ r⟩
    | vls xs =>
      obtain ⟨vs, e1, r⟩ := z
      exact ⟨vs, e _ _ e1, vls_mono (fun _ _ y => y.mono (Ex.pres e).sqT (Ex.pres e).sL (Nat.le_refl _) fun _ _ => rfl) r⟩
    | ins C fs =>
      obtain ⟨dx, fs', e1, e2, e3, e4, r⟩ := z
      exact ⟨dx, fs', e _ _ e1, e2, e3, e4, fun j s x q' q2 => (r j s x q' q2).mono (Ex.pres e) (Pres.sL (Ex.pres e)) (Nat.le_refl _) (fun _ _ => rfl) fun _ => ⟨rfl, fun u z => e _ u z⟩⟩
  ij := R.ij
  ro := R.ro

/-- an object's place is that of an object -/
theorem SR.at_live (R : SR F env h A σ H) : ∀ {p : Pl}, live env h p → ∃ o, H (A p) = some o ∧ (∀ vs, o ≠ .tup vs) ∧ ∀ b u, o ≠ .frz b u
  | .s i, ⟨s, e, m⟩ => by
    have z := R.sl i s e
    cases s with
    | l xs => obtain ⟨_, vs, e2, _⟩ := z; exact ⟨_, e2, fun _ q => (by cases q), fun _ _ q => (by cases q)⟩
    | k kvs => obtain ⟨_, vs, e2, _⟩ := z; exact ⟨_, e2, fun _ q => (by cases q), fun _ _ q => (by cases q)⟩
    | un => cases m
    | z d => cases m
    | v x => cases m
  | .o n, hn => by
    have hn : n < h.length := hn
    have z := R.ob n _ (List.getElem?_eq_getElem hn)
    cases e : h[n] with
    | lst xs => rw [e] at z; obtain ⟨vs, e2, _⟩ := z; exact ⟨_, e2, fun _ q => (by cases q), fun _ _ q => (by cases q)⟩
    | vls xs => rw [e] at z; obtain ⟨vs, e2, _⟩ := z; exact ⟨_, e2, fun _ q => (by cases q), fun _ _ q => (by cases q)⟩
    | ins C fs => rw [e] at z; obtain ⟨dx, fs', e2, _, _, _, _⟩ := z; exact ⟨_, e2, fun _ q => (by cases q), fun _ _ q => (by cases q)⟩
  | .f n j, ⟨c, fs, s, e1, e2, m⟩ => by
    obtain ⟨dx, fs', _, _, _, e4, r⟩ := R.ob n _ e1
    have hj : j < (F.G.nm c).length := by
      have := (List.getElem?_eq_some_iff.mp e2).1
      omega
    have z := r j s _ e2 (List.getElem?_eq_getElem hj)
    cases s with
    | l xs => obtain ⟨_, vs, e2, _⟩ := z; exact ⟨_, e2, fun _ q => (by cases q), fun _ _ q => (by cases q)⟩
    | k kvs => obtain ⟨_, vs, e2, _⟩ := z; exact ⟨_, e2, fun _ q => (by cases q), fun _ _ q => (by cases q)⟩
    | un => cases m
    | z d => cases m
    | v x => cases m
theorem SR.fl_sq (R : SR F env h A σ H) (a : Addr) (vs : List V) (q : FL F H a vs) : SqL F.G.K H a vs := by
  rcases q with ⟨q | ⟨o, q⟩, w⟩ | q
  · exact .inl (.inl (R.fr a _ q w))
  · exact .inl (.inr ⟨o, R.fz a _ _ q⟩)
  · exact q.sq
/-- stable is momentary -/
theorem SR.mom (R : SR F env h A σ H) {n : Nat} {x : Val} {v : V} (q : RepV F.G (SqT F.G.K H) (FL F H) n A x v) : RepV F.G (SqT F.G.K H) (SqL F.G.K H) n A x v :=
  q.mono (fun _ _ z => z) R.fl_sq (Nat.le_refl _) fun _ _ => rfl

/-- what a callee's frame starts from -/
def Fm.cal (G : Glo) (rw : Bool) (h : Hs) (A : As) (H : Hp) : Fm := ⟨G, rw, h, A, H, fun _ => 0, fun _ _ _ _ => False⟩
theorem SR.start (R : SR F env h A σ H) (rw : Bool) : SR (Fm.cal F.G rw h A H) [] h A [] H where
  fr := fun a o q _ => q
  tp := fun _ _ q => q
  fz := fun _ _ _ q => q
  dm := fun _ o q => ⟨o, q⟩
  le := fun _ => Nat.le_refl _
  oo := fun _ _ _ => rfl
  nw := fun hr p hp => .inl ⟨hr, p, hp, rfl⟩
  ow := fun i z => by obtain ⟨s, e, _⟩ := z; simp at e
  ln := rfl
  sl := fun i s e => by simp at e
  ob := R.ob
  ij := fun p q hp hq e => R.ij p q (by
    cases p with
    | s i => obtain ⟨s, e, _⟩ := hp; simp at e
    | o n => exact hp
    | f n x => exact hp) (by
    cases q with
    | s i => obtain ⟨s, e, _⟩ := hq; simp at e
    | o n => exact hq
    | f n x => exact hq) e
  ro := fun _ n j hp => let ⟨o, e, _⟩ := R.at_live hp.live; ⟨o, e⟩
theorem SR.step_of {σ' : L2.St} (R : SR (Fm.cal F.G true h A H) env h' A' σ' H') : Step h A H h' A' H' where
  fr := fun a o e n => R.fr a o e fun ⟨_, p, hp, q⟩ => n p hp q
  tp := R.tp
  fz := R.fz
  dm := R.dm
  le := R.le rfl
  oo := R.oo rfl
  nw := fun p hp => by
    rcases R.nw rfl p hp with ⟨_, q, hq, e⟩ | z
    · exact .inl ⟨q, hq, e.symm⟩
    · exact .inr z
/-- the places behind a call: slots as they were -/
def As.back (A A' : As) : As := fun p => match p with
  | .s i => A (.s i)
  | p => A' p
theorem back_h {p : Pl} (hp : hlive h p) : As.back A A' p = A' p := by
  cases p with
  | s i => exact hp.elim
  | o n => rfl
  | f n x => rfl
/-- behind a call that may have written objects -/
theorem SR.call (R : SR F env h A σ H) (hw : F.rw = true) (s : Step h A H h' A' H')
    (ob : ∀ n o, h'[n]? = some o → ObOf F.G h'.length A' H' n o) (ij : ∀ p q, hlive h' p → hlive h' q → A' p = A' q → p = q) : SR F env h' (As.back A A') σ H' := by
  have nslot : ∀ i p, live env h (.s i) → hlive h' p → A (.s i) ≠ A' p := fun i p hi hp e => by
    obtain ⟨o, e1, _⟩ := R.at_live hi
    rcases s.nw p hp with ⟨q, hq, e2⟩ | z
    · have := R.ij _ _ hi hq.live (e.trans e2)
      subst this
      exact hq
    · rw [← e, e1] at z; cases z
  have kslot : ∀ i, live env h (.s i) → ∀ u, H (A (.s i)) = some u → H' (A (.s i)) = some u := fun i hi u e => s.fr _ u e fun p hp q => by
    have := R.ij _ _ hi hp.live q.symm
    subst this
    exact hp
  refine ⟨fun a o q w => ?_, fun a vs q => s.tp _ _ (R.tp a vs q), fun a o u q => s.fz _ _ _ (R.fz a o u q), fun a o q => (let ⟨o', e'⟩ := R.dm a o q; s.dm a o' e'), fun z => Nat.le_trans (R.le z) s.le, fun z m hm => ?_, fun z p hp => ?_, R.ow, R.ln, fun i sl q => ?_, fun n o q => ?_, fun p q hp hq e => ?_, fun z => by rw [hw] at z; cases z⟩
  · refine s.fr a o (R.fr a o q w) fun p hp e => ?_
    rcases R.nw hw p hp with z | z
    · exact w (e ▸ z)
    · rw [e, q] at z; cases z
  · exact (s.oo m (Nat.lt_of_lt_of_le hm (R.le z))).trans (R.oo z m hm)
  · rw [back_h hp]
    rcases s.nw p hp with ⟨q, hq, e⟩ | z'
    · rw [e]; exact R.nw z q hq
    · by_cases w : F.W (A' p)
      · exact .inl w
      · refine .inr ?_
        cases e : F.H0 (A' p) with
        | none => rfl
        | some o => have := R.fr _ o e w; rw [z'] at this; cases this
  · exact (R.sl i sl q).mono s.pres (Pres.fL s.pres) s.le s.oo fun m => ⟨rfl, kslot i ⟨sl, q, m⟩⟩
  · have z := ob n o q
    cases o with
    | lst xs => exact z
    | vls xs =>
      obtain ⟨vs, e1, r⟩ := z
      exact ⟨vs, e1, vls_mono (fun _ _ y => y.mono (fun _ _ z => z) (fun _ _ z => z) (Nat.le_refl _) fun _ _ => rfl) r⟩
    | ins C fs =>
      obtain ⟨dx, fs', e1, e2, e3, e4, r⟩ := z
      exact ⟨dx, fs', e1, e2, e3, e4, fun j sl x q' q2 => (r j sl x q' q2).mono (Pres.refl _) (fun _ _ z => z) (Nat.le_refl _) (fun _ _ => rfl) fun _ => ⟨rfl, fun _ z => z⟩⟩
  · cases p with
    | s i =>
      cases q with
      | s j => exact R.ij _ _ hp hq e
      | o n => exact (nslot i (.o n) hp hq e).elim
      | f n x => exact (nslot i (.f n x) hp hq e).elim
    | o n =>
      cases q with
      | s j => exact (nslot j (.o n) hq hp e.symm).elim
      | o n => exact ij _ _ hp hq e
      | f n x => exact ij _ _ hp hq e
    | f n x =>
      cases q with
      | s j => exact (nslot j (.f n x) hq hp e.symm).elim
      | o n => exact ij _ _ hp hq e
      | f n x => exact ij _ _ hp hq e
end
end Sm

set_option Elab.async false
set_option linter.all false
set_option maxRecDepth 100000
set_option maxHeartbeats 1000000
namespace Sm
open PySem L2 Evl

section
variable {F : Fm} {env : En} {h h' : Hs} {A A' : As} {σ : L2.St} {H H' : Hp} {n' : Nat}
theorem Pres.upd {a : Addr} {o : HO} (q : ∀ u, H a = some u → (∀ vs, u ≠ .tup vs) ∧ ∀ b w, u ≠ .frz b w) : Pres H (upd H a o) := by
  refine ⟨fun b vs e => ?_, fun b ob u e => ?_⟩
  · by_cases hb : b = a
    · subst hb; exact absurd rfl ((q _ e).1 vs)
    · rw [upd_ne hb]; exact e
  · by_cases hb : b = a
    · subst hb; exact absurd rfl ((q _ e).2 ob u)
    · rw [upd_ne hb]; exact e
theorem SR.pres_at (R : SR F env h A σ H) {p : Pl} {o : HO} (hp : live env h p) : Pres H (upd H (A p) o) := Pres.upd fun u e => by
  obtain ⟨u', e', z⟩ := R.at_live hp
  rw [e] at e'; cases e'
  exact z
theorem dm_upd {a : Addr} {o : HO} : ∀ b u, H b = some u → ∃ u', (upd H a o) b = some u' := fun b u e => by
  by_cases hb : b = a
  · subst hb; exact ⟨o, upd_same⟩
  · exact ⟨u, by rw [upd_ne hb]; exact e⟩
theorem SR.sl_keep (R : SR F env h A σ H) (P : Pres H H') (hn : h.length ≤ n') (ho : ∀ m, m < h.length → A' (.o m) = A (.o m)) {i : Nat} {s : Sl} (e : env[i]? = some s)
    (k : isMut s = true → A' (.s i) = A (.s i) ∧ ∀ u, H (A (.s i)) = some u → H' (A (.s i)) = some u) : SlOf F.G (FL F H') n' A' H' (A' (.s i)) s (σ[i]?.join) :=
  (R.sl i s e).mono P (Pres.fL P) hn ho k
theorem SR.ob_keep (R : SR F env h A σ H) (P : Pres H H') (hn : h.length ≤ n') (ho : ∀ m, m < h.length → A' (.o m) = A (.o m)) {n : Nat} {o : Ob} (e : h[n]? = some o)
    (k0 : ∀ u, H (A (.o n)) = some u → H' (A (.o n)) = some u) (kf : ∀ j, hlive h (.f n j) → A' (.f n j) = A (.f n j) ∧ ∀ u, H (A (.f n j)) = some u → H' (A (.f n j)) = some u) : ObOf F.G n' A' H' n o := by
  have z := R.ob n o e
  have hl : n < h.length := (List.getElem?_eq_some_iff.mp e).1
  cases o with
  | lst xs =>
    obtain ⟨vs, e1, r⟩ := z
    exact ⟨vs, by rw [ho n hl]; exact k0 _ e1, RepAll.mono P.sqT P.sL _ _ r⟩
  | vls xs =>
    obtain ⟨vs, e1, r⟩ := z
    exact ⟨vs, by rw [ho n hl]; exact k0 _ e1, vls_mono (fun _ _ y => y.mono P.sqT P.sL hn ho) r⟩
  | ins c fs =>
    obtain ⟨dx, fs', e1, e2, e3, e4, r⟩ := z
    exact ⟨dx, fs', by rw [ho n hl]; exact k0 _ e1, e2, e3, e4, fun j s x q q2 => (r j s x q q2).mono P (Pres.sL P) hn ho fun m => kf j ⟨c, fs, s, e, q, m⟩⟩
theorem get_set {α : Type} {l : List α} {i j : Nat} {x y : α} (e : (l.set i x)[j]? = some y) : (j = i ∧ y = x ∧ i < l.length) ∨ (j ≠ i ∧ l[j]? = some y) := by
  by_cases hj : j = i
  · subst hj
    by_cases hl : j < l.length
    · rw [List.getElem?_set_self hl] at e; cases e; exact .inl ⟨rfl, rfl, hl⟩
    · rw [List.getElem?_eq_none (by simpa using hl)] at e; cases e
  · rw [List.getElem?_set_ne (Ne.symm hj)] at e
    exact .inr ⟨hj, e⟩
theorem live_set {i : Nat} {s' : Sl} {p : Pl} (hp : live (env.set i s') h p) : (p = .s i ∧ isMut s' = true ∧ i < env.length) ∨ (p ≠ .s i ∧ live env h p) := by
  cases p with
  | s j =>
    obtain ⟨s, e, m⟩ := hp
    rcases get_set e with ⟨rfl, rfl, hl⟩ | ⟨hj, e⟩
    · exact .inl ⟨rfl, m, hl⟩
    · exact .inr ⟨fun q => hj (by cases q; rfl), s, e, m⟩
  | o n => exact .inr ⟨fun q => (by cases q), hp⟩
  | f n j => exact .inr ⟨fun q => (by cases q), hp⟩
theorem live_nil {i : Nat} : live env [] (.s i) ↔ live env h (.s i) := Iff.rfl

/-- a slot is given something that is not its own list -/
theorem SR.setG {i : Nat} {s' : Sl} {σ' : L2.St} (R : SR F env h A σ H) (hm : isMut s' = false) (hl : σ'.length = σ.length) (hσ : ∀ j, j ≠ i → σ'[j]? = σ[j]?)
    (hs : i < env.length → SlOf F.G (FL F H) h.length A H (A (.s i)) s' (σ'[i]?.join)) : SR F (env.set i s') h A σ' H where
  fr := R.fr
  tp := R.tp
  fz := R.fz
  dm := R.dm
  le := R.le
  oo := R.oo
  nw := R.nw
  ow := fun j q => by
    rcases live_set q with ⟨_, m, _⟩ | ⟨_, q⟩
    · rw [hm] at m; cases m
    · exact R.ow j q
  ln := by rw [hl, R.ln, List.length_set]
  sl := fun j s e => by
    rcases get_set e with ⟨rfl, rfl, z⟩ | ⟨hj, e⟩
    · exact hs z
    · rw [hσ j hj]; exact R.sl j s e
  ob := R.ob
  ij := fun p q hp hq e => by
    rcases live_set hp with ⟨_, m, _⟩ | ⟨_, hp⟩
    · rw [hm] at m; cases m
    · rcases live_set hq with ⟨_, m, _⟩ | ⟨_, hq⟩
      · rw [hm] at m; cases m
      · exact R.ij p q hp hq e
  ro := R.ro
theorem SR.setV {i : Nat} {x : Val} {v : V} (R : SR F env h A σ H) (r : RepV F.G (SqT F.G.K H) (FL F H) h.length A x v) : SR F (env.set i (.v x)) h A (σ.set i (some v)) H :=
  R.setG rfl (by simp) (fun j hj => List.getElem?_set_ne (Ne.symm hj)) fun hi => ⟨v, by rw [List.getElem?_set_self (by rw [R.ln]; exact hi)]; rfl, r⟩
theorem SR.setUn {i : Nat} (R : SR F env h A σ H) : SR F (env.set i .un) h A σ H := R.setG rfl rfl (fun _ _ => rfl) fun _ => trivial
theorem SR.setUn' {i : Nat} {o : Option V} (R : SR F env h A σ H) : SR F (env.set i .un) h A (σ.set i o) H := R.setG rfl (by simp) (fun j hj => List.getElem?_set_ne (Ne.symm hj)) fun _ => trivial

/-- a fresh thing is nobody's -/
structure Fresh (F : Fm) (env : En) (h : Hs) (A : As) (p : Addr) : Prop where
  f0 : F.H0 p = none
  fp : ∀ q, live env h q → A q ≠ p
theorem SR.fresh (R : SR F env h A σ H) {p : Addr} (e : H p = none) : Fresh F env h A p where
  f0 := by
    cases q : F.H0 p with
    | none => rfl
    | some o => obtain ⟨o', e'⟩ := R.dm p o q; rw [e] at e'; cases e'
  fp := fun q hq z => by
    obtain ⟨o, e', _⟩ := R.at_live hq
    rw [z, e] at e'; cases e'
def As.put (A : As) (p : Pl) (a : Addr) : As := fun q => if q = p then a else A q
theorem As.put_same {p : Pl} {a : Addr} : As.put A p a p = a := if_pos rfl
theorem As.put_ne {p q : Pl} {a : Addr} (h : q ≠ p) : As.put A p a q = A q := if_neg h
/-- a slot is given a list (dict) of its own, fresh -/
theorem SR.setNew {i : Nat} {s' : Sl} {p : Addr} (R : SR F env h A σ H) (f : Fresh F env h A p) (hm : isMut s' = true)
    (hs : SlOf F.G (FL F H) h.length (As.put A (.s i) p) H p s' (some (.ref p))) : SR F (env.set i s') h (As.put A (.s i) p) (σ.set i (some (.ref p))) H where
  fr := R.fr
  tp := R.tp
  fz := R.fz
  dm := R.dm
  le := R.le
  oo := fun z m hh => by rw [As.put_ne (by intro q; cases q)]; exact R.oo z m hh
  nw := fun z q hq => by rw [As.put_ne (by intro e; subst e; exact hq)]; exact R.nw z q hq
  ow := fun j q => by
    rcases live_set q with ⟨e, m, _⟩ | ⟨e, q⟩
    · rw [e, As.put_same]; exact f.f0
    · rw [As.put_ne e]; exact R.ow j q
  ln := by simp [R.ln]
  sl := fun j s e => by
    rcases get_set e with ⟨rfl, rfl, z⟩ | ⟨hj, e⟩
    · rw [As.put_same, List.getElem?_set_self (by rw [R.ln]; exact z)]; exact hs
    · rw [List.getElem?_set_ne (Ne.symm hj)]
      exact R.sl_keep (Pres.refl _) (Nat.le_refl _) (fun m _ => As.put_ne (by intro q; cases q)) e fun _ => ⟨As.put_ne (by intro q; cases q; exact hj rfl), fun _ z => z⟩
  ob := fun n o e => R.ob_keep (Pres.refl _) (Nat.le_refl _) (fun m _ => As.put_ne (by intro q; cases q)) e (fun _ z => z) fun j _ => ⟨As.put_ne (by intro q; cases q), fun _ z => z⟩
  ij := fun q r hq hr e => by
    rcases live_set hq with ⟨e1, _, _⟩ | ⟨e1, hq⟩
    · rcases live_set hr with ⟨e2, _, _⟩ | ⟨e2, hr⟩
      · exact e1.trans e2.symm
      · rw [e1, As.put_same, As.put_ne e2] at e; exact absurd e.symm (f.fp r hr)
    · rcases live_set hr with ⟨e2, _, _⟩ | ⟨e2, hr⟩
      · rw [e2, As.put_same, As.put_ne e1] at e; exact absurd e (f.fp q hq)
      · rw [As.put_ne e1, As.put_ne e2] at e; exact R.ij q r hq hr e
  ro := fun z n j hp => by rw [As.put_ne (by intro q; cases q)]; exact R.ro z n j hp

/-- a slot's own list is changed in place -/
theorem SR.putS {i : Nat} {s s' : Sl} {o : HO} (R : SR F env h A σ H) (hi : env[i]? = some s) (hm : isMut s = true) (hm' : isMut s' = true)
    (hs : SlOf F.G (FL F (upd H (A (.s i)) o)) h.length A (upd H (A (.s i)) o) (A (.s i)) s' (σ[i]?.join)) : SR F (env.set i s') h A σ (upd H (A (.s i)) o) := by
  have hp : live env h (.s i) := ⟨s, hi, hm⟩
  have P : Pres H (upd H (A (.s i)) o) := R.pres_at hp
  have oth : ∀ q, live env h q → q ≠ .s i → ∀ u, H (A q) = some u → (upd H (A (.s i)) o) (A q) = some u := fun q hq hn u e => by
    rw [upd_ne (fun z => hn (R.ij _ _ hq hp z))]; exact e
  have lv : ∀ q, live (env.set i s') h q → live env h q := fun q hq => by
    rcases live_set hq with ⟨e, _, _⟩ | ⟨_, q⟩
    · rw [e]; exact hp
    · exact q
  refine ⟨fun a u q w => ?_, fun a vs q => P.1 _ _ (R.tp a vs q), fun a b u q => P.2 _ _ _ (R.fz a b u q), fun a u q => ?_, R.le, R.oo, R.nw, fun j q => R.ow j (lv (.s j) q), by rw [R.ln, List.length_set], fun j t e => ?_, fun n b e => ?_, fun p q hp hq e => R.ij p q (lv _ hp) (lv _ hq) e, R.ro⟩
  · rw [upd_ne (fun z => by rw [z, R.ow i hp] at q; cases q)]; exact R.fr a u q w
  · obtain ⟨u', e⟩ := R.dm a u q; exact dm_upd a u' e
  · rcases get_set e with ⟨rfl, rfl, z⟩ | ⟨hj, e⟩
    · exact hs
    · exact R.sl_keep P (Nat.le_refl _) (fun _ _ => rfl) e fun m => ⟨rfl, fun u z => oth (.s j) ⟨t, e, m⟩ (by intro q; cases q; exact hj rfl) u z⟩
  · exact R.ob_keep P (Nat.le_refl _) (fun _ _ => rfl) e (fun u z => oth _ (hlive.live (show hlive h (.o n) from (List.getElem?_eq_some_iff.mp e).1)) (by intro q; cases q) u z) fun j hj => ⟨rfl, fun u z => oth _ hj.live (by intro q; cases q) u z⟩

/-- a slot's own list is locked for ever -/
theorem SR.lockS {i : Nat} {xs : List PyData} {vs : List V} {o : Obj} (R : SR F env h A σ H) (hi : env[i]? = some (.l xs)) (hv : H (A (.s i)) = some (.lst vs)) : SR F (env.set i (.d (.list xs))) h A σ (upd H (A (.s i)) (.frz o (.lst vs))) := by
  have hp : live env h (.s i) := ⟨_, hi, rfl⟩
  have P : Pres H (upd H (A (.s i)) (.frz o (.lst vs))) := R.pres_at hp
  have oth : ∀ q, live env h q → q ≠ .s i → ∀ u, H (A q) = some u → (upd H (A (.s i)) (.frz o (.lst vs))) (A q) = some u := fun q hq hn u e => by
    rw [upd_ne (fun z => hn (R.ij _ _ hq hp z))]; exact e
  have lv : ∀ q, live (env.set i (.d (.list xs))) h q → q ≠ .s i ∧ live env h q := fun q hq => by
    rcases live_set hq with ⟨e, m, _⟩ | q
    · cases m
    · exact q
  refine ⟨fun a u q w => ?_, fun a vs q => P.1 _ _ (R.tp a vs q), fun a b u q => P.2 _ _ _ (R.fz a b u q), fun a u q => ?_, R.le, R.oo, R.nw, fun j q => R.ow j (lv (.s j) q).2, by rw [R.ln, List.length_set], fun j t e => ?_, fun n b e => ?_, fun p q hp hq e => R.ij p q (lv _ hp).2 (lv _ hq).2 e, R.ro⟩
  · rw [upd_ne (fun z => by rw [z, R.ow i hp] at q; cases q)]; exact R.fr a u q w
  · obtain ⟨u', e⟩ := R.dm a u q; exact dm_upd a u' e
  · rcases get_set e with ⟨rfl, rfl, z⟩ | ⟨hj, e⟩
    · obtain ⟨e1, vs', e2, r⟩ := R.sl j _ hi
      rw [hv] at e2; cases e2
      refine ⟨_, e1, ?_⟩
      show Rep _ _ (.list xs) _
      simp only [Rep]
      exact ⟨_, vs, rfl, .inr (.inl ⟨o, upd_same⟩), RepAll.mono P.sqT (fun a vs z => .inr (P.sL a vs z)) _ _ r⟩
    · exact R.sl_keep P (Nat.le_refl _) (fun _ _ => rfl) e fun m => ⟨rfl, fun u z => oth (.s j) ⟨t, e, m⟩ (by intro q; cases q; exact hj rfl) u z⟩
  · exact R.ob_keep P (Nat.le_refl _) (fun _ _ => rfl) e (fun u z => oth _ (hlive.live (show hlive h (.o n) from (List.getElem?_eq_some_iff.mp e).1)) (by intro q; cases q) u z) fun j hj => ⟨rfl, fun u z => oth _ hj.live (by intro q; cases q) u z⟩
end
end Sm

set_option Elab.async false
set_option linter.all false
set_option maxRecDepth 100000
set_option maxHeartbeats 1000000
namespace Sm
open PySem L2 Evl

section
variable {F : Fm} {env : En} {h h' : Hs} {A A' : As} {σ : L2.St} {H H' : Hp} {n' : Nat}
theorem SR.w_at (R : SR F env h A σ H) (hw : F.rw = true) {p : Pl} (hp : hlive h p) {o : HO} : ∀ a u, F.H0 a = some u → ¬ F.W a → upd H (A p) o a = some u := fun a u q w => by
  rw [upd_ne (fun z => ?_)]
  · exact R.fr a u q w
  · rcases R.nw hw p hp with z' | z'
    · rw [z] at w; exact w z'
    · rw [z, z'] at q; cases q
theorem SR.dm_at (R : SR F env h A σ H) {p : Addr} {o : HO} : ∀ a u, F.H0 a = some u → ∃ u', upd H p o a = some u' := fun a u q => by
  obtain ⟨u', e⟩ := R.dm a u q
  exact dm_upd a u' e
theorem lookup_none {fs : List (Str × V)} {g : Str} (hg : g ∉ fs.map (·.1)) : fs.lookup g = none := by
  induction fs with
  | nil => rfl
  | cons p r ih =>
    obtain ⟨k, x⟩ := p
    simp only [List.map_cons, List.mem_cons, not_or] at hg
    have hb : (g == k) = false := beq_eq_false_iff_ne.mpr hg.1
    simp only [List.lookup, hb]
    exact ih hg.2
theorem putF_keys {x : Str} {v : V} : ∀ {fs : List (Str × V)} {g : Str}, g ∈ (putF x v fs).map (·.1) → g = x ∨ g ∈ fs.map (·.1)
  | [], g, h => by simp [putF] at h; exact .inl h
  | (k, y) :: r, g, h => by
    rw [show putF x v ((k, y) :: r) = (if k = x then (k, v) :: r else (k, y) :: putF x v r) from rfl] at h
    by_cases hk : k = x
    · rw [if_pos hk] at h; exact .inr (by simpa using h)
    · rw [if_neg hk, List.map_cons] at h
      rcases List.mem_cons.mp h with e | e
      · exact .inr (by simp [e])
      · rcases putF_keys e with e | e
        · exact .inl e
        · exact .inr (by rw [List.map_cons]; exact List.mem_cons_of_mem _ e)
theorem putF_nodup {x : Str} {v : V} : ∀ {fs : List (Str × V)}, (fs.map (·.1)).Nodup → ((putF x v fs).map (·.1)).Nodup
  | [], _ => by simp [putF]
  | (k, y) :: r, hn => by
    rw [show putF x v ((k, y) :: r) = (if k = x then (k, v) :: r else (k, y) :: putF x v r) from rfl]
    rw [List.map_cons, List.nodup_cons] at hn
    by_cases hk : k = x
    · rw [if_pos hk, List.map_cons, List.nodup_cons]; exact hn
    · rw [if_neg hk, List.map_cons, List.nodup_cons]
      refine ⟨fun z => ?_, putF_nodup hn.2⟩
      rcases putF_keys z with e | e
      · exact hk e
      · exact hn.1 e
theorem keys_len {G : Glo} {c : Nat} {fs' : List (Str × V)} (e2 : (fs'.map (·.1)).Nodup) (e3 : ∀ g, g ∈ fs'.map (·.1) → g ∈ G.nm c) : fs'.length < 1000 := by
  have h1 : (fs'.map (·.1)).length ≤ (G.nm c).length := PySem.length_le_of_nodup_of_subset _ _ e2 e3
  have h2 := G.sz c
  rw [List.length_map] at h1
  omega
theorem nm_inj {G : Glo} {c j k : Nat} {x : Str} (e : (G.nm c)[j]? = some x) (e' : (G.nm c)[k]? = some x) : j = k := nodup_ix (G.nd c) e e'

/-- an object without attributes is changed -/
theorem SR.putG {n : Nat} {o o' : Ob} {u' : HO} (R : SR F env h A σ H) (hw : F.rw = true) (hn : h[n]? = some o) (hk : ∀ c fs, o' ≠ .ins c fs) (ho' : ObOf F.G h.length A (upd H (A (.o n)) u') n o') :
    SR F env (h.set n o') A σ (upd H (A (.o n)) u') := by
  have hlt : n < h.length := (List.getElem?_eq_some_iff.mp hn).1
  have hp : hlive h (.o n) := hlt
  have P : Pres H (upd H (A (.o n)) u') := R.pres_at hp.live
  have oth : ∀ q, live env h q → q ≠ .o n → ∀ u, H (A q) = some u → (upd H (A (.o n)) u') (A q) = some u := fun q hq hne u e => by
    rw [upd_ne (fun z => hne (R.ij _ _ hq hp.live z))]; exact e
  have hlv : ∀ q, hlive (h.set n o') q → hlive h q := fun q hq => by
    cases q with
    | s i => exact hq
    | o m => simpa [hlive] using hq
    | f m j =>
      obtain ⟨c, fs, s, e1, e2, m'⟩ := hq
      rcases get_set e1 with ⟨_, e, _⟩ | ⟨_, e⟩
      · exact absurd e.symm (hk c fs)
      · exact ⟨c, fs, s, e, e2, m'⟩
  have lv : ∀ q, live env (h.set n o') q → live env h q := fun q hq => by
    cases q with
    | s i => exact hq
    | o m => exact (hlv (.o m) hq).live
    | f m j => exact (hlv (.f m j) hq).live
  have hL : (h.set n o').length = h.length := List.length_set ..
  refine ⟨R.w_at hw hp, fun a vs q => P.1 _ _ (R.tp a vs q), fun a b u q => P.2 _ _ _ (R.fz a b u q), R.dm_at, fun z => by rw [hL]; exact R.le z, R.oo, fun z q hq => R.nw z q (hlv q hq), R.ow, R.ln, fun i s e => ?_, fun m b e => ?_, fun p q hp hq e => R.ij p q (lv _ hp) (lv _ hq) e, fun z => by rw [hw] at z; cases z⟩
  · rw [hL]
    exact R.sl_keep P (Nat.le_refl _) (fun _ _ => rfl) e fun m => ⟨rfl, fun u z => oth (.s i) ⟨s, e, m⟩ (by intro q; cases q) u z⟩
  · rw [hL]
    rcases get_set e with ⟨rfl, rfl, _⟩ | ⟨hm, e⟩
    · exact ho'
    · exact R.ob_keep P (Nat.le_refl _) (fun _ _ => rfl) e (fun u z => oth (.o m) (List.getElem?_eq_some_iff.mp e).1 (by intro q; cases q; exact hm rfl) u z) fun j hj => ⟨rfl, fun u z => oth _ hj.live (by intro q; cases q) u z⟩
/-- a list object is changed -/
theorem SR.putO {n : Nat} {xs xs' : List PyData} {vs' : List V} (R : SR F env h A σ H) (hw : F.rw = true) (hn : h[n]? = some (.lst xs)) (r : RepAll (SqT F.G.K H) (SL F.G.K H) xs' vs') :
    SR F env (h.set n (.lst xs')) A σ (upd H (A (.o n)) (.lst vs')) := by
  have hp : hlive h (.o n) := (List.getElem?_eq_some_iff.mp hn).1
  have P : Pres H (upd H (A (.o n)) (.lst vs')) := R.pres_at hp.live
  exact R.putG hw hn (fun _ _ z => by cases z) ⟨vs', upd_same, RepAll.mono P.sqT P.sL _ _ r⟩
theorem SR.putV {n : Nat} {o : Ob} {xs' : List Val} {vs' : List V} (R : SR F env h A σ H) (hw : F.rw = true) (hn : h[n]? = some o) (r : Paired (fun x v => RepV F.G (SqT F.G.K H) (SL F.G.K H) h.length A x v) xs' vs') :
    SR F env (h.set n (.vls xs')) A σ (upd H (A (.o n)) (.lst vs')) := by
  have hp : hlive h (.o n) := (List.getElem?_eq_some_iff.mp hn).1
  have P : Pres H (upd H (A (.o n)) (.lst vs')) := R.pres_at hp.live
  exact R.putG hw hn (fun _ _ z => by cases z) ⟨vs', upd_same, vls_mono (fun _ _ y => y.mono P.sqT P.sL (Nat.le_refl _) fun _ _ => rfl) r⟩

/-- which places live behind a change of an attribute -/
theorem hlive_setF {n j : Nat} {c : Nat} {fs : List Sl} {s' : Sl} (hn : h[n]? = some (.ins c fs)) {q : Pl} (hq : hlive (h.set n (.ins c (fs.set j s'))) q) : (q = .f n j ∧ isMut s' = true) ∨ (q ≠ .f n j ∧ hlive h q) := by
  cases q with
  | s i => exact hq.elim
  | o m => exact .inr ⟨fun z => (by cases z), by simpa [hlive] using hq⟩
  | f m k =>
    obtain ⟨c', fs1, s, e1, e2, m'⟩ := hq
    rcases get_set e1 with ⟨rfl, e, _⟩ | ⟨hm, e⟩
    · cases e
      rcases get_set e2 with ⟨rfl, rfl, _⟩ | ⟨hk, e2⟩
      · exact .inl ⟨rfl, m'⟩
      · exact .inr ⟨fun z => hk (by cases z; rfl), c, fs, s, hn, e2, m'⟩
    · exact .inr ⟨fun z => hm (by cases z; rfl), _, fs1, s, e, e2, m'⟩
theorem live_setF {n j : Nat} {c : Nat} {fs : List Sl} {s' : Sl} (hn : h[n]? = some (.ins c fs)) {q : Pl} (hq : live env (h.set n (.ins c (fs.set j s'))) q) : (q = .f n j ∧ isMut s' = true) ∨ (q ≠ .f n j ∧ live env h q) := by
  cases q with
  | s i => exact .inr ⟨fun z => (by cases z), hq⟩
  | o m => rcases hlive_setF hn (q := .o m) hq with z | ⟨z, y⟩; exact .inl z; exact .inr ⟨z, y.live⟩
  | f m k => rcases hlive_setF hn (q := .f m k) hq with z | ⟨z, y⟩; exact .inl z; exact .inr ⟨z, y.live⟩

/-- an attribute is given something: a value, or a list (dict) of its own that is nobody's, at p -/
theorem SR.setF {n j : Nat} {c : Nat} {fs : List Sl} {s' : Sl} {x : Str} {v : V} {dx : Addr} {fs' : List (Str × V)} {p : Addr} (R : SR F env h A σ H) (hw : F.rw = true) (hn : h[n]? = some (.ins c fs)) (hx : (F.G.nm c)[j]? = some x)
    (hH : H (A (.o n)) = some (.ins (F.G.cl c) dx fs')) (f : isMut s' = true → Fresh F env h A p)
    (hs : SlOf F.G (SL F.G.K H) h.length (As.put A (.f n j) p) H p s' (some v)) :
    SR F env (h.set n (.ins c (fs.set j s'))) (As.put A (.f n j) p) σ (upd H (A (.o n)) (.ins (F.G.cl c) dx (putF x v fs'))) := by
  have hlt : n < h.length := (List.getElem?_eq_some_iff.mp hn).1
  have hp : hlive h (.o n) := hlt
  have P : Pres H (upd H (A (.o n)) (.ins (F.G.cl c) dx (putF x v fs'))) := R.pres_at hp.live
  have oth : ∀ q, live env h q → q ≠ .o n → ∀ u, H (A q) = some u → (upd H (A (.o n)) (.ins (F.G.cl c) dx (putF x v fs'))) (A q) = some u := fun q hq hne u e => by
    rw [upd_ne (fun z => hne (R.ij _ _ hq hp.live z))]; exact e
  have hL : (h.set n (.ins c (fs.set j s'))).length = h.length := List.length_set ..
  have ho : ∀ m, m < h.length → As.put A (.f n j) p (.o m) = A (.o m) := fun m _ => As.put_ne (by intro q; cases q)
  refine ⟨R.w_at hw hp, fun a vs q => P.1 _ _ (R.tp a vs q), fun a b u q => P.2 _ _ _ (R.fz a b u q), R.dm_at, fun z => by rw [hL]; exact R.le z, fun z m hm => ?_, fun z q hq => ?_, fun i q => ?_, R.ln, fun i s e => ?_, fun m b e => ?_, fun q r hq hr e => ?_, fun z => by rw [hw] at z; cases z⟩
  · rw [As.put_ne (by intro q; cases q)]; exact R.oo z m hm
  · rcases hlive_setF hn hq with ⟨rfl, m⟩ | ⟨hne, hq⟩
    · rw [As.put_same]; exact .inr (f m).f0
    · rw [As.put_ne hne]; exact R.nw z q hq
  · rw [As.put_ne (by intro q; cases q)]; exact R.ow i q
  · rw [hL]
    exact R.sl_keep P (Nat.le_refl _) ho e fun m => ⟨As.put_ne (by intro q; cases q), fun u z => oth (.s i) ⟨s, e, m⟩ (by intro q; cases q) u z⟩
  · rw [hL]
    rcases get_set e with ⟨rfl, rfl, _⟩ | ⟨hm, e⟩
    · obtain ⟨dx0, fs0, e1, e2, e3, e4, r⟩ := R.ob m _ hn
      rw [hH] at e1; cases e1
      refine ⟨dx, _, by rw [ho m hlt]; exact upd_same, putF_nodup e2, fun g hg => ?_, by rw [List.length_set]; exact e4, fun k s y q q2 => ?_⟩
      · rcases putF_keys hg with e | e
        · rw [e]; exact List.mem_of_getElem? hx
        · exact e3 g e
      · rw [lookup_putF]
        rcases get_set q with ⟨rfl, rfl, _⟩ | ⟨hk, q⟩
        · rw [hx] at q2; cases q2
          rw [if_pos rfl, As.put_same]
          refine hs.mono P (Pres.sL P) (Nat.le_refl _) (fun _ _ => rfl) fun m => ⟨rfl, fun u z => ?_⟩
          rw [upd_ne (fun z' => (f m).fp _ hp.live z'.symm)]; exact z
        · rw [if_neg (fun z : y = x => hk (nm_inj (z ▸ q2) hx))]
          exact (r k s y q q2).mono P (Pres.sL P) (Nat.le_refl _) ho fun m' => ⟨As.put_ne (by intro z; cases z; exact hk rfl), fun u z => oth (.f m k) ⟨c, fs, s, hn, q, m'⟩ (by intro z; cases z) u z⟩
    · exact R.ob_keep P (Nat.le_refl _) ho e (fun u z => oth (.o m) (List.getElem?_eq_some_iff.mp e).1 (by intro q; cases q; exact hm rfl) u z) fun k hk => ⟨As.put_ne (by intro z; cases z; exact hm rfl), fun u z => oth _ hk.live (by intro q; cases q) u z⟩
  · rcases live_setF hn hq with ⟨e1, m⟩ | ⟨e1, hq⟩
    · rcases live_setF hn hr with ⟨e2, _⟩ | ⟨e2, hr⟩
      · exact e1.trans e2.symm
      · rw [e1, As.put_same, As.put_ne e2] at e; exact absurd e.symm ((f m).fp r hr)
    · rcases live_setF hn hr with ⟨e2, m⟩ | ⟨e2, hr⟩
      · rw [e2, As.put_same, As.put_ne e1] at e; exact absurd e ((f m).fp q hq)
      · rw [As.put_ne e1, As.put_ne e2] at e; exact R.ij q r hq hr e

/-- an attribute's own list (dict) is changed in place, or locked -/
theorem SR.putFl {n j : Nat} {c : Nat} {fs : List Sl} {s s' : Sl} {o : HO} (R : SR F env h A σ H) (hw : F.rw = true) (hn : h[n]? = some (.ins c fs)) (hj : fs[j]? = some s) (hm : isMut s = true)
    (hs : ∀ y, SlOf F.G (SL F.G.K H) h.length A H (A (.f n j)) s y → SlOf F.G (SL F.G.K (upd H (A (.f n j)) o)) h.length A (upd H (A (.f n j)) o) (A (.f n j)) s' y) :
    SR F env (h.set n (.ins c (fs.set j s'))) A σ (upd H (A (.f n j)) o) := by
  have hlt : n < h.length := (List.getElem?_eq_some_iff.mp hn).1
  have hp : hlive h (.f n j) := ⟨c, fs, s, hn, hj, hm⟩
  have P : Pres H (upd H (A (.f n j)) o) := R.pres_at hp.live
  have oth : ∀ q, live env h q → q ≠ .f n j → ∀ u, H (A q) = some u → (upd H (A (.f n j)) o) (A q) = some u := fun q hq hne u e => by
    rw [upd_ne (fun z => hne (R.ij _ _ hq hp.live z))]; exact e
  have hL : (h.set n (.ins c (fs.set j s'))).length = h.length := List.length_set ..
  have hlv : ∀ q, hlive (h.set n (.ins c (fs.set j s'))) q → hlive h q := fun q hq => by
    rcases hlive_setF hn hq with ⟨rfl, _⟩ | ⟨_, z⟩
    · exact hp
    · exact z
  have lv : ∀ q, live env (h.set n (.ins c (fs.set j s'))) q → live env h q := fun q hq => by
    rcases live_setF hn hq with ⟨rfl, _⟩ | ⟨_, z⟩
    · exact hp.live
    · exact z
  refine ⟨R.w_at hw hp, fun a vs q => P.1 _ _ (R.tp a vs q), fun a b u q => P.2 _ _ _ (R.fz a b u q), R.dm_at, fun z => by rw [hL]; exact R.le z, R.oo, fun z q hq => R.nw z q (hlv q hq), R.ow, R.ln, fun i s e => ?_, fun m b e => ?_, fun q r hq hr e => R.ij q r (lv _ hq) (lv _ hr) e, fun z => by rw [hw] at z; cases z⟩
  · rw [hL]
    exact R.sl_keep P (Nat.le_refl _) (fun _ _ => rfl) e fun m => ⟨rfl, fun u z => oth (.s i) ⟨s, e, m⟩ (by intro q; cases q) u z⟩
  · rw [hL]
    rcases get_set e with ⟨rfl, rfl, _⟩ | ⟨hne, e⟩
    · obtain ⟨dx, fs', e1, e2, e3, e4, r⟩ := R.ob m _ hn
      refine ⟨dx, fs', oth (.o m) hlt (by intro q; cases q) _ e1, e2, e3, by rw [List.length_set]; exact e4, fun k t y q q2 => ?_⟩
      rcases get_set q with ⟨rfl, rfl, _⟩ | ⟨hk, q⟩
      · exact hs _ (r k s y hj q2)
      · exact (r k t y q q2).mono P (Pres.sL P) (Nat.le_refl _) (fun _ _ => rfl) fun m' => ⟨rfl, fun u z => oth (.f m k) ⟨c, fs, t, hn, q, m'⟩ (by intro z; cases z; exact hk rfl) u z⟩
    · exact R.ob_keep P (Nat.le_refl _) (fun _ _ => rfl) e (fun u z => oth (.o m) (List.getElem?_eq_some_iff.mp e).1 (by intro q; cases q) u z) fun k hk => ⟨rfl, fun u z => oth _ hk.live (by intro q; cases q; exact hne rfl) u z⟩

/-- a new object, at p -/
theorem SR.alloc {o : Ob} {p : Addr} (R : SR F env h A σ H) (f : Fresh F env h A p) (hq : ∀ j, ¬ hlive [o] (.f 0 j)) (ho : ObOf F.G (h.length + 1) (As.put A (.o h.length) p) H h.length o) : SR F env (h ++ [o]) (As.put A (.o h.length) p) σ H := by
  have hL : (h ++ [o]).length = h.length + 1 := by simp
  have hA : ∀ m, m < h.length → As.put A (.o h.length) p (.o m) = A (.o m) := fun m hm => As.put_ne (by intro q; cases q; exact absurd hm (Nat.lt_irrefl _))
  have hlv : ∀ q, hlive (h ++ [o]) q → q = .o h.length ∨ (q ≠ .o h.length ∧ hlive h q) := fun q z => by
    cases q with
    | s i => exact z.elim
    | o m =>
      have z : m < (h ++ [o]).length := z
      rw [hL] at z
      by_cases e : m = h.length
      · exact .inl (by rw [e])
      · exact .inr ⟨fun q => e (by cases q; rfl), (by omega : m < h.length)⟩
    | f m j =>
      obtain ⟨c, fs, s, e1, e2, m'⟩ := z
      refine .inr ⟨fun q => (by cases q), ?_⟩
      by_cases e : m < h.length
      · rw [List.getElem?_append_left e] at e1; exact ⟨c, fs, s, e1, e2, m'⟩
      · rw [List.getElem?_append_right (by omega)] at e1
        have e0 : m - h.length = 0 := by
          have := (List.getElem?_eq_some_iff.mp e1).1
          simp at this; omega
        rw [e0] at e1
        exact absurd (show hlive [o] (.f 0 j) from ⟨c, fs, s, e1, e2, m'⟩) (hq j)
  have lv : ∀ q, live env (h ++ [o]) q → q = .o h.length ∨ (q ≠ .o h.length ∧ live env h q) := fun q z => by
    cases q with
    | s i => exact .inr ⟨fun q => (by cases q), z⟩
    | o m => rcases hlv (.o m) z with z | ⟨z, y⟩; exact .inl z; exact .inr ⟨z, y.live⟩
    | f m j => rcases hlv (.f m j) z with z | ⟨z, y⟩; exact .inl z; exact .inr ⟨z, y.live⟩
  refine ⟨R.fr, R.tp, R.fz, R.dm, fun z => Nat.le_trans (R.le z) (by rw [hL]; omega), fun z m hm => ?_, fun z q hq => ?_, fun i q => ?_, R.ln, fun i s e => ?_, fun m b e => ?_, fun q r hq hr e => ?_, fun z n j hp => by
    rcases hlv (.f n j) hp with y | ⟨y, hp⟩
    · cases y
    · rw [As.put_ne y]; exact R.ro z n j hp⟩
  · rw [hA m (Nat.lt_of_lt_of_le hm (R.le z))]; exact R.oo z m hm
  · rcases hlv q hq with rfl | ⟨hne, hq⟩
    · rw [As.put_same]; exact .inr f.f0
    · rw [As.put_ne hne]; exact R.nw z q hq
  · rw [As.put_ne (by intro q; cases q)]; exact R.ow i q
  · exact R.sl_keep (Pres.refl _) (by rw [hL]; omega) hA e fun m => ⟨As.put_ne (by intro q; cases q), fun _ z => z⟩
  · by_cases hm : m < h.length
    · rw [List.getElem?_append_left hm] at e
      exact R.ob_keep (Pres.refl _) (by rw [hL]; omega) hA e (fun _ z => z) fun j _ => ⟨As.put_ne (by intro q; cases q), fun _ z => z⟩
    · rw [List.getElem?_append_right (by omega)] at e
      have e0 : m - h.length = 0 := by
        have := (List.getElem?_eq_some_iff.mp e).1
        simp at this; omega
      rw [e0] at e
      simp at e
      subst e
      have : m = h.length := by omega
      subst this
      rw [hL]; exact ho
  · rcases lv q hq with e1 | ⟨e1, hq⟩
    · rcases lv r hr with e2 | ⟨e2, hr⟩
      · exact e1.trans e2.symm
      · rw [e1, As.put_same, As.put_ne e2] at e; exact absurd e.symm (f.fp r hr)
    · rcases lv r hr with e2 | ⟨e2, hr⟩
      · rw [e2, As.put_same, As.put_ne e1] at e; exact absurd e (f.fp q hq)
      · rw [As.put_ne e1, As.put_ne e2] at e; exact R.ij q r hq hr e
end
end Sm

set_option Elab.async false
set_option linter.all false
set_option maxRecDepth 100000
set_option maxHeartbeats 1000000
namespace Sm
open PySem L2 Evl

/-! ### readings by total functions -/
inductive Lv where
  | mo | fs | st
def LPof (F : Fm) (H : Hp) : Lv → LP
  | .mo => SqL F.G.K H
  | .fs => FL F H
  | .st => SL F.G.K H
abbrev RV (F : Fm) (ℓ : Lv) (h : Hs) (A : As) (H : Hp) (x : Val) (v : V) : Prop := RepV F.G (SqT F.G.K H) (LPof F H ℓ) h.length A x v
abbrev RD (F : Fm) (ℓ : Lv) (H : Hp) (d : PyData) (v : V) : Prop := Rep (SqT F.G.K H) (LPof F H ℓ) d v
abbrev RDs (F : Fm) (ℓ : Lv) (H : Hp) (ds : List PyData) (vs : List V) : Prop := RepAll (SqT F.G.K H) (LPof F H ℓ) ds vs
section
variable {F : Fm} {env : En} {h h' : Hs} {A A' : As} {σ : L2.St} {H H' : Hp} {ℓ : Lv}
theorem LPof.ex (e : Ex H H') : ∀ {ℓ : Lv} (a : Addr) (vs : List V), LPof F H ℓ a vs → LPof F H' ℓ a vs
  | .mo, a, vs, q => ex_l e q
  | .fs, a, vs, q => Pres.fL (Ex.pres e) a vs q
  | .st, a, vs, q => Pres.sL (Ex.pres e) a vs q
theorem RV.ex (e : Ex H H') {x : Val} {v : V} (q : RV F ℓ h A H x v) : RV F ℓ h A H' x v := q.mono (Ex.pres e).sqT (LPof.ex e) (Nat.le_refl _) fun _ _ => rfl
theorem RD.ex (e : Ex H H') {d : PyData} {v : V} (q : RD F ℓ H d v) : RD F ℓ H' d v := Rep.mono (Ex.pres e).sqT (LPof.ex e) _ _ q
theorem RDs.ex (e : Ex H H') {d : List PyData} {v : List V} (q : RDs F ℓ H d v) : RDs F ℓ H' d v := RepAll.mono (Ex.pres e).sqT (LPof.ex e) _ _ q
theorem LPof.mo (R : SR F env h A σ H) : ∀ {ℓ : Lv} (a : Addr) (vs : List V), LPof F H ℓ a vs → SqL F.G.K H a vs
  | .mo, a, vs, q => q
  | .fs, a, vs, q => R.fl_sq a vs q
  | .st, a, vs, q => SL.sq q
theorem RV.mo (R : SR F env h A σ H) {x : Val} {v : V} (q : RV F ℓ h A H x v) : RV F .mo h A H x v := q.mono (fun _ _ z => z) (LPof.mo R) (Nat.le_refl _) fun _ _ => rfl
theorem RD.mo (R : SR F env h A σ H) {d : PyData} {v : V} (q : RD F ℓ H d v) : RD F .mo H d v := Rep.mono (fun _ _ z => z) (LPof.mo R) _ _ q
theorem RDs.mo (R : SR F env h A σ H) {d : List PyData} {v : List V} (q : RDs F ℓ H d v) : RDs F .mo H d v := RepAll.mono (fun _ _ z => z) (LPof.mo R) _ _ q
theorem LPof.of_st : ∀ {ℓ : Lv} (a : Addr) (vs : List V), SL F.G.K H a vs → LPof F H ℓ a vs
  | .mo, a, vs, q => SL.sq q
  | .fs, a, vs, q => .inr q
  | .st, a, vs, q => q
theorem RV.of_st {x : Val} {v : V} (q : RV F .st h A H x v) : RV F ℓ h A H x v := q.mono (fun _ _ z => z) LPof.of_st (Nat.le_refl _) fun _ _ => rfl
theorem RD.of_st {d : PyData} {v : V} (q : RD F .st H d v) : RD F ℓ H d v := Rep.mono (fun _ _ z => z) LPof.of_st _ _ q
theorem RDs.of_st {d : List PyData} {v : List V} (q : RDs F .st H d v) : RDs F ℓ H d v := RepAll.mono (fun _ _ z => z) LPof.of_st _ _ q
end

abbrev Q1 := En → Hs → Option Val
def tQ (F : Fm) (ℓ : Lv) (q : Q1) : TE := fun σ H Q => ∃ env h A x, SR F env h A σ H ∧ q env h = some x ∧ ∀ v H', Ex H H' → RV F ℓ h A H' x v → Q v H'
def tT (F : Fm) (t : En → Hs → Option Bool) : TT := fun σ H Q => ∃ env h A b, SR F env h A σ H ∧ t env h = some b ∧ ∀ H', Ex H H' → Q b H'
/-- a new list -/
def tF (F : Fm) (q : En → Hs → Option (List PyData)) : TE := fun σ H Q => ∃ env h A xs, SR F env h A σ H ∧ q env h = some xs ∧ ∀ p vs H', H p = none → Ex H H' → H' p = some (.lst vs) → RDs F .st H' xs vs → Q (.ref p) H'
/-- arguments -/
def tA (F : Fm) (ℓ : Lv) (q : En → Hs → Option (List Val)) : TA := fun σ H Q => ∃ env h A xs, SR F env h A σ H ∧ q env h = some xs ∧ ∀ vs H', Ex H H' → Paired (fun x v => RV F ℓ h A H' x v) xs vs → Q vs H'
theorem PEimp {X : Cx} {e : Expr} {t t' : TE} (h : PE X e t) (i : ∀ σ H Q, t' σ H Q → t σ H Q) : PE X e t' := ⟨fun pins s σ H Q I q => h.run pins s σ H Q I (i σ H Q q)⟩
theorem PTimp {X : Cx} {e : Expr} {t t' : TT} (h : PT X e t) (i : ∀ σ H Q, t' σ H Q → t σ H Q) : PT X e t' := ⟨fun pins s σ H Q I q => h.run pins s σ H Q I (i σ H Q q)⟩
theorem PWimp {X : Cx} {e : Expr} {t t' : TT} (h : PW X e t) (i : ∀ σ H Q, t' σ H Q → t σ H Q) : PW X e t' := ⟨fun wh pins s σ H Q I q => h.run wh pins s σ H Q I (i σ H Q q)⟩
theorem PAimp {X : Cx} {e : List Expr} {t t' : TA} (h : PA X e t) (i : ∀ σ H Q, t' σ H Q → t σ H Q) : PA X e t' := ⟨fun pos pins s σ H Q I q => h.run pos pins s σ H Q I (i σ H Q q)⟩

/-! ### the functions -/
def qV (i : Nat) : Q1 := fun env _ => match env[i]? with
  | some (.v x) => some x
  | some (.l xs) => some (.d (.list xs))
  | _ => none
def qVs (i : Nat) : Q1 := fun env _ => match env[i]? with
  | some (.v x) => some x
  | _ => none
def qC (x : Val) : Q1 := fun _ _ => some x
def q1 (g : Hs → Val → Option Val) (a : Q1) : Q1 := fun env h => (a env h).bind fun x => g h x
def q2 (g : Hs → Val → Val → Option Val) (a b : Q1) : Q1 := fun env h => (a env h).bind fun x => (b env h).bind fun y => g h x y
def qNl (a : Q1) : Q1 := fun env h => (a env h).bind fun x => match x with
  | .d d => if nl d = true then some (.d d) else none
  | x => some x
def qIf (t : En → Hs → Option Bool) (a b : Q1) : Q1 := fun env h => (t env h).bind fun c => if c = true then a env h else b env h
def aNil : En → Hs → Option (List Val) := fun _ _ => some []
def aCons (a : Q1) (r : En → Hs → Option (List Val)) : En → Hs → Option (List Val) := fun env h => (a env h).bind fun x => (r env h).bind fun xs => some (x :: xs)
def dOf : Val → Option PyData
  | .d d => some d
  | _ => none
def dsOf : List Val → Option (List PyData)
  | [] => some []
  | x :: xs => (dOf x).bind fun d => (dsOf xs).bind fun ds => some (d :: ds)
def qTup (a : En → Hs → Option (List Val)) : Q1 := fun env h => (a env h).bind fun xs => (dsOf xs).bind fun ds => if ds.length ≤ sizeLine then some (.d (.tuple ds)) else none
def fLst (a : En → Hs → Option (List Val)) : En → Hs → Option (List PyData) := fun env h => (a env h).bind fun xs => (dsOf xs).bind fun ds => if ds.length ≤ sizeLine then some ds else none
def qF (f : En → Hs → Option (List PyData)) : Q1 := fun env h => (f env h).bind fun xs => some (.d (.list xs))

section
variable {F : Fm} {X : Cx} {a b c e : Expr} {es : List Expr} {pos : Pos} {ℓ : Lv} {qa qb qc : Q1}
abbrev SimQ (X : Cx) (F : Fm) (ℓ : Lv) (e : Expr) (q : Q1) : Prop := PE X e (tQ F ℓ q)
abbrev SimT (X : Cx) (F : Fm) (e : Expr) (t : En → Hs → Option Bool) : Prop := PT X e (tT F t)
abbrev SimF (X : Cx) (F : Fm) (e : Expr) (q : En → Hs → Option (List PyData)) : Prop := PE X e (tF F q)
abbrev SimA (X : Cx) (F : Fm) (ℓ : Lv) (es : List Expr) (q : En → Hs → Option (List Val)) : Prop := PA X es (tA F ℓ q)

theorem bind_some {α β : Type} {o : Option α} {f : α → Option β} {y : β} (h : o.bind f = some y) : ∃ x, o = some x ∧ f x = some y := Option.bind_eq_some_iff.mp h

/-- a name, for a moment -/
theorem sq_v (i : Nat) {x : Str} {pos : Pos} (hN : X.N[i]? = some x := by rfl) (hv : Vis X.env.scope x := by first | exact Or.inl rfl | exact Or.inr (Or.inl rfl) | exact Or.inr (Or.inr rfl)) (hd : (x == ("__debug__" : Str)) = false := by decide)
    (hcd : (x == ("__classdict__" : Str)) = false := by decide) : SimQ X F .mo (.Name x pos) (qV i) := by
  refine PEimp (pe_var hN hv hd hcd) fun σ H Q ⟨env, h, A, x, R, e, k⟩ => ?_
  unfold qV at e
  split at e
  · next y hy =>
    cases e
    obtain ⟨v, e1, r⟩ := R.sl i _ hy
    refine ⟨v, ?_, k v H (Ex.refl H) (RV.mo (ℓ := .fs) R r)⟩
    cases hs : σ[i]? with
    | none => rw [hs] at e1; cases e1
    | some o => rw [hs] at e1; exact congrArg some e1
  · next xs hy =>
    cases e
    obtain ⟨e1, vs, e2, r⟩ := R.sl i _ hy
    refine ⟨.ref (A (.s i)), ?_, k _ H (Ex.refl H) ?_⟩
    · cases hs : σ[i]? with
      | none => rw [hs] at e1; cases e1
      | some o => rw [hs] at e1; exact congrArg some e1
    · show Rep _ _ (.list xs) _
      simp only [Rep]
      exact ⟨_, vs, rfl, .inl (.inl e2), RepAll.mono (fun _ _ z => z) (fun _ _ z => SL.sq z) _ _ r⟩
  · cases e
/-- a name that holds a value -/
theorem sq_vs (i : Nat) {x : Str} {pos : Pos} (hN : X.N[i]? = some x := by rfl) (hv : Vis X.env.scope x := by first | exact Or.inl rfl | exact Or.inr (Or.inl rfl) | exact Or.inr (Or.inr rfl)) (hd : (x == ("__debug__" : Str)) = false := by decide)
    (hcd : (x == ("__classdict__" : Str)) = false := by decide) : SimQ X F .fs (.Name x pos) (qVs i) := by
  refine PEimp (pe_var hN hv hd hcd) fun σ H Q ⟨env, h, A, x, R, e, k⟩ => ?_
  unfold qVs at e
  split at e
  · next y hy =>
    cases e
    obtain ⟨v, e1, r⟩ := R.sl i _ hy
    refine ⟨v, ?_, k v H (Ex.refl H) r⟩
    cases hs : σ[i]? with
    | none => rw [hs] at e1; cases e1
    | some o => rw [hs] at e1; exact congrArg some e1
  · cases e
theorem sq_c {x : Val} {v : V} (h : PE X e (tC v)) (r : ∀ n A T L, RepV F.G T L n A x v) : SimQ X F ℓ e (qC x) := PEimp h fun σ H Q ⟨env, hs, A, y, R, e, k⟩ => by
  cases e
  exact k v H (Ex.refl H) (r _ _ _ _)
theorem sq_int {i : Int} {j : Nat} : SimQ X F ℓ (.Constant (.int i) j pos) (qC (.d (.int i))) := sq_c pe_int fun _ _ _ _ => by simp [RepV, Rep]
theorem sq_bl {i : Bool} {j : Nat} : SimQ X F ℓ (.Constant (.bool i) j pos) (qC (.d (.bool i))) := sq_c pe_bl fun _ _ _ _ => by simp [RepV, Rep]
theorem sq_non {j : Nat} : SimQ X F ℓ (.Constant .none j pos) (qC (.d .none)) := sq_c pe_non fun _ _ _ _ => by simp [RepV, Rep]
theorem sq_str {i : Str} {j : Nat} : SimQ X F ℓ (.Constant (.str i) j pos) (qC (.d (.str i))) := sq_c pe_str fun _ _ _ _ => by simp [RepV, Rep]

/-- operations on values -/
def Op1 (F : Fm) (ℓ₁ ℓ : Lv) (r : V → Hp → VK → Prop) (g : Hs → Val → Option Val) : Prop :=
  ∀ env h A σ H x v z, SR F env h A σ H → RV F ℓ₁ h A H x v → g h x = some z → ∀ Q : VK, (∀ v' H', Ex H H' → RV F ℓ h A H' z v' → Q v' H') → r v H Q
def Op2 (F : Fm) (ℓ₁ ℓ₂ ℓ : Lv) (r : R2) (g : Hs → Val → Val → Option Val) : Prop :=
  ∀ env h A σ H x y v u z, SR F env h A σ H → RV F ℓ₁ h A H x v → RV F ℓ₂ h A H y u → g h x y = some z → ∀ Q : VK, (∀ v' H', Ex H H' → RV F ℓ h A H' z v' → Q v' H') → r v u H Q
/-- an operation of the machine and its function -/
def BinS (X : Cx) (F : Fm) (ℓ₁ ℓ₂ ℓ : Lv) (f : Value → Value → Sem Value) (g : Hs → Val → Val → Option Val) : Prop := ∃ r, OpR X f r ∧ Op2 F ℓ₁ ℓ₂ ℓ r g
theorem tOp_q {ℓ₁ ℓ₂ : Lv} {r : R2} {g : Hs → Val → Val → Option Val} (o : Op2 F ℓ₁ ℓ₂ ℓ r g) {σ : L2.St} {H : Hp} {Q : VK} (hq : tQ F ℓ (q2 g qa qb) σ H Q) : tOp r (tQ F ℓ₁ qa) (tQ F ℓ₂ qb) σ H Q := by
  obtain ⟨env, h, A, z, R, e, k⟩ := hq
  obtain ⟨x, ex, e⟩ := bind_some e
  obtain ⟨y, ey, e⟩ := bind_some e
  refine ⟨env, h, A, x, R, ex, fun v H1 e1 rv => ?_⟩
  refine ⟨env, h, A, y, R.ex e1, ey, fun u H2 e2 ru => ?_⟩
  exact o env h A σ H2 x y v u z ((R.ex e1).ex e2) (rv.ex e2) ru e Q fun v' H' e3 rz => k v' H' ((e1.trans e2).trans e3) rz
theorem tUn_q {ℓ₁ : Lv} {r : V → Hp → VK → Prop} {g : Hs → Val → Option Val} (o : Op1 F ℓ₁ ℓ r g) {σ : L2.St} {H : Hp} {Q : VK} (hq : tQ F ℓ (q1 g qa) σ H Q) : tUn r (tQ F ℓ₁ qa) σ H Q := by
  obtain ⟨env, h, A, z, R, e, k⟩ := hq
  obtain ⟨x, ex, e⟩ := bind_some e
  refine ⟨env, h, A, x, R, ex, fun v H1 e1 rv => ?_⟩
  exact o env h A σ H1 x v z (R.ex e1) rv e Q fun v' H' e3 rz => k v' H' (e1.trans e3) rz
theorem sq_bin {ℓ₁ ℓ₂ : Lv} {op : Operator} {g : Hs → Val → Val → Option Val} (o : BinS X F ℓ₁ ℓ₂ ℓ (binaryOp op) g) (ha : SimQ X F ℓ₁ a qa) (hb : SimQ X F ℓ₂ b qb) : SimQ X F ℓ (.BinOp a op b pos) (q2 g qa qb) := by
  obtain ⟨r, h1, h2⟩ := o
  exact PEimp (pe_op h1 ha hb) fun _ _ _ => tOp_q h2
theorem sq_cmp {ℓ₁ ℓ₂ : Lv} {op : CmpOp} {g : Hs → Val → Val → Option Val} (o : BinS X F ℓ₁ ℓ₂ ℓ (compareOp op) g) (ha : SimQ X F ℓ₁ a qa) (hb : SimQ X F ℓ₂ b qb) (hm : behindInMarks op b = false) : SimQ X F ℓ (.Compare a [op] [b] pos) (q2 g qa qb) := by
  obtain ⟨r, h1, h2⟩ := o
  exact PEimp (pe_cmpR h1 ha hb hm) fun _ _ _ => tOp_q h2
theorem sq_un {ℓ₁ : Lv} {op : UnaryOp} {r : V → Hp → VK → Prop} {g : Hs → Val → Option Val} (h1 : UnR X (unaryOp op) r) (h2 : Op1 F ℓ₁ ℓ r g) (ha : SimQ X F ℓ₁ a qa) : SimQ X F ℓ (.UnaryOp op a pos) (q1 g qa) := PEimp (pe_un h1 ha) fun _ _ _ => tUn_q h2
theorem sq_ix {ℓ₁ ℓ₂ : Lv} {r : R2} {g : Hs → Val → Val → Option Val} (h1 : IxR X r) (h2 : Op2 F ℓ₁ ℓ₂ ℓ r g) (ha : SimQ X F ℓ₁ a qa) (hb : SimQ X F ℓ₂ b qb) (hs : PlainIx b) : SimQ X F ℓ (.Subscript a b pos) (q2 g qa qb) :=
  PEimp (pe_ix h1 ha hb hs) fun _ _ _ => tOp_q h2
/-- no list within: for ever -/
theorem sq_nl {ℓ₁ : Lv} (ha : SimQ X F ℓ₁ a qa) : SimQ X F ℓ a (qNl qa) := PEimp ha fun σ H Q ⟨env, h, A, z, R, e, k⟩ => by
  obtain ⟨x, ex, e⟩ := bind_some e
  refine ⟨env, h, A, x, R, ex, fun v H1 e1 rv => ?_⟩
  cases x with
  | d d =>
    simp only at e
    split at e
    · next hn => cases e; exact k v H1 e1 (Rep.nl d v hn rv)
    · cases e
  | ref n => cases e; exact k v H1 e1 rv
  | fn n => cases e; exact k v H1 e1 rv
theorem sq_mo {ℓ₁ : Lv} (ha : SimQ X F ℓ₁ a qa) : SimQ X F .mo a qa := PEimp ha fun σ H Q ⟨env, h, A, z, R, e, k⟩ =>
  ⟨env, h, A, z, R, e, fun v H1 e1 rv => k v H1 e1 (RV.mo (R.ex e1) rv)⟩
theorem sq_st (ha : SimQ X F .st a qa) : SimQ X F ℓ a qa := PEimp ha fun σ H Q ⟨env, h, A, z, R, e, k⟩ =>
  ⟨env, h, A, z, R, e, fun v H1 e1 rv => k v H1 e1 rv.of_st⟩
theorem sq_if {t : En → Hs → Option Bool} (hc : SimT X F c t) (ha : SimQ X F ℓ a qa) (hb : SimQ X F ℓ b qb) : SimQ X F ℓ (.IfExp c a b pos) (qIf t qa qb) := PEimp (pe_ifExp hc ha hb) fun σ H Q ⟨env, h, A, z, R, e, k⟩ => by
  obtain ⟨d, ed, e⟩ := bind_some e
  refine ⟨env, h, A, d, R, ed, fun H1 e1 => ?_⟩
  cases d with
  | true => exact ⟨env, h, A, z, R.ex e1, e, fun v H2 e2 rv => k v H2 (e1.trans e2) rv⟩
  | false => exact ⟨env, h, A, z, R.ex e1, e, fun v H2 e2 rv => k v H2 (e1.trans e2) rv⟩

/-! ### arguments, displays -/
theorem sa_nil : SimA X F ℓ [] aNil := PAimp pa_nil fun σ H Q ⟨env, h, A, xs, R, e, k⟩ => by
  cases e
  exact k [] H (Ex.refl H) .nil
theorem Paired.imp {α β : Type} {f g : α → β → Prop} (i : ∀ x y, f x y → g x y) : ∀ {l : List α} {m : List β}, Paired f l m → Paired g l m
  | _, _, .nil => .nil
  | _, _, .cons r t => .cons (i _ _ r) (Paired.imp i t)
theorem sa_cons {r : En → Hs → Option (List Val)} (ha : SimQ X F ℓ e qa) (hr : SimA X F ℓ es r) (hs : starEach (e :: es) X.env = (false, eval e X.env) :: starEach es X.env := by rfl) : SimA X F ℓ (e :: es) (aCons qa r) :=
  PAimp (pa_cons ha hr hs) fun σ H Q ⟨env, h, A, xs, R, e, k⟩ => by
    obtain ⟨x, ex, e⟩ := bind_some e
    obtain ⟨ys, ey, e⟩ := bind_some e
    cases e
    exact ⟨env, h, A, x, R, ex, fun v H1 e1 rv => ⟨env, h, A, ys, R.ex e1, ey, fun vs H2 e2 rs => k _ H2 (e1.trans e2) (.cons (rv.ex e2) rs)⟩⟩
theorem ds_rep {h : Hs} {A : As} {H : Hp} : ∀ {xs : List Val} {ds : List PyData} {vs : List V}, dsOf xs = some ds → Paired (fun x v => RV F ℓ h A H x v) xs vs → RDs F ℓ H ds vs
  | [], _, _, e, r => by
    cases e
    cases r
    exact .nil
  | x :: xs, _, _, e, r => by
    obtain ⟨d, ed, e⟩ := bind_some e
    obtain ⟨ds, es, e⟩ := bind_some e
    cases e
    cases r with
    | cons r1 r2 =>
      cases x with
      | d y => cases ed; exact .cons r1 (ds_rep es r2)
      | ref n => cases ed
      | fn n => cases ed
theorem sq_tup {k : Nat} {r : En → Hs → Option (List Val)} (hr : SimA X F ℓ es r) : SimQ X F ℓ (.Tuple es k pos) (qTup r) := PEimp (pe_tup hr) fun σ H Q ⟨env, h, A, z, R, e, k⟩ => by
  obtain ⟨xs, ex, e⟩ := bind_some e
  obtain ⟨ds, ed, e⟩ := bind_some e
  split at e
  · next hl =>
    cases e
    refine ⟨env, h, A, xs, R, ex, fun vs H1 e1 rs => ?_⟩
    have rd := ds_rep ed rs
    refine ⟨by rw [rd.len]; exact hl, fun p hp => k _ _ (e1.trans (Ex.new hp)) ?_⟩
    show Rep _ _ (.tuple ds) _
    simp only [Rep]
    exact ⟨p, vs, rfl, .inl (.inl upd_same), RDs.ex (Ex.new hp) rd⟩
  · cases e
theorem sf_lst {r : En → Hs → Option (List Val)} (hr : SimA X F .st es r) : SimF X F (.List es pos) (fLst r) := PEimp (pe_lst hr) fun σ H Q ⟨env, h, A, z, R, e, k⟩ => by
  obtain ⟨xs, ex, e⟩ := bind_some e
  obtain ⟨ds, ed, e⟩ := bind_some e
  split at e
  · next hl =>
    cases e
    refine ⟨env, h, A, xs, R, ex, fun vs H1 e1 rs => ?_⟩
    have rd := ds_rep ed rs
    refine ⟨by rw [rd.len]; exact hl, fun p hp => k p vs _ ?_ (e1.trans (Ex.new hp)) upd_same (RDs.ex (Ex.new hp) rd)⟩
    exact fresh_back e1 hp
  · cases e
/-- a new list, for a moment -/
theorem sq_f {f : En → Hs → Option (List PyData)} (hf : SimF X F e f) : SimQ X F .mo e (qF f) := PEimp hf fun σ H Q ⟨env, h, A, z, R, e, k⟩ => by
  obtain ⟨xs, ex, e⟩ := bind_some e
  cases e
  refine ⟨env, h, A, xs, R, ex, fun p vs H1 hp e1 hv rs => k _ H1 e1 ?_⟩
  show Rep _ _ (.list xs) _
  simp only [Rep]
  exact ⟨p, vs, rfl, .inl (.inl hv), RDs.of_st (ℓ := .mo) rs⟩
end
end Sm

set_option Elab.async false
set_option linter.all false
set_option maxRecDepth 100000
set_option maxHeartbeats 1000000
namespace Sm
open PySem L2 Evl

/-! ### tests -/
def gTru : PyData → Option Bool
  | .none => some false
  | .bool b => some b
  | .int i => some (i != 0)
  | .str s => if s.length ≤ sizeLine then some ((s.length : Int) != 0) else none
  | .list xs => some (!xs.isEmpty)
  | .tuple xs => some (!xs.isEmpty)
  | .dict _ => none
abbrev T1 := En → Hs → Option Bool
def tV (q : Q1) : T1 := fun env h => (q env h).bind fun x => match x with
  | .d d => gTru d
  | _ => none
def tAndF (a b : T1) : T1 := fun env h => (a env h).bind fun c => if c = true then b env h else some false
def tOrF (a b : T1) : T1 := fun env h => (a env h).bind fun c => if c = true then some true else b env h
def tNotF (a : T1) : T1 := fun env h => (a env h).bind fun c => some (!c)
def qT (t : T1) : Q1 := fun env h => (t env h).bind fun b => some (.d (.bool b))
def qAnd (a b : Q1) : Q1 := fun env h => (a env h).bind fun x => match x with
  | .d (.bool c) => if c = true then b env h else some (.d (.bool false))
  | _ => none
def qOr (a b : Q1) : Q1 := fun env h => (a env h).bind fun x => match x with
  | .d (.bool c) => if c = true then some (.d (.bool true)) else b env h
  | _ => none
def qNot (a : Q1) : Q1 := fun env h => (a env h).bind fun x => match x with
  | .d d => (gTru d).bind fun c => some (.d (.bool (!c)))
  | _ => none
section
variable {F : Fm} {X : Cx} {a b c e : Expr} {es rest : List Expr} {pos : Pos} {ℓ : Lv} {qa qb qc : Q1} {ta tb : T1} {env : En} {h : Hs} {A : As} {σ : L2.St} {H : Hp}
theorem rep_int {T L : LP} {i : Int} {v : V} (r : Rep T L (.int i) v) : v = .int i := by simpa [Rep] using r
theorem rep_str {T L : LP} {i : Str} {v : V} (r : Rep T L (.str i) v) : v = .str i := by simpa [Rep] using r
theorem rep_bool {T L : LP} {i : Bool} {v : V} (r : Rep T L (.bool i) v) : v = .bl i := by simpa [Rep] using r
theorem rep_tup {T L : LP} {ds : List PyData} {v : V} (r : Rep T L (.tuple ds) v) : ∃ a vs, v = .ref a ∧ T a vs ∧ RepAll T L ds vs := by simpa [Rep] using r
theorem rep_list {T L : LP} {ds : List PyData} {v : V} (r : Rep T L (.list ds) v) : ∃ a vs, v = .ref a ∧ L a vs ∧ RepAll T L ds vs := by simpa [Rep] using r
theorem rep_tup_mk {T L : LP} {ds : List PyData} {a : Addr} {vs : List V} (t : T a vs) (r : RepAll T L ds vs) : Rep T L (.tuple ds) (.ref a) := by
  simp only [Rep]; exact ⟨a, vs, rfl, t, r⟩
theorem rep_list_mk {T L : LP} {ds : List PyData} {a : Addr} {vs : List V} (t : L a vs) (r : RepAll T L ds vs) : Rep T L (.list ds) (.ref a) := by
  simp only [Rep]; exact ⟨a, vs, rfl, t, r⟩
theorem mk_int {T L : LP} {i : Int} : Rep T L (.int i) (.int i) := by simp [Rep]
theorem mk_bool {T L : LP} {i : Bool} : Rep T L (.bool i) (.bl i) := by simp [Rep]
theorem mk_str {T L : LP} {i : Str} : Rep T L (.str i) (.str i) := by simp [Rep]
theorem mk_none {T L : LP} : Rep T L .none .non := by simp [Rep]

theorem vi {i : Int} : RV F ℓ h A H (.d (.int i)) (.int i) := mk_int (T := SqT F.G.K H) (L := LPof F H ℓ)
theorem vb {i : Bool} : RV F ℓ h A H (.d (.bool i)) (.bl i) := mk_bool (T := SqT F.G.K H) (L := LPof F H ℓ)
theorem vs {i : Str} : RV F ℓ h A H (.d (.str i)) (.str i) := mk_str (T := SqT F.G.K H) (L := LPof F H ℓ)
theorem vn : RV F ℓ h A H (.d .none) .non := mk_none (T := SqT F.G.K H) (L := LPof F H ℓ)
theorem vt {ds : List PyData} {a : Addr} {us : List V} (t : SqT F.G.K H a us) (r : RDs F ℓ H ds us) : RV F ℓ h A H (.d (.tuple ds)) (.ref a) := rep_tup_mk (T := SqT F.G.K H) (L := LPof F H ℓ) t r
theorem vl {ds : List PyData} {a : Addr} {us : List V} (t : LPof F H ℓ a us) (r : RDs F ℓ H ds us) : RV F ℓ h A H (.d (.list ds)) (.ref a) := rep_list_mk (T := SqT F.G.K H) (L := LPof F H ℓ) t r
theorem ri {i : Int} {v : V} (r : RV F ℓ h A H (.d (.int i)) v) : v = .int i := rep_int (T := SqT F.G.K H) (L := LPof F H ℓ) r
theorem rn {v : V} (r : RV F ℓ h A H (.d .none) v) : v = .non := by
  have r' : Rep (SqT F.G.K H) (LPof F H ℓ) .none v := r
  simpa [Rep] using r'
theorem rs {i : Str} {v : V} (r : RV F ℓ h A H (.d (.str i)) v) : v = .str i := rep_str (T := SqT F.G.K H) (L := LPof F H ℓ) r
theorem rb {i : Bool} {v : V} (r : RV F ℓ h A H (.d (.bool i)) v) : v = .bl i := rep_bool (T := SqT F.G.K H) (L := LPof F H ℓ) r
theorem rt {ds : List PyData} {v : V} (r : RV F ℓ h A H (.d (.tuple ds)) v) : ∃ a us, v = .ref a ∧ SqT F.G.K H a us ∧ RDs F ℓ H ds us := rep_tup (T := SqT F.G.K H) (L := LPof F H ℓ) r
theorem rl {ds : List PyData} {v : V} (r : RV F ℓ h A H (.d (.list ds)) v) : ∃ a us, v = .ref a ∧ LPof F H ℓ a us ∧ RDs F ℓ H ds us := rep_list (T := SqT F.G.K H) (L := LPof F H ℓ) r
theorem isEmpty_len {α β : Type} {xs : List α} {ys : List β} (h : xs.length = ys.length) : xs.isEmpty = ys.isEmpty := by
  cases xs <;> cases ys <;> simp_all
theorem truV_of {d : PyData} {v : V} {k : Bool} (r : RD F .mo H d v) (e : gTru d = some k) : TruV F.G.K v H k := by
  cases d with
  | none => simp only [Rep] at r; subst r; cases e; rfl
  | bool b => simp only [Rep] at r; subst r; cases e; rfl
  | int i => simp only [Rep] at r; subst r; cases e; rfl
  | str s =>
    simp only [Rep] at r; subst r
    simp only [gTru] at e
    split at e
    · next hs => cases e; exact ⟨hs, rfl⟩
    · cases e
  | list xs =>
    simp only [Rep] at r
    obtain ⟨a, vs, rfl, q, rs⟩ := r
    cases e
    exact .inl ⟨vs, q, by rw [isEmpty_len rs.len]⟩
  | tuple xs =>
    simp only [Rep] at r
    obtain ⟨a, vs, rfl, q, rs⟩ := r
    cases e
    exact .inr (.inl ⟨vs, q, by rw [isEmpty_len rs.len]⟩)
  | dict _ => cases e
theorem RV.data {d : PyData} {v : V} (r : RV F ℓ h A H (.d d) v) : RD F ℓ H d v := r
theorem st_v (hK : X.K = F.G.K) (ha : SimQ X F .mo a qa) (he : ∀ whole, isTrue a X.env whole = (do let v ← whole; standAt a.pos; holding [v] (truthy v)) := by intro _; rfl) : SimT X F a (tV qa) := PTimp (pt_truth ha he) fun σ H Q ⟨env, h, A, k, R, e, q⟩ => by
  obtain ⟨x, ex, e⟩ := bind_some e
  refine ⟨env, h, A, x, R, ex, fun v H1 e1 rv => ⟨k, ?_, q H1 e1⟩⟩
  cases x with
  | d d => rw [hK]; exact truV_of rv e
  | ref n => cases e
  | fn n => cases e
theorem st_cmp {ℓ₁ ℓ₂ : Lv} {op : CmpOp} {g : Hs → Val → Val → Option Val} (o : BinS X F ℓ₁ ℓ₂ .st (compareOp op) g) (ha : SimQ X F ℓ₁ a qa) (hb : SimQ X F ℓ₂ b qb) (hm : behindInMarks op b = false) (hg : ∀ h x y z, g h x y = some z → ∃ k, z = .d (.bool k)) :
    SimT X F (.Compare a [op] [b] pos) (tV (q2 g qa qb)) := by
  obtain ⟨r, h1, h2⟩ := o
  refine PTimp (pt_cmpR h1 ha hb hm) fun σ H Q ⟨env, h, A, k, R, e, q⟩ => ?_
  obtain ⟨x, ex, e⟩ := bind_some e
  refine tOp_q h2 ⟨env, h, A, x, R, ex, fun v H1 e1 rv => ?_⟩
  obtain ⟨_, _, ex⟩ := bind_some ex
  obtain ⟨_, _, ex⟩ := bind_some ex
  obtain ⟨c, rfl⟩ := hg _ _ _ _ ex
  cases e
  have rv := rb rv
  exact ⟨k, rv, q H1 e1⟩
theorem sw_and1 (ha : SimT X F a ta) : PW X (.BoolOp .And [a] pos) (tT F ta) := pw_and1 ha
theorem sw_or1 (ha : SimT X F a ta) : PW X (.BoolOp .Or [a] pos) (tT F ta) := pw_or1 ha
theorem sw_and (ha : SimT X F a ta) (hb : PW X (.BoolOp .And (b :: rest) pos) (tT F tb)) : PW X (.BoolOp .And (a :: b :: rest) pos) (tT F (tAndF ta tb)) := PWimp (pw_and ha hb) fun σ H Q ⟨env, h, A, k, R, e, q⟩ => by
  obtain ⟨c, ec, e⟩ := bind_some e
  refine ⟨env, h, A, c, R, ec, fun H1 e1 => ?_⟩
  cases c with
  | true => exact ⟨env, h, A, k, R.ex e1, e, fun H2 e2 => q H2 (e1.trans e2)⟩
  | false => cases e; exact q H1 e1
theorem sw_or (ha : SimT X F a ta) (hb : PW X (.BoolOp .Or (b :: rest) pos) (tT F tb)) : PW X (.BoolOp .Or (a :: b :: rest) pos) (tT F (tOrF ta tb)) := PWimp (pw_or ha hb) fun σ H Q ⟨env, h, A, k, R, e, q⟩ => by
  obtain ⟨c, ec, e⟩ := bind_some e
  refine ⟨env, h, A, c, R, ec, fun H1 e1 => ?_⟩
  cases c with
  | false => exact ⟨env, h, A, k, R.ex e1, e, fun H2 e2 => q H2 (e1.trans e2)⟩
  | true => cases e; exact q H1 e1
theorem st_not (ha : SimT X F a ta) : SimT X F (.UnaryOp .Not a pos) (tNotF ta) := PTimp (pt_not ha) fun σ H Q ⟨env, h, A, k, R, e, q⟩ => by
  obtain ⟨c, ec, e⟩ := bind_some e
  cases e
  exact ⟨env, h, A, c, R, ec, fun H1 e1 => q H1 e1⟩
theorem sq_one {op : BoolOp} (ha : SimQ X F ℓ a qa) : SimQ X F ℓ (.BoolOp op [a] pos) qa := pe_one ha
theorem sq_and (ha : SimQ X F ℓ a qa) (hb : SimQ X F ℓ (.BoolOp .And (b :: rest) pos) qb) : SimQ X F ℓ (.BoolOp .And (a :: b :: rest) pos) (qAnd qa qb) := PEimp (pe_and ha hb) fun σ H Q ⟨env, h, A, z, R, e, k⟩ => by
  obtain ⟨x, ex, e⟩ := bind_some e
  refine ⟨env, h, A, x, R, ex, fun v H1 e1 rv => ?_⟩
  split at e
  · next c =>
    have rv := rb rv
    refine ⟨c, rv, ?_⟩
    cases c with
    | true => exact ⟨env, h, A, z, R.ex e1, e, fun v H2 e2 rv => k v H2 (e1.trans e2) rv⟩
    | false => cases e; exact k _ H1 e1 vb
  · cases e
theorem sq_or (ha : SimQ X F ℓ a qa) (hb : SimQ X F ℓ (.BoolOp .Or (b :: rest) pos) qb) : SimQ X F ℓ (.BoolOp .Or (a :: b :: rest) pos) (qOr qa qb) := PEimp (pe_or ha hb) fun σ H Q ⟨env, h, A, z, R, e, k⟩ => by
  obtain ⟨x, ex, e⟩ := bind_some e
  refine ⟨env, h, A, x, R, ex, fun v H1 e1 rv => ?_⟩
  split at e
  · next c =>
    have rv := rb rv
    refine ⟨c, rv, ?_⟩
    cases c with
    | false => exact ⟨env, h, A, z, R.ex e1, e, fun v H2 e2 rv => k v H2 (e1.trans e2) rv⟩
    | true => cases e; exact k _ H1 e1 vb
  · cases e
theorem sq_not (hK : X.K = F.G.K) (ha : SimQ X F .mo a qa) : SimQ X F ℓ (.UnaryOp .Not a pos) (qNot qa) := PEimp (pe_notT ha) fun σ H Q ⟨env, h, A, z, R, e, k⟩ => by
  obtain ⟨x, ex, e⟩ := bind_some e
  refine ⟨env, h, A, x, R, ex, fun v H1 e1 rv => ?_⟩
  split at e
  · next d =>
    obtain ⟨c, ec, e⟩ := bind_some e
    cases e
    exact ⟨c, by rw [hK]; exact truV_of rv ec, k _ H1 e1 vb⟩
  · cases e

/-- two ints in, an int out -/
def gI (C : Int → Int → Bool) (g : Int → Int → Int) : Hs → Val → Val → Option Val := fun _ x y => match x, y with
  | .d (.int i), .d (.int j) => if C i j = true then some (.d (.int (g i j))) else none
  | _, _ => none
theorem op2_I {ℓ₁ ℓ₂ : Lv} {C : Int → Int → Prop} {Cb : Int → Int → Bool} {g : Int → Int → Int} (hC : ∀ i j, Cb i j = true → C i j) : Op2 F ℓ₁ ℓ₂ ℓ (rI C fun i j => .int (g i j)) (gI Cb g) := by
  intro env h A σ H x y v u z R rx ry e Q k
  unfold gI at e
  split at e
  · next i j =>
    split at e
    · next hc =>
      cases e
      cases ri rx
      cases ri ry
      exact ⟨i, j, rfl, rfl, hC i j hc, k _ H (Ex.refl H) vi⟩
    · cases e
  · cases e
def gI0 (g : Int → Int → Int) : Hs → Val → Val → Option Val := fun _ x y => match x, y with
  | .d (.int i), .d (.int j) => some (.d (.int (g i j)))
  | _, _ => none
theorem op2_I0 {ℓ₁ ℓ₂ : Lv} {g : Int → Int → Int} : Op2 F ℓ₁ ℓ₂ ℓ (rI0 fun i j => .int (g i j)) (gI0 g) := by
  intro env h A σ H x y v u z R rx ry e Q k
  unfold gI0 at e
  split at e
  · next i j =>
    cases e
    cases ri rx
    cases ri ry
    exact ⟨i, j, rfl, rfl, k _ H (Ex.refl H) vi⟩
  · cases e
def gB0 (g : Int → Int → Bool) : Hs → Val → Val → Option Val := fun _ x y => match x, y with
  | .d (.int i), .d (.int j) => some (.d (.bool (g i j)))
  | _, _ => none
theorem op2_B0 {ℓ₁ ℓ₂ : Lv} {g : Int → Int → Bool} : Op2 F ℓ₁ ℓ₂ ℓ (rI0 fun i j => .bl (g i j)) (gB0 g) := by
  intro env h A σ H x y v u z R rx ry e Q k
  unfold gB0 at e
  split at e
  · next i j =>
    cases e
    cases ri rx
    cases ri ry
    exact ⟨i, j, rfl, rfl, k _ H (Ex.refl H) vb⟩
  · cases e
theorem gB0_b {g : Int → Int → Bool} : ∀ h x y z, gB0 g h x y = some z → ∃ k, z = .d (.bool k) := by
  intro h x y z e
  unfold gB0 at e
  split at e
  · cases e; exact ⟨_, rfl⟩
  · cases e
abbrev gSub := gI0 fun i j => i - j
/-- a product: one factor below 2 ^ 64, or both together short -/
def cMul (i j : Int) : Bool := (decide (i.natAbs < 2 ^ 64) || decide (j.natAbs < 2 ^ 64)) || decide (i.natAbs.log2 + j.natAbs.log2 < 1000000)
abbrev gMul := gI cMul fun i j => i * j
def cDiv (_ j : Int) : Bool := decide (0 < j) && decide (j.natAbs.log2 < 9000)
abbrev gDiv := gI cDiv fun i j => i / j
abbrev gMod := gI (fun _ j => decide (0 < j)) fun i j => i % j
def cPow (i j : Int) : Bool := decide (0 ≤ j) && decide (j ≤ 1000000) && decide (i.natAbs < 2 ^ 64)
abbrev gPow := gI cPow fun i j => i ^ j.toNat
abbrev gShl := gI cPow fun i j => i * 2 ^ j.toNat
abbrev gLt := gB0 fun i j => decide (i < j)
abbrev gLe := gB0 fun i j => decide (i ≤ j)
abbrev gGt := gB0 fun i j => decide (j < i)
abbrev gGe := gB0 fun i j => decide (j ≤ i)
theorem o_sub {ℓ₁ ℓ₂ : Lv} : BinS X F ℓ₁ ℓ₂ ℓ (binaryOp .Sub) gSub := ⟨_, op_sub, op2_I0⟩
theorem op_mulA : OpR X (binaryOp .Mult) (rI (fun i j => IntMulOk i j) fun i j => .int (i * j)) := opI fun _ _ _ _ _ _ _ hc q => PyProof.Rows.mul_int q hc
theorem o_mul {ℓ₁ ℓ₂ : Lv} : BinS X F ℓ₁ ℓ₂ ℓ (binaryOp .Mult) gMul := ⟨_, op_mulA, op2_I fun i j hc => by
  unfold cMul at hc
  simp only [Bool.or_eq_true, decide_eq_true_eq] at hc
  rcases hc with (hc | hc) | hc
  · exact CMul.ok (.inl ⟨by omega, by omega⟩)
  · exact CMul.ok (.inr ⟨by omega, by omega⟩)
  · exact CMulW.ok hc⟩
theorem o_div {ℓ₁ ℓ₂ : Lv} : BinS X F ℓ₁ ℓ₂ ℓ (binaryOp .FloorDiv) gDiv := ⟨_, op_fdivW, op2_I fun i j hc => by
  unfold cDiv at hc
  simp only [Bool.and_eq_true, decide_eq_true_eq] at hc
  exact hc⟩
theorem o_mod {ℓ₁ ℓ₂ : Lv} : BinS X F ℓ₁ ℓ₂ ℓ (binaryOp .Mod) gMod := ⟨_, op_mod, op2_I fun i j hc => by simpa using hc⟩
theorem o_pow {ℓ₁ ℓ₂ : Lv} : BinS X F ℓ₁ ℓ₂ ℓ (binaryOp .Pow) gPow := ⟨_, op_pow, op2_I fun i j hc => by
  unfold cPow at hc
  simp only [Bool.and_eq_true, decide_eq_true_eq] at hc
  exact ⟨hc.1.1, hc.1.2, hc.2⟩⟩
theorem o_shl {ℓ₁ ℓ₂ : Lv} : BinS X F ℓ₁ ℓ₂ ℓ (binaryOp .LShift) gShl := ⟨_, op_shl, op2_I fun i j hc => by
  unfold cPow at hc
  simp only [Bool.and_eq_true, decide_eq_true_eq] at hc
  exact ⟨hc.1.1, hc.1.2, hc.2⟩⟩
theorem o_lt {ℓ₁ ℓ₂ : Lv} : BinS X F ℓ₁ ℓ₂ ℓ (compareOp .Lt) gLt := ⟨_, op_lt, op2_B0⟩
theorem o_le {ℓ₁ ℓ₂ : Lv} : BinS X F ℓ₁ ℓ₂ ℓ (compareOp .LtE) gLe := ⟨_, op_le, op2_B0⟩
theorem o_gt {ℓ₁ ℓ₂ : Lv} : BinS X F ℓ₁ ℓ₂ ℓ (compareOp .Gt) gGt := ⟨_, op_gt, op2_B0⟩
theorem o_ge {ℓ₁ ℓ₂ : Lv} : BinS X F ℓ₁ ℓ₂ ℓ (compareOp .GtE) gGe := ⟨_, op_ge, op2_B0⟩
def gNeg : Hs → Val → Option Val := fun _ x => match x with
  | .d (.int i) => some (.d (.int (-i)))
  | _ => none
theorem sq_neg {ℓ₁ : Lv} (ha : SimQ X F ℓ₁ a qa) : SimQ X F ℓ (.UnaryOp .USub a pos) (q1 gNeg qa) := sq_un un_neg (fun env h A σ H x v z R rx e Q k => by
  unfold gNeg at e
  split at e
  · next i => cases e; cases ri rx; exact ⟨i, rfl, k _ H (Ex.refl H) vi⟩
  · cases e) ha

/-- + of ints, texts, tuples -/
def gAdd : Hs → Val → Val → Option Val := fun _ x y => match x, y with
  | .d (.int i), .d (.int j) => some (.d (.int (i + j)))
  | .d (.str s), .d (.str t) => if s.length + t.length ≤ sizeLine then some (.d (.str (s ++ t))) else none
  | .d (.tuple xs), .d (.tuple ys) => if xs.length + ys.length ≤ sizeLine then some (.d (.tuple (xs ++ ys))) else none
  | _, _ => none
def rAddA (K : PySem.W.Frag) : R2 := fun x y H Q => (∃ i j, x = .int i ∧ y = .int j ∧ Q (.int (i + j)) H) ∨ ((∃ i j, x = .str i ∧ y = .str j ∧ i.length + j.length ≤ sizeLine ∧ Q (.str (i ++ j)) H) ∨ rCatA K x y H Q)
theorem op_addA : OpR X (binaryOp .Add) (rAddA X.K) := OpR.or op_add (OpR.or op_add_str op_catA)
theorem op2_addA (hK : X.K = F.G.K) : Op2 F ℓ ℓ ℓ (rAddA X.K) gAdd := by
  intro env h A σ H x y v u z R rx ry e Q k
  unfold gAdd at e
  split at e
  · next i j =>
    cases e
    cases ri rx
    cases ri ry
    exact .inl ⟨i, j, rfl, rfl, k _ H (Ex.refl H) vi⟩
  · next i j =>
    split at e
    · next hc =>
      cases e
      cases rs rx
      cases rs ry
      exact .inr (.inl ⟨i, j, rfl, rfl, hc, k _ H (Ex.refl H) vs⟩)
    · cases e
  · next xs ys =>
    split at e
    · next hc =>
      cases e
      obtain ⟨a, vs, rfl, t1, r1⟩ := rt rx
      obtain ⟨b, us, rfl, t2, r2⟩ := rt ry
      rw [hK]
      refine .inr (.inr ⟨a, b, vs, us, rfl, rfl, t1, t2, by rw [r1.len, r2.len]; exact hc, fun z => ?_, fun z1 z2 => ?_, fun z1 z2 p hp => ?_⟩)
      · subst z
        have : xs = [] := by
          have := r1.len
          cases xs with
          | nil => rfl
          | cons _ _ => simp at this
        subst this
        exact k _ H (Ex.refl H) (vt t2 r2)
      · subst z2
        have : ys = [] := by
          have := r2.len
          cases ys with
          | nil => rfl
          | cons _ _ => simp at this
        subst this
        exact k _ H (Ex.refl H) (vt (by simpa using t1) (by simpa using r1))
      · exact k _ _ (Ex.new hp) (vt (.inl (.inl upd_same)) (RDs.ex (Ex.new hp) (r1.append r2)))
    · cases e
  · cases e
theorem o_add (hK : X.K = F.G.K) : BinS X F ℓ ℓ ℓ (binaryOp .Add) gAdd := ⟨_, op_addA, op2_addA hK⟩

/-- == and != of data -/
def gEq : Hs → Val → Val → Option Val := fun _ x y => match x, y with
  | .d a, .d b => if (SeqAt.shaped a && SeqAt.shaped b) = true then some (.d (.bool (PyData.eqv a b))) else none
  | _, _ => none
def gNe : Hs → Val → Val → Option Val := fun _ x y => match x, y with
  | .d a, .d b => if (SeqAt.shaped a && SeqAt.shaped b) = true then some (.d (.bool (!PyData.eqv a b))) else none
  | _, _ => none
theorem o_eq (hK : X.K = F.G.K) (hu : X.A.units + 64 < cLine) : BinS X F .mo .mo ℓ (compareOp .Eq) gEq := ⟨_, op_eqD hu, by
  intro env h A σ H x y v u z R rx ry e Q k
  unfold gEq at e
  split at e
  · next a b =>
    split at e
    · next hc =>
      cases e
      simp only [Bool.and_eq_true] at hc
      rw [hK]
      exact ⟨a, b, Rep.dp a v rx, Rep.dp b u ry, hc.1, hc.2, k _ H (Ex.refl H) vb⟩
    · cases e
  · cases e⟩
theorem o_ne (hK : X.K = F.G.K) (hu : X.A.units + 64 < cLine) : BinS X F .mo .mo ℓ (compareOp .NotEq) gNe := ⟨_, op_neD hu, by
  intro env h A σ H x y v u z R rx ry e Q k
  unfold gNe at e
  split at e
  · next a b =>
    split at e
    · next hc =>
      cases e
      simp only [Bool.and_eq_true] at hc
      rw [hK]
      exact ⟨a, b, Rep.dp a v rx, Rep.dp b u ry, hc.1, hc.2, k _ H (Ex.refl H) vb⟩
    · cases e
  · cases e⟩
theorem gEq_b : ∀ h x y z, gEq h x y = some z → ∃ k, z = .d (.bool k) := by
  intro h x y z e
  unfold gEq at e
  split at e
  · split at e
    · cases e; exact ⟨_, rfl⟩
    · cases e
  · cases e
theorem gNe_b : ∀ h x y z, gNe h x y = some z → ∃ k, z = .d (.bool k) := by
  intro h x y z e
  unfold gNe at e
  split at e
  · split at e
    · cases e; exact ⟨_, rfl⟩
    · cases e
  · cases e
end
end Sm

set_option Elab.async false
set_option linter.all false
set_option maxRecDepth 100000
set_option maxHeartbeats 1000000
namespace Sm
open PySem L2 Evl

/-! ### built-ins -/
section
variable {F : Fm} {X : Cx} {a b c e : Expr} {es rest : List Expr} {pos p : Pos} {ℓ : Lv} {qa qb qc : Q1} {ta tb : T1} {env : En} {h : Hs} {A : As} {σ : L2.St} {H : Hp} {x : Str} {id T : String}
theorem tCB1_q {ℓ₁ : Lv} {r : List V → Hp → VK → Prop} {g : Hs → Val → Option Val} (o : Op1 F ℓ₁ ℓ (fun v H Q => r [v] H Q) g) {σ : L2.St} {H : Hp} {Q : VK} (hq : tQ F ℓ (q1 g qa) σ H Q) : tCB r (tCons (tQ F ℓ₁ qa) tNil) σ H Q := by
  obtain ⟨env, h, A, z, R, e, k⟩ := hq
  obtain ⟨x, ex, e⟩ := bind_some e
  refine ⟨env, h, A, x, R, ex, fun v H1 e1 rv => ?_⟩
  exact o env h A σ H1 x v z (R.ex e1) rv e Q fun v' H' e3 rz => k v' H' (e1.trans e3) rz
theorem sq_b1 {ℓ₁ : Lv} {r : List V → Hp → VK → Prop} {g : Hs → Val → Option Val} (hc : CallR X (.builtin id) r) (o : Op1 F ℓ₁ ℓ (fun v H Q => r [v] H Q) g) (hm : X.mg x = none) (hv : bootBuiltins x = some (.builtin id)) (ha : SimQ X F ℓ₁ a qa)
    (hg : Gl X x := by rfl) (hn : x ≠ "__name__" := by decide) (hdb : (x == ("__debug__" : Str)) = false := by decide)
    (he : starEach [a] X.env = (false, eval a X.env) :: starEach [] X.env := by rfl) (hpl : (backTo pos (starEach [] X.env)).any (·.1) = false := by rfl) : SimQ X F ℓ (.Call (.Name x p) [a] [] pos) (q1 g qa) :=
  PEimp (pe_callB hc hg hm hv (pa_cons ha pa_nil he) hn hdb he hpl) fun _ _ _ => tCB1_q o
theorem sq_t1 {ℓ₁ : Lv} {r : List V → Hp → VK → Prop} {g : Hs → Val → Option Val} (hc : CallR X (.type T) r) (o : Op1 F ℓ₁ ℓ (fun v H Q => r [v] H Q) g) (hm : X.mg x = none) (hv : bootBuiltins x = some (.type T)) (ha : SimQ X F ℓ₁ a qa)
    (hg : Gl X x := by rfl) (hn : x ≠ "__name__" := by decide) (hdb : (x == ("__debug__" : Str)) = false := by decide)
    (he : starEach [a] X.env = (false, eval a X.env) :: starEach [] X.env := by rfl) (hpl : (backTo pos (starEach [] X.env)).any (·.1) = false := by rfl) : SimQ X F ℓ (.Call (.Name x p) [a] [] pos) (q1 g qa) :=
  PEimp (pe_callTy hc hg hm hv (pa_cons ha pa_nil he) hn hdb he hpl) fun _ _ _ => tCB1_q o

/-- the items of a list object -/
def lstAt (h : Hs) (n : Nat) : Option (List PyData) := match h[n]? with
  | some (.lst xs) => some xs
  | _ => none
theorem SR.lstAt (R : SR F env h A σ H) {n : Nat} {xs : List PyData} (e : lstAt h n = some xs) : h[n]? = some (.lst xs) ∧ ∃ us, H (A (.o n)) = some (.lst us) ∧ RDs F .st H xs us := by
  unfold Sm.lstAt at e
  split at e
  · next ys hy =>
    cases e
    exact ⟨hy, R.ob n _ hy⟩
  · cases e
/-- the values of a list object -/
def vlsAt (h : Hs) (n : Nat) : Option (List Val) := match h[n]? with
  | some (.vls xs) => some xs
  | _ => none
theorem SR.vlsAt (R : SR F env h A σ H) {n : Nat} {xs : List Val} (e : vlsAt h n = some xs) : h[n]? = some (.vls xs) ∧ ∃ us, H (A (.o n)) = some (.lst us) ∧ Paired (fun x v => RV F .st h A H x v) xs us := by
  unfold Sm.vlsAt at e
  split at e
  · next ys hy =>
    cases e
    exact ⟨hy, R.ob n _ hy⟩
  · cases e
theorem pair_len {α β : Type} {f : α → β → Prop} : ∀ {l : List α} {m : List β}, Paired f l m → m.length = l.length
  | _, _, .nil => rfl
  | _, _, .cons _ t => congrArg (· + 1) (pair_len t)
theorem pair_get {α β : Type} {f : α → β → Prop} : ∀ {l : List α} {m : List β} {i : Nat} {x : α}, Paired f l m → l[i]? = some x → ∃ y, m[i]? = some y ∧ f x y
  | _, _, i, x, .nil, e => by simp at e
  | _, _, 0, x, .cons r _, e => by simp at e; subst e; exact ⟨_, rfl, r⟩
  | _, _, i + 1, x, .cons _ t, e => by
    obtain ⟨y, h1, h2⟩ := pair_get (i := i) t (by simpa using e)
    exact ⟨y, by simpa using h1, h2⟩
theorem pair_at {α β : Type} {f : α → β → Prop} {l : List α} {m : List β} {i : Int} {x : α} (r : Paired f l m) (e : atI l i = some x) : ∃ y, atI m i = some y ∧ f x y := by
  unfold atI at e ⊢
  rw [pair_len r]
  cases hj : ixN l.length i with
  | none => rw [hj] at e; cases e
  | some j =>
    rw [hj] at e
    exact pair_get r e
def lenAt (h : Hs) (n : Nat) : Option Nat := match h[n]? with
  | some (.lst xs) => some xs.length
  | some (.vls xs) => some xs.length
  | _ => none
def ixAt (h : Hs) (n : Nat) (i : Int) : Option Val := match h[n]? with
  | some (.lst xs) => (atI xs i).map .d
  | some (.vls xs) => atI xs i
  | _ => none
def gLen : Hs → Val → Option Val := fun h x => match x with
  | .d (.str s) => if s.length ≤ sizeLine then some (.d (.int s.length)) else none
  | .d (.list xs) => some (.d (.int xs.length))
  | .d (.tuple xs) => some (.d (.int xs.length))
  | .ref n => (lenAt h n).map fun k => .d (.int k)
  | _ => none
theorem o_len (hK : X.K = F.G.K) : Op1 F .mo ℓ (fun v H Q => ∃ x n, [v] = [x] ∧ LenV X.K x H n ∧ Q (.int n) H) gLen := by
  intro env h A σ H x v z R rx e Q k
  unfold gLen at e
  rw [hK]
  split at e
  · next s =>
    split at e
    · next hs => cases e; cases rs rx; exact ⟨_, s.length, rfl, ⟨hs, rfl⟩, k _ H (Ex.refl H) vi⟩
    · cases e
  · next xs =>
    cases e
    obtain ⟨a, us, rfl, q, r⟩ := rl rx
    exact ⟨_, us.length, rfl, .inl ⟨us, q, rfl⟩, by rw [r.len]; exact k _ H (Ex.refl H) vi⟩
  · next xs =>
    cases e
    obtain ⟨a, us, rfl, q, r⟩ := rt rx
    exact ⟨_, us.length, rfl, .inr ⟨us, q, rfl⟩, by rw [r.len]; exact k _ H (Ex.refl H) vi⟩
  · next n =>
    obtain ⟨xs, ex, e⟩ := Option.map_eq_some_iff.mp e
    subst e
    unfold lenAt at ex
    obtain ⟨_, rfl⟩ := rx
    split at ex
    · next ys hy =>
      cases ex
      obtain ⟨us, q, r⟩ := R.ob n _ hy
      exact ⟨_, us.length, rfl, .inl ⟨us, .inl (.inl q), rfl⟩, by rw [r.len]; exact k _ H (Ex.refl H) vi⟩
    · next ys hy =>
      cases ex
      obtain ⟨us, q, r⟩ := R.ob n _ hy
      exact ⟨_, us.length, rfl, .inl ⟨us, .inl (.inl q), rfl⟩, by rw [pair_len r]; exact k _ H (Ex.refl H) vi⟩
    · cases ex
  · cases e
theorem sq_len (hK : X.K = F.G.K) (hm : X.mg "len" = none) (ha : SimQ X F .mo a qa) (hg : Gl X "len" := by rfl)
    (he : starEach [a] X.env = (false, eval a X.env) :: starEach [] X.env := by rfl) (hpl : (backTo pos (starEach [] X.env)).any (·.1) = false := by rfl) : SimQ X F ℓ (.Call (.Name "len" p) [a] [] pos) (q1 gLen qa) :=
  sq_b1 call_len (o_len hK) hm PySem.boot_len ha hg (by decide) (by decide) he hpl
def gInt : Hs → Val → Option Val := fun _ x => match x with
  | .d (.int i) => some (.d (.int i))
  | .d (.bool k) => some (.d (.int (if k then 1 else 0)))
  | _ => none
theorem o_int {ℓ₁ : Lv} : Op1 F ℓ₁ ℓ (fun v H Q => (∃ i, [v] = [.int i] ∧ Q (.int i) H) ∨ ∃ k, [v] = [.bl k] ∧ Q (.int (if k then 1 else 0)) H) gInt := by
  intro env h A σ H x v z R rx e Q k
  unfold gInt at e
  split at e
  · next i => cases e; cases ri rx; exact .inl ⟨i, rfl, k _ H (Ex.refl H) vi⟩
  · next i => cases e; cases rb rx; exact .inr ⟨i, rfl, k _ H (Ex.refl H) vi⟩
  · cases e
theorem sq_toint {ℓ₁ : Lv} (hm : X.mg "int" = none) (ha : SimQ X F ℓ₁ a qa) (hg : Gl X "int" := by rfl)
    (he : starEach [a] X.env = (false, eval a X.env) :: starEach [] X.env := by rfl) (hpl : (backTo pos (starEach [] X.env)).any (·.1) = false := by rfl) : SimQ X F ℓ (.Call (.Name "int" p) [a] [] pos) (q1 gInt qa) :=
  sq_t1 call_int1 o_int hm (by decide +kernel) ha hg (by decide) (by decide) he hpl
/-- tuple(x) -/
def gTuple : Hs → Val → Option Val := fun _ x => match x with
  | .d (.list xs) => some (.d (.tuple xs))
  | .d (.tuple xs) => some (.d (.tuple xs))
  | _ => none
theorem o_tuple (hK : X.K = F.G.K) : Op1 F ℓ ℓ (fun v H Q => ∃ p ys, [v] = [V.ref p] ∧ ((SqL X.K H p ys ∧ ∀ l, H l = none → Q (.ref l) (upd H l (.tup ys))) ∨ (SqT X.K H p ys ∧ Q (.ref p) H))) gTuple := by
  intro env h A σ H x v z R rx e Q k
  unfold gTuple at e
  rw [hK]
  split at e
  · next xs =>
    cases e
    obtain ⟨a, us, rfl, q, r⟩ := rl rx
    exact ⟨a, us, rfl, .inl ⟨LPof.mo R _ _ q, fun l hl => k _ _ (Ex.new hl) (vt (.inl (.inl upd_same)) (RDs.ex (Ex.new hl) r))⟩⟩
  · next xs =>
    cases e
    obtain ⟨a, us, rfl, q, r⟩ := rt rx
    exact ⟨a, us, rfl, .inr ⟨q, k _ H (Ex.refl H) (vt q r)⟩⟩
  · cases e
theorem sq_totup (hK : X.K = F.G.K) (hm : X.mg "tuple" = none) (ha : SimQ X F ℓ a qa) (hg : Gl X "tuple" := by rfl)
    (he : starEach [a] X.env = (false, eval a X.env) :: starEach [] X.env := by rfl) (hpl : (backTo pos (starEach [] X.env)).any (·.1) = false := by rfl) : SimQ X F ℓ (.Call (.Name "tuple" p) [a] [] pos) (q1 gTuple qa) :=
  sq_t1 call_tuple_of (o_tuple hK) hm (by decide +kernel) ha hg (by decide) (by decide) he hpl
/-- list(x): a new list -/
def f1 (g : Hs → Val → Option (List PyData)) (a : Q1) : En → Hs → Option (List PyData) := fun env h => (a env h).bind fun x => g h x
def f2 (g : Hs → Val → Val → Option (List PyData)) (a b : Q1) : En → Hs → Option (List PyData) := fun env h => (a env h).bind fun x => (b env h).bind fun y => g h x y
def gList : Hs → Val → Option (List PyData) := fun _ x => match x with
  | .d (.list xs) => if nlAll xs = true then some xs else none
  | .d (.tuple xs) => if nlAll xs = true then some xs else none
  | _ => none
theorem sf_tolist (hK : X.K = F.G.K) (hm : X.mg "list" = none) (ha : SimQ X F .mo a qa) (hg : Gl X "list" := by rfl)
    (he : starEach [a] X.env = (false, eval a X.env) :: starEach [] X.env := by rfl) (hpl : (backTo pos (starEach [] X.env)).any (·.1) = false := by rfl) : SimF X F (.Call (.Name "list" p) [a] [] pos) (f1 gList qa) := by
  refine PEimp (pe_callTy call_list_of hg hm (by decide +kernel) (pa_cons ha pa_nil he) (by decide) (by decide) he hpl) fun σ H Q ⟨env, h, A, z, R, e, k⟩ => ?_
  obtain ⟨x, ex, e⟩ := bind_some e
  refine ⟨env, h, A, x, R, ex, fun v H1 e1 rv => ?_⟩
  unfold gList at e
  rw [hK]
  split at e
  · next xs =>
    split at e
    · next hn =>
      cases e
      obtain ⟨a, us, rfl, q, r⟩ := rl rv
      exact ⟨a, us, rfl, .inl q, fun l hl => k l us _ (fresh_back e1 hl) (e1.trans (Ex.new hl)) upd_same (RDs.ex (Ex.new hl) (RepAll.nl _ _ hn r))⟩
    · cases e
  · next xs =>
    split at e
    · next hn =>
      cases e
      obtain ⟨a, us, rfl, q, r⟩ := rt rv
      exact ⟨a, us, rfl, .inr q, fun l hl => k l us _ (fresh_back e1 hl) (e1.trans (Ex.new hl)) upd_same (RDs.ex (Ex.new hl) (RepAll.nl _ _ hn r))⟩
    · cases e
  · cases e
/-- isinstance(x, T) -/
def gIsi (f : PyData → Bool) : Hs → Val → Option Val := fun _ x => match x with
  | .d d => some (.d (.bool (f d)))
  | _ => none
def IsiR (n : String) (f : PyData → Bool) : Prop := ∀ {prog : Program} {w : World} {A : Around} {E : Value → Shared → Prop} {s : Shared} {v : Value} {d : PyData} {as : List Addr} {Q : Value → Shared → Prop}, Reads s.heap v d as →
  (∀ tk, s.toks ≤ tk → Q (.bool (f d)) { s with toks := tk }) → wpAny (model prog w) A (call (.builtin "isinstance") [v, .type n]) Q E s
theorem cr_isi {n : String} {f : PyData → Bool} (R : IsiR n f) : CallR X (.builtin "isinstance") (fun xs H Q => ∃ x d, xs = [x, .ty n] ∧ Dp X.K H x d ∧ Q (.bl (f d)) H) := by
  intro pins s σ H xs us Q I r h
  obtain ⟨x, d, rfl, hd, q⟩ := h
  obtain ⟨u, w', rfl, rx, ry⟩ := vals2 r
  obtain rfl : w' = Value.type n := ry
  obtain ⟨as, hr⟩ := Dp.reads I d x u hd rx
  exact R hr fun tk _ => ⟨.bl (f d), H, I.tok _, rfl, q⟩
theorem isi_tuple : IsiR "tuple" PyData.isTuple := PySem.W.isinstance_tuple_data
theorem isi_list : IsiR "list" PyData.isList := PySem.W.isinstance_list_data
theorem isi_bool : IsiR "bool" PyData.isBool := PySem.W.isinstance_bool_data
theorem isi_int : IsiR "int" PyData.isInt := PySem.W.isinstance_int_data
theorem isi_str : IsiR "str" PyData.isStr := PySem.W.isinstance_str_data
theorem isi_dict : IsiR "dict" PyData.isDict := PySem.W.isinstance_dict_data
theorem sq_isi {n : String} {f : PyData → Bool} {p2 : Pos} {y : Str} (Ri : IsiR n f) (hK : X.K = F.G.K) (hm : X.mg "isinstance" = none) (hm2 : X.mg y = none) (hv : bootBuiltins y = some (.type n)) (ha : SimQ X F .mo a qa) (hg : Gl X "isinstance" := by rfl) (hg2 : Gl X y := by rfl) (hn2 : y ≠ "__name__" := by decide) (hd2 : (y == ("__debug__" : Str)) = false := by decide)
    (he : starEach [a, .Name y p2] X.env = (false, eval a X.env) :: starEach [.Name y p2] X.env := by rfl) (he2 : starEach [.Name y p2] X.env = (false, eval (.Name y p2) X.env) :: starEach [] X.env := by rfl) (hpl : (backTo pos (starEach [.Name y p2] X.env)).any (·.1) = false := by rfl) :
    SimQ X F ℓ (.Call (.Name "isinstance" p) [a, .Name y p2] [] pos) (q1 (gIsi f) qa) := by
  refine PEimp (pe_callB (cr_isi Ri) hg hm (by decide +kernel) (pa_cons ha (pa_cons (pe_bltn (v := .ty n) hg2 hm2 hv rfl hn2 hd2) pa_nil he2) he) (by decide) (by decide) he hpl) fun σ H Q ⟨env, h, A, z, R, e, k⟩ => ?_
  obtain ⟨x, ex, e⟩ := bind_some e
  refine ⟨env, h, A, x, R, ex, fun v H1 e1 rv => ?_⟩
  unfold gIsi at e
  split at e
  · next d =>
    cases e
    rw [hK]
    exact ⟨v, d, rfl, Rep.dp d v rv, k _ H1 e1 vb⟩
  · cases e

/-! ### subscripts -/
/-- x[i] of a list, a tuple, a text -/
def gIx : Hs → Val → Val → Option Val := fun h x y => match x, y with
  | .ref n, .d (.int i) => ixAt h n i
  | .d (.list xs), .d (.int i) => (atI xs i).map .d
  | .d (.tuple xs), .d (.int i) => (atI xs i).map .d
  | .d (.str s), .d (.int i) => if s.length ≤ sizeLine then (atI s.cps.toList i).map fun c => .d (.str ⟨#[c]⟩) else none
  | _, _ => none
theorem at_rep {T L : LP} {ds : List PyData} {vs : List V} {i : Int} {d : PyData} (r : RepAll T L ds vs) (e : atI ds i = some d) : ∃ v, atI vs i = some v ∧ Rep T L d v := by
  unfold atI at e ⊢
  rw [r.len]
  cases hj : ixN ds.length i with
  | none => rw [hj] at e; cases e
  | some j =>
    rw [hj] at e
    obtain ⟨v, h1, h2⟩ := r.get e
    exact ⟨v, h1, h2⟩
theorem LPof_sq (R : SR F env h A σ H) {a : Addr} {vs : List V} (q : LPof F H ℓ a vs) : SqL F.G.K H a vs := LPof.mo R a vs q
theorem o_ix (hK : X.K = F.G.K) {ℓ₂ : Lv} : Op2 F ℓ ℓ₂ ℓ (rIx X.K) gIx := by
  intro env h A σ H x y v u z R rx ry e Q k
  unfold gIx at e
  rw [hK]
  split at e
  · next n i =>
    cases ri ry
    obtain ⟨_, rfl⟩ := rx
    unfold ixAt at e
    split at e
    · next ys hy =>
      obtain ⟨d, e1, e2⟩ := Option.map_eq_some_iff.mp e
      subst e2
      obtain ⟨us, q, r⟩ := R.ob n _ hy
      obtain ⟨w, h1, h2⟩ := at_rep r e1
      exact .inl ⟨_, us, i, w, rfl, rfl, .inl (.inl q), h1, k _ H (Ex.refl H) (RD.of_st (ℓ := ℓ) h2)⟩
    · next ys hy =>
      obtain ⟨us, q, r⟩ := R.ob n _ hy
      obtain ⟨w, h1, h2⟩ := pair_at r e
      exact .inl ⟨_, us, i, w, rfl, rfl, .inl (.inl q), h1, k _ H (Ex.refl H) (RV.of_st (ℓ := ℓ) h2)⟩
    · cases e
  · next xs i =>
    cases ri ry
    obtain ⟨d, e1, e2⟩ := Option.map_eq_some_iff.mp e
    subst e2
    obtain ⟨a, us, rfl, q, r⟩ := rl rx
    obtain ⟨w, h1, h2⟩ := at_rep r e1
    exact .inl ⟨a, us, i, w, rfl, rfl, LPof_sq R q, h1, k _ H (Ex.refl H) h2⟩
  · next xs i =>
    cases ri ry
    obtain ⟨d, e1, e2⟩ := Option.map_eq_some_iff.mp e
    subst e2
    obtain ⟨a, us, rfl, q, r⟩ := rt rx
    obtain ⟨w, h1, h2⟩ := at_rep r e1
    exact .inr (.inl ⟨a, us, i, w, rfl, rfl, q, h1, k _ H (Ex.refl H) h2⟩)
  · next s i =>
    split at e
    · next hs =>
      cases ri ry
      cases rs rx
      obtain ⟨d, e1, e2⟩ := Option.map_eq_some_iff.mp e
      subst e2
      exact .inr (.inr ⟨s, i, d, rfl, rfl, hs, e1, k _ H (Ex.refl H) vs⟩)
    · cases e
  · cases e
theorem sq_sub (hK : X.K = F.G.K) {ℓ₂ : Lv} (ha : SimQ X F ℓ a qa) (hb : SimQ X F ℓ₂ b qb) (hs : PlainIx b := by intro _ _; rfl) : SimQ X F ℓ (.Subscript a b pos) (q2 gIx qa qb) := sq_ix ix_seq (o_ix hK) ha hb hs

/-! ### is -/
def gIsN : Hs → Val → Option Val := fun _ x => match x with
  | .d .none => some (.d (.bool true))
  | .d (.dict _) => none
  | _ => some (.d (.bool false))
def gNoN : Hs → Val → Option Val := fun _ x => match x with
  | .d .none => some (.d (.bool false))
  | .d (.dict _) => none
  | _ => some (.d (.bool true))
theorem isN_of {x : Val} {v : V} {z : Val} (r : RV F .mo h A H x v) (e : gIsN h x = some z) : z = .d (.bool (decide (v = .non))) ∧ gNoN h x = some (.d (.bool (!decide (v = .non)))) := by
  cases x with
  | d d =>
    cases d with
    | none => cases e; have : v = .non := rn r
              subst this; exact ⟨rfl, rfl⟩
    | dict _ => cases e
    | bool i => cases e; cases rb r; exact ⟨rfl, rfl⟩
    | int i => cases e; cases ri r; exact ⟨rfl, rfl⟩
    | str i => cases e; cases rs r; exact ⟨rfl, rfl⟩
    | tuple i => cases e; obtain ⟨a, us, rfl, _⟩ := rt r; exact ⟨rfl, rfl⟩
    | list i => cases e; obtain ⟨a, us, rfl, _⟩ := rl r; exact ⟨rfl, rfl⟩
  | ref n => cases e; obtain ⟨_, rfl⟩ := r; exact ⟨rfl, rfl⟩
  | fn n => cases e; (have r' : v = .ref (F.G.fa n) := r); subst r'; exact ⟨rfl, rfl⟩
theorem gNo_is {x : Val} {z : Val} (e : gNoN h x = some z) : ∃ y, gIsN h x = some y := by
  unfold gNoN at e
  unfold gIsN
  split at e <;> simp_all
theorem sq_isN {j : Nat} {p2 : Pos} (ha : SimQ X F .mo a qa) : SimQ X F ℓ (.Compare a [.Is] [.Constant .none j p2] pos) (q1 gIsN qa) := PEimp (pe_cmp (pc_isN ha) (nomark _)) fun σ H Q ⟨env, h, A, z, R, e, k⟩ => by
  obtain ⟨x, ex, e⟩ := bind_some e
  refine ⟨env, h, A, x, R, ex, fun v H1 e1 rv => ?_⟩
  obtain ⟨rfl, _⟩ := isN_of rv e
  exact k _ H1 e1 vb
theorem sq_noN {j : Nat} {p2 : Pos} (ha : SimQ X F .mo a qa) : SimQ X F ℓ (.Compare a [.IsNot] [.Constant .none j p2] pos) (q1 gNoN qa) := PEimp (pe_cmp (pc_notN ha) (nomark _)) fun σ H Q ⟨env, h, A, z, R, e, k⟩ => by
  obtain ⟨x, ex, e⟩ := bind_some e
  refine ⟨env, h, A, x, R, ex, fun v H1 e1 rv => ?_⟩
  obtain ⟨y, ey⟩ := gNo_is e
  obtain ⟨_, e2⟩ := isN_of rv ey
  rw [e] at e2
  cases e2
  exact k _ H1 e1 vb
theorem st_isN {j : Nat} {p2 : Pos} (ha : SimQ X F .mo a qa) : SimT X F (.Compare a [.Is] [.Constant .none j p2] pos) (tV (q1 gIsN qa)) := PTimp (pt_cmp (pc_isN ha) (nomark _)) fun σ H Q ⟨env, h, A, k, R, e, q⟩ => by
  obtain ⟨z, ez, e⟩ := bind_some e
  obtain ⟨x, ex, ez⟩ := bind_some ez
  refine ⟨env, h, A, x, R, ex, fun v H1 e1 rv => ?_⟩
  obtain ⟨rfl, _⟩ := isN_of rv ez
  cases e
  exact ⟨_, rfl, q H1 e1⟩
theorem st_noN {j : Nat} {p2 : Pos} (ha : SimQ X F .mo a qa) : SimT X F (.Compare a [.IsNot] [.Constant .none j p2] pos) (tV (q1 gNoN qa)) := PTimp (pt_cmp (pc_notN ha) (nomark _)) fun σ H Q ⟨env, h, A, k, R, e, q⟩ => by
  obtain ⟨z, ez, e⟩ := bind_some e
  obtain ⟨x, ex, ez⟩ := bind_some ez
  refine ⟨env, h, A, x, R, ex, fun v H1 e1 rv => ?_⟩
  obtain ⟨y, ey⟩ := gNo_is ez
  obtain ⟨_, e2⟩ := isN_of rv ey
  rw [ez] at e2
  cases e2
  cases e
  exact ⟨_, rfl, q H1 e1⟩
def gIsB (n : Bool) : Hs → Val → Val → Option Val := fun _ x y => match x, y with
  | .d (.bool a), .d (.bool b) => some (.d (.bool (if n then !decide (a = b) else decide (a = b))))
  | _, _ => none
theorem o_isB {ℓ₁ ℓ₂ : Lv} : BinS X F ℓ₁ ℓ₂ ℓ (compareOp .Is) (gIsB false) := ⟨_, op_isBl, by
  intro env h A σ H x y v u z R rx ry e Q k
  unfold gIsB at e
  split at e
  · next i j => cases e; cases rb rx; cases rb ry; exact ⟨i, j, rfl, rfl, k _ H (Ex.refl H) vb⟩
  · cases e⟩
theorem o_noB {ℓ₁ ℓ₂ : Lv} : BinS X F ℓ₁ ℓ₂ ℓ (compareOp .IsNot) (gIsB true) := ⟨_, op_notBl, by
  intro env h A σ H x y v u z R rx ry e Q k
  unfold gIsB at e
  split at e
  · next i j => cases e; cases rb rx; cases rb ry; exact ⟨i, j, rfl, rfl, k _ H (Ex.refl H) vb⟩
  · cases e⟩
theorem gIsB_b {n : Bool} : ∀ h x y z, gIsB n h x y = some z → ∃ k, z = .d (.bool k) := by
  intro h x y z e
  unfold gIsB at e
  split at e
  · cases e; exact ⟨_, rfl⟩
  · cases e
end
end Sm

set_option Elab.async false
set_option linter.all false
set_option maxRecDepth 100000
set_option maxHeartbeats 1000000
namespace Sm
open PySem L2 Evl

/-! ### what is walked -/
structure Ylds (F : Fm) (Ok : Hp → Prop) (ℓ : Lv) (J : It) (xs : List PyData) : Prop where
  go : ∀ Hc i, Ok Hc → i < xs.length → J.go i Hc
  yl : ∀ Hc i x Hn d, Ok Hc → xs[i]? = some d → J.yld i Hc x Hn → Ex Hc Hn ∧ RD F ℓ Hn d x
  st : ∀ Hc i, Ok Hc → xs.length ≤ i → J.stop i Hc
abbrev I1 := En → Hs → Option (List PyData)
def OkP (_ : Fm) (H1 Hc : Hp) : Prop := Ex H1 Hc
def OkS (F : Fm) (H1 Hc : Hp) : Prop := Pres H1 Hc ∧ ∃ env h A σ, SR F env h A σ Hc
def tI (F : Fm) (ok : Fm → Hp → Hp → Prop) (ℓ : Lv) (it : I1) : TI := fun σ H R => ∃ env h A xs, SR F env h A σ H ∧ it env h = some xs ∧ ∀ J H1, Ex H H1 → Ylds F (ok F H1) ℓ J xs → R J H1
theorem PIimp {X : Cx} {tg e : Expr} {t t' : TI} (h : PI X tg e t) (i : ∀ σ H Q, t' σ H Q → t σ H Q) : PI X tg e t' := ⟨fun pins s σ H Q I q => h.run pins s σ H Q I (i σ H Q q)⟩
theorem PIor {X : Cx} {tg e : Expr} {t t' : TI} (h : PI X tg e t) (h' : PI X tg e t') : PI X tg e (fun σ H R => t σ H R ∨ t' σ H R) := ⟨fun pins s σ H Q I q => q.elim (h.run pins s σ H Q I) (h'.run pins s σ H Q I)⟩
abbrev SimI (X : Cx) (F : Fm) (ok : Fm → Hp → Hp → Prop) (ℓ : Lv) (tg e : Expr) (it : I1) : Prop := PI X tg e (tI F ok ℓ it)
def iRng (a : Q1) : I1 := fun env h => (a env h).bind fun x => match x with
  | .d (.int n) => if (decide (-(2 ^ 62) ≤ n) && decide (n < 2 ^ 62)) = true then some ((List.range n.toNat).map fun k : Nat => PyData.int (k : Int)) else none
  | _ => none
def iRngB (a b : Q1) : I1 := fun env h => (a env h).bind fun x => (b env h).bind fun y => match x, y with
  | .d (.int m), .d (.int n) => if ((decide (-(2 ^ 62) ≤ m) && decide (m < 2 ^ 62)) && (decide (-(2 ^ 62) ≤ n) && decide (n < 2 ^ 62))) = true then some ((List.range (n - m).toNat).map fun k : Nat => PyData.int (m + (k : Int))) else none
  | _, _ => none
/-- a list or a tuple, its items without lists in them -/
def seqOf : Val → Option (List PyData)
  | .d (.list xs) => some xs
  | .d (.tuple xs) => some xs
  | _ => none
def iSeqN (a : Q1) : I1 := fun env h => (a env h).bind fun x => (seqOf x).bind fun xs => if nlAll xs = true then some xs else none
def iSeq (a : Q1) : I1 := fun env h => (a env h).bind fun x => seqOf x
section
variable {F : Fm} {X : Cx} {tg a b c e : Expr} {es rest : List Expr} {pos p : Pos} {ℓ : Lv} {qa qb qc : Q1} {env : En} {h : Hs} {A : As} {σ : L2.St} {H : Hp} {ok : Fm → Hp → Hp → Prop}
theorem ylds_rng {Ok : Hp → Prop} (lo : Int) (n : Nat) : Ylds F Ok ℓ (Itr lo n) ((List.range n).map fun k : Nat => PyData.int (lo + (k : Int))) where
  go := fun Hc i _ hi => by simpa [Itr] using hi
  yl := fun Hc i x Hn d _ hd hy => by
    obtain ⟨rfl, rfl⟩ := hy
    rw [List.getElem?_map] at hd
    obtain ⟨k, hk, rfl⟩ := Option.map_eq_some_iff.mp hd
    obtain ⟨hi, rfl⟩ := List.getElem?_eq_some_iff.mp hk
    refine ⟨Ex.refl _, ?_⟩
    rw [List.getElem_range]
    exact mk_int
  st := fun Hc i _ hi => by simpa [Itr] using hi
theorem si_rng (hm : X.mg "range" = none) {ℓ₁ : Lv} (ha : SimQ X F ℓ₁ a qa) (hg : Gl X "range" := by rfl) (hs : starEach [a] X.env = [(false, eval a X.env)] := by rfl) : SimI X F ok ℓ tg (.Call (.Name "range" p) [a] [] pos) (iRng qa) :=
  PIimp (pi_range1 hg hm (pa_cons ha pa_nil hs) hs) fun σ H Q ⟨env, h, A, z, R, e, k⟩ => by
    obtain ⟨x, ex, e⟩ := bind_some e
    refine ⟨env, h, A, x, R, ex, fun v H1 e1 rv => ?_⟩
    split at e
    · next n =>
      split at e
      · next hn =>
        cases e
        cases ri rv
        simp only [Bool.and_eq_true, decide_eq_true_eq] at hn
        refine ⟨n, rfl, hn.1, hn.2, k _ H1 e1 ?_⟩
        have := ylds_rng (F := F) (ℓ := ℓ) (Ok := ok F H1) 0 n.toNat
        simpa using this
      · cases e
    · cases e
theorem si_rngB (hm : X.mg "range" = none) {ℓ₁ ℓ₂ : Lv} (ha : SimQ X F ℓ₁ a qa) (hb : SimQ X F ℓ₂ b qb) (hg : Gl X "range" := by rfl) (hs : starEach [a, b] X.env = [(false, eval a X.env), (false, eval b X.env)] := by rfl) (hs2 : starEach [b] X.env = [(false, eval b X.env)] := by rfl) :
    SimI X F ok ℓ tg (.Call (.Name "range" p) [a, b] [] pos) (iRngB qa qb) :=
  PIimp (pi_range2 hg hm (pa_cons ha (pa_cons hb pa_nil hs2) (by rw [hs, hs2])) hs hs2) fun σ H Q ⟨env, h, A, z, R, e, k⟩ => by
    obtain ⟨x, ex, e⟩ := bind_some e
    obtain ⟨y, ey, e⟩ := bind_some e
    refine ⟨env, h, A, x, R, ex, fun v H1 e1 rv => ⟨env, h, A, y, R.ex e1, ey, fun u H2 e2 ru => ?_⟩⟩
    split at e
    · next m n _ =>
      split at e
      · next hn =>
        cases e
        cases ri rv
        cases ri ru
        simp only [Bool.and_eq_true, decide_eq_true_eq] at hn
        exact ⟨m, n, rfl, ⟨hn.1.1, hn.1.2, hn.2.1, hn.2.2⟩, k _ H2 (e1.trans e2) (ylds_rng m _)⟩
      · cases e
    · cases e
theorem ylds_list {Ok : Hp → Prop} {a : Addr} {us : List V} {xs : List PyData} (hl : us.length = xs.length) (hq : ∀ Hc, Ok Hc → SqL F.G.K Hc a us ∧ RDs F ℓ Hc xs us) : Ylds F Ok ℓ (Itl F.G.K a) xs where
  go := fun Hc i o hi => ⟨us, us[i]'(by omega), (hq Hc o).1, List.getElem?_eq_getElem (by omega)⟩
  yl := fun Hc i x Hn d o hd hy => by
    obtain ⟨rfl, hy⟩ := hy
    obtain ⟨q, r⟩ := hq Hn o
    obtain ⟨v, h1, h2⟩ := r.get hd
    rw [hy us q] at h1
    cases h1
    exact ⟨Ex.refl _, h2⟩
  st := fun Hc i o hi => ⟨us, (hq Hc o).1, by omega⟩
theorem ylds_tup {Ok : Hp → Prop} {a : Addr} {us : List V} {xs : List PyData} (hl : us.length = xs.length) (hq : ∀ Hc, Ok Hc → SqT F.G.K Hc a us ∧ RDs F ℓ Hc xs us) : Ylds F Ok ℓ (Itt F.G.K a) xs where
  go := fun Hc i o hi => ⟨us, us[i]'(by omega), (hq Hc o).1, List.getElem?_eq_getElem (by omega)⟩
  yl := fun Hc i x Hn d o hd hy => by
    obtain ⟨rfl, hy⟩ := hy
    obtain ⟨q, r⟩ := hq Hn o
    obtain ⟨v, h1, h2⟩ := r.get hd
    rw [hy us q] at h1
    cases h1
    exact ⟨Ex.refl _, h2⟩
  st := fun Hc i o hi => ⟨us, (hq Hc o).1, by omega⟩
/-- within an expression: a list or a tuple of the moment -/
theorem si_seqN (hK : X.K = F.G.K) (ha : SimQ X F .mo a qa) : SimI X F OkP ℓ tg a (iSeqN qa) := PIimp (PIor (pi_list ha) (pi_tup ha)) fun σ H Q ⟨env, h, A, z, R, e, k⟩ => by
  obtain ⟨x, ex, e⟩ := bind_some e
  obtain ⟨xs, ey, e⟩ := bind_some e
  split at e
  · next hn =>
    cases e
    rw [hK]
    unfold seqOf at ey
    split at ey
    · cases ey
      refine .inl ⟨env, h, A, _, R, ex, fun v H1 e1 rv => ?_⟩
      obtain ⟨a, us, rfl, q, r⟩ := rl rv
      exact ⟨a, rfl, ⟨us, q⟩, k _ H1 e1 (ylds_list r.len fun Hc o => ⟨ex_l o q, (RDs.ex o (RepAll.nl (L' := LPof F H1 ℓ) _ _ hn r))⟩)⟩
    · cases ey
      refine .inr ⟨env, h, A, _, R, ex, fun v H1 e1 rv => ?_⟩
      obtain ⟨a, us, rfl, q, r⟩ := rt rv
      exact ⟨a, rfl, ⟨us, q⟩, k _ H1 e1 (ylds_tup r.len fun Hc o => ⟨ex_t o q, (RDs.ex o (RepAll.nl (L' := LPof F H1 ℓ) _ _ hn r))⟩)⟩
    · cases ey
  · cases e
theorem si_seqF (hK : X.K = F.G.K) (ha : SimQ X F .fs a qa) : SimI X F OkP .fs tg a (iSeq qa) := PIimp (PIor (pi_list ha) (pi_tup ha)) fun σ H Q ⟨env, h, A, z, R, e, k⟩ => by
  obtain ⟨x, ex, ey⟩ := bind_some e
  rw [hK]
  unfold seqOf at ey
  split at ey
  · cases ey
    refine .inl ⟨env, h, A, _, R, ex, fun v H1 e1 rv => ?_⟩
    obtain ⟨a, us, rfl, q, r⟩ := rl rv
    exact ⟨a, rfl, ⟨us, LPof_sq (R.ex e1) q⟩, k _ H1 e1 (ylds_list r.len fun Hc o => ⟨ex_l o (LPof_sq (R.ex e1) q), RDs.ex o r⟩)⟩
  · cases ey
    refine .inr ⟨env, h, A, _, R, ex, fun v H1 e1 rv => ?_⟩
    obtain ⟨a, us, rfl, q, r⟩ := rt rv
    exact ⟨a, rfl, ⟨us, q⟩, k _ H1 e1 (ylds_tup r.len fun Hc o => ⟨ex_t o q, RDs.ex o r⟩)⟩
  · cases ey
/-- within statements: what stays -/
theorem si_seqS (hK : X.K = F.G.K) (ha : SimQ X F .fs a qa) : SimI X F OkS .fs tg a (iSeq qa) := PIimp (PIor (pi_list ha) (pi_tup ha)) fun σ H Q ⟨env, h, A, z, R, e, k⟩ => by
  obtain ⟨x, ex, ey⟩ := bind_some e
  rw [hK]
  unfold seqOf at ey
  split at ey
  · cases ey
    refine .inl ⟨env, h, A, _, R, ex, fun v H1 e1 rv => ?_⟩
    obtain ⟨a, us, rfl, q, r⟩ := rl rv
    exact ⟨a, rfl, ⟨us, LPof_sq (R.ex e1) q⟩, k _ H1 e1 (ylds_list r.len fun Hc ⟨P, _, _, _, _, S⟩ => ⟨LPof_sq (ℓ := .fs) S (Pres.fL P _ _ q), RepAll.mono P.sqT (Pres.fL P) _ _ r⟩)⟩
  · cases ey
    refine .inr ⟨env, h, A, _, R, ex, fun v H1 e1 rv => ?_⟩
    obtain ⟨a, us, rfl, q, r⟩ := rt rv
    exact ⟨a, rfl, ⟨us, q⟩, k _ H1 e1 (ylds_tup r.len fun Hc ⟨P, _⟩ => ⟨P.sqT _ _ q, RepAll.mono P.sqT (Pres.fL P) _ _ r⟩)⟩
  · cases ey
end

/-! ### targets -/
abbrev B1 := PyData → En → Option En
abbrev Bs := List PyData → En → Option En
def tGt (F : Fm) (ss : List Nat) (b : B1) : TG := fun v σ H Q => ∃ env h A d env', SR F env h A σ H ∧ RD F .fs H d v ∧ b d env = some env' ∧
  ∀ σ' H', Ex H H' → SR F env' h A σ' H' → σ'.length = σ.length → (∀ i, i ∉ ss → σ'[i]? = σ[i]?) → Q σ' H'
def tGts (F : Fm) (ss : List Nat) (b : Bs) : TGs := fun vs σ H Q => ∃ env h A ds env', SR F env h A σ H ∧ RDs F .fs H ds vs ∧ b ds env = some env' ∧
  ∀ σ' H', Ex H H' → SR F env' h A σ' H' → σ'.length = σ.length → (∀ i, i ∉ ss → σ'[i]? = σ[i]?) → Q σ' H'
theorem PGimp {X : Cx} {e : Expr} {t t' : TG} (h : PG X e t) (i : ∀ v σ H Q, t' v σ H Q → t v σ H Q) : PG X e t' := ⟨fun pins s σ H v u Q I r q => h.run pins s σ H v u Q I r (i v σ H Q q)⟩
theorem PGsimp {X : Cx} {e : List Expr} {t t' : TGs} (h : PGs X e t) (i : ∀ v σ H Q, t' v σ H Q → t v σ H Q) : PGs X e t' := ⟨fun pins s σ H v u Q I r q => h.run pins s σ H v u Q I r (i v σ H Q q)⟩
def bName (i : Nat) : B1 := fun d env => some (env.set i (.d d))
def bNil : Bs := fun ds env => match ds with
  | [] => some env
  | _ => none
def bCons (b : B1) (r : Bs) : Bs := fun ds env => match ds with
  | d :: ds => (b d env).bind fun env => r ds env
  | [] => none
def bTup (n : Nat) (r : Bs) : B1 := fun d env => match d with
  | .tuple ds => if ds.length = n then r ds env else none
  | _ => none
section
variable {F : Fm} {X : Cx} {tg a b c e : Expr} {es rest : List Expr} {pos p : Pos} {ss ss' : List Nat}
theorem sg_name {i : Nat} {x : Str} (hN : X.N.Nodup) (hi : X.N[i]? = some x) (hx : Loc X.env.scope x) (hf : X.fn x = true ∨ X.env.scope.names.lookup x = some .local := by first | exact .inl rfl | exact .inr rfl | assumption) : PG X (.Name x pos) (tGt F [i] (bName i)) :=
  PGimp (pg_name hN hi hx hf) fun v σ H Q ⟨env, h, A, d, env', R, r, e, k⟩ => by
    cases e
    exact k _ H (Ex.refl H) (R.setV r) (by simp) fun j hj => List.getElem?_set_ne (by simpa using fun e : i = j => hj (by simp [e]))
theorem sgs_nil : PGs X [] (tGts F [] bNil) := PGsimp pgs_nil fun v σ H Q ⟨env, h, A, ds, env', R, r, e, k⟩ => by
  cases ds with
  | nil =>
    cases e
    simp only [RepAll] at r
    exact ⟨r, k σ H (Ex.refl H) R rfl fun _ _ => rfl⟩
  | cons _ _ => cases e
theorem sgs_cons {bn : B1} {bs : Bs} (h1 : PG X e (tGt F ss bn)) (h2 : PGs X es (tGts F ss' bs)) (hs : (assignEach (e :: es) X.env).map (·.2) = assign e X.env :: (assignEach es X.env).map (·.2) := by rfl) : PGs X (e :: es) (tGts F (ss ++ ss') (bCons bn bs)) :=
  PGsimp (pgs_cons h1 h2 hs) fun v σ H Q ⟨env, h, A, ds, env', R, r, e, k⟩ => by
    cases ds with
    | nil => cases e
    | cons d ds =>
      obtain ⟨env1, e1, e2⟩ := bind_some e
      simp only [RepAll] at r
      obtain ⟨w, us, rfl, rw, rus⟩ := r
      refine ⟨w, us, rfl, env, h, A, d, env1, R, rw, e1, fun σ1 H1 x1 R1 l1 s1 => ?_⟩
      refine ⟨env1, h, A, ds, env', R1, RepAll.mono (Ex.pres x1).sqT (Pres.fL (Ex.pres x1)) _ _ rus, e2, fun σ2 H2 x2 R2 l2 s2 => ?_⟩
      exact k σ2 H2 (x1.trans x2) R2 (l2.trans l1) fun i hi => by
        simp only [List.mem_append, not_or] at hi
        exact (s2 i hi.2).trans (s1 i hi.1)
theorem sg_tup {bs : Bs} {n k : Nat} (hK : X.K = F.G.K) (hc : X.calm = true) (h : PGs X es (tGts F ss bs)) (hn : (assignEach es X.env).length = n := by rfl) (hst : (assignEach es X.env).findIdx? (·.1) = none := by rfl) : PG X (.Tuple es k pos) (tGt F ss (bTup n bs)) :=
  PGimp (pg_tup hc h hn hst) fun v σ H Q ⟨env, h, A, d, env', R, r, e, k⟩ => by
    unfold bTup at e
    split at e
    · next ds =>
      split at e
      · next hl =>
        obtain ⟨a, us, rfl, t, rs⟩ := rep_tup r
        exact ⟨a, us, rfl, by rw [hK]; exact t, by rw [rs.len]; exact hl, env, h, A, ds, env', R, rs, e, k⟩
      · cases e
    · cases e
end

/-! ### comprehensions -/
def wipeE (env : En) : List Nat → En
  | [] => env
  | v :: vs => (wipeE env vs).set v .un
theorem SR.wipe {F : Fm} {env : En} {h : Hs} {A : As} {σ : L2.St} {H : Hp} (R : SR F env h A σ H) : ∀ vs : List Nat, SR F (wipeE env vs) h A (L2.wipe σ vs) H
  | [] => R
  | v :: vs => (R.wipe vs).setUn'
theorem wipe_len (σ : L2.St) : ∀ vs : List Nat, (L2.wipe σ vs).length = σ.length := L2.wipe_length σ
theorem wipe_get {σ : L2.St} {i : Nat} : ∀ {vs : List Nat}, i ∈ vs → i < σ.length → (L2.wipe σ vs)[i]? = some none
  | v :: vs, hi, hl => by
    show ((L2.wipe σ vs).set v none)[i]? = some none
    by_cases e : v = i
    · subst e; rw [List.getElem?_set_self (by rw [wipe_len]; exact hl)]
    · rw [List.getElem?_set_ne e]
      refine wipe_get ?_ hl
      rcases List.mem_cons.mp hi with z | z
      · exact absurd z.symm e
      · exact z
theorem wipe_not {σ : L2.St} {i : Nat} : ∀ {vs : List Nat}, i ∉ vs → (L2.wipe σ vs)[i]? = σ[i]?
  | [], _ => rfl
  | v :: vs, hi => by
    simp only [List.mem_cons, not_or] at hi
    show ((L2.wipe σ vs).set v none)[i]? = _
    rw [List.getElem?_set_ne (Ne.symm hi.1)]
    exact wipe_not hi.2
theorem wipe_eq {σ σ' : L2.St} {vs ss : List Nat} (hl : σ'.length = σ.length) (hs : ∀ i, i ∉ ss → σ'[i]? = σ[i]?) (hv : ∀ i, i ∈ ss → i ∈ vs) : L2.wipe σ' vs = L2.wipe σ vs := by
  apply List.ext_getElem?
  intro i
  by_cases hi : i ∈ vs
  · by_cases hlt : i < σ.length
    · rw [wipe_get hi hlt, wipe_get hi (by omega)]
    · rw [List.getElem?_eq_none (by rw [wipe_len]; omega), List.getElem?_eq_none (by rw [wipe_len]; omega)]
  · rw [wipe_not hi, wipe_not hi]
    exact hs i fun z => hi (hv i z)
def lcGo (step : PyData → Option (Option PyData)) : List PyData → Option (List PyData)
  | [] => some []
  | x :: xs => (step x).bind fun o => (lcGo step xs).bind fun r => some (match o with
    | some y => y :: r
    | none => r)
theorem lcGo_app {step : PyData → Option (Option PyData)} : ∀ {xs ys : List PyData} {r : List PyData}, lcGo step (xs ++ ys) = some r → ∃ a b, lcGo step xs = some a ∧ lcGo step ys = some b ∧ r = a ++ b
  | [], ys, r, e => ⟨[], r, rfl, e, rfl⟩
  | x :: xs, ys, r, e => by
    obtain ⟨o, eo, e⟩ := bind_some e
    obtain ⟨q, eq, e⟩ := bind_some e
    obtain ⟨a, b, ea, eb, rfl⟩ := lcGo_app eq
    cases e
    refine ⟨_, b, by rw [lcGo, eo, Option.bind_some, ea, Option.bind_some], eb, ?_⟩
    cases o <;> rfl
def lcStep (vs : List Nat) (bn : B1) (tt : T1) (te : Q1) (env : En) (h : Hs) (d : PyData) : Option (Option PyData) :=
  (bn d (wipeE env vs)).bind fun env1 => (tt env1 h).bind fun b => if b = true then (te env1 h).bind fun y => (dOf y).bind fun y => some (some y) else some none
def fLc (it : I1) (vs : List Nat) (bn : B1) (tt : T1) (te : Q1) : En → Hs → Option (List PyData) := fun env h => (it env h).bind fun xs =>
  (lcGo (lcStep vs bn tt te env h) xs).bind fun ys => if ys.length ≤ sizeLine then some ys else none
def tTrue : T1 := fun _ _ => some true
section
variable {F : Fm} {X : Cx} {tg iter elt : Expr} {ifs : List Expr} {pos : Pos} {ss : List Nat} {scope : Scope} {own : List (Str × Nat)} {it : I1} {bn : B1} {tt : T1} {te : Q1}
theorem lc_read {σ : L2.St} {H : Hp} {Q : VK} {vs : List Nat} (hv : ∀ i, i ∈ ss → i ∈ vs) (hq : tF F (fLc it vs bn tt te) σ H Q) : tLc (tI F OkP .fs it) (tGt F ss bn) (tT F tt) (tQ F .st te) vs σ H Q := by
  obtain ⟨env, h, A, ys, R, e, k⟩ := hq
  obtain ⟨xs, ex, e⟩ := bind_some e
  obtain ⟨zs, ez, e⟩ := bind_some e
  split at e
  · next hl =>
    cases e
    refine ⟨env, h, A, xs, R, ex, fun J H1 e1 Y D hD => ?_⟩
    have nD : ∀ Hc, Ex H1 Hc → ∀ us, Hc D = some (.lst us) → Ex H Hc := fun Hc z _ _ => e1.trans z
    refine ⟨fun i m Hc => m = xs.length - i ∧ i ≤ xs.length ∧ Ex H1 Hc ∧ ∃ acc us, lcGo (lcStep vs bn tt te env h) (xs.take i) = some acc ∧ Hc D = some (.lst us) ∧ RDs F .st Hc acc us,
      ⟨xs.length, by simp, Nat.zero_le _, Ex.new hD, [], [], rfl, upd_same, .nil⟩, ?_⟩
    rintro i m Hc ⟨rfl, hi, z, acc, us, ea, hu, ru⟩
    by_cases hlt : i < xs.length
    · refine .inr ⟨Y.go Hc i z hlt, fun H' => i + 1 ≤ xs.length ∧ Ex H1 H' ∧ ∃ acc us, lcGo (lcStep vs bn tt te env h) (xs.take (i + 1)) = some acc ∧ H' D = some (.lst us) ∧ RDs F .st H' acc us,
        fun H' ⟨h1, h2, h3⟩ => ⟨xs.length - (i + 1), by omega, rfl, h1, h2, h3⟩, fun x Hn hy => ?_⟩
      obtain ⟨zn, rx⟩ := Y.yl Hc i x Hn _ z (List.getElem?_eq_getElem hlt) hy
      -- the turn's own step
      have esp : xs = xs.take i ++ xs[i] :: xs.drop (i + 1) := by rw [← List.drop_eq_getElem_cons hlt, List.take_append_drop]
      have es : lcGo (lcStep vs bn tt te env h) (xs.take i ++ xs[i] :: xs.drop (i + 1)) = some ys := by rw [← esp]; exact ez
      obtain ⟨a', b', ha', hb', hab⟩ := lcGo_app es
      rw [ea] at ha'; cases ha'
      obtain ⟨o, eo, hb'⟩ := bind_some hb'
      obtain ⟨env1, eb, eo'⟩ := bind_some eo
      obtain ⟨c, ec, eo'⟩ := bind_some eo'
      have et : lcGo (lcStep vs bn tt te env h) (xs.take (i + 1)) = some (acc ++ (match o with | some y => [y] | none => [])) := by
        rw [List.take_add_one, List.getElem?_eq_getElem hlt]
        have : ∀ l : List PyData, lcGo (lcStep vs bn tt te env h) l = some acc → lcGo (lcStep vs bn tt te env h) (l ++ [xs[i]]) = some (acc ++ (match o with | some y => [y] | none => [])) := by
          intro l
          generalize acc = ac
          induction l generalizing ac with
          | nil =>
            intro q
            cases q
            show lcGo _ [xs[i]] = _
            simp only [lcGo, eo, Option.bind_some]
            cases o <;> rfl
          | cons y l ih =>
            intro q
            obtain ⟨o1, q1, q⟩ := bind_some q
            obtain ⟨r1, q2, q⟩ := bind_some q
            cases q
            show lcGo _ (y :: (l ++ [xs[i]])) = _
            simp only [lcGo, q1, Option.bind_some, ih r1 q2]
            cases o1 <;> rfl
        exact this _ ea
      have S0 : SR F (wipeE env vs) h A (L2.wipe σ vs) Hn := ((R.ex e1).ex (z.trans zn)).wipe vs
      refine ⟨_, h, A, xs[i], env1, S0, rx, eb, fun σ2 H2 x2 R2 l2 s2 => ⟨?_, env1, h, A, c, R2, ec, fun H3 x3 => ?_⟩⟩
      · rw [wipe_eq (σ := L2.wipe σ vs) l2 s2 hv]
        exact wipe_eq (ss := vs) (wipe_len _ _) (fun i hi => wipe_not hi) fun _ z => z
      · have zt : Ex Hc H3 := (zn.trans x2).trans x3
        cases c with
        | false =>
          cases eo'
          refine ⟨hlt, z.trans zt, acc, us, by rw [et]; simp, zt D _ hu, RDs.ex zt ru⟩
        | true =>
          obtain ⟨y, ey, eo'⟩ := bind_some eo'
          obtain ⟨y', ey', eo'⟩ := bind_some eo'
          cases eo'
          refine ⟨env1, h, A, y, R2.ex x3, ey, fun v H4 x4 rv => ⟨us, (zt.trans x4) D _ hu, ?_, hlt, Ex.mut (z.trans (zt.trans x4)) hD, _, us ++ [v], et, upd_same, ?_⟩⟩
          · rw [ru.len]
            have : (acc ++ [y']).length ≤ ys.length := by
              rw [hab]
              obtain ⟨r2, q2, q3⟩ := bind_some hb'
              cases q3
              simp
            have hh : acc.length + 1 ≤ ys.length := by simpa using this
            omega
          · have P : Pres H4 (upd H4 D (.lst (us ++ [v]))) := Pres.upd fun u eu => by
              rw [(zt.trans x4) D _ hu] at eu; cases eu
              exact ⟨fun _ q => (by cases q), fun _ _ q => (by cases q)⟩
            refine RepAll.append (RepAll.mono P.sqT P.sL _ _ (RDs.ex (zt.trans x4) ru)) (.cons ?_ .nil)
            cases y with
            | d yy => cases ey'; exact Rep.mono P.sqT P.sL _ _ rv
            | ref n => cases ey'
            | fn n => cases ey'
    · have e0 : i = xs.length := by omega
      subst e0
      rw [List.take_length, ez] at ea
      cases ea
      exact .inl ⟨Y.st Hc _ z (Nat.le_refl _), k D us Hc (fresh_back e1 hD) (e1.trans z) hu ru⟩
  · cases e
theorem sf_lc (hc : X.calm = true) (hN : X.N.Nodup) (hi : SimI X F OkP .fs tg iter it) (ok : blkC X.N X.env.scope scope own = true) (hv : (ss.all fun i => (own.map (·.2)).contains i) = true)
    (hg : ∀ (s : Shared) (H : Hp) (C : Addr) (cl : List (Str × Addr)) (fp : List Addr), PG (X.blk s H scope (compEnvC scope cl C X.env) fp) tg (tGt F ss bn)) (ht : ∀ (s : Shared) (H : Hp) (C : Addr) (cl : List (Str × Addr)) (fp : List Addr), PTs (X.blk s H scope (compEnvC scope cl C X.env) fp) ifs (tT F tt))
    (he : ∀ (s : Shared) (H : Hp) (C : Addr) (cl : List (Str × Addr)) (fp : List Addr), SimQ (X.blk s H scope (compEnvC scope cl C X.env) fp) F .st elt te) (hs : ∀ x, foldedSetIterable iter X.env x = pure x := by intro _; rfl) :
    SimF X F (.ListComp elt [⟨tg, iter, ifs, 0⟩] scope pos) (fLc it (own.map (·.2)) bn tt te) :=
  PEimp (pe_lc hc hN hi (blkOk_by ok) hg ht he hs) fun _ _ _ => lc_read fun i hi => by
    have := List.all_eq_true.mp hv i hi
    simpa using this
theorem sts_nil : PTs X [] (tT F tTrue) := ⟨fun pins s σ H Q I ⟨env, h, A, b, R, e, k⟩ => by
  cases e
  exact pts_nil.run pins s σ H Q I (k H (Ex.refl H))⟩
theorem sts_one {c : Expr} (h : SimT X F c tt) : PTs X [c] (tT F tt) := pts_one h
end
end Sm

set_option Elab.async false
set_option linter.all false
set_option maxRecDepth 100000
set_option maxHeartbeats 1000000
namespace Sm
open PySem L2 Evl

/-! ### a new list locked -/
section
variable {X : Cx} {pins : List (Addr × Obj)} {σ : L2.St} {H : Hp} {s : Shared} {a : Addr} {us : List V}
theorem froze (I : Inv X pins σ H s) (ha : H a = some (.lst us)) : ∃ o, Inv X pins σ (upd H a (.frz o (.lst us))) s := by
  obtain ⟨z, its, n, r, e⟩ := I.hok a _ ha
  refine ⟨{ cls := .type "list", data := .seq its.toArray n }, ?_⟩
  have ne : ∀ b u, H b = some u → u ≠ .lst us → b ≠ a := fun b u q w z => by rw [z, ha] at q; cases q; exact w rfl
  have kp : ∀ b u, H b = some u → u ≠ .lst us → (upd H a (.frz { cls := .type "list", data := .seq its.toArray n } (.lst us))) b = some u := fun b u q w => by rw [upd_ne (ne b u q w)]; exact q
  refine I.step (g' := s.gens) (d' := s.drawn) (t' := s.toks) (h' := s.heap) (ch := []) (fun _ z => nomatch z) (fun b o _ _ _ e _ => e) (fun b o _ _ _ e _ => ⟨o.slots, e⟩) (fun b o _ _ q => ?_) (fun b o _ e => ⟨o, e⟩) (fun b xs q => kp b _ q (by simp)) (fun b o u q => kp b _ q (by simp)) (fun b ps q => ⟨#[], by rw [kp b _ q (by simp)]; simp⟩) (fun m z => z) ?_ I.bare
  · rw [upd_ne (fun z => by rw [z, ha] at q; cases q)]; exact q
  · intro b u q
    by_cases hb : b = a
    · subst hb
      rw [upd_same] at q; cases q
      exact ⟨e, z, its, n, r, e⟩
    · rw [upd_ne hb] at q
      exact (I.hok b u q).stay (fun c v _ q => q) (fun c q => kp c _ q (by simp)) (fun c xs q => kp c _ q (by simp))
end
theorem pe_lock {X : Cx} {e : Expr} {t : TE} (h : PE X e t) : PE X e (fun σ H Q => t σ H fun v H1 => ∃ a us, v = .ref a ∧ H1 a = some (.lst us) ∧ ∀ o, Q v (upd H1 a (.frz o (.lst us)))) := ⟨fun pins s σ H Q I q => by
  refine thn (h.run pins s σ H _ I q) fun v s1 ⟨x, H1, I1, r, a, us, e1, e2, k⟩ => ?_
  obtain ⟨o, I2⟩ := froze I1 e2
  exact ⟨x, _, I2, r, k o⟩⟩
/-- a new list, for ever -/
theorem sq_lock {F : Fm} {X : Cx} {e : Expr} {f : En → Hs → Option (List PyData)} (hf : SimF X F e f) : SimQ X F .st e (qF f) := PEimp (pe_lock hf) fun σ H Q ⟨env, h, A, z, R, e, k⟩ => by
  obtain ⟨xs, ex, e⟩ := bind_some e
  cases e
  refine ⟨env, h, A, xs, R, ex, fun p us H1 hp e1 hv rs => ⟨p, us, rfl, hv, fun o => k _ _ (fun b u q => ?_) ?_⟩⟩
  · rw [upd_ne (ne_of_none q hp)]; exact e1 b u q
  · have P : Pres H1 (upd H1 p (.frz o (.lst us))) := Pres.upd fun u eu => by
      rw [hv] at eu; cases eu
      exact ⟨fun _ q => (by cases q), fun _ _ q => (by cases q)⟩
    exact vl (ℓ := .st) (.inl ⟨o, upd_same⟩) (RepAll.mono P.sqT P.sL _ _ rs)

/-! ### statements -/
inductive Flo where
  | nx | rt (ℓ : Lv) (x : Val) | rf (xs : List PyData) | bk | ct | ex (j : Nat) (n : Int)
abbrev M1 := En → Hs → Option (Flo × En × Hs)
/-- what is wanted behind, by the way it ends -/
def Post (F : Fm) (H : Hp) (D : Ends) (r : Flo) (env' : En) (h' : Hs) : Prop := match r with
  | .nx => ∀ σ' H' A', SR F env' h' A' σ' H' → Pres H H' → D.nx σ' H'
  | .bk => ∀ σ' H' A', SR F env' h' A' σ' H' → Pres H H' → D.bk σ' H'
  | .ct => ∀ σ' H' A', SR F env' h' A' σ' H' → Pres H H' → D.ct σ' H'
  | .rt ℓ x => ∀ σ' H' A' v, SR F env' h' A' σ' H' → Pres H H' → RV F ℓ h' A' H' x v → D.rt v H'
  | .rf xs => ∀ σ' H' A' p us, SR F env' h' A' σ' H' → Pres H H' → F.H0 p = none → H' p = some (.lst us) → (∀ q, hlive h' q → A' q ≠ p) → RDs F .st H' xs us → D.rt (.ref p) H'
  | .ex j n => ∀ σ' H' A' d, SR F env' h' A' σ' H' → Pres H H' → H' d = some (.xd [(("place" : Str), V.int n)]) → F.wx (.ref (F.xc j)) (some d) σ' H'
def tS (F : Fm) (m : M1) : TS := fun D σ H => ∃ env h A r env' h', SR F env h A σ H ∧ m env h = some (r, env', h') ∧ Post F H D r env' h'
theorem Post.pre {F : Fm} {H H1 : Hp} {D : Ends} {r : Flo} {env' : En} {h' : Hs} (P : Pres H H1) (q : Post F H D r env' h') : Post F H1 D r env' h' := by
  cases r with
  | nx => exact fun σ' H' A' R p => q σ' H' A' R (P.trans p)
  | bk => exact fun σ' H' A' R p => q σ' H' A' R (P.trans p)
  | ct => exact fun σ' H' A' R p => q σ' H' A' R (P.trans p)
  | rt ℓ x => exact fun σ' H' A' v R p => q σ' H' A' v R (P.trans p)
  | rf xs => exact fun σ' H' A' p us R pp => q σ' H' A' p us R (P.trans pp)
  | ex j n => exact fun σ' H' A' d R pp => q σ' H' A' d R (P.trans pp)
/-- only what follows differs -/
theorem Post.ends {F : Fm} {H : Hp} {D D' : Ends} {r : Flo} {env' : En} {h' : Hs} (q : Post F H D r env' h') (hn : r = .nx → ∀ σ' H' A', SR F env' h' A' σ' H' → Pres H H' → D'.nx σ' H') (hb : r = .bk → ∀ σ' H' A', SR F env' h' A' σ' H' → Pres H H' → D'.bk σ' H')
    (hc : r = .ct → ∀ σ' H' A', SR F env' h' A' σ' H' → Pres H H' → D'.ct σ' H') (hr : D'.rt = D.rt) : Post F H D' r env' h' := by
  cases r with
  | nx => exact hn rfl
  | bk => exact hb rfl
  | ct => exact hc rfl
  | rt ℓ x => exact fun σ' H' A' v R p z => by rw [hr]; exact q σ' H' A' v R p z
  | rf xs => exact fun σ' H' A' p us R pp z1 z2 z3 z4 => by rw [hr]; exact q σ' H' A' p us R pp z1 z2 z3 z4
  | ex j n => exact q
theorem PSimp {X : Cx} {st : Stmt} {t t' : TS} (h : PS X st t) (i : ∀ D σ H, t' D σ H → t D σ H) : PS X st t' := ⟨fun pins s σ H D I q => h.run pins s σ H D I (i D σ H q)⟩
theorem PSsimp {X : Cx} {st : List Stmt} {t t' : TS} (h : PSs X st t) (i : ∀ D σ H, t' D σ H → t D σ H) : PSs X st t' := ⟨fun pins s σ H D I q => h.run pins s σ H D I (i D σ H q)⟩
abbrev SimS (X : Cx) (F : Fm) (st : Stmt) (m : M1) : Prop := PS X st (tS F m)
abbrev SimB (X : Cx) (F : Fm) (sts : List Stmt) (m : M1) : Prop := PSs X sts (tS F m)
def mNx : M1 := fun env h => some (.nx, env, h)
def mSeq (a b : M1) : M1 := fun env h => (a env h).bind fun r => match r.1 with
  | .nx => b r.2.1 r.2.2
  | _ => some r
def mRet (ℓ : Lv) (q : Q1) : M1 := fun env h => (q env h).bind fun x => some (.rt ℓ x, env, h)
def mRetF (f : I1) : M1 := fun env h => (f env h).bind fun x => some (.rf x, env, h)
def mRetN : M1 := fun env h => some (.rt .st (.d .none), env, h)
def mRetO (i : Nat) : M1 := fun env h => match env[i]? with
  | some (.l xs) => some (.rf xs, env, h)
  | _ => none
def mIf (t : T1) (a b : M1) : M1 := fun env h => (t env h).bind fun c => if c = true then a env h else b env h
def mSet (i : Nat) (q : Q1) : M1 := fun env h => (q env h).bind fun x => some (.nx, env.set i (.v x), h)
def mSetO (i : Nat) (f : I1) : M1 := fun env h => (f env h).bind fun xs => some (.nx, env.set i (.l xs), h)
def mBk : M1 := fun env h => some (.bk, env, h)
def mCt : M1 := fun env h => some (.ct, env, h)
/-- forget, then go on -/
def mPre (vs : List Nat) (m : M1) : M1 := fun env h => m (wipeE env vs) h
/-- a slot's own list locked, then go on -/
def mLock (i : Nat) (m : M1) : M1 := fun env h => match env[i]? with
  | some (.l xs) => m (env.set i (.d (.list xs))) h
  | _ => none
section
variable {F : Fm} {X : Cx} {st : Stmt} {sts rest : List Stmt} {e c : Expr} {pos : Pos} {m n : M1} {ℓ : Lv} {q : Q1} {f : I1} {t : T1}
theorem sb_nil : SimB X F [] mNx := PSsimp pss_nil fun D σ H ⟨env, h, A, r, env', h', R, e, k⟩ => by
  cases e
  exact k σ H A R (Pres.refl H)
theorem sb_cons (h1 : SimS X F st m) (h2 : SimB X F rest n) : SimB X F (st :: rest) (mSeq m n) := PSsimp (pss_cons h1 h2) fun D σ H ⟨env, h, A, r, env', h', R, e, k⟩ => by
  obtain ⟨⟨r1, env1, h1⟩, e1, e2⟩ := bind_some e
  refine ⟨env, h, A, r1, env1, h1, R, e1, ?_⟩
  cases r1 with
  | nx => exact fun σ' H' A' R' P => ⟨env1, h1, A', r, env', h', R', e2, k.pre P⟩
  | bk => cases e2; exact k
  | ct => cases e2; exact k
  | rt ℓ x => cases e2; exact k
  | rf xs => cases e2; exact k
  | ex _ _ => cases e2; exact k
theorem sb_one (h1 : SimS X F st m) : SimB X F [st] m := pss_one h1
theorem ss_ret (he : SimQ X F ℓ e q) : SimS X F (.Return (some e) pos) (mRet ℓ q) := PSimp (ps_ret he) fun D σ H ⟨env, h, A, r, env', h', R, e, k⟩ => by
  obtain ⟨x, ex, e⟩ := bind_some e
  cases e
  exact ⟨env, h, A, x, R, ex, fun v H1 e1 rv => k σ H1 A v (R.ex e1) (Ex.pres e1) rv⟩
theorem ss_retF (he : SimF X F e f) : SimS X F (.Return (some e) pos) (mRetF f) := PSimp (ps_ret he) fun D σ H ⟨env, h, A, r, env', h', R, e, k⟩ => by
  obtain ⟨x, ex, e⟩ := bind_some e
  cases e
  exact ⟨env, h, A, x, R, ex, fun p us H1 hp e1 hv rs => k σ H1 A p us (R.ex e1) (Ex.pres e1) (R.fresh hp).f0 hv (fun q hq => (R.fresh hp).fp q hq.live) rs⟩
theorem ss_retN : SimS X F (.Return none pos) mRetN := PSimp ps_retN fun D σ H ⟨env, h, A, r, env', h', R, e, k⟩ => by
  cases e
  exact k σ H A _ R (Pres.refl H) vn
theorem ss_retO (i : Nat) {x : Str} {p2 : Pos} (hN : X.N[i]? = some x := by rfl) (hv : Vis X.env.scope x := by first | exact Or.inl rfl | exact Or.inr (Or.inl rfl) | exact Or.inr (Or.inr rfl)) (hd : (x == ("__debug__" : Str)) = false := by decide)
    (hcd : (x == ("__classdict__" : Str)) = false := by decide) : SimS X F (.Return (some (.Name x p2)) pos) (mRetO i) := PSimp (ps_ret (pe_var hN hv hd hcd)) fun D σ H ⟨env, h, A, r, env', h', R, e, k⟩ => by
  unfold mRetO at e
  split at e
  · next xs hy =>
    cases e
    obtain ⟨e1, us, e2, rs⟩ := R.sl i _ hy
    have lv : live env h (.s i) := ⟨_, hy, rfl⟩
    refine ⟨.ref (A (.s i)), ?_, k σ H A _ us R (Pres.refl H) (R.ow i lv) e2 (fun q hq z => ?_) rs⟩
    · cases hs : σ[i]? with
      | none => rw [hs] at e1; cases e1
      | some o => rw [hs] at e1; exact congrArg some e1
    · have := R.ij _ _ hq.live lv z
      subst this
      exact hq
  · cases e
theorem ss_if {a b : List Stmt} {ma mb : M1} (hc : SimT X F c t) (ha : SimB X F a ma) (hb : SimB X F b mb) : SimS X F (.If c a b pos) (mIf t ma mb) := PSimp (ps_if hc ha hb) fun D σ H ⟨env, h, A, r, env', h', R, e, k⟩ => by
  obtain ⟨d, ed, e⟩ := bind_some e
  refine ⟨env, h, A, d, R, ed, fun H1 e1 => ?_⟩
  cases d with
  | true => exact ⟨env, h, A, r, env', h', R.ex e1, e, k.pre (Ex.pres e1)⟩
  | false => exact ⟨env, h, A, r, env', h', R.ex e1, e, k.pre (Ex.pres e1)⟩
theorem ss_set {i : Nat} {x : Str} {p2 : Pos} (hN : X.N.Nodup) (hi : X.N[i]? = some x) (hx : Loc X.env.scope x) (he : SimQ X F .fs e q) (hs : swapsWith e (some (.Name x p2)) pos.line X.env = pure false := by rfl) (hf : X.fn x = true ∨ X.env.scope.names.lookup x = some .local := by first | exact .inl rfl | exact .inr rfl | assumption) :
    SimS X F (.Assign [.Name x p2] e pos) (mSet i q) := PSimp (ps_set hN hi hx he hs hf) fun D σ H ⟨env, h, A, r, env', h', R, e, k⟩ => by
  obtain ⟨x, ex, e⟩ := bind_some e
  cases e
  exact ⟨env, h, A, x, R, ex, fun v H1 e1 rv => k _ H1 A ((R.ex e1).setV rv) (Ex.pres e1)⟩
theorem SR.own {env : En} {h : Hs} {A : As} {σ : L2.St} {H H1 : Hp} {i : Nat} {xs : List PyData} {p : Addr} {us : List V} (R : SR F env h A σ H) (hp : H p = none) (e1 : Ex H H1) (hv : H1 p = some (.lst us)) (rs : RDs F .st H1 xs us) :
    SR F (env.set i (.l xs)) h (As.put A (.s i) p) (σ.set i (some (.ref p))) H1 :=
  (R.ex e1).setNew ⟨(R.fresh hp).f0, (R.fresh hp).fp⟩ rfl ⟨rfl, us, hv, rs⟩
theorem ss_setO {i : Nat} {x : Str} {p2 : Pos} (hN : X.N.Nodup) (hi : X.N[i]? = some x) (hx : Loc X.env.scope x) (he : SimF X F e f) (hs : swapsWith e (some (.Name x p2)) pos.line X.env = pure false := by rfl) (hf : X.fn x = true ∨ X.env.scope.names.lookup x = some .local := by first | exact .inl rfl | exact .inr rfl | assumption) :
    SimS X F (.Assign [.Name x p2] e pos) (mSetO i f) := PSimp (ps_set hN hi hx he hs hf) fun D σ H ⟨env, h, A, r, env', h', R, e, k⟩ => by
  obtain ⟨x, ex, e⟩ := bind_some e
  cases e
  exact ⟨env, h, A, x, R, ex, fun p us H1 hp e1 hv rs => k _ H1 _ (R.own hp e1 hv rs) (Ex.pres e1)⟩
theorem ss_break : SimS X F (.Break pos) mBk := PSimp ps_break fun D σ H ⟨env, h, A, r, env', h', R, e, k⟩ => by
  cases e
  exact k σ H A R (Pres.refl H)
theorem ss_continue : SimS X F (.Continue pos) mCt := PSimp ps_continue fun D σ H ⟨env, h, A, r, env', h', R, e, k⟩ => by
  cases e
  exact k σ H A R (Pres.refl H)
theorem ss_pass : SimS X F (.Pass pos) mNx := PSimp ps_pass fun D σ H ⟨env, h, A, r, env', h', R, e, k⟩ => by
  cases e
  exact k σ H A R (Pres.refl H)
theorem SR.wipeS {env : En} {h : Hs} {A : As} {σ : L2.St} {H : Hp} (R : SR F env h A σ H) : ∀ vs : List Nat, SR F (wipeE env vs) h A σ H
  | [] => R
  | v :: vs => (R.wipeS vs).setUn
theorem sb_pre (vs : List Nat) (h1 : SimB X F sts m) : SimB X F sts (mPre vs m) := PSsimp h1 fun D σ H ⟨env, h, A, r, env', h', R, e, k⟩ => ⟨_, h, A, r, env', h', R.wipeS vs, e, k⟩
theorem sb_lock (i : Nat) (h1 : SimB X F sts m) : SimB X F sts (mLock i m) := ⟨fun pins s σ H D I ⟨env, h, A, r, env', h', R, e, k⟩ => by
  unfold mLock at e
  split at e
  · next xs hy =>
    obtain ⟨e1, us, e2, rs⟩ := R.sl i _ hy
    obtain ⟨o, I2⟩ := froze I e2
    have P : Pres H (upd H (A (.s i)) (.frz o (.lst us))) := R.pres_at ⟨_, hy, rfl⟩
    exact h1.run pins s σ _ D I2 ⟨_, h, A, r, env', h', R.lockS hy e2, e, k.pre P⟩
  · cases e⟩
/-- targets -/
def mAsg (q : Q1) (b : B1) : M1 := fun env h => (q env h).bind fun x => (dOf x).bind fun d => (b d env).bind fun env' => some (.nx, env', h)
theorem ss_asg {tg : Expr} {ss : List Nat} {b : B1} (he : SimQ X F .fs e q) (hg : PG X tg (tGt F ss b)) (hs : swapsWithSole [tg] e pos.line X.env = pure false := by rfl) (hw : swappedStores [tg] e X.env = pure none := by rfl)
    (h1 : (assignEach [tg] X.env).map (·.2) = [assign tg X.env] := by rfl) : SimS X F (.Assign [tg] e pos) (mAsg q b) := PSimp (ps_asg he hg hs hw h1) fun D σ H ⟨env, h, A, r, env', h', R, e, k⟩ => by
  obtain ⟨x, ex, e⟩ := bind_some e
  obtain ⟨d, ed, e⟩ := bind_some e
  obtain ⟨env1, eb, e⟩ := bind_some e
  cases e
  refine ⟨env, h, A, x, R, ex, fun v H1 e1 rv => ⟨env, h, A, d, _, R.ex e1, ?_, eb, fun σ' H' x1 R1 _ _ => k σ' H' A R1 ((Ex.pres e1).trans (Ex.pres x1))⟩⟩
  cases x with
  | d y => cases ed; exact rv
  | ref n => cases ed
  | fn n => cases ed

/-! ### for, while -/
def forGo (vs : List Nat) (body : PyData → M1) : List PyData → M1
  | [], env, h => some (.nx, env, h)
  | x :: xs, env, h => (body x env h).bind fun r => match r.1 with
    | .nx => forGo vs body xs (wipeE r.2.1 vs) r.2.2
    | .ct => forGo vs body xs (wipeE r.2.1 vs) r.2.2
    | .bk => some (.nx, wipeE r.2.1 vs, r.2.2)
    | _ => some r
def mFor (it : I1) (vs : List Nat) (bn : B1) (body : M1) : M1 := fun env h => (it env h).bind fun xs => forGo vs (fun d env h => (bn d env).bind fun env1 => body env1 h) xs (wipeE env vs) h
theorem ss_for {tg iter : Expr} {body : List Stmt} {it : I1} {bn : B1} {ss : List Nat} {mb : M1} (vs : List Nat) (hp : PassesOwn (model X.prog X.w) X.A X.env X.xe) (hc : X.calm = true) (hi : SimI X F OkS .fs tg iter it) (hg : PG X tg (tGt F ss bn)) (hb : SimB X F body mb)
    (hs : ∀ x, foldedSetIterable iter X.env x = pure x := by intro _; rfl) : SimS X F (.For tg iter body [] pos) (mFor it vs bn mb) := PSimp (ps_for hp hc hi hg hb hs) fun D σ H ⟨env, h, A, r, env', h', R, e, k⟩ => by
  obtain ⟨xs, ex, e⟩ := bind_some e
  refine ⟨env, h, A, xs, R, ex, fun J H1 e1 Y => ?_⟩
  have k1 : Post F H1 D r env' h' := k.pre (Ex.pres e1)
  refine ⟨fun i m σ Hc => m = xs.length - i ∧ i ≤ xs.length ∧ Pres H1 Hc ∧ ∃ env h A, SR F env h A σ Hc ∧ forGo vs (fun d env h => (bn d env).bind fun env1 => mb env1 h) (xs.drop i) env h = some (r, env', h'),
    ⟨xs.length, by simp, Nat.zero_le _, Pres.refl _, _, h, A, (R.ex e1).wipeS vs, by simpa using e⟩, ?_⟩
  rintro i m σ Hc ⟨rfl, hi, P, env2, h2, A2, R2, e2⟩
  have ok : OkS F H1 Hc := ⟨P, env2, h2, A2, σ, R2⟩
  by_cases hlt : i < xs.length
  · rw [List.drop_eq_getElem_cons hlt] at e2
    obtain ⟨⟨r3, env3, h3⟩, e3, e4⟩ := bind_some e2
    obtain ⟨env4, e5, e6⟩ := bind_some e3
    refine .inr ⟨Y.go Hc i ok hlt, fun σ' H' => i + 1 ≤ xs.length ∧ Pres H1 H' ∧ ∃ env h A, SR F env h A σ' H' ∧ forGo vs (fun d env h => (bn d env).bind fun env1 => mb env1 h) (xs.drop (i + 1)) env h = some (r, env', h'),
      fun σ' H' ⟨a, b, c⟩ => ⟨xs.length - (i + 1), by omega, rfl, a, b, c⟩, fun x Hn hy => ?_⟩
    obtain ⟨zn, rx⟩ := Y.yl Hc i x Hn _ ok (List.getElem?_eq_getElem hlt) hy
    refine ⟨env2, h2, A2, xs[i], env4, R2.ex zn, rx, e5, fun σ5 H5 x5 R5 _ _ => ⟨env4, h2, A2, r3, env3, h3, R5, e6, ?_⟩⟩
    have P5 : Pres H1 H5 := (P.trans (Ex.pres zn)).trans (Ex.pres x5)
    cases r3 with
    | nx => exact fun σ' H' A' R' P' => ⟨hlt, P5.trans P', _, h3, A', R'.wipeS vs, e4⟩
    | ct => exact fun σ' H' A' R' P' => ⟨hlt, P5.trans P', _, h3, A', R'.wipeS vs, e4⟩
    | bk => cases e4; exact fun σ' H' A' R' P' => k1 σ' H' A' (R'.wipeS vs) (P5.trans P')
    | rt ℓ x => cases e4; exact k1.pre P5
    | rf xs => cases e4; exact k1.pre P5
    | ex _ _ => cases e4; exact k1.pre P5
  · have e0 : i = xs.length := by omega
    subst e0
    rw [List.drop_length] at e2
    cases e2
    exact .inl ⟨Y.st Hc _ ok (Nat.le_refl _), k1 σ Hc A2 R2 P⟩
def whGo (vs : List Nat) (t : T1) (body : M1) : Nat → M1
  | 0, _, _ => none
  | n + 1, env, h => (t env h).bind fun b => if b = true then (body env h).bind fun r => match r.1 with
      | .nx => whGo vs t body n (wipeE r.2.1 vs) r.2.2
      | .ct => whGo vs t body n (wipeE r.2.1 vs) r.2.2
      | .bk => some (.nx, wipeE r.2.1 vs, r.2.2)
      | _ => some r
    else some (.nx, env, h)
def mWhile (fuel : Nat) (vs : List Nat) (t : T1) (body : M1) : M1 := fun env h => whGo vs t body fuel (wipeE env vs) h
theorem ss_while {body : List Stmt} {mb : M1} (fuel : Nat) (vs : List Nat) (hp : PassesOwn (model X.prog X.w) X.A X.env X.xe) (hc : SimT X F c t) (hb : SimB X F body mb) : SimS X F (.While c body [] pos) (mWhile fuel vs t mb) := PSimp (ps_while hp hc hb) fun D σ H ⟨env, h, A, r, env', h', R, e, k⟩ => by
  refine ⟨fun m σ Hc => Pres H Hc ∧ ∃ env h A, SR F env h A σ Hc ∧ whGo vs t mb m env h = some (r, env', h'), ⟨fuel, Pres.refl _, _, h, A, R.wipeS vs, e⟩, ?_⟩
  rintro m σ Hc ⟨P, env2, h2, A2, R2, e2⟩
  cases m with
  | zero => cases e2
  | succ m =>
    obtain ⟨b, eb, e2⟩ := bind_some e2
    refine ⟨env2, h2, A2, b, R2, eb, fun H1 e1 => ?_⟩
    cases b with
    | false => cases e2; exact k σ H1 A2 (R2.ex e1) (P.trans (Ex.pres e1))
    | true =>
      obtain ⟨⟨r3, env3, h3⟩, e3, e4⟩ := bind_some e2
      refine ⟨fun σ' H' => Pres H H' ∧ ∃ env h A, SR F env h A σ' H' ∧ whGo vs t mb m env h = some (r, env', h'), fun σ' H' z => ⟨m, Nat.lt_succ_self _, z⟩, env2, h2, A2, r3, env3, h3, R2.ex e1, e3, ?_⟩
      have P5 : Pres H H1 := P.trans (Ex.pres e1)
      cases r3 with
      | nx => exact fun σ' H' A' R' P' => ⟨P5.trans P', _, h3, A', R'.wipeS vs, e4⟩
      | ct => exact fun σ' H' A' R' P' => ⟨P5.trans P', _, h3, A', R'.wipeS vs, e4⟩
      | bk => cases e4; exact fun σ' H' A' R' P' => k σ' H' A' (R'.wipeS vs) (P5.trans P')
      | rt ℓ x => cases e4; exact k.pre P5
      | rf xs => cases e4; exact k.pre P5
      | ex _ _ => cases e4; exact k.pre P5
end
end Sm

set_option Elab.async false
set_option linter.all false
set_option maxRecDepth 100000
set_option maxHeartbeats 1000000
namespace Sm
open PySem L2 Evl

/-! ### defs that write no object -/
def startE (k : Nat) (args : List Val) : En := args.map Sl.v ++ List.replicate k .un
def resD : Flo → Option Val
  | .rt _ (.d x) => some (.d x)
  | .rt _ (.fn j) => some (.fn j)
  | .rf xs => some (.d (.list xs))
  | .nx => some (.d .none)
  | _ => none
/-- the def as a function: k more slots than parameters -/
def runQ (k : Nat) (m : M1) : List Val → Hs → Option Val := fun args h => (m (startE k args) h).bind fun r => resD r.1
def runF (k : Nat) (m : M1) : List Val → Hs → Option (List PyData) := fun args h => (m (startE k args) h).bind fun r => match r.1 with
  | .rf xs => some xs
  | _ => none
def spQ (G : Glo) (n : Nat) (f : List Val → Hs → Option Val) : Sp := fun vs H Q _ => ∃ F env h A σ args x, F.G = G ∧ SR F env h A σ H ∧ Paired (fun x v => RV F .mo h A H x v) args vs ∧ args.length = n ∧ f args h = some x ∧ ∀ v H', Ex H H' → RV F .mo h A H' x v → Q v H'
def spF (G : Glo) (n : Nat) (f : List Val → Hs → Option (List PyData)) : Sp := fun vs H Q _ => ∃ F env h A σ args xs, F.G = G ∧ SR F env h A σ H ∧ Paired (fun x v => RV F .mo h A H x v) args vs ∧ args.length = n ∧ f args h = some xs ∧
  ∀ p us H', H p = none → Ex H H' → H' p = some (.lst us) → RDs F .st H' xs us → Q (.ref p) H'
theorem Paired.len {α β : Type} {f : α → β → Prop} : ∀ {l : List α} {m : List β}, Paired f l m → l.length = m.length
  | _, _, .nil => rfl
  | _, _, .cons _ t => congrArg (· + 1) (Paired.len t)
theorem Paired.get {α β : Type} {f : α → β → Prop} : ∀ {l : List α} {m : List β} {i : Nat} {x : α}, Paired f l m → l[i]? = some x → ∃ y, m[i]? = some y ∧ f x y
  | _, _, i, x, .nil, e => by simp at e
  | _, _, 0, x, .cons r _, e => by simp at e; subst e; exact ⟨_, rfl, r⟩
  | _, _, i + 1, x, .cons _ t, e => by
    obtain ⟨y, h1, h2⟩ := Paired.get (i := i) t (by simpa using e)
    exact ⟨y, by simpa using h1, h2⟩
section
variable {F : Fm} {env : En} {h h' : Hs} {A A' : As} {σ : L2.St} {H H' : Hp} {ℓ : Lv}
/-- a callee's slots at its start -/
theorem SR.args {N : List Str} {args : List Val} {vs : List V} (R : SR F [] h A [] H) (r : Paired (fun x v => RV F .fs h A H x v) args vs) (hl : args.length ≤ N.length) : SR F (startE (N.length - args.length) args) h A (L2.start N vs) H := by
  have hlen := Paired.len r
  have nl : ∀ p, live (startE (N.length - args.length) args) h p → live [] h p := fun p hp => by
    cases p with
    | s i =>
      obtain ⟨s, e, m⟩ := hp
      unfold startE at e
      by_cases hi : i < (args.map Sl.v).length
      · rw [List.getElem?_append_left hi, List.getElem?_map] at e
        obtain ⟨x, _, rfl⟩ := Option.map_eq_some_iff.mp e
        cases m
      · rw [List.getElem?_append_right (by omega)] at e
        have := List.eq_of_mem_replicate (List.mem_of_getElem? e)
        subst this
        cases m
    | o n => exact hp
    | f n j => exact hp
  refine ⟨R.fr, R.tp, R.fz, R.dm, R.le, R.oo, R.nw, fun i q => R.ow i (nl (.s i) q), ?_, fun i s e => ?_, R.ob, fun p q hp hq e => R.ij p q (nl p hp) (nl q hq) e, R.ro⟩
  · simp [startE, L2.start, hlen]
  · unfold startE at e
    by_cases hi : i < (args.map Sl.v).length
    · rw [List.getElem?_append_left hi, List.getElem?_map] at e
      obtain ⟨x, ex, rfl⟩ := Option.map_eq_some_iff.mp e
      obtain ⟨v, ev, rv⟩ := Paired.get r ex
      refine ⟨v, ?_, rv⟩
      unfold L2.start
      rw [List.getElem?_append_left (by simpa [← hlen] using hi), List.getElem?_map, ev]
      rfl
    · rw [List.getElem?_append_right (by omega)] at e
      have := List.eq_of_mem_replicate (List.mem_of_getElem? e)
      subst this
      trivial
theorem cal_fs {G : Glo} (hG : F.G = G) {x : Val} {v : V} (r : RV F .mo h A H x v) : RV (Fm.cal G false h A H) .fs h A H x v := by
  subst hG
  refine r.mono (fun _ _ z => z) (fun a vs q => ?_) (Nat.le_refl _) fun _ _ => rfl
  rcases q with q | q
  · exact .inl ⟨q, fun w => by cases w.1⟩
  · exact .inr (.inr q)
theorem cal_ex {G : Glo} {env' : En} {σ' : L2.St} (R : SR (Fm.cal G false h A H) env' h' A' σ' H') : Ex H H' := fun a o e => R.fr a o e fun w => by cases w.1
end
section
variable {P : Program} {w : World} {K : PySem.W.Frag} {mg : Str → Option Value} {base : Heap} {x qual : Str} {st : Stmt} {f : Addr} {fd : FuncData} {N ps : List Str} {k : Nat} {G : Glo} {m : M1}
theorem fn_q (U : Fun K x qual st f fd) (S : FnScope N ps (defScope st)) (hl : ps.length ≤ N.length)
    (hb : ∀ (cdv : Value) (A : Around) (outer : List Env) (s : Shared) (H : Hp) (E : XK), Room k (A.deeper (PyProof.Rows.envOfC qual (defScope st) s.heap.objs.size f cdv)) → ∀ F : Fm, F.G = G → SimB (cxOf CX0 P w K mg base N qual (defScope st) f cdv A outer s H E).nox F (defBody st) m) :
    FnOk P w K mg base CX0 (k + 1) f fd ps (spQ G ps.length (runQ (N.length - ps.length) m)) := by
  refine U.ok S (fun vs H Q E h => ?_) (fun cdv A outer s H vs Q E hr h => ?_)
  · obtain ⟨F, env, h, A, σ, args, y, _, _, r, hn, _⟩ := h
    rw [← Paired.len r, hn]
  · obtain ⟨F, env, hh, As, σ, args, y, hG, R, r, hn, e, kk⟩ := h
    obtain ⟨⟨r1, env1, h1⟩, e1, e2⟩ := bind_some e
    have R0 : SR (Fm.cal G false hh As H) [] hh As [] H := by
      have := R.start false
      rw [hG] at this
      exact this
    have R1 := R0.args (N := N) (Paired.imp (fun _ _ z => cal_fs hG z) r) (by omega)
    rw [hn] at R1
    refine ⟨tS (Fm.cal G false hh As H) m, hb cdv A outer s H E hr _ rfl, _, hh, As, r1, env1, h1, R1, e1, ?_⟩
    cases r1 with
    | nx =>
      cases e2
      exact fun σ' H' A' R' _ => kk _ H' (cal_ex R') vn
    | bk => cases e2
    | ct => cases e2
    | rt ℓ y' =>
      intro σ' H' A' v R' _ rv
      have rv' := RV.mo R' rv
      cases y' with
      | d d => cases e2; refine kk v H' (cal_ex R') ?_; subst hG; exact rv'
      | ref n => cases e2
      | fn n => cases e2; refine kk v H' (cal_ex R') ?_; subst hG; exact rv'
    | ex _ _ => cases e2
    | rf xs =>
      intro σ' H' A' p us R' _ _ hv _ rs
      cases e2
      subst hG
      exact kk _ H' (cal_ex R') (vl (ℓ := .mo) (.inl (.inl hv)) (RDs.of_st (F := F) (ℓ := .mo) rs))
theorem fn_f (U : Fun K x qual st f fd) (S : FnScope N ps (defScope st)) (hl : ps.length ≤ N.length)
    (hb : ∀ (cdv : Value) (A : Around) (outer : List Env) (s : Shared) (H : Hp) (E : XK), Room k (A.deeper (PyProof.Rows.envOfC qual (defScope st) s.heap.objs.size f cdv)) → ∀ F : Fm, F.G = G → SimB (cxOf CX0 P w K mg base N qual (defScope st) f cdv A outer s H E).nox F (defBody st) m) :
    FnOk P w K mg base CX0 (k + 1) f fd ps (spF G ps.length (runF (N.length - ps.length) m)) := by
  refine U.ok S (fun vs H Q E h => ?_) (fun cdv A outer s H vs Q E hr h => ?_)
  · obtain ⟨F, env, h, A, σ, args, y, _, _, r, hn, _⟩ := h
    rw [← Paired.len r, hn]
  · obtain ⟨F, env, hh, As, σ, args, y, hG, R, r, hn, e, kk⟩ := h
    obtain ⟨⟨r1, env1, h1⟩, e1, e2⟩ := bind_some e
    have R0 : SR (Fm.cal G false hh As H) [] hh As [] H := by
      have := R.start false
      rw [hG] at this
      exact this
    have R1 := R0.args (N := N) (Paired.imp (fun _ _ z => cal_fs hG z) r) (by omega)
    rw [hn] at R1
    refine ⟨tS (Fm.cal G false hh As H) m, hb cdv A outer s H E hr _ rfl, _, hh, As, r1, env1, h1, R1, e1, ?_⟩
    cases r1 with
    | nx => cases e2
    | bk => cases e2
    | ct => cases e2
    | rt ℓ y' => cases e2
    | ex _ _ => cases e2
    | rf xs =>
      intro σ' H' A' p us R' _ f0 hv _ rs
      cases e2
      subst hG
      exact kk p us H' f0 (cal_ex R') hv rs
end
/-! ### their calls -/
def qCall (g : List Val → Hs → Option Val) (a : En → Hs → Option (List Val)) : Q1 := fun env h => (a env h).bind fun xs => g xs h
def fCall (g : List Val → Hs → Option (List PyData)) (a : En → Hs → Option (List Val)) : I1 := fun env h => (a env h).bind fun xs => g xs h
section
variable {F : Fm} {X : Cx} {k n : Nat} {f : Addr} {fd : FuncData} {ps : List Str} {x : Str} {p pos : Pos} {e : Expr} {es : List Expr} {g : List Val → Hs → Option Val} {gf : List Val → Hs → Option (List PyData)} {a : En → Hs → Option (List Val)}
theorem spQ_read {σ : L2.St} {H : Hp} {Q : VK} {E : XK} {G : Glo} (hG : F.G = G) (hn : ∀ xs h z, g xs h = some z → xs.length = n) (hq : tQ F .mo (qCall g a) σ H Q) : tCall (spQ G n g) [] E (tA F .mo a) σ H Q := by
  obtain ⟨env, h, A, z, R, e, k⟩ := hq
  obtain ⟨xs, ex, e⟩ := bind_some e
  refine ⟨env, h, A, xs, R, ex, fun vs H1 e1 rs => ?_⟩
  show spQ G n g (vs ++ []) H1 Q E
  rw [List.append_nil]
  exact ⟨F, env, h, A, σ, xs, z, hG, R.ex e1, rs, hn _ _ _ e, e, fun v H' e2 rv => k v H' (e1.trans e2) rv⟩
theorem spF_read {σ : L2.St} {H : Hp} {Q : VK} {E : XK} {G : Glo} (hG : F.G = G) (hn : ∀ xs h z, gf xs h = some z → xs.length = n) (hq : tF F (fCall gf a) σ H Q) : tCall (spF G n gf) [] E (tA F .mo a) σ H Q := by
  obtain ⟨env, h, A, z, R, e, k⟩ := hq
  obtain ⟨xs, ex, e⟩ := bind_some e
  refine ⟨env, h, A, xs, R, ex, fun vs H1 e1 rs => ?_⟩
  show spF G n gf (vs ++ []) H1 Q E
  rw [List.append_nil]
  exact ⟨F, env, h, A, σ, xs, z, hG, R.ex e1, rs, hn _ _ _ e, e, fun p us H' hp e2 hv rv => k p us H' (fresh_back e1 hp) (e1.trans e2) hv rv⟩
/-- only for so many arguments -/
def arity {α : Type} (n : Nat) (g : List Val → Hs → Option α) : List Val → Hs → Option α := fun xs h => if xs.length = n then g xs h else none
theorem arity_n {α : Type} {n : Nat} {g : List Val → Hs → Option α} : ∀ xs h z, arity n g xs h = some z → xs.length = n := fun xs h z e => by
  unfold arity at e
  split at e
  · assumption
  · cases e
theorem spQ_ar {G : Glo} {vs : List V} {H : Hp} {Q : VK} {E : XK} (h : spQ G n (arity n g) vs H Q E) : spQ G n g vs H Q E := by
  obtain ⟨F, env, h, A, σ, args, y, hG, R, r, hn, e, kk⟩ := h
  exact ⟨F, env, h, A, σ, args, y, hG, R, r, hn, by simpa [arity, hn] using e, kk⟩
theorem spF_ar {G : Glo} {vs : List V} {H : Hp} {Q : VK} {E : XK} (h : spF G n (arity n gf) vs H Q E) : spF G n gf vs H Q E := by
  obtain ⟨F, env, h, A, σ, args, y, hG, R, r, hn, e, kk⟩ := h
  exact ⟨F, env, h, A, σ, args, y, hG, R, r, hn, by simpa [arity, hn] using e, kk⟩
theorem sq_call {G : Glo} (U : FnOk X.prog X.w X.K X.mg X.base CX0 k f fd ps (spQ G n g)) (hG : F.G = G) (hr : Room k X.A) (hm : X.mg x = some (.ref f)) (hk : PySem.W.keepIn X.K (.ref f) = true) (hb : Binds X.K fd ps []) (ha : SimA X F .mo (e :: es) a)
    (hg : Gl X x := by rfl) (hdb : (x == ("__debug__" : Str)) = false := by decide) (he : starEach (e :: es) X.env = (false, eval e X.env) :: starEach es X.env := by rfl) (hpl : (backTo pos (starEach es X.env)).any (·.1) = false := by rfl) :
    SimQ X F .mo (.Call (.Name x p) (e :: es) [] pos) (qCall (arity n g) a) :=
  PEimp (pe_call (U.imp fun _ _ _ _ => spQ_ar) hr hg hm hk hb .nil pass0 ha hdb he hpl) fun σ H Q q => spQ_read hG arity_n q
theorem sf_call {G : Glo} (U : FnOk X.prog X.w X.K X.mg X.base CX0 k f fd ps (spF G n gf)) (hG : F.G = G) (hr : Room k X.A) (hm : X.mg x = some (.ref f)) (hk : PySem.W.keepIn X.K (.ref f) = true) (hb : Binds X.K fd ps []) (ha : SimA X F .mo (e :: es) a)
    (hg : Gl X x := by rfl) (hdb : (x == ("__debug__" : Str)) = false := by decide) (he : starEach (e :: es) X.env = (false, eval e X.env) :: starEach es X.env := by rfl) (hpl : (backTo pos (starEach es X.env)).any (·.1) = false := by rfl) :
    SimF X F (.Call (.Name x p) (e :: es) [] pos) (fCall (arity n gf) a) :=
  PEimp (pe_call (U.imp fun _ _ _ _ => spF_ar) hr hg hm hk hb .nil pass0 ha hdb he hpl) fun σ H Q q => spF_read hG arity_n q
end
end Sm

set_option Elab.async false
set_option linter.all false
set_option maxRecDepth 100000
set_option maxHeartbeats 1000000
namespace Sm
open PySem L2 Evl

/-! ### expressions that may write objects -/
abbrev E1 := En → Hs → Option (Val × Hs)
abbrev EF := En → Hs → Option (List PyData × Hs)
abbrev EA := En → Hs → Option (List Val × Hs)
abbrev ET := En → Hs → Option (Bool × Hs)
def tE (F : Fm) (ℓ : Lv) (m : E1) : TE := fun σ H Q => ∃ env h A x h', SR F env h A σ H ∧ m env h = some (x, h') ∧ ∀ v H' A', SR F env h' A' σ H' → Step h A H h' A' H' → RV F ℓ h' A' H' x v → Q v H'
def tEF (F : Fm) (m : EF) : TE := fun σ H Q => ∃ env h A xs h', SR F env h A σ H ∧ m env h = some (xs, h') ∧ ∀ p us H' A', SR F env h' A' σ H' → Step h A H h' A' H' → H p = none → H' p = some (.lst us) → Fresh F env h' A' p → RDs F .st H' xs us → Q (.ref p) H'
def tEA (F : Fm) (m : EA) : TA := fun σ H Q => ∃ env h A xs h', SR F env h A σ H ∧ m env h = some (xs, h') ∧ ∀ vs H' A', SR F env h' A' σ H' → Step h A H h' A' H' → Paired (fun x v => RV F .fs h' A' H' x v) xs vs → Q vs H'
def tTE (F : Fm) (m : ET) : TT := fun σ H Q => ∃ env h A b h', SR F env h A σ H ∧ m env h = some (b, h') ∧ ∀ H' A', SR F env h' A' σ H' → Step h A H h' A' H' → Q b H'
abbrev SimE (X : Cx) (F : Fm) (ℓ : Lv) (e : Expr) (m : E1) : Prop := PE X e (tE F ℓ m)
abbrev SimEF (X : Cx) (F : Fm) (e : Expr) (m : EF) : Prop := PE X e (tEF F m)
abbrev SimEA (X : Cx) (F : Fm) (es : List Expr) (m : EA) : Prop := PA X es (tEA F m)
abbrev SimTE (X : Cx) (F : Fm) (e : Expr) (m : ET) : Prop := PT X e (tTE F m)
def eQ (q : Q1) : E1 := fun env h => (q env h).bind fun x => some (x, h)
def eF (f : I1) : EF := fun env h => (f env h).bind fun x => some (x, h)
def eT (t : T1) : ET := fun env h => (t env h).bind fun x => some (x, h)
def eNil : EA := fun _ h => some ([], h)
def eCons (a : E1) (r : EA) : EA := fun env h => (a env h).bind fun x => (r env x.2).bind fun xs => some (x.1 :: xs.1, xs.2)
def e1 (g : Hs → Val → Option Val) (a : E1) : E1 := fun env h => (a env h).bind fun x => (g x.2 x.1).bind fun z => some (z, x.2)
def e2 (g : Hs → Val → Val → Option Val) (a b : E1) : E1 := fun env h => (a env h).bind fun x => (b env x.2).bind fun y => (g y.2 x.1 y.1).bind fun z => some (z, y.2)
def eTup (a : EA) : E1 := fun env h => (a env h).bind fun x => (dsOf x.1).bind fun ds => if ds.length ≤ sizeLine then some (.d (.tuple ds), x.2) else none
def efLst (a : EA) : EF := fun env h => (a env h).bind fun x => (dsOf x.1).bind fun ds => if ds.length ≤ sizeLine ∧ nlAll ds = true then some (ds, x.2) else none
def eLock (f : EF) : E1 := fun env h => (f env h).bind fun x => some (.d (.list x.1), x.2)
def eIf (t : ET) (a b : E1) : E1 := fun env h => (t env h).bind fun c => if c.1 = true then a env c.2 else b env c.2
def etV (m : E1) : ET := fun env h => (m env h).bind fun x => match x.1 with
  | .d d => (gTru d).bind fun b => some (b, x.2)
  | _ => none
def eCall (g : List Val → Hs → Option (Val × Hs)) (a : EA) : E1 := fun env h => (a env h).bind fun x => g x.1 x.2
def efCall (g : List Val → Hs → Option (List PyData × Hs)) (a : EA) : EF := fun env h => (a env h).bind fun x => g x.1 x.2

section
variable {F : Fm} {X : Cx} {a b c e : Expr} {es : List Expr} {pos p : Pos} {ℓ : Lv} {ma mb mc : E1} {env : En} {h h' : Hs} {A A' : As} {σ : L2.St} {H H' : Hp} {q : Q1}
/-- what stays through a step -/
theorem LPof.pres (P : Pres H H') : ∀ {ℓ : Lv}, ℓ ≠ .mo → ∀ (a : Addr) (vs : List V), LPof F H ℓ a vs → LPof F H' ℓ a vs
  | .mo, n, _, _, _ => absurd rfl n
  | .fs, _, a, vs, q => Pres.fL P a vs q
  | .st, _, a, vs, q => Pres.sL P a vs q
theorem RV.step (s : Step h A H h' A' H') (n : ℓ ≠ .mo) {x : Val} {v : V} (r : RV F ℓ h A H x v) : RV F ℓ h' A' H' x v := r.mono s.pres.sqT (LPof.pres s.pres n) s.le s.oo
theorem RD.pres (P : Pres H H') (n : ℓ ≠ .mo) {x : PyData} {v : V} (r : RD F ℓ H x v) : RD F ℓ H' x v := Rep.mono P.sqT (LPof.pres P n) _ _ r
theorem RDs.pres (P : Pres H H') (n : ℓ ≠ .mo) {x : List PyData} {v : List V} (r : RDs F ℓ H x v) : RDs F ℓ H' x v := RepAll.mono P.sqT (LPof.pres P n) _ _ r
theorem se_q (ha : SimQ X F ℓ a q) : SimE X F ℓ a (eQ q) := PEimp ha fun σ H Q ⟨env, h, A, z, h', R, e, k⟩ => by
  obtain ⟨x, ex, e⟩ := bind_some e
  cases e
  exact ⟨env, h, A, _, R, ex, fun v H1 e1 rv => k v H1 A (R.ex e1) (Step.ex e1) rv⟩
theorem sef_f {f : I1} (ha : SimF X F a f) : SimEF X F a (eF f) := PEimp ha fun σ H Q ⟨env, h, A, z, h', R, e, k⟩ => by
  obtain ⟨x, ex, e⟩ := bind_some e
  cases e
  exact ⟨env, h, A, _, R, ex, fun p us H1 hp e1 hv rs => k p us H1 A (R.ex e1) (Step.ex e1) hp hv ⟨(R.fresh hp).f0, (R.fresh hp).fp⟩ rs⟩
theorem ste_t {t : T1} (ha : SimT X F a t) : SimTE X F a (eT t) := PTimp ha fun σ H Q ⟨env, h, A, z, h', R, e, k⟩ => by
  obtain ⟨x, ex, e⟩ := bind_some e
  cases e
  exact ⟨env, h, A, _, R, ex, fun H1 e1 => k H1 A (R.ex e1) (Step.ex e1)⟩
theorem se_fs (ha : SimE X F .st a ma) : SimE X F .fs a ma := PEimp ha fun σ H Q ⟨env, h, A, z, h', R, e, k⟩ =>
  ⟨env, h, A, z, h', R, e, fun v H1 A1 R1 s rv => k v H1 A1 R1 s rv.of_st⟩
def enl (m : E1) : E1 := fun env h => (m env h).bind fun x => match x.1 with
  | .d d => if nl d = true then some x else none
  | _ => some x
theorem se_nl {ℓ₁ : Lv} (ha : SimE X F ℓ₁ a ma) : SimE X F ℓ a (enl ma) := PEimp ha fun σ H Q ⟨env, h, A, z, h', R, e, k⟩ => by
  obtain ⟨⟨x, h1⟩, ex, e⟩ := bind_some e
  refine ⟨env, h, A, x, h1, R, ex, fun v H1 A1 R1 s rv => ?_⟩
  cases x with
  | d d =>
    simp only at e
    split at e
    · next hn => cases e; exact k v H1 A1 R1 s (Rep.nl d v hn rv)
    · cases e
  | ref n => cases e; exact k v H1 A1 R1 s rv
  | fn n => cases e; exact k v H1 A1 R1 s rv
theorem BinS.fs {f : Value → Value → Sem Value} {g : Hs → Val → Val → Option Val} (o : BinS X F .mo .mo ℓ f g) : BinS X F .fs .fs ℓ f g := by
  obtain ⟨r, h1, h2⟩ := o
  exact ⟨r, h1, fun env h A σ H x y v u z R rx ry => h2 env h A σ H x y v u z R (RV.mo R rx) (RV.mo R ry)⟩
theorem tOp_e {r : R2} {g : Hs → Val → Val → Option Val} (o : Op2 F .fs .fs ℓ r g) {Q : VK} (hq : tE F ℓ (e2 g ma mb) σ H Q) : tOp r (tE F .fs ma) (tE F .fs mb) σ H Q := by
  obtain ⟨env, h, A, z, h', R, e, k⟩ := hq
  obtain ⟨⟨x, h1⟩, ex, e⟩ := bind_some e
  obtain ⟨⟨y, h2⟩, ey, e⟩ := bind_some e
  obtain ⟨w, ew, e⟩ := bind_some e
  cases e
  refine ⟨env, h, A, x, h1, R, ex, fun v H1 A1 R1 s1 rv => ⟨env, h1, A1, y, _, R1, ey, fun u H2 A2 R2 s2 ru => ?_⟩⟩
  exact o env _ A2 σ H2 x y v u z R2 (rv.step s2 (by simp)) ru ew Q fun v' H' e3 rz => k v' H' A2 (R2.ex e3) ((s1.trans s2).trans (Step.ex e3)) rz
theorem se_bin {op : Operator} {g : Hs → Val → Val → Option Val} (o : BinS X F .fs .fs ℓ (binaryOp op) g) (ha : SimE X F .fs a ma) (hb : SimE X F .fs b mb) : SimE X F ℓ (.BinOp a op b pos) (e2 g ma mb) := by
  obtain ⟨r, h1, h2⟩ := o
  exact PEimp (pe_op h1 ha hb) fun _ _ _ => tOp_e h2
theorem se_cmp {op : CmpOp} {g : Hs → Val → Val → Option Val} (o : BinS X F .fs .fs ℓ (compareOp op) g) (ha : SimE X F .fs a ma) (hb : SimE X F .fs b mb) (hm : behindInMarks op b = false) : SimE X F ℓ (.Compare a [op] [b] pos) (e2 g ma mb) := by
  obtain ⟨r, h1, h2⟩ := o
  exact PEimp (pe_cmpR h1 ha hb hm) fun _ _ _ => tOp_e h2
theorem se_sub (hK : X.K = F.G.K) (ha : SimE X F .fs a ma) (hb : SimE X F .fs b mb) (hs : PlainIx b := by intro _ _; rfl) : SimE X F .fs (.Subscript a b pos) (e2 gIx ma mb) :=
  PEimp (pe_ix ix_seq ha hb hs) fun _ _ _ => tOp_e (o_ix hK)
theorem ste_cmp {op : CmpOp} {g : Hs → Val → Val → Option Val} (o : BinS X F .fs .fs .st (compareOp op) g) (ha : SimE X F .fs a ma) (hb : SimE X F .fs b mb) (hm : behindInMarks op b = false) (hg : ∀ h x y z, g h x y = some z → ∃ k, z = .d (.bool k)) :
    SimTE X F (.Compare a [op] [b] pos) (etV (e2 g ma mb)) := by
  obtain ⟨r, h1, h2⟩ := o
  refine PTimp (pt_cmpR h1 ha hb hm) fun σ H Q ⟨env, h, A, k, h', R, e, q⟩ => ?_
  obtain ⟨⟨x, h1⟩, ex, e⟩ := bind_some e
  refine tOp_e h2 ⟨env, h, A, x, h1, R, ex, fun v H1 A1 R1 s rv => ?_⟩
  obtain ⟨_, _, ex⟩ := bind_some ex
  obtain ⟨_, _, ex⟩ := bind_some ex
  obtain ⟨w, ew, ex⟩ := bind_some ex
  cases ex
  obtain ⟨c, rfl⟩ := hg _ _ _ _ ew
  cases e
  have rv := rb rv
  exact ⟨k, rv, q H1 A1 R1 s⟩
theorem ste_v (hK : X.K = F.G.K) (ha : SimE X F .fs a ma) (he : ∀ whole, isTrue a X.env whole = (do let v ← whole; standAt a.pos; holding [v] (truthy v)) := by intro _; rfl) : SimTE X F a (etV ma) := PTimp (pt_truth ha he) fun σ H Q ⟨env, h, A, k, h', R, e, q⟩ => by
  obtain ⟨⟨x, h1⟩, ex, e⟩ := bind_some e
  refine ⟨env, h, A, x, h1, R, ex, fun v H1 A1 R1 s rv => ⟨k, ?_, ?_⟩⟩
  · cases x with
    | d d =>
      obtain ⟨b, eb, e⟩ := bind_some e
      cases e
      rw [hK]
      exact truV_of (RV.data (RV.mo R1 rv)) eb
    | ref n => cases e
    | fn n => cases e
  · cases x with
    | d d =>
      obtain ⟨b, eb, e⟩ := bind_some e
      cases e
      exact q H1 A1 R1 s
    | ref n => cases e
    | fn n => cases e
def eNot (m : ET) : ET := fun env h => (m env h).bind fun c => some (!c.1, c.2)
def eAnd (a b : ET) : ET := fun env h => (a env h).bind fun c => if c.1 = true then b env c.2 else some (false, c.2)
def eOr (a b : ET) : ET := fun env h => (a env h).bind fun c => if c.1 = true then some (true, c.2) else b env c.2
theorem ste_not {t : ET} (ha : SimTE X F a t) : SimTE X F (.UnaryOp .Not a pos) (eNot t) := PTimp (pt_not ha) fun σ H Q ⟨env, h, A, k, h', R, e, q⟩ => by
  obtain ⟨⟨c, h1⟩, ec, e⟩ := bind_some e
  cases e
  exact ⟨env, h, A, c, h1, R, ec, fun H1 A1 R1 s => q H1 A1 R1 s⟩
theorem swe_1 {op : BoolOp} {t : ET} (ha : SimTE X F a t) : PW X (.BoolOp .And [a] pos) (tTE F t) := pw_and1 ha
theorem swe_o1 {t : ET} (ha : SimTE X F a t) : PW X (.BoolOp .Or [a] pos) (tTE F t) := pw_or1 ha
theorem swe_and {rest : List Expr} {ta tb : ET} (ha : SimTE X F a ta) (hb : PW X (.BoolOp .And (b :: rest) pos) (tTE F tb)) : PW X (.BoolOp .And (a :: b :: rest) pos) (tTE F (eAnd ta tb)) := PWimp (pw_and ha hb) fun σ H Q ⟨env, h, A, k, h', R, e, q⟩ => by
  obtain ⟨⟨c, h1⟩, ec, e⟩ := bind_some e
  refine ⟨env, h, A, c, h1, R, ec, fun H1 A1 R1 s => ?_⟩
  cases c with
  | true => exact ⟨env, h1, A1, k, h', R1, e, fun H2 A2 R2 s2 => q H2 A2 R2 (s.trans s2)⟩
  | false => cases e; exact q H1 A1 R1 s
theorem swe_or {rest : List Expr} {ta tb : ET} (ha : SimTE X F a ta) (hb : PW X (.BoolOp .Or (b :: rest) pos) (tTE F tb)) : PW X (.BoolOp .Or (a :: b :: rest) pos) (tTE F (eOr ta tb)) := PWimp (pw_or ha hb) fun σ H Q ⟨env, h, A, k, h', R, e, q⟩ => by
  obtain ⟨⟨c, h1⟩, ec, e⟩ := bind_some e
  refine ⟨env, h, A, c, h1, R, ec, fun H1 A1 R1 s => ?_⟩
  cases c with
  | false => exact ⟨env, h1, A1, k, h', R1, e, fun H2 A2 R2 s2 => q H2 A2 R2 (s.trans s2)⟩
  | true => cases e; exact q H1 A1 R1 s
theorem se_if {t : ET} (hc : SimTE X F c t) (ha : SimE X F ℓ a ma) (hb : SimE X F ℓ b mb) : SimE X F ℓ (.IfExp c a b pos) (eIf t ma mb) := PEimp (pe_ifExp hc ha hb) fun σ H Q ⟨env, h, A, z, h', R, e, k⟩ => by
  obtain ⟨⟨d, h1⟩, ed, e⟩ := bind_some e
  refine ⟨env, h, A, d, h1, R, ed, fun H1 A1 R1 s1 => ?_⟩
  cases d with
  | true => exact ⟨env, h1, A1, z, h', R1, e, fun v H2 A2 R2 s2 rv => k v H2 A2 R2 (s1.trans s2) rv⟩
  | false => exact ⟨env, h1, A1, z, h', R1, e, fun v H2 A2 R2 s2 rv => k v H2 A2 R2 (s1.trans s2) rv⟩
theorem sea_nil : SimEA X F [] eNil := PAimp pa_nil fun σ H Q ⟨env, h, A, xs, h', R, e, k⟩ => by
  cases e
  exact k [] H A R Step.refl .nil
theorem sea_cons {r : EA} (ha : SimE X F .fs e ma) (hr : SimEA X F es r) (hs : starEach (e :: es) X.env = (false, eval e X.env) :: starEach es X.env := by rfl) : SimEA X F (e :: es) (eCons ma r) :=
  PAimp (pa_cons ha hr hs) fun σ H Q ⟨env, h, A, xs, h', R, e, k⟩ => by
    obtain ⟨⟨x, h1⟩, ex, e⟩ := bind_some e
    obtain ⟨⟨ys, h2⟩, ey, e⟩ := bind_some e
    cases e
    exact ⟨env, h, A, x, h1, R, ex, fun v H1 A1 R1 s1 rv => ⟨env, h1, A1, ys, _, R1, ey, fun vs H2 A2 R2 s2 rs => k _ H2 A2 R2 (s1.trans s2) (.cons (rv.step s2 (by simp)) rs)⟩⟩
theorem se_tup {k : Nat} {r : EA} (hr : SimEA X F es r) : SimE X F .fs (.Tuple es k pos) (eTup r) := PEimp (pe_tup hr) fun σ H Q ⟨env, h, A, z, h', R, e, k⟩ => by
  obtain ⟨⟨xs, h1⟩, ex, e⟩ := bind_some e
  obtain ⟨ds, ed, e⟩ := bind_some e
  split at e
  · next hl =>
    cases e
    refine ⟨env, h, A, xs, _, R, ex, fun vs H1 A1 R1 s1 rs => ?_⟩
    have rd := ds_rep ed rs
    exact ⟨by rw [rd.len]; exact hl, fun p hp => k _ _ A1 (R1.ex (Ex.new hp)) (s1.trans (Step.ex (Ex.new hp))) (vt (.inl (.inl upd_same)) (RDs.ex (Ex.new hp) rd))⟩
  · cases e
theorem none_back (s : Step h A H h' A' H') {p : Addr} (hp : H' p = none) : H p = none := by
  cases q : H p with
  | none => rfl
  | some o => obtain ⟨o', e⟩ := s.dm p o q; rw [hp] at e; cases e
theorem sef_lst {r : EA} (hr : SimEA X F es r) : SimEF X F (.List es pos) (efLst r) := PEimp (pe_lst hr) fun σ H Q ⟨env, h, A, z, h', R, e, k⟩ => by
  obtain ⟨⟨xs, h1⟩, ex, e⟩ := bind_some e
  obtain ⟨ds, ed, e⟩ := bind_some e
  split at e
  · next hl =>
    cases e
    refine ⟨env, h, A, xs, _, R, ex, fun vs H1 A1 R1 s1 rs => ?_⟩
    have rd := ds_rep ed rs
    exact ⟨by rw [rd.len]; exact hl.1, fun p hp => k p vs _ A1 (R1.ex (Ex.new hp)) (s1.trans (Step.ex (Ex.new hp))) (none_back s1 hp) upd_same ⟨(R1.fresh hp).f0, (R1.fresh hp).fp⟩ (RDs.ex (Ex.new hp) (RepAll.nl _ _ hl.2 rd))⟩
  · cases e
theorem se_lock {m : EF} (hf : SimEF X F e m) : SimE X F .st e (eLock m) := PEimp (pe_lock hf) fun σ H Q ⟨env, h, A, z, h', R, e, k⟩ => by
  obtain ⟨⟨xs, h1⟩, ex, e⟩ := bind_some e
  cases e
  refine ⟨env, h, A, xs, _, R, ex, fun p us H1 A1 R1 s hp hv f rs => ⟨p, us, rfl, hv, fun o => ?_⟩⟩
  have P : Pres H1 (upd H1 p (.frz o (.lst us))) := Pres.upd fun u eu => by
    rw [hv] at eu; cases eu
    exact ⟨fun _ q => (by cases q), fun _ _ q => (by cases q)⟩
  have oth : ∀ q, live env h1 q → ∀ u, H1 (A1 q) = some u → upd H1 p (.frz o (.lst us)) (A1 q) = some u := fun q hq u e => by rw [upd_ne (f.fp q hq)]; exact e
  have R2 : SR F env h1 A1 σ (upd H1 p (.frz o (.lst us))) := by
    refine ⟨fun a u q w => ?_, fun a vs q => P.1 _ _ (R1.tp a vs q), fun a b u q => P.2 _ _ _ (R1.fz a b u q), R1.dm_at, R1.le, R1.oo, R1.nw, R1.ow, R1.ln, fun i s e => R1.sl_keep P (Nat.le_refl _) (fun _ _ => rfl) e fun m => ⟨rfl, fun u z => oth (.s i) ⟨s, e, m⟩ u z⟩, fun n b e => ?_, R1.ij, R1.ro⟩
    · rw [upd_ne (fun z => by rw [z, f.f0] at q; cases q)]; exact R1.fr a u q w
    · exact R1.ob_keep P (Nat.le_refl _) (fun _ _ => rfl) e (fun u z => oth (.o n) (List.getElem?_eq_some_iff.mp e).1 u z) fun j hj => ⟨rfl, fun u z => oth _ hj.live u z⟩
  refine k _ _ A1 R2 ⟨fun a u q n => ?_, fun a vs q => P.1 _ _ (s.tp a vs q), fun a b u q => P.2 _ _ _ (s.fz a b u q), fun a u q => ?_, s.le, s.oo, s.nw⟩ (vl (ℓ := .st) (.inl ⟨o, upd_same⟩) (RepAll.mono P.sqT P.sL _ _ rs))
  · rw [upd_ne (fun z => by rw [z, hp] at q; cases q)]; exact s.fr a u q n
  · obtain ⟨u', e⟩ := s.dm a u q; exact dm_upd a u' e
end

/-! ### defs that write objects -/
def resE (r : Flo × En × Hs) : Option (Val × Hs) := match r.1 with
  | .rt .st x => some (x, r.2.2)
  | .rt _ (.d d) => if nl d = true then some (.d d, r.2.2) else none
  | .rt _ x => some (x, r.2.2)
  | .nx => some (.d .none, r.2.2)
  | _ => none
def runE (k : Nat) (m : M1) : List Val → Hs → Option (Val × Hs) := fun args h => (m (startE k args) h).bind resE
def runEF (k : Nat) (m : M1) : List Val → Hs → Option (List PyData × Hs) := fun args h => (m (startE k args) h).bind fun r => match r.1 with
  | .rf xs => some (xs, r.2.2)
  | _ => none
def spE (G : Glo) (n : Nat) (f : List Val → Hs → Option (Val × Hs)) : Sp := fun vs H Q _ => ∃ F env h A σ args x h', F.G = G ∧ F.rw = true ∧ SR F env h A σ H ∧ Paired (fun x v => RV F .fs h A H x v) args vs ∧ args.length = n ∧ f args h = some (x, h') ∧
  ∀ v H' A', SR F env h' A' σ H' → Step h A H h' A' H' → RV F .st h' A' H' x v → Q v H'
def spEF (G : Glo) (n : Nat) (f : List Val → Hs → Option (List PyData × Hs)) : Sp := fun vs H Q _ => ∃ F env h A σ args xs h', F.G = G ∧ F.rw = true ∧ SR F env h A σ H ∧ Paired (fun x v => RV F .fs h A H x v) args vs ∧ args.length = n ∧ f args h = some (xs, h') ∧
  ∀ p us H' A', SR F env h' A' σ H' → Step h A H h' A' H' → H p = none → H' p = some (.lst us) → Fresh F env h' A' p → RDs F .st H' xs us → Q (.ref p) H'
section
variable {F : Fm} {env : En} {h h' : Hs} {A A' : As} {σ : L2.St} {H H' : Hp} {ℓ : Lv}
theorem cal_fsE (R : SR F env h A σ H) (hw : F.rw = true) {x : Val} {v : V} (r : RV F .fs h A H x v) : RV (Fm.cal F.G true h A H) .fs h A H x v := by
  refine r.mono (fun _ _ z => z) (fun a vs q => ?_) (Nat.le_refl _) fun _ _ => rfl
  rcases q with ⟨q, w⟩ | q
  · refine .inl ⟨?_, fun ⟨_, p, hp, e⟩ => ?_⟩
    · rcases q with q | ⟨o, q⟩
      · exact .inl (R.fr a _ q w)
      · exact .inr ⟨o, R.fz a _ _ q⟩
    · have e : A p = a := e
      rcases R.nw hw p hp with z | z
      · rw [e] at z; exact w z
      · rw [e] at z
        rcases q with q | ⟨o, q⟩
        · rw [z] at q; cases q
        · rw [z] at q; cases q
  · exact .inr q
/-- the caller's state behind it -/
theorem SR.backE {env' : En} {σ' : L2.St} (R : SR F env h A σ H) (hw : F.rw = true) (R' : SR (Fm.cal F.G true h A H) env' h' A' σ' H') : SR F env h' (As.back A A') σ H' ∧ Step h A H h' (As.back A A') H' := by
  have s : Step h A H h' A' H' := SR.step_of (F := F) R'
  have s' : Step h A H h' (As.back A A') H' := ⟨s.fr, s.tp, s.fz, s.dm, s.le, s.oo, fun p hp => by rw [back_h hp]; exact s.nw p hp⟩
  exact ⟨R.call hw s R'.ob fun p q hp hq e => R'.ij p q hp.live hq.live e, s'⟩
end
section
variable {P : Program} {w : World} {K : PySem.W.Frag} {mg : Str → Option Value} {base : Heap} {x qual : Str} {st : Stmt} {f : Addr} {fd : FuncData} {N ps : List Str} {k : Nat} {G : Glo} {m : M1}
theorem fn_e (U : Fun K x qual st f fd) (S : FnScope N ps (defScope st)) (hl : ps.length ≤ N.length)
    (hb : ∀ (cdv : Value) (A : Around) (outer : List Env) (s : Shared) (H : Hp) (E : XK), Room k (A.deeper (PyProof.Rows.envOfC qual (defScope st) s.heap.objs.size f cdv)) → ∀ F : Fm, F.G = G → F.rw = true → SimB (cxOf CX0 P w K mg base N qual (defScope st) f cdv A outer s H E).nox F (defBody st) m) :
    FnOk P w K mg base CX0 (k + 1) f fd ps (spE G ps.length (runE (N.length - ps.length) m)) := by
  refine U.ok S (fun vs H Q E h => ?_) (fun cdv A outer s H vs Q E hr h => ?_)
  · obtain ⟨F, env, h, A, σ, args, y, h', _, _, _, r, hn, _⟩ := h
    rw [← Paired.len r, hn]
  · obtain ⟨F, env, hh, AA, σ, args, y, h', hG, hw, R, r, hn, e, kk⟩ := h
    obtain ⟨⟨r1, env1, h1⟩, e1, e2⟩ := bind_some e
    have R1 := (R.start true).args (N := N) (Paired.imp (fun _ _ z => cal_fsE R hw z) r) (by omega)
    rw [hn] at R1
    refine ⟨tS (Fm.cal F.G true hh AA H) m, hb cdv A outer s H E hr _ hG rfl, _, hh, AA, r1, env1, h1, R1, e1, ?_⟩
    have fin : ∀ {σ' : L2.St} {H' : Hp} {A' : Sm.As} {v : V} {z : Val}, SR (Fm.cal F.G true hh AA H) env1 h1 A' σ' H' → (z, h1) = (y, h') → RV (Fm.cal F.G true hh AA H) .st h1 A' H' z v → Q v H' := fun {σ' H' A' v z} R' e rv => by
      cases e
      obtain ⟨R2, s2⟩ := R.backE hw R'
      exact kk v H' _ R2 s2 (rv.mono (fun _ _ z => z) (fun _ _ z => z) (Nat.le_refl _) fun _ _ => rfl)
    cases r1 with
    | nx => exact fun σ' H' A' R' _ => fin R' (Option.some.inj e2) vn
    | bk => cases e2
    | ct => cases e2
    | rt ℓ y' =>
      intro σ' H' A' v R' _ rv
      cases y' with
      | d d =>
        cases ℓ with
        | st => exact fin R' (Option.some.inj e2) rv
        | mo =>
          simp only [resE] at e2
          split at e2
          · next hd => exact fin R' (Option.some.inj e2) (Rep.nl d v hd rv)
          · cases e2
        | fs =>
          simp only [resE] at e2
          split at e2
          · next hd => exact fin R' (Option.some.inj e2) (Rep.nl d v hd rv)
          · cases e2
      | ref n => cases ℓ <;> exact fin R' (Option.some.inj e2) rv
      | fn n => cases ℓ <;> exact fin R' (Option.some.inj e2) rv
    | rf xs => cases e2
    | ex _ _ => cases e2
theorem fn_ef (U : Fun K x qual st f fd) (S : FnScope N ps (defScope st)) (hl : ps.length ≤ N.length)
    (hb : ∀ (cdv : Value) (A : Around) (outer : List Env) (s : Shared) (H : Hp) (E : XK), Room k (A.deeper (PyProof.Rows.envOfC qual (defScope st) s.heap.objs.size f cdv)) → ∀ F : Fm, F.G = G → F.rw = true → SimB (cxOf CX0 P w K mg base N qual (defScope st) f cdv A outer s H E).nox F (defBody st) m) :
    FnOk P w K mg base CX0 (k + 1) f fd ps (spEF G ps.length (runEF (N.length - ps.length) m)) := by
  refine U.ok S (fun vs H Q E h => ?_) (fun cdv A outer s H vs Q E hr h => ?_)
  · obtain ⟨F, env, h, A, σ, args, y, h', _, _, _, r, hn, _⟩ := h
    rw [← Paired.len r, hn]
  · obtain ⟨F, env, hh, AA, σ, args, y, h', hG, hw, R, r, hn, e, kk⟩ := h
    obtain ⟨⟨r1, env1, h1⟩, e1, e2⟩ := bind_some e
    have R1 := (R.start true).args (N := N) (Paired.imp (fun _ _ z => cal_fsE R hw z) r) (by omega)
    rw [hn] at R1
    refine ⟨tS (Fm.cal F.G true hh AA H) m, hb cdv A outer s H E hr _ hG rfl, _, hh, AA, r1, env1, h1, R1, e1, ?_⟩
    cases r1 with
    | nx => cases e2
    | bk => cases e2
    | ct => cases e2
    | rt ℓ y' => cases e2
    | ex _ _ => cases e2
    | rf xs =>
      intro σ' H' A' p us R' _ f0 hv fp rs
      cases e2
      obtain ⟨R2, s2⟩ := R.backE hw R'
      refine kk p us H' _ R2 s2 f0 hv ⟨?_, fun q hq z => ?_⟩ rs
      · cases q : F.H0 p with
        | none => rfl
        | some o => obtain ⟨o', e⟩ := R.dm p o q; rw [show H p = none from f0] at e; cases e
      · cases q with
        | s i =>
          obtain ⟨o, e, _⟩ := R.at_live (show live env hh (.s i) from hq)
          have z : AA (.s i) = p := z
          rw [z, show H p = none from f0] at e
          cases e
        | o n => exact fp (.o n) hq z
        | f n j => exact fp (.f n j) hq z
end
section
variable {F : Fm} {X : Cx} {k n : Nat} {f : Addr} {fd : FuncData} {ps : List Str} {x : Str} {p pos : Pos} {e : Expr} {es : List Expr} {g : List Val → Hs → Option (Val × Hs)} {gf : List Val → Hs → Option (List PyData × Hs)} {a : EA}
theorem spE_ar {G : Glo} {vs : List V} {H : Hp} {Q : VK} {E : XK} (h : spE G n (arity n g) vs H Q E) : spE G n g vs H Q E := by
  obtain ⟨F, env, h, A, σ, args, y, h', hG, hw, R, r, hn, e, kk⟩ := h
  exact ⟨F, env, h, A, σ, args, y, h', hG, hw, R, r, hn, by simpa [arity, hn] using e, kk⟩
theorem spEF_ar {G : Glo} {vs : List V} {H : Hp} {Q : VK} {E : XK} (h : spEF G n (arity n gf) vs H Q E) : spEF G n gf vs H Q E := by
  obtain ⟨F, env, h, A, σ, args, y, h', hG, hw, R, r, hn, e, kk⟩ := h
  exact ⟨F, env, h, A, σ, args, y, h', hG, hw, R, r, hn, by simpa [arity, hn] using e, kk⟩
theorem spE_read {σ : L2.St} {H : Hp} {Q : VK} {E : XK} {G : Glo} (hG : F.G = G) (hw : F.rw = true) (hn : ∀ xs h z, g xs h = some z → xs.length = n) (hq : tE F .st (eCall g a) σ H Q) : tCall (spE G n g) [] E (tEA F a) σ H Q := by
  obtain ⟨env, h, A, z, h', R, e, k⟩ := hq
  obtain ⟨⟨xs, h1⟩, ex, e⟩ := bind_some e
  refine ⟨env, h, A, xs, h1, R, ex, fun vs H1 A1 R1 s1 rs => ?_⟩
  show spE G n g (vs ++ []) H1 Q E
  rw [List.append_nil]
  exact ⟨F, env, h1, A1, σ, xs, z, h', hG, hw, R1, rs, hn _ _ _ e, e, fun v H' A' R' s rv => k v H' A' R' (s1.trans s) rv⟩
theorem spEF_read {σ : L2.St} {H : Hp} {Q : VK} {E : XK} {G : Glo} (hG : F.G = G) (hw : F.rw = true) (hn : ∀ xs h z, gf xs h = some z → xs.length = n) (hq : tEF F (efCall gf a) σ H Q) : tCall (spEF G n gf) [] E (tEA F a) σ H Q := by
  obtain ⟨env, h, A, z, h', R, e, k⟩ := hq
  obtain ⟨⟨xs, h1⟩, ex, e⟩ := bind_some e
  refine ⟨env, h, A, xs, h1, R, ex, fun vs H1 A1 R1 s1 rs => ?_⟩
  show spEF G n gf (vs ++ []) H1 Q E
  rw [List.append_nil]
  exact ⟨F, env, h1, A1, σ, xs, z, h', hG, hw, R1, rs, hn _ _ _ e, e, fun p us H' A' R' s hp hv f rv => k p us H' A' R' (s1.trans s) (none_back s1 hp) hv f rv⟩
theorem se_call {G : Glo} (U : FnOk X.prog X.w X.K X.mg X.base CX0 k f fd ps (spE G n g)) (hG : F.G = G) (hw : F.rw = true) (hr : Room k X.A) (hm : X.mg x = some (.ref f)) (hk : PySem.W.keepIn X.K (.ref f) = true) (hb : Binds X.K fd ps []) (ha : SimEA X F (e :: es) a)
    (hg : Gl X x := by rfl) (hdb : (x == ("__debug__" : Str)) = false := by decide) (he : starEach (e :: es) X.env = (false, eval e X.env) :: starEach es X.env := by rfl) (hpl : (backTo pos (starEach es X.env)).any (·.1) = false := by rfl) :
    SimE X F .st (.Call (.Name x p) (e :: es) [] pos) (eCall (arity n g) a) :=
  PEimp (pe_call (U.imp fun _ _ _ _ => spE_ar) hr hg hm hk hb .nil pass0 ha hdb he hpl) fun σ H Q q => spE_read hG hw arity_n q
theorem sef_call {G : Glo} (U : FnOk X.prog X.w X.K X.mg X.base CX0 k f fd ps (spEF G n gf)) (hG : F.G = G) (hw : F.rw = true) (hr : Room k X.A) (hm : X.mg x = some (.ref f)) (hk : PySem.W.keepIn X.K (.ref f) = true) (hb : Binds X.K fd ps []) (ha : SimEA X F (e :: es) a)
    (hg : Gl X x := by rfl) (hdb : (x == ("__debug__" : Str)) = false := by decide) (he : starEach (e :: es) X.env = (false, eval e X.env) :: starEach es X.env := by rfl) (hpl : (backTo pos (starEach es X.env)).any (·.1) = false := by rfl) :
    SimEF X F (.Call (.Name x p) (e :: es) [] pos) (efCall (arity n gf) a) :=
  PEimp (pe_call (U.imp fun _ _ _ _ => spEF_ar) hr hg hm hk hb .nil pass0 ha hdb he hpl) fun σ H Q q => spEF_read hG hw arity_n q
end

/-! ### statements with such -/
def mE (m : E1) : M1 := fun env h => (m env h).bind fun x => some (.nx, env, x.2)
def mSetE (i : Nat) (m : E1) : M1 := fun env h => (m env h).bind fun x => some (.nx, env.set i (.v x.1), x.2)
def mSetOE (i : Nat) (m : EF) : M1 := fun env h => (m env h).bind fun x => some (.nx, env.set i (.l x.1), x.2)
def mRetE (ℓ : Lv) (m : E1) : M1 := fun env h => (m env h).bind fun x => some (.rt ℓ x.1, env, x.2)
def mRetFE (m : EF) : M1 := fun env h => (m env h).bind fun x => some (.rf x.1, env, x.2)
def mIfE (t : ET) (a b : M1) : M1 := fun env h => (t env h).bind fun c => if c.1 = true then a env c.2 else b env c.2
def mAsgE (m : E1) (b : B1) : M1 := fun env h => (m env h).bind fun x => (dOf x.1).bind fun d => (b d env).bind fun env' => some (.nx, env', x.2)
section
variable {F : Fm} {X : Cx} {st : Stmt} {sts rest : List Stmt} {e c : Expr} {pos : Pos} {ℓ : Lv} {m : E1} {f : EF} {t : ET}
theorem ss_exprE (he : SimE X F ℓ e m) (hs : swapsWith e none pos.line X.env = pure false := by rfl) : SimS X F (.Expr e pos) (mE m) := PSimp (ps_expr he hs) fun D σ H ⟨env, h, A, r, env', h', R, e, k⟩ => by
  obtain ⟨⟨x, h1⟩, ex, e⟩ := bind_some e
  cases e
  exact ⟨env, h, A, x, _, R, ex, fun v H1 A1 R1 s rv => k σ H1 A1 R1 s.pres⟩
theorem ss_setE {i : Nat} {x : Str} {p2 : Pos} (hN : X.N.Nodup) (hi : X.N[i]? = some x) (hx : Loc X.env.scope x) (he : SimE X F .fs e m) (hs : swapsWith e (some (.Name x p2)) pos.line X.env = pure false := by rfl) (hf : X.fn x = true ∨ X.env.scope.names.lookup x = some .local := by first | exact .inl rfl | exact .inr rfl | assumption) :
    SimS X F (.Assign [.Name x p2] e pos) (mSetE i m) := PSimp (ps_set hN hi hx he hs hf) fun D σ H ⟨env, h, A, r, env', h', R, e, k⟩ => by
  obtain ⟨⟨x, h1⟩, ex, e⟩ := bind_some e
  cases e
  exact ⟨env, h, A, x, _, R, ex, fun v H1 A1 R1 s rv => k _ H1 A1 (R1.setV rv) s.pres⟩
theorem ss_setOE {i : Nat} {x : Str} {p2 : Pos} (hN : X.N.Nodup) (hi : X.N[i]? = some x) (hx : Loc X.env.scope x) (he : SimEF X F e f) (hs : swapsWith e (some (.Name x p2)) pos.line X.env = pure false := by rfl) (hf : X.fn x = true ∨ X.env.scope.names.lookup x = some .local := by first | exact .inl rfl | exact .inr rfl | assumption) :
    SimS X F (.Assign [.Name x p2] e pos) (mSetOE i f) := PSimp (ps_set hN hi hx he hs hf) fun D σ H ⟨env, h, A, r, env', h', R, e, k⟩ => by
  obtain ⟨⟨x, h1⟩, ex, e⟩ := bind_some e
  cases e
  exact ⟨env, h, A, x, _, R, ex, fun p us H1 A1 R1 s hp hv fr rs => k _ H1 _ (R1.setNew fr rfl ⟨rfl, us, hv, rs⟩) s.pres⟩
theorem ss_retE (he : SimE X F ℓ e m) : SimS X F (.Return (some e) pos) (mRetE ℓ m) := PSimp (ps_ret he) fun D σ H ⟨env, h, A, r, env', h', R, e, k⟩ => by
  obtain ⟨⟨x, h1⟩, ex, e⟩ := bind_some e
  cases e
  exact ⟨env, h, A, x, _, R, ex, fun v H1 A1 R1 s rv => k σ H1 A1 v R1 s.pres rv⟩
theorem ss_retFE (he : SimEF X F e f) : SimS X F (.Return (some e) pos) (mRetFE f) := PSimp (ps_ret he) fun D σ H ⟨env, h, A, r, env', h', R, e, k⟩ => by
  obtain ⟨⟨x, h1⟩, ex, e⟩ := bind_some e
  cases e
  exact ⟨env, h, A, x, _, R, ex, fun p us H1 A1 R1 s hp hv fr rs => k σ H1 A1 p us R1 s.pres fr.f0 hv (fun q hq => fr.fp q hq.live) rs⟩
theorem ss_ifE {a b : List Stmt} {ma mb : M1} (hc : SimTE X F c t) (ha : SimB X F a ma) (hb : SimB X F b mb) : SimS X F (.If c a b pos) (mIfE t ma mb) := PSimp (ps_if hc ha hb) fun D σ H ⟨env, h, A, r, env', h', R, e, k⟩ => by
  obtain ⟨⟨d, h1⟩, ed, e⟩ := bind_some e
  refine ⟨env, h, A, d, h1, R, ed, fun H1 A1 R1 s => ?_⟩
  cases d with
  | true => exact ⟨env, h1, A1, r, env', h', R1, e, k.pre s.pres⟩
  | false => exact ⟨env, h1, A1, r, env', h', R1, e, k.pre s.pres⟩
theorem ss_asgE {tg : Expr} {ss : List Nat} {b : B1} (he : SimE X F .fs e m) (hg : PG X tg (tGt F ss b)) (hs : swapsWithSole [tg] e pos.line X.env = pure false := by rfl) (hw : swappedStores [tg] e X.env = pure none := by rfl)
    (h1 : (assignEach [tg] X.env).map (·.2) = [assign tg X.env] := by rfl) : SimS X F (.Assign [tg] e pos) (mAsgE m b) := PSimp (ps_asg he hg hs hw h1) fun D σ H ⟨env, h, A, r, env', h', R, e, k⟩ => by
  obtain ⟨⟨x, h1⟩, ex, e⟩ := bind_some e
  obtain ⟨d, ed, e⟩ := bind_some e
  obtain ⟨env1, eb, e⟩ := bind_some e
  cases e
  refine ⟨env, h, A, x, _, R, ex, fun v H1 A1 R1 s rv => ⟨env, _, A1, d, _, R1, ?_, eb, fun σ' H' x1 R2 _ _ => k σ' H' A1 R2 (s.pres.trans (Ex.pres x1))⟩⟩
  cases x with
  | d y => cases ed; exact rv
  | ref n => cases ed
  | fn n => cases ed
end
end Sm

set_option Elab.async false
set_option linter.all false
set_option maxRecDepth 100000
set_option maxHeartbeats 1000000
namespace Sm
open PySem L2 Evl

/-! ### slices -/
abbrev O1 := En → Hs → Option (Option Int)
def tOi (F : Fm) (o : O1) : TO := fun σ H Q => ∃ env h A x, SR F env h A σ H ∧ o env h = some x ∧ ∀ H', Ex H H' → Q x H'
def oNone : O1 := fun _ _ => some none
def oSome (q : Q1) : O1 := fun env h => (q env h).bind fun x => match x with
  | .d (.int i) => some (some i)
  | _ => none
theorem POimp {X : Cx} {e : Option Expr} {t t' : TO} (h : PO X e t) (i : ∀ σ H Q, t' σ H Q → t σ H Q) : PO X e t' := ⟨fun pins s σ H Q I q => h.run pins s σ H Q I (i σ H Q q)⟩
def cutD {α : Type} (xs : List α) (lo hi : Option Int) : List α := (xs.drop (HT.sIx xs.length 0 lo)).take (HT.sIx xs.length xs.length hi - HT.sIx xs.length 0 lo)
/-- of tuples and texts -/
def gSl (x : Val) (lo hi : Option Int) : Option Val := match x with
  | .d (.tuple xs) => some (.d (.tuple (cutD xs lo hi)))
  | .d (.str s) => if s.length ≤ sizeLine then some (.d (.str (cutS s lo hi))) else none
  | _ => none
def qSl (a : Q1) (lo hi : O1) : Q1 := fun env h => (a env h).bind fun x => (lo env h).bind fun l => (hi env h).bind fun u => gSl x l u
/-- of lists: a new one -/
def fSl (a : Q1) (lo hi : O1) : I1 := fun env h => (a env h).bind fun x => (lo env h).bind fun l => (hi env h).bind fun u => match x with
  | .d (.list xs) => if nlAll xs = true then some (cutD xs l u) else none
  | _ => none
section
variable {F : Fm} {X : Cx} {a b c e : Expr} {es rest : List Expr} {pos p p2 : Pos} {ℓ : Lv} {qa qb qc : Q1} {lo hi : Option Expr} {ol oh : O1} {env : En} {h : Hs} {A : As} {σ : L2.St} {H : Hp}
theorem so_none : PO X none (tOi F oNone) := POimp po_none fun σ H Q ⟨env, h, A, x, R, e, k⟩ => by
  cases e
  exact k H (Ex.refl H)
theorem so_some {ℓ₁ : Lv} (ha : SimQ X F ℓ₁ a qa) : PO X (some a) (tOi F (oSome qa)) := POimp (po_some ha) fun σ H Q ⟨env, h, A, x, R, e, k⟩ => by
  obtain ⟨y, ey, e⟩ := bind_some e
  refine ⟨env, h, A, y, R, ey, fun v H1 e1 rv => ?_⟩
  split at e
  · next i => cases e; cases ri rv; exact ⟨i, rfl, k H1 e1⟩
  · cases e
theorem cut_rep {T L : LP} {ds : List PyData} {vs : List V} {l u : Option Int} (r : RepAll T L ds vs) : RepAll T L (cutD ds l u) (cutV vs l u) := by
  unfold cutD cutV
  rw [r.len]
  exact (r.drop _).take _
theorem sIx_bd (n d : Nat) (hd : d ≤ n) (o : Option Int) : HT.sIx n d o ≤ n := HT.sIx_le n d hd o
theorem cut_all {α : Type} {xs : List α} {l u : Option Int} (h : HT.sIx xs.length 0 l = 0 ∧ HT.sIx xs.length xs.length u = xs.length) : cutD xs l u = xs := by
  unfold cutD
  rw [h.1, h.2]
  simp
theorem sq_slice (hK : X.K = F.G.K) (ha : SimQ X F ℓ a qa) (hl : PO X lo (tOi F ol)) (hh : PO X hi (tOi F oh)) : SimQ X F ℓ (.Subscript a (.Slice lo hi none p2) pos) (qSl qa ol oh) :=
  PEimp (pe_slice (SlR.or sl_tupA sl_str) ha hl hh) fun σ H Q ⟨env, h, A, z, R, e, k⟩ => by
    obtain ⟨x, ex, e⟩ := bind_some e
    obtain ⟨l, el, e⟩ := bind_some e
    obtain ⟨u, eu, e⟩ := bind_some e
    refine ⟨env, h, A, x, R, ex, fun v H1 e1 rv => ⟨env, h, A, l, R.ex e1, el, fun H2 e2 => ⟨env, h, A, u, (R.ex e1).ex e2, eu, fun H3 e3 => ?_⟩⟩⟩
    have rv : RV F ℓ h A H3 x v := (rv.ex e2).ex e3
    have ee := (e1.trans e2).trans e3
    unfold gSl at e
    split at e
    · next xs =>
      cases e
      obtain ⟨a, us, rfl, t, r⟩ := rt rv
      refine .inl ⟨a, us, rfl, by rw [hK]; exact t, fun w => k _ H3 ee ?_, fun w p hp => k _ _ (ee.trans (Ex.new hp)) ?_⟩
      · rw [r.len] at w
        rw [cut_all w]
        exact vt t r
      · exact vt (.inl (.inl upd_same)) (RDs.ex (Ex.new hp) (cut_rep r))
    · next s =>
      split at e
      · next hs => cases e; cases rs rv; exact .inr ⟨_, rfl, hs, k _ H3 ee vs⟩
      · cases e
    · cases e
theorem nl_mem : ∀ {xs : List PyData}, nlAll xs = true ↔ ∀ x ∈ xs, nl x = true
  | [] => by simp [nlAll]
  | x :: xs => by simp [nlAll, nl_mem]
theorem nl_cut {xs : List PyData} {l u : Option Int} (h : nlAll xs = true) : nlAll (cutD xs l u) = true := nl_mem.mpr fun x hx => nl_mem.mp h x (List.mem_of_mem_drop (List.mem_of_mem_take hx))
theorem sf_slice (hK : X.K = F.G.K) (ha : SimQ X F .mo a qa) (hl : PO X lo (tOi F ol)) (hh : PO X hi (tOi F oh)) : SimF X F (.Subscript a (.Slice lo hi none p2) pos) (fSl qa ol oh) :=
  PEimp (pe_slice sl_list ha hl hh) fun σ H Q ⟨env, h, A, z, R, e, k⟩ => by
    obtain ⟨x, ex, e⟩ := bind_some e
    obtain ⟨l, el, e⟩ := bind_some e
    obtain ⟨u, eu, e⟩ := bind_some e
    refine ⟨env, h, A, x, R, ex, fun v H1 e1 rv => ⟨env, h, A, l, R.ex e1, el, fun H2 e2 => ⟨env, h, A, u, (R.ex e1).ex e2, eu, fun H3 e3 => ?_⟩⟩⟩
    have rv : RV F .mo h A H3 x v := (rv.ex e2).ex e3
    have ee := (e1.trans e2).trans e3
    split at e
    · next xs =>
      split at e
      · next hn =>
        cases e
        obtain ⟨a, us, rfl, t, r⟩ := rl rv
        exact ⟨a, us, rfl, by rw [hK]; exact t, fun p hp => k p _ _ (fresh_back ee hp) (ee.trans (Ex.new hp)) upd_same (RDs.ex (Ex.new hp) (RepAll.nl _ _ (nl_cut hn) (cut_rep r)))⟩
      · cases e
    · cases e

/-! ### any, all; chains -/
def boolsOf : List PyData → Option (List Bool)
  | [] => some []
  | .bool b :: ds => (boolsOf ds).bind fun bs => some (b :: bs)
  | _ :: _ => none
theorem bools_rep {T L : LP} : ∀ {ds : List PyData} {bs : List Bool} {vs : List V}, boolsOf ds = some bs → RepAll T L ds vs → vs = bs.map V.bl
  | [], bs, vs, e, r => by
    cases e
    simpa [RepAll] using r
  | d :: ds, bs, vs, e, r => by
    cases d with
    | bool b =>
      obtain ⟨cs, ec, e⟩ := bind_some e
      cases e
      simp only [RepAll] at r
      obtain ⟨v, q, rfl, r1, r2⟩ := r
      rw [rep_bool r1, bools_rep ec r2]
      rfl
    | _ => cases e
def gAll : Hs → Val → Option Val := fun _ x => match x with
  | .d (.list ds) => (boolsOf ds).map fun bs => .d (.bool (bs.all id))
  | _ => none
def gAny : Hs → Val → Option Val := fun _ x => match x with
  | .d (.list ds) => (boolsOf ds).map fun bs => .d (.bool (bs.any id))
  | _ => none
theorem o_all (hK : X.K = F.G.K) : Op1 F .mo ℓ (fun v H Q => rAll X.K [v] H Q) gAll := by
  intro env h A σ H x v z R rx e Q k
  unfold gAll at e
  split at e
  · next ds =>
    obtain ⟨bs, eb, e⟩ := Option.map_eq_some_iff.mp e
    subst e
    obtain ⟨a, us, rfl, q, r⟩ := rl rx
    rw [hK]
    exact ⟨a, bs, rfl, by rw [← bools_rep eb r]; exact q, k _ H (Ex.refl H) vb⟩
  · cases e
theorem o_any (hK : X.K = F.G.K) : Op1 F .mo ℓ (fun v H Q => rAny X.K [v] H Q) gAny := by
  intro env h A σ H x v z R rx e Q k
  unfold gAny at e
  split at e
  · next ds =>
    obtain ⟨bs, eb, e⟩ := Option.map_eq_some_iff.mp e
    subst e
    obtain ⟨a, us, rfl, q, r⟩ := rl rx
    rw [hK]
    exact ⟨a, bs, rfl, by rw [← bools_rep eb r]; exact q, k _ H (Ex.refl H) vb⟩
  · cases e
theorem sq_all (hK : X.K = F.G.K) (hc : X.calm = true) (hm : X.mg "all" = none) (ha : SimQ X F .mo a qa) (hg : Gl X "all" := by rfl)
    (he : starEach [a] X.env = (false, eval a X.env) :: starEach [] X.env := by rfl) (hpl : (backTo pos (starEach [] X.env)).any (·.1) = false := by rfl) : SimQ X F ℓ (.Call (.Name "all" p) [a] [] pos) (q1 gAll qa) :=
  sq_b1 (cr_all hc) (o_all hK) hm (by decide +kernel) ha hg (by decide) (by decide) he hpl
theorem sq_any (hK : X.K = F.G.K) (hc : X.calm = true) (hm : X.mg "any" = none) (ha : SimQ X F .mo a qa) (hg : Gl X "any" := by rfl)
    (he : starEach [a] X.env = (false, eval a X.env) :: starEach [] X.env := by rfl) (hpl : (backTo pos (starEach [] X.env)).any (·.1) = false := by rfl) : SimQ X F ℓ (.Call (.Name "any" p) [a] [] pos) (q1 gAny qa) :=
  sq_b1 (cr_any hc) (o_any hK) hm (by decide +kernel) ha hg (by decide) (by decide) he hpl
/-- a op b op' c of ints -/
def qChain (g g' : Int → Int → Bool) (a b c : Q1) : Q1 := fun env h => (a env h).bind fun x => (b env h).bind fun y => match x, y with
  | .d (.int i), .d (.int j) => if g i j = true then (c env h).bind fun z => (match z with
      | .d (.int k) => some (.d (.bool (g' j k)))
      | _ => none) else some (.d (.bool false))
  | _, _ => none
theorem chain_read {g g' : Int → Int → Bool} {Q : VK} (hq : tQ F ℓ (qChain g g' qa qb qc) σ H Q) : tChain (rI0 fun i j => .bl (g i j)) (rI0 fun i j => .bl (g' i j)) (tQ F .mo qa) (tQ F .mo qb) (tQ F .mo qc) σ H Q := by
  obtain ⟨env, h, A, z, R, e, k⟩ := hq
  obtain ⟨x, ex, e⟩ := bind_some e
  obtain ⟨y, ey, e⟩ := bind_some e
  refine ⟨env, h, A, x, R, ex, fun v H1 e1 rv => ⟨env, h, A, y, R.ex e1, ey, fun u H2 e2 ru => ?_⟩⟩
  split at e
  · next i j _ =>
    cases ri rv
    cases ri ru
    refine ⟨i, j, rfl, rfl, g i j, rfl, ?_⟩
    cases hg : g i j with
    | false =>
      rw [hg] at e
      cases e
      rw [if_neg (by decide)]
      exact k _ H2 (e1.trans e2) vb
    | true =>
      rw [hg, if_pos rfl] at e
      rw [if_pos rfl]
      obtain ⟨w, ew, e⟩ := bind_some e
      refine ⟨env, h, A, w, (R.ex e1).ex e2, ew, fun t H3 e3 rt => ?_⟩
      split at e
      · next m => cases e; cases ri rt; exact ⟨j, m, rfl, rfl, k _ H3 ((e1.trans e2).trans e3) vb⟩
      · cases e
  · cases e
theorem sq_le2 (ha : SimQ X F .mo a qa) (hb : SimQ X F .mo b qb) (hc : SimQ X F .mo c qc) (hm : lastMarks [.LtE, .LtE] [b, c] = false := by with_unfolding_all rfl) : SimQ X F ℓ (.Compare a [.LtE, .LtE] [b, c] pos) (qChain (fun i j => decide (i ≤ j)) (fun i j => decide (i ≤ j)) qa qb qc) :=
  PEimp (pe_chain op_le op_le ha hb hc hm) fun _ _ _ => chain_read
theorem st_le2 (ha : SimQ X F .mo a qa) (hb : SimQ X F .mo b qb) (hc : SimQ X F .mo c qc) (hm : lastMarks [.LtE, .LtE] [b, c] = false := by with_unfolding_all rfl) : SimT X F (.Compare a [.LtE, .LtE] [b, c] pos) (tV (qChain (fun i j => decide (i ≤ j)) (fun i j => decide (i ≤ j)) qa qb qc)) :=
  PTimp (pt_chain op_le op_le ha hb hc hm) fun σ H Q ⟨env, h, A, k, R, e, q⟩ => by
    obtain ⟨x, ex, e⟩ := bind_some e
    refine chain_read (ℓ := .mo) ⟨env, h, A, x, R, ex, fun v H1 e1 rv => ?_⟩
    have hb : ∃ b, x = .d (.bool b) := by
      obtain ⟨_, _, ex⟩ := bind_some ex
      obtain ⟨_, _, ex⟩ := bind_some ex
      split at ex
      · split at ex
        · obtain ⟨_, _, ex⟩ := bind_some ex
          split at ex
          · cases ex; exact ⟨_, rfl⟩
          · cases ex
        · cases ex; exact ⟨_, rfl⟩
      · cases ex
    obtain ⟨b, rfl⟩ := hb
    cases e
    exact ⟨k, rb rv, q H1 e1⟩

/-! ### in, not in -/
theorem room1 {A : Around} {d : PyData} {ds : List PyData} (h : SeqAt.shaped d = true) (hu : A.units + 65 < cLine) : A.units + 1 + min (PyData.depthAll ds) d.depth < cLine := by
  have h1 := SeqAt.depth_of_shaped h
  have h2 : min (PyData.depthAll ds) d.depth ≤ d.depth := Nat.min_le_right _ _
  omega
/-- of tuples -/
def rInTD (K : PySem.W.Frag) (n : Bool) : R2 := fun x y H Q => ∃ d ds, Dp K H x d ∧ Dp K H y (.tuple ds) ∧ SeqAt.shaped d = true ∧ SeqAt.shaped (.tuple ds) = true ∧ Q (.bl (if n = true then !(ds.any fun z => PyData.eqv z d) else ds.any fun z => PyData.eqv z d)) H
theorem op_inTD (hu : X.A.units + 65 < cLine) : OpR X (compareOp .In) (rInTD X.K false) := by
  intro pins s σ H x y v u Q I rx ry ⟨d, ds, hd, he, sd, se, q⟩
  obtain ⟨as, r1⟩ := Dp.reads I d x v hd rx
  obtain ⟨bs, r2⟩ := Dp.reads I (.tuple ds) y u he ry
  exact SeqAt.in_tuple_reads r2 r1 (SeqAt.canLay_of_shaped se) (SeqAt.canLay_of_shaped sd) (room1 sd hu) ⟨.bl _, H, I, rfl, q⟩
theorem op_notInTD (hu : X.A.units + 65 < cLine) : OpR X (compareOp .NotIn) (rInTD X.K true) := by
  intro pins s σ H x y v u Q I rx ry ⟨d, ds, hd, he, sd, se, q⟩
  obtain ⟨as, r1⟩ := Dp.reads I d x v hd rx
  obtain ⟨bs, r2⟩ := Dp.reads I (.tuple ds) y u he ry
  exact SeqAt.notIn_tuple_reads r2 r1 (SeqAt.canLay_of_shaped se) (SeqAt.canLay_of_shaped sd) (room1 sd hu) ⟨.bl _, H, I, rfl, q⟩
def gIn (n : Bool) : Hs → Val → Val → Option Val := fun _ x y => match x, y with
  | .d d, .d (.list ds) => if (SeqAt.shaped d && SeqAt.shaped (.list ds)) = true then some (.d (.bool (if n then !(ds.any fun z => PyData.eqv z d) else ds.any fun z => PyData.eqv z d))) else none
  | .d d, .d (.tuple ds) => if (SeqAt.shaped d && SeqAt.shaped (.tuple ds)) = true then some (.d (.bool (if n then !(ds.any fun z => PyData.eqv z d) else ds.any fun z => PyData.eqv z d))) else none
  | .d (.str s), .d (.str t) => some (.d (.bool (if n then (Builtin.Str.occurrences t s 0 t.length 1).isEmpty else !(Builtin.Str.occurrences t s 0 t.length 1).isEmpty)))
  | _, _ => none
theorem o_in (hK : X.K = F.G.K) (hu : X.A.units + 65 < cLine) : BinS X F .mo .mo ℓ (compareOp .In) (gIn false) := ⟨_, OpR.or (op_inD hu) (OpR.or (op_inTD hu) op_in_str), by
  intro env h A σ H x y v u z R rx ry e Q k
  unfold gIn at e
  split at e
  · next d ds =>
    split at e
    · next hc =>
      cases e
      simp only [Bool.and_eq_true] at hc
      rw [hK]
      exact .inl ⟨d, ds, Rep.dp _ _ rx, Rep.dp (.list ds) _ ry, hc.1, hc.2, k _ H (Ex.refl H) vb⟩
    · cases e
  · next d ds =>
    split at e
    · next hc =>
      cases e
      simp only [Bool.and_eq_true] at hc
      rw [hK]
      exact .inr (.inl ⟨d, ds, Rep.dp _ _ rx, Rep.dp (.tuple ds) _ ry, hc.1, hc.2, k _ H (Ex.refl H) vb⟩)
    · cases e
  · next s t => cases e; cases rs rx; cases rs ry; exact .inr (.inr ⟨s, t, rfl, rfl, k _ H (Ex.refl H) vb⟩)
  · cases e⟩
theorem o_notin (hK : X.K = F.G.K) (hu : X.A.units + 65 < cLine) : BinS X F .mo .mo ℓ (compareOp .NotIn) (gIn true) := ⟨_, OpR.or (op_notInD hu) (OpR.or (op_notInTD hu) op_notin_str), by
  intro env h A σ H x y v u z R rx ry e Q k
  unfold gIn at e
  split at e
  · next d ds =>
    split at e
    · next hc =>
      cases e
      simp only [Bool.and_eq_true] at hc
      rw [hK]
      exact .inl ⟨d, ds, Rep.dp _ _ rx, Rep.dp (.list ds) _ ry, hc.1, hc.2, k _ H (Ex.refl H) vb⟩
    · cases e
  · next d ds =>
    split at e
    · next hc =>
      cases e
      simp only [Bool.and_eq_true] at hc
      rw [hK]
      exact .inr (.inl ⟨d, ds, Rep.dp _ _ rx, Rep.dp (.tuple ds) _ ry, hc.1, hc.2, k _ H (Ex.refl H) vb⟩)
    · cases e
  · next s t =>
    cases e; cases rs rx; cases rs ry
    refine .inr (.inr ⟨s, t, rfl, rfl, ?_⟩)
    have := k _ H (Ex.refl H) vb
    simpa using this
  · cases e⟩
theorem gIn_b {n : Bool} : ∀ h x y z, gIn n h x y = some z → ∃ k, z = .d (.bool k) := by
  intro h x y z e
  unfold gIn at e
  split at e
  · split at e
    · cases e; exact ⟨_, rfl⟩
    · cases e
  · split at e
    · cases e; exact ⟨_, rfl⟩
    · cases e
  · cases e; exact ⟨_, rfl⟩
  · cases e

/-! ### sorted -/
def alikeB (ds : List PyData) : Bool := ds.all fun d => ds.all fun d' => PySem.W.alike d d'
def isTup1 : PyData → Bool
  | .tuple (_ :: _) => true
  | _ => false
def isOther : PyData → Bool
  | .none => false
  | .tuple _ => false
  | _ => true
def sortB (ds : List PyData) : Bool := ds.all isTup1 || ds.all isOther
def gSorted : Hs → Val → Option (List PyData) := fun _ x => match x with
  | .d (.list ds) => if (nlAll ds && alikeB ds && sortB ds && decide (PyData.depthAll ds ≤ 60)) = true then some (ds.mergeSort (PySem.W.dataLe false id)) else none
  | _ => none
theorem depth_mem : ∀ {ds : List PyData} {d : PyData}, d ∈ ds → d.depth ≤ PyData.depthAll ds
  | x :: ds, d, h => by
    rw [PyData.depthAll]
    rcases List.mem_cons.mp h with rfl | h
    · exact Nat.le_max_left _ _
    · exact Nat.le_trans (depth_mem h) (Nat.le_max_right _ _)
theorem each_of {T L : LP} : ∀ {ds : List PyData} {vs : List V} {us : List Value}, RepAll T L ds vs → Vals vs us → PySem.W.EachIs (fun u d => ∃ v, RelV v u ∧ Rep T L d v) us ds
  | [], vs, us, r, q => by
    simp only [RepAll] at r
    subst r
    cases q
    exact .nil
  | d :: ds, vs, us, r, q => by
    simp only [RepAll] at r
    obtain ⟨v, w, rfl, r1, r2⟩ := r
    cases q with
    | cons q1 q2 => exact .cons ⟨v, q1, r1⟩ (each_of r2 q2)
theorem of_each {T L : LP} : ∀ {ds : List PyData} {us : List Value}, PySem.W.EachIs (fun u d => ∃ v, RelV v u ∧ Rep T L d v) us ds → ∃ vs, RepAll T L ds vs ∧ Vals vs us
  | _, _, .nil => ⟨[], .nil, .nil⟩
  | _, _, .cons ⟨v, q1, r1⟩ t => by
    obtain ⟨vs, r2, q2⟩ := of_each t
    exact ⟨v :: vs, .cons r1 r2, .cons q1 q2⟩
theorem each_mem {R S : Value → PyData → Prop} : ∀ {us : List Value} {ds : List PyData}, PySem.W.EachIs R us ds → (∀ u d, d ∈ ds → R u d → S u d) → PySem.W.EachIs S us ds
  | _, _, .nil, _ => .nil
  | _, _, .cons r t, f => .cons (f _ _ (by simp) r) (each_mem t fun u d hd => f u d (by simp [hd]))
end
end Sm
namespace Sm
open PySem L2 Evl
section
variable {F : Fm} {X : Cx} {a b c e : Expr} {es rest : List Expr} {pos p p2 : Pos} {ℓ : Lv} {qa qb qc : Q1} {env : En} {h : Hs} {A : As} {σ : L2.St} {H : Hp}
/-- sorted of a list of data -/
theorem cr_sortD (hu : X.A.units + 64 < cLine) : CallR X (.builtin "sorted") (fun vs H Q => ∃ a us ds, vs = [V.ref a] ∧ SqL X.K H a us ∧ RepAll (SqT X.K H) (SqL X.K H) ds us ∧ (nlAll ds && alikeB ds && sortB ds && decide (PyData.depthAll ds ≤ 60)) = true ∧
    ∀ p us', H p = none → RepAll (SqT X.K H) (SqL X.K H) (ds.mergeSort (PySem.W.dataLe false id)) us' → Q (.ref p) (upd H p (.lst us'))) := by
  intro pins s σ H xs us0 Q I r0 hyp
  obtain ⟨a, us, ds, rfl, hs, hd, hc, q⟩ := hyp
  simp only [Bool.and_eq_true, decide_eq_true_eq] at hc
  obtain ⟨⟨⟨_, hal⟩, hk⟩, hdep⟩ := hc
  obtain ⟨its, rv, pl, hz⟩ := I.list hs
  rw [Vals.ref1 r0]
  have hlen : ds.length ≤ sizeLine := by rw [← hd.len]; exact hz
  have e0 := each_of hd rv
  have hAl : PySem.W.AllAlike (ds.map id) := by
    rw [List.map_id]
    intro d h1 d' h2
    exact List.all_eq_true.mp (List.all_eq_true.mp hal d h1) d' h2
  have hSo : PySem.W.Sortable (ds.map id) := by
    rw [List.map_id]
    unfold sortB at hk
    rw [Bool.or_eq_true] at hk
    rcases hk with hk | hk
    · refine .inl fun d hm => ?_
      have z := List.all_eq_true.mp hk d hm
      unfold isTup1 at z
      split at z
      · exact ⟨_, _, rfl⟩
      · cases z
    · refine .inr fun d hm => ?_
      have z := List.all_eq_true.mp hk d hm
      constructor
      · rintro rfl; cases z
      · rintro xs rfl; cases z
  refine PySem.W.sorted_data (enc := id) (R := fun u d => ∃ v, RelV v u ∧ Rep (SqT X.K H) (SqL X.K H) d v) pl.isList e0 (each_mem e0 fun u d _ ⟨v, q1, r1⟩ => Dp.reads I d v u (Rep.dp d v r1) q1) hAl hSo hlen (fun d hm => ?_) fun out ho eo => ?_
  · have := depth_mem hm
    show X.A.units + 2 + d.depth < cLine
    omega
  · obtain ⟨us', r', q'⟩ := of_each eo
    have hl' : us'.length ≤ sizeLine := by rw [r'.len, List.length_mergeSort]; exact hlen
    obtain ⟨c, hc⟩ := PyProof.Rows.sortedAll_at s.heap its out.toArray
    refine ⟨.ref (s.heap.objs.size + 1), _, I.laid (t' := s.toks) (o := .lst us') (fun b u e => PyProof.Rows.sortedAll_old e) (Nat.le_succ _) ⟨hl', out, c, q', hc⟩, rfl, q _ us' (I.hok.fresh (Nat.le_succ _)) r'⟩
theorem nl_perm {xs ys : List PyData} (p : xs.Perm ys) (h : nlAll ys = true) : nlAll xs = true := nl_mem.mpr fun x hx => nl_mem.mp h x (p.mem_iff.mp hx)
theorem sf_sorted (hK : X.K = F.G.K) (hu : X.A.units + 64 < cLine) (hm : X.mg "sorted" = none) (ha : SimQ X F .mo a qa) (hg : Gl X "sorted" := by rfl)
    (he : starEach [a] X.env = (false, eval a X.env) :: starEach [] X.env := by rfl) (hpl : (backTo pos (starEach [] X.env)).any (·.1) = false := by rfl) : SimF X F (.Call (.Name "sorted" p) [a] [] pos) (f1 gSorted qa) := by
  refine PEimp (pe_callB (cr_sortD hu) hg hm (by decide +kernel) (pa_cons ha pa_nil he) (by decide) (by decide) he hpl) fun σ H Q ⟨env, h, A, z, R, e, k⟩ => ?_
  obtain ⟨x, ex, e⟩ := bind_some e
  refine ⟨env, h, A, x, R, ex, fun v H1 e1 rv => ?_⟩
  unfold gSorted at e
  split at e
  · next ds =>
    split at e
    · next hc =>
      cases e
      obtain ⟨a, us, rfl, t, r⟩ := rl rv
      rw [hK]
      refine ⟨a, us, ds, rfl, t, r, hc, fun p us' hp r' => k p us' _ (fresh_back e1 hp) (e1.trans (Ex.new hp)) upd_same (RDs.ex (Ex.new hp) (RepAll.nl _ _ (nl_perm (List.mergeSort_perm _ _) ?_) r'))⟩
      simp only [Bool.and_eq_true] at hc
      exact hc.1.1.1
    · cases e
  · cases e
end
end Sm

set_option Elab.async false
set_option linter.all false
set_option maxRecDepth 100000
set_option maxHeartbeats 1000000
namespace Sm
open PySem L2 Evl

/-! ### several values at once, new lists among them -/
abbrev PA1 := En → Hs → Option (List Sl × Hs)
structure Srep (F : Fm) (env : En) (h : Hs) (A : As) (H : Hp) (ss : List Sl) (vs : List V) (as : List Addr) : Prop where
  len : vs.length = ss.length
  val : ∀ (i : Nat) x, ss[i]? = some (.v x) → ∃ v, vs[i]? = some v ∧ RV F .fs h A H x v
  lst : ∀ (i : Nat) xs, ss[i]? = some (.l xs) → ∃ p us, vs[i]? = some (.ref p) ∧ p ∈ as ∧ H p = some (.lst us) ∧ RDs F .st H xs us
  no : ∀ (i : Nat) s, ss[i]? = some s → (∃ x, s = .v x) ∨ ∃ xs, s = .l xs
  fr : ∀ p ∈ as, Fresh F env h A p ∧ ∃ o, H p = some o
  nd : ∀ (i j : Nat) xs ys p, ss[i]? = some (.l xs) → ss[j]? = some (.l ys) → vs[i]? = some (.ref p) → vs[j]? = some (.ref p) → i = j
def tP (F : Fm) (m : PA1) : TA := fun σ H Q => ∃ env h A ss h', SR F env h A σ H ∧ m env h = some (ss, h') ∧ ∀ vs as H' A', SR F env h' A' σ H' → Step h A H h' A' H' → (∀ p ∈ as, H p = none) → Srep F env h' A' H' ss vs as → Q vs H'
def pNil : PA1 := fun _ h => some ([], h)
def pV (a : E1) (r : PA1) : PA1 := fun env h => (a env h).bind fun x => (r env x.2).bind fun ss => some (.v x.1 :: ss.1, ss.2)
def pL (a : EF) (r : PA1) : PA1 := fun env h => (a env h).bind fun x => (r env x.2).bind fun ss => some (.l x.1 :: ss.1, ss.2)
section
variable {F : Fm} {X : Cx} {a b c e : Expr} {es rest : List Expr} {pos p p2 : Pos} {ℓ : Lv} {env : En} {h h' : Hs} {A A' : As} {σ : L2.St} {H H' : Hp} {ma : E1} {mf : EF} {r : PA1}
theorem Fresh.step {p : Addr} (f : Fresh F env h A p) (s : Step h A H h' A' H') (sl : ∀ i, A' (.s i) = A (.s i) ∨ ¬ live env h (.s i)) {o : HO} (e : H p = some o) : Fresh F env h' A' p := ⟨f.f0, fun q hq z => by
  cases q with
  | s i =>
    rcases sl i with y | y
    · rw [y] at z; exact f.fp (.s i) hq z
    · exact y hq
  | o n =>
    rcases s.nw (.o n) hq with ⟨q', hq', z'⟩ | z'
    · exact f.fp q' hq'.live (z'.symm.trans z)
    · rw [z, e] at z'; cases z'
  | f n j =>
    rcases s.nw (.f n j) hq with ⟨q', hq', z'⟩ | z'
    · exact f.fp q' hq'.live (z'.symm.trans z)
    · rw [z, e] at z'; cases z'⟩
/-- a slot's own place stands where it stood -/
theorem slot_same (R : SR F env h A σ H) (R' : SR F env h' A' σ H') (i : Nat) : A' (.s i) = A (.s i) ∨ ¬ live env h (.s i) := by
  by_cases hl : live env h (.s i)
  · left
    obtain ⟨s, e, m⟩ := hl
    have z1 := R.sl i s e
    have z2 := R'.sl i s e
    cases s with
    | l xs =>
      obtain ⟨e1, _⟩ := z1
      obtain ⟨e2, _⟩ := z2
      rw [e1] at e2
      injection e2 with e2
      injection e2 with e2
      exact e2.symm
    | k xs =>
      obtain ⟨e1, _⟩ := z1
      obtain ⟨e2, _⟩ := z2
      rw [e1] at e2
      injection e2 with e2
      injection e2 with e2
      exact e2.symm
    | un => cases m
    | z d => cases m
    | v x => cases m
  · exact .inr hl
theorem sp_nil : PA X [] (tP F pNil) := PAimp pa_nil fun σ H Q ⟨env, h, A, ss, h', R, e, k⟩ => by
  cases e
  exact k [] [] H A R Step.refl (by simp) ⟨rfl, by simp, by simp, by simp, by simp, by simp⟩
theorem sp_v (ha : SimE X F .fs e ma) (hr : PA X es (tP F r)) (hs : starEach (e :: es) X.env = (false, eval e X.env) :: starEach es X.env := by rfl) : PA X (e :: es) (tP F (pV ma r)) :=
  PAimp (pa_cons ha hr hs) fun σ H Q ⟨env, h, A, ss, h', R, e, k⟩ => by
    obtain ⟨⟨x, h1⟩, ex, e⟩ := bind_some e
    obtain ⟨⟨ys, h2⟩, ey, e⟩ := bind_some e
    cases e
    refine ⟨env, h, A, x, h1, R, ex, fun v H1 A1 R1 s1 rv => ⟨env, h1, A1, ys, _, R1, ey, fun vs as H2 A2 R2 s2 nn S => k (v :: vs) as H2 A2 R2 (s1.trans s2) (fun p hp => none_back s1 (nn p hp)) ?_⟩⟩
    refine ⟨by simp [S.len], fun i y q => ?_, fun i xs q => ?_, fun i s q => ?_, S.fr, fun i j xs ys p q1 q2 q3 q4 => ?_⟩
    · cases i with
      | zero => simp at q; subst q; exact ⟨v, rfl, rv.step s2 (by simp)⟩
      | succ i => simpa using S.val i y (by simpa using q)
    · cases i with
      | zero => simp at q
      | succ i => simpa using S.lst i xs (by simpa using q)
    · cases i with
      | zero => simp at q; exact .inl ⟨x, q.symm⟩
      | succ i => exact S.no i s (by simpa using q)
    · cases i with
      | zero => simp at q1
      | succ i =>
        cases j with
        | zero => simp at q2
        | succ j => rw [S.nd i j xs ys p (by simpa using q1) (by simpa using q2) (by simpa using q3) (by simpa using q4)]
theorem sp_l (ha : SimEF X F e mf) (hr : PA X es (tP F r)) (hs : starEach (e :: es) X.env = (false, eval e X.env) :: starEach es X.env := by rfl) : PA X (e :: es) (tP F (pL mf r)) :=
  PAimp (pa_cons ha hr hs) fun σ H Q ⟨env, h, A, ss, h', R, e, k⟩ => by
    obtain ⟨⟨x, h1⟩, ex, e⟩ := bind_some e
    obtain ⟨⟨ys, h2⟩, ey, e⟩ := bind_some e
    cases e
    refine ⟨env, h, A, x, h1, R, ex, fun p us H1 A1 R1 s1 hp hv fr rs => ⟨env, h1, A1, ys, _, R1, ey, fun vs as H2 A2 R2 s2 nn S => ?_⟩⟩
    have kp : H2 p = some (.lst us) := s2.fr p _ hv fun q hq => fr.fp q hq.live
    have np : p ∉ as := fun hm => by have := nn p hm; rw [hv] at this; cases this
    refine k (.ref p :: vs) (p :: as) H2 A2 R2 (s1.trans s2) (fun q hq => ?_) ?_
    · rcases List.mem_cons.mp hq with rfl | hq
      · exact hp
      · exact none_back s1 (nn q hq)
    refine ⟨by simp [S.len], fun i y q => ?_, fun i xs q => ?_, fun i s q => ?_, fun q hq => ?_, fun i j xs ys q q1 q2 q3 q4 => ?_⟩
    · cases i with
      | zero => simp at q
      | succ i => simpa using S.val i y (by simpa using q)
    · cases i with
      | zero => simp at q; subst q; exact ⟨p, us, rfl, by simp, kp, RDs.pres s2.pres (by simp) rs⟩
      | succ i =>
        obtain ⟨q1, u1, a1, a2, a3, a4⟩ := S.lst i xs (by simpa using q)
        exact ⟨q1, u1, by simpa using a1, by simp [a2], a3, a4⟩
    · cases i with
      | zero => simp at q; exact .inr ⟨x, q.symm⟩
      | succ i => exact S.no i s (by simpa using q)
    · rcases List.mem_cons.mp hq with rfl | hq
      · exact ⟨Fresh.step fr s2 (slot_same R1 R2) hv, _, kp⟩
      · exact S.fr q hq
    · cases i with
      | zero =>
        cases j with
        | zero => rfl
        | succ j =>
          obtain ⟨w, _, a1, a2, _⟩ := S.lst j ys (by simpa using q2)
          simp at q3 q4
          rw [q4] at a1
          cases a1
          subst q3
          exact absurd a2 np
      | succ i =>
        cases j with
        | zero =>
          obtain ⟨w, _, a1, a2, _⟩ := S.lst i xs (by simpa using q1)
          simp at q3 q4
          rw [q3] at a1
          cases a1
          subst q4
          exact absurd a2 np
        | succ j => rw [S.nd i j xs ys q (by simpa using q1) (by simpa using q2) (by simpa using q3) (by simpa using q4)]
/-- one of them stored -/
theorem store1 {ss : List Sl} {vs : List V} {as done : List Addr} {k i : Nat} {s : Sl} {v : V} (R : SR F env h A σ H) (hs : ss[k]? = some s) (hv : vs[k]? = some v)
    (hval : ∀ x, s = .v x → RV F .fs h A H x v) (hlst : ∀ xs, s = .l xs → ∃ p us, v = .ref p ∧ H p = some (.lst us) ∧ RDs F .st H xs us ∧ Fresh F env h A p) (hno : (∃ x, s = .v x) ∨ ∃ xs, s = .l xs) :
    ∃ A', SR F (env.set i s) h A' (σ.set i (some v)) H ∧ (∀ q, hlive h q → A' q = A q) ∧ (∀ q, live (env.set i s) h q → A' q = A q ∧ live env h q ∨ ∃ xs, s = .l xs ∧ v = .ref (A' q) ∧ q = .s i) ∧ ∀ m, A' (.o m) = A (.o m) := by
  rcases hno with ⟨x, rfl⟩ | ⟨xs, rfl⟩
  · refine ⟨A, R.setV (hval x rfl), fun _ _ => rfl, fun q hq => ?_, fun _ => rfl⟩
    rcases live_set hq with ⟨_, m, _⟩ | ⟨_, hq⟩
    · cases m
    · exact .inl ⟨rfl, hq⟩
  · obtain ⟨p, us, rfl, e1, r, f⟩ := hlst xs rfl
    refine ⟨As.put A (.s i) p, R.setNew f rfl ⟨rfl, us, e1, r⟩, fun q hq => As.put_ne (by intro z; subst z; exact hq), fun q hq => ?_, fun m => As.put_ne (by intro z; cases z)⟩
    rcases live_set hq with ⟨z, _, _⟩ | ⟨z, hq⟩
    · exact .inr ⟨xs, rfl, by rw [z, As.put_same], z⟩
    · exact .inl ⟨As.put_ne z, hq⟩
def mPar2 (i j : Nat) (m : PA1) : M1 := fun env h => (m env h).bind fun r => match r.1 with
  | [s, t] => some (.nx, (env.set i s).set j t, r.2)
  | _ => none
theorem ss_par2 {i j : Nat} {x y : Str} {m : PA1} {px py pt : Pos} {kt k2 pt2} (hc : X.calm = true) (hN : X.N.Nodup) (hi : X.N[i]? = some x) (hj : X.N[j]? = some y) (hij : i ≠ j)
    (hx : X.env.scope.names.lookup x = some .local) (hy : X.env.scope.names.lookup y = some .local) (ha : PA X [a, b] (tP F m))
    (hw : swappedStores [.Tuple [.Name x px, .Name y py] kt pt] (.Tuple [a, b] k2 pt2) X.env = pure (some [x, y]))
    (hs : swapsWithSole [.Tuple [.Name x px, .Name y py] kt pt] (.Tuple [a, b] k2 pt2) pos.line X.env = pure false := by rfl) :
    SimS X F (.Assign [.Tuple [.Name x px, .Name y py] kt pt] (.Tuple [a, b] k2 pt2) pos) (mPar2 i j m) := PSimp (ps_par hc hN hi hj hij hx hy ha hw hs) fun D σ H ⟨env, h, A, r, env', h', R, e, k⟩ => by
  obtain ⟨⟨ss, h1⟩, ex, e⟩ := bind_some e
  simp only at e
  split at e
  · next s t =>
    cases e
    refine ⟨env, h, A, _, _, R, ex, fun vs as H1 A1 R1 s1 nn S => ?_⟩
    obtain ⟨v, w, rfl⟩ : ∃ v w, vs = [v, w] := by
      have := S.len
      match vs, this with
      | [v, w], _ => exact ⟨v, w, rfl⟩
    refine ⟨v, w, rfl, ?_⟩
    obtain ⟨A2, R2, p1, p2, p3⟩ := store1 (ss := [s, t]) (vs := [v, w]) (as := as) (done := []) (k := 0) (i := i) R1 rfl rfl (fun x z => by subst z; obtain ⟨v', h1, h2⟩ := S.val 0 x rfl; cases h1; exact h2)
      (fun xs z => by subst z; obtain ⟨p, us, h1, h2, h3, h4⟩ := S.lst 0 xs rfl; cases h1; exact ⟨p, us, rfl, h3, h4, (S.fr p h2).1⟩) (S.no 0 s rfl)
    obtain ⟨A3, R3, _, _, _⟩ := store1 (ss := [s, t]) (vs := [v, w]) (as := as) (done := []) (k := 1) (i := j) R2 rfl rfl (fun x z => by subst z; obtain ⟨v', h1, h2⟩ := S.val 1 x rfl; cases h1; exact h2.mono (fun _ _ z => z) (fun _ _ z => z) (Nat.le_refl _) fun m _ => p3 m)
      (fun xs z => by
        subst z
        obtain ⟨p, us, h1, h2, h3, h4⟩ := S.lst 1 xs rfl
        cases h1
        refine ⟨p, us, rfl, h3, h4, ⟨(S.fr p h2).1.f0, fun q hq z => ?_⟩⟩
        rcases p2 q hq with ⟨z1, z2⟩ | ⟨ys, rfl, z1, _⟩
        · exact (S.fr p h2).1.fp q z2 (z1.symm.trans z)
        · rw [z] at z1
          have := S.nd 0 1 ys xs p rfl rfl (by rw [z1]; rfl) rfl
          cases this) (S.no 1 t rfl)
    exact k _ H1 A3 R3 s1.pres
  · cases e

/-! ### own lists in place -/
def mApp (i : Nat) (q : Q1) : M1 := fun env h => (q env h).bind fun x => (dOf x).bind fun d => match env[i]? with
  | some (.l xs) => if xs.length < sizeLine then some (.nx, env.set i (.l (xs ++ [d])), h) else none
  | _ => none
theorem mt_of {id : String} {r : V → List V → Hp → VK → Prop} (h : MtM X id r) : MtR X id r := h
theorem ty_list {K : PySem.W.Frag} {p : Addr} {us : List V} (e : H p = some (.lst us)) : tyV K "list" (.ref p) H := .inl ⟨rfl, us, .inl (.inl e)⟩
theorem slot_own (R : SR F env h A σ H) {i : Nat} {xs : List PyData} (e : env[i]? = some (.l xs)) : σ[i]? = some (some (.ref (A (.s i)))) ∧ ∃ us, H (A (.s i)) = some (.lst us) ∧ RDs F .st H xs us := by
  obtain ⟨e1, us, e2, r⟩ := R.sl i _ e
  refine ⟨?_, us, e2, r⟩
  cases hs : σ[i]? with
  | none => rw [hs] at e1; cases e1
  | some o => rw [hs] at e1; exact congrArg some e1
/-- the list's new items, told where it stands -/
theorem SR.putL (R : SR F env h A σ H) {i : Nat} {xs ys : List PyData} {vs : List V} (e : env[i]? = some (.l xs)) (r : RDs F .st H ys vs) : SR F (env.set i (.l ys)) h A σ (upd H (A (.s i)) (.lst vs)) := by
  obtain ⟨e1, _⟩ := R.sl i _ e
  have P : Pres H (upd H (A (.s i)) (.lst vs)) := R.pres_at ⟨_, e, rfl⟩
  exact R.putS e rfl rfl ⟨e1, vs, upd_same, RepAll.mono P.sqT P.sL _ _ r⟩
end
end Sm

set_option Elab.async false
set_option linter.all false
set_option maxRecDepth 100000
set_option maxHeartbeats 1000000
namespace Sm
open PySem L2 Evl

/-! ### list + list -/
def rCatQ (K : PySem.W.Frag) : R2 := fun x y H Q => ∃ l b xs zs, x = .ref l ∧ y = .ref b ∧ SqL K H l xs ∧ SqL K H b zs ∧ xs.length + zs.length ≤ sizeLine ∧ ∀ p, H p = none → Q (.ref p) (upd H p (.lst (xs ++ zs)))
theorem op_catQ {X : Cx} : OpR X (binaryOp .Add) (rCatQ X.K) := by
  intro pins s σ H x y v u Q I rx ry hyp
  obtain ⟨l, b, xs, zs, rfl, rfl, hx, hz, hsz, k⟩ := hyp
  cases rx
  cases ry
  obtain ⟨its, r1, ⟨⟨c1, d1, t1, s1⟩, n1, g1, gc, gd, gt⟩, _⟩ := I.list hx
  obtain ⟨jts, r2, ⟨⟨c2, d2, t2, s2⟩, n2, f1, fc, fd, ft⟩, _⟩ := I.list hz
  simp only at gc gd gt fc fd ft
  subst gc gd gt fc fd ft
  have el : its.toArray.size + jts.toArray.size ≤ sizeLine := by
    rw [List.size_toArray, List.size_toArray, ← r1.length, ← r2.length]
    exact hsz
  have run := PyProof.Rows.list_addW l b its.toArray jts.toArray n1 n2 none none s1 s2 el
  refine concat_meets
    ⟨_, g1, rfl⟩ ⟨_, f1, rfl⟩
    noFill_list_add seq_list_add
    PySem.F.slot_list_add
    PySem.F.entry_list_add
    (PySem.F.args_list_add_2 _ _)
    run ?_
  refine ⟨g1, f1, ?_⟩
  have ea : its.toArray ++ jts.toArray = (its ++ jts).toArray := by simp
  rw [ea]
  have hl : (xs ++ zs).length ≤ sizeLine := by rw [List.length_append]; exact hsz
  exact ⟨.ref s.heap.objs.size, _, I.laid (t' := s.toks) (o := .lst (xs ++ zs)) (fun b' o' e' => Heap.get?_push_of_some _ e') (Nat.le_refl _) ⟨hl, _, 0, r1.append r2, Heap.get?_push_size _ rfl⟩, rfl, k _ (I.hok.fresh (Nat.le_refl _))⟩
def gCat : Hs → Val → Val → Option (List PyData) := fun _ x y => match x, y with
  | .d (.list xs), .d (.list ys) => if nlAll xs = true ∧ nlAll ys = true ∧ xs.length + ys.length ≤ sizeLine then some (xs ++ ys) else none
  | _, _ => none
section
variable {F : Fm} {X : Cx} {a b c e : Expr} {es rest : List Expr} {pos p p2 apos : Pos} {ℓ : Lv} {qa qb qc : Q1} {env : En} {h h' : Hs} {A A' : As} {σ : L2.St} {H H' : Hp} {ma mb : E1} {mf : EF}
theorem sf_cat (hK : X.K = F.G.K) (ha : SimQ X F .mo a qa) (hb : SimQ X F .mo b qb) : SimF X F (.BinOp a .Add b pos) (f2 gCat qa qb) := PEimp (pe_op op_catQ ha hb) fun σ H Q ⟨env, h, A, z, R, e, k⟩ => by
  obtain ⟨x, ex, e⟩ := bind_some e
  obtain ⟨y, ey, e⟩ := bind_some e
  refine ⟨env, h, A, x, R, ex, fun v H1 e1 rv => ⟨env, h, A, y, R.ex e1, ey, fun u H2 e2 ru => ?_⟩⟩
  have rv := rv.ex e2
  unfold gCat at e
  split at e
  · next xs ys =>
    split at e
    · next hc =>
      cases e
      obtain ⟨a, us, rfl, q1, r1⟩ := rl rv
      obtain ⟨b, ws, rfl, q2, r2⟩ := rl ru
      rw [hK]
      refine ⟨a, b, us, ws, rfl, rfl, q1, q2, by rw [r1.len, r2.len]; exact hc.2.2, fun p hp => k p _ _ (fresh_back (e1.trans e2) hp) ((e1.trans e2).trans (Ex.new hp)) upd_same (RDs.ex (Ex.new hp) (RepAll.append (RepAll.nl _ _ hc.1 r1) (RepAll.nl _ _ hc.2.1 r2)))⟩
    · cases e
  · cases e
/-- both may write; the operands locked -/
def ef2 (g : Hs → Val → Val → Option (List PyData)) (a b : E1) : EF := fun env h => (a env h).bind fun x => (b env x.2).bind fun y => (g y.2 x.1 y.1).bind fun z => some (z, y.2)
theorem sef_cat (hK : X.K = F.G.K) (ha : SimE X F .fs a ma) (hb : SimE X F .fs b mb) : SimEF X F (.BinOp a .Add b pos) (ef2 gCat ma mb) := PEimp (pe_op op_catQ ha hb) fun σ H Q ⟨env, h, A, z, h', R, e, k⟩ => by
  obtain ⟨⟨x, h1⟩, ex, e⟩ := bind_some e
  obtain ⟨⟨y, h2⟩, ey, e⟩ := bind_some e
  obtain ⟨w, ew, e⟩ := bind_some e
  cases e
  refine ⟨env, h, A, x, h1, R, ex, fun v H1 A1 R1 s1 rv => ⟨env, h1, A1, y, _, R1, ey, fun u H2 A2 R2 s2 ru => ?_⟩⟩
  have rv := RV.mo R2 (rv.step s2 (by simp))
  have ru := RV.mo R2 ru
  have ew : gCat h2 x y = some _ := ew
  unfold gCat at ew
  split at ew
  · next xs ys =>
    split at ew
    · next hc =>
      cases ew
      obtain ⟨a, us, rfl, q1, r1⟩ := rl rv
      obtain ⟨b, ws, rfl, q2, r2⟩ := rl ru
      rw [hK]
      refine ⟨a, b, us, ws, rfl, rfl, q1, q2, by rw [r1.len, r2.len]; exact hc.2.2, fun p hp => k p _ _ A2 (R2.ex (Ex.new hp)) ((s1.trans s2).trans (Step.ex (Ex.new hp))) (none_back (s1.trans s2) hp) upd_same ⟨(R2.fresh hp).f0, (R2.fresh hp).fp⟩ (RDs.ex (Ex.new hp) (RepAll.append (RepAll.nl _ _ hc.1 r1) (RepAll.nl _ _ hc.2.1 r2)))⟩
    · cases ew
  · cases ew

/-! ### own lists in place -/
def mAppE (i : Nat) (m : E1) : M1 := fun env h => match env[i]? with
  | some (.l xs) => (m env h).bind fun x => (dOf x.1).bind fun d => if xs.length < sizeLine then some (.nx, env.set i (.l (xs ++ [d])), x.2) else none
  | _ => none
theorem RD.of_val {x : Val} {d : PyData} {v : V} (e : dOf x = some d) (r : RV F ℓ h A H x v) : RD F ℓ H d v := by
  cases x with
  | d y => cases e; exact r
  | ref n => cases e
  | fn n => cases e
theorem ss_app {i : Nat} {x : Str} (hK : X.K = F.G.K) (ha : SimE X F .st e ma) (hN : X.N[i]? = some x := by rfl) (hv : Vis X.env.scope x := by first | exact Or.inl rfl | exact Or.inr (Or.inl rfl) | exact Or.inr (Or.inr rfl)) (hd : (x == ("__debug__" : Str)) = false := by decide)
    (hcd : (x == ("__classdict__" : Str)) = false := by decide)
    (hbase : attributeBase (.Name x p) "append" X.env (eval (.Name x p) X.env) = eval (.Name x p) X.env := by rfl)
    (hfew : ((backTo pos (starEach [e] X.env)).all (fun x => !x.1) && (backToKw pos (keywordEach [] X.env)).all (fun x => x.1.isSome) && decide ([e].length + ([] : List Keyword).length + (if ([] : List Keyword).isEmpty then 0 else 1) < 30)) = true := by rfl)
    (hline : (apos.endLine == pos.line) = true := by rfl) (hs : starEach [e] X.env = (false, eval e X.env) :: starEach [] X.env := by rfl) (hplain : (backTo pos (starEach [] X.env)).any (·.1) = false := by rfl)
    (hsw : swapsWith (.Call (.Attribute (.Name x p) "append" apos) [e] [] pos) none p2.line X.env = pure false := by rfl) :
    SimS X F (.Expr (.Call (.Attribute (.Name x p) "append" apos) [e] [] pos) p2) (mAppE i ma) :=
  PSimp (ps_expr (pe_bm PySem.F.plainAttrs_list PySem.F.slot_list_append PySem.F.type_list_append mt_append (pe_var hN hv hd hcd) (pa_cons ha pa_nil hs) hbase hfew hline hs hplain) hsw) fun D σ H ⟨env, h, A, r, env', h', R, e, k⟩ => by
    unfold mAppE at e
    split at e
    · next xs hy =>
      obtain ⟨⟨y, h1⟩, ey, e⟩ := bind_some e
      obtain ⟨d, ed, e⟩ := bind_some e
      split at e
      · next hl =>
        cases e
        obtain ⟨s1, us, hu, _⟩ := slot_own R hy
        refine ⟨_, s1, by rw [hK]; exact ty_list hu, env, h, A, y, _, R, ey, fun v H1 A1 R1 st rv => ?_⟩
        obtain ⟨s2, ws, hw, rs⟩ := slot_own R1 hy
        rw [s1] at s2
        have ea : A (.s i) = A1 (.s i) := by injection s2 with z; injection z with z; injection z
        refine ⟨A (.s i), ws, v, rfl, rfl, by rw [ea]; exact hw, by rw [rs.len]; exact hl, ?_⟩
        have R2 := R1.putL hy (rs.append (.cons (RD.of_val ed rv) .nil))
        rw [ea]
        exact k σ _ A1 R2 (st.pres.trans (R1.pres_at ⟨_, hy, rfl⟩))
      · cases e
    · cases e
def mExtE (i : Nat) (m : EF) : M1 := fun env h => match env[i]? with
  | some (.l xs) => (m env h).bind fun x => if xs.length + x.1.length ≤ sizeLine then some (.nx, env.set i (.l (xs ++ x.1)), x.2) else none
  | _ => none
theorem ss_ext {i : Nat} {x : Str} (hK : X.K = F.G.K) (ha : SimEF X F e mf) (hN : X.N[i]? = some x := by rfl) (hv : Vis X.env.scope x := by first | exact Or.inl rfl | exact Or.inr (Or.inl rfl) | exact Or.inr (Or.inr rfl)) (hd : (x == ("__debug__" : Str)) = false := by decide)
    (hcd : (x == ("__classdict__" : Str)) = false := by decide)
    (hbase : attributeBase (.Name x p) "extend" X.env (eval (.Name x p) X.env) = eval (.Name x p) X.env := by rfl)
    (hfew : ((backTo pos (starEach [e] X.env)).all (fun x => !x.1) && (backToKw pos (keywordEach [] X.env)).all (fun x => x.1.isSome) && decide ([e].length + ([] : List Keyword).length + (if ([] : List Keyword).isEmpty then 0 else 1) < 30)) = true := by rfl)
    (hline : (apos.endLine == pos.line) = true := by rfl) (hs : starEach [e] X.env = (false, eval e X.env) :: starEach [] X.env := by rfl) (hplain : (backTo pos (starEach [] X.env)).any (·.1) = false := by rfl)
    (hsw : swapsWith (.Call (.Attribute (.Name x p) "extend" apos) [e] [] pos) none p2.line X.env = pure false := by rfl) :
    SimS X F (.Expr (.Call (.Attribute (.Name x p) "extend" apos) [e] [] pos) p2) (mExtE i mf) :=
  PSimp (ps_expr (pe_bm PySem.F.plainAttrs_list PySem.F.slot_list_extend PySem.F.type_list_extend mt_extend (pe_var hN hv hd hcd) (pa_cons ha pa_nil hs) hbase hfew hline hs hplain) hsw) fun D σ H ⟨env, h, A, r, env', h', R, e, k⟩ => by
    unfold mExtE at e
    split at e
    · next xs hy =>
      obtain ⟨⟨y, h1⟩, ey, e⟩ := bind_some e
      split at e
      · next hl =>
        cases e
        obtain ⟨s1, us, hu, _⟩ := slot_own R hy
        refine ⟨_, s1, by rw [hK]; exact ty_list hu, env, h, A, y, _, R, ey, fun q zs H1 A1 R1 st hq hz f rz => ?_⟩
        obtain ⟨s2, ws, hw, rs⟩ := slot_own R1 hy
        rw [s1] at s2
        have ea : A (.s i) = A1 (.s i) := by injection s2 with z; injection z with z; injection z
        refine ⟨A (.s i), q, ws, zs, rfl, rfl, by rw [ea]; exact hw, hz, by rw [rs.len, rz.len]; exact hl, ?_⟩
        have R2 := R1.putL hy (rs.append rz)
        rw [ea]
        exact k σ _ A1 R2 (st.pres.trans (R1.pres_at ⟨_, hy, rfl⟩))
      · cases e
    · cases e

/-! ### list objects -/
/-- o[i] = v -/
def oPut (h : Hs) (n : Nat) (k : Int) (y : Val) : Option Hs := match h[n]? with
  | some (.lst xs) => (dOf y).bind fun d => (ixN xs.length k).bind fun j => some (h.set n (.lst (xs.set j d)))
  | some (.vls xs) => (ixN xs.length k).bind fun j => some (h.set n (.vls (xs.set j y)))
  | _ => none
def mPut (qo qi : Q1) (m : E1) : M1 := fun env h => (m env h).bind fun x => (qo env x.2).bind fun o => (qi env x.2).bind fun i => match o, i with
  | .ref n, .d (.int k) => (oPut x.2 n k x.1).bind fun h' => some (.nx, env, h')
  | _, _ => none
theorem pair_set {α β : Type} {f : α → β → Prop} : ∀ {l : List α} {m : List β} (i : Nat) {x : α} {y : β}, Paired f l m → f x y → Paired f (l.set i x) (m.set i y)
  | _, _, i, x, y, .nil, r => .nil
  | _, _, 0, x, y, .cons _ t, r => .cons r t
  | _, _, i + 1, x, y, .cons h t, r => .cons h (pair_set i t r)
theorem ss_put {o i : Expr} {qo qi : Q1} {tpos : Pos} (hw : F.rw = true) (ha : SimE X F .st e ma) (ho : SimQ X F .mo o qo) (hi : SimQ X F .mo i qi) (hs : swapsWithSole [.Subscript o i tpos] e pos.line X.env = pure false := by rfl) (hsw : swappedStores [.Subscript o i tpos] e X.env = pure none := by rfl)
    (h1 : (assignEach [.Subscript o i tpos] X.env).map (·.2) = [assign (.Subscript o i tpos) X.env] := by rfl)
    (hst : ∀ v, assign (.Subscript o i tpos) X.env v = (do
      let ov ← holding [v] (eval o X.env)
      let iv ← holding [v, ov] (eval i X.env)
      standAt tpos
      holding [v, ov, iv] (setItem ov iv v)
      release [v, ov, iv] []) := by intro _; rfl) : SimS X F (.Assign [.Subscript o i tpos] e pos) (mPut qo qi ma) :=
  PSimp (ps_asg ha (pg_sub ho hi set_list hst) hs hsw h1) fun D σ H ⟨env, h, A, r, env', h', R, e, k⟩ => by
    obtain ⟨⟨x, h1⟩, ex, e⟩ := bind_some e
    obtain ⟨y, ey, e⟩ := bind_some e
    obtain ⟨z, ez, e⟩ := bind_some e
    refine ⟨env, h, A, x, h1, R, ex, fun v H1 A1 R1 s1 rv => ⟨env, h1, A1, y, R1, ey, fun w H2 e2 rw' => ⟨env, h1, A1, z, R1.ex e2, ez, fun u H3 e3 ru => ?_⟩⟩⟩
    split at e
    · next n kk _ =>
      obtain ⟨h2, eh, e⟩ := bind_some e
      cases e
      obtain ⟨_, rfl⟩ := rw'
      cases ri ru
      have R3 := (R1.ex e2).ex e3
      unfold oPut at eh
      split at eh
      · next xs hn =>
        obtain ⟨d, ed, eh⟩ := bind_some eh
        obtain ⟨j, ej, eh⟩ := bind_some eh
        cases eh
        obtain ⟨us, hu, rs⟩ := R3.ob n _ hn
        have rd : RD F .st H3 d v := RD.ex (e2.trans e3) (RD.of_val ed rv)
        have hj : ixN us.length kk = some j := by rw [rs.len]; exact ej
        refine ⟨_, us, kk, j, rfl, rfl, hu, hj, ?_⟩
        have R4 := R3.putO hw hn (rs.set j rd)
        exact k σ _ A1 R4 ((s1.pres.trans (Ex.pres (e2.trans e3))).trans (R3.pres_at (show live env h1 (.o n) from (List.getElem?_eq_some_iff.mp hn).1)))
      · next xs hn =>
        obtain ⟨j, ej, eh⟩ := bind_some eh
        cases eh
        obtain ⟨us, hu, rs⟩ := R3.ob n _ hn
        have rv3 : RV F .st h1 A1 H3 x v := (rv.ex e2).ex e3
        have hj : ixN us.length kk = some j := by rw [pair_len rs]; exact ej
        refine ⟨_, us, kk, j, rfl, rfl, hu, hj, ?_⟩
        have R4 := R3.putV hw hn (pair_set j rs rv3)
        exact k σ _ A1 R4 ((s1.pres.trans (Ex.pres (e2.trans e3))).trans (R3.pres_at (show live env h1 (.o n) from (List.getElem?_eq_some_iff.mp hn).1)))
      · cases eh
    · cases e
/-- a list written out as an object of its own -/
def newOb (xs : List Val) : Ob := match dsOf xs with
  | some ds => .lst ds
  | none => .vls xs
def eNew (a : EA) : E1 := fun env h => (a env h).bind fun x => if x.1.length ≤ sizeLine then some (.ref x.2.length, x.2 ++ [newOb x.1]) else none
theorem ds_st {h : Hs} {A : As} {H : Hp} : ∀ {xs : List Val} {ds : List PyData} {vs : List V}, dsOf xs = some ds → Paired (fun x v => RV F ℓ h A H x v) xs vs → RDs F ℓ H ds vs := fun e r => ds_rep e r
def tEAs (F : Fm) (m : EA) : TA := fun σ H Q => ∃ env h A xs h', SR F env h A σ H ∧ m env h = some (xs, h') ∧ ∀ vs H' A', SR F env h' A' σ H' → Step h A H h' A' H' → Paired (fun x v => RV F .st h' A' H' x v) xs vs → Q vs H'
theorem sas_nil : PA X [] (tEAs F eNil) := PAimp pa_nil fun σ H Q ⟨env, h, A, xs, h', R, e, k⟩ => by
  cases e
  exact k [] H A R Step.refl .nil
theorem sas_cons {r : EA} (ha : SimE X F .st e ma) (hr : PA X es (tEAs F r)) (hs : starEach (e :: es) X.env = (false, eval e X.env) :: starEach es X.env := by rfl) : PA X (e :: es) (tEAs F (eCons ma r)) :=
  PAimp (pa_cons ha hr hs) fun σ H Q ⟨env, h, A, xs, h', R, e, k⟩ => by
    obtain ⟨⟨x, h1⟩, ex, e⟩ := bind_some e
    obtain ⟨⟨ys, h2⟩, ey, e⟩ := bind_some e
    cases e
    exact ⟨env, h, A, x, h1, R, ex, fun v H1 A1 R1 s1 rv => ⟨env, h1, A1, ys, _, R1, ey, fun vs H2 A2 R2 s2 rs => k _ H2 A2 R2 (s1.trans s2) (.cons (rv.step s2 (by simp)) rs)⟩⟩
theorem newOb_no (xs : List Val) : ∀ c fs, newOb xs ≠ .ins c fs := fun c fs z => by
  unfold newOb at z
  split at z <;> cases z
theorem se_new {r : EA} (hw : F.rw = true) (hr : PA X es (tEAs F r)) : SimE X F ℓ (.List es pos) (eNew r) := PEimp (pe_lst hr) fun σ H Q ⟨env, h, A, z, h', R, e, k⟩ => by
  obtain ⟨⟨xs, h1⟩, ex, e⟩ := bind_some e
  split at e
  · next hl =>
    cases e
    refine ⟨env, h, A, xs, h1, R, ex, fun vs H1 A1 R1 s1 rs => ?_⟩
    refine ⟨by rw [pair_len rs]; exact hl, fun p hp => ?_⟩
    have R2 := R1.ex (Ex.new (p := p) (o := .lst vs) hp)
    have f : Fresh F env h1 A1 p := ⟨(R1.fresh hp).f0, (R1.fresh hp).fp⟩
    have ho : ObOf F.G (h1.length + 1) (As.put A1 (.o h1.length) p) (upd H1 p (.lst vs)) h1.length (newOb xs) := by
      have hA : ∀ m, m < h1.length → As.put A1 (.o h1.length) p (.o m) = A1 (.o m) := fun m hm => As.put_ne (by intro q; cases q; exact absurd hm (Nat.lt_irrefl _))
      unfold newOb
      split
      · next ds ed => exact ⟨vs, by rw [As.put_same]; exact upd_same, RDs.ex (Ex.new hp) (ds_rep ed rs)⟩
      · exact ⟨vs, by rw [As.put_same]; exact upd_same, vls_mono (fun _ _ y => RepV.mono (Ex.pres (Ex.new hp)).sqT (Ex.pres (Ex.new hp)).sL (Nat.le_succ _) hA y) rs⟩
    have R3 := R2.alloc (o := newOb xs) f (fun j ⟨c, fs, s, e, _⟩ => newOb_no xs c fs (by simpa using e)) ho
    have s3 : Step h1 A1 H1 (h1 ++ [newOb xs]) (As.put A1 (.o h1.length) p) (upd H1 p (.lst vs)) := by
      have x1 : Ex H1 (upd H1 p (.lst vs)) := Ex.new hp
      refine ⟨fun a o q _ => x1 a o q, fun a us q => x1 a _ q, fun a o u q => x1 a _ q, fun a o q => ⟨o, x1 a o q⟩, by simp, fun m hm => As.put_ne (by intro z; cases z; exact absurd hm (Nat.lt_irrefl _)), fun q hq => ?_⟩
      by_cases e : q = .o h1.length
      · exact .inr (by rw [e, As.put_same]; exact hp)
      · rw [As.put_ne e]
        refine .inl ⟨q, ?_, rfl⟩
        cases q with
        | s i => exact hq
        | o n =>
          have hq : n < (h1 ++ [newOb xs]).length := hq
          simp at hq
          have ne : n ≠ h1.length := fun z => e (by rw [z])
          show n < h1.length
          omega
        | f n j =>
          obtain ⟨c, fs, s, e1, e2, m⟩ := hq
          by_cases hn : n < h1.length
          · rw [List.getElem?_append_left hn] at e1; exact ⟨c, fs, s, e1, e2, m⟩
          · rw [List.getElem?_append_right (by omega)] at e1
            have e0 : n - h1.length = 0 := by
              have := (List.getElem?_eq_some_iff.mp e1).1
              simp at this; omega
            rw [e0] at e1
            exact absurd (by simpa using e1) (newOb_no xs c fs)
    exact k _ _ _ R3 (s1.trans s3) ⟨by simp, by rw [As.put_same]⟩
  · cases e
end
end Sm

set_option Elab.async false
set_option linter.all false
set_option maxRecDepth 100000
set_option maxHeartbeats 1000000
namespace Sm
open PySem L2 Evl

/-! ### walks of what may write -/
abbrev IE := En → Hs → Option (List PyData × Hs)
def tIE (F : Fm) (ok : Fm → Hp → Hp → Prop) (ℓ : Lv) (it : IE) : TI := fun σ H R => ∃ env h A xs h', SR F env h A σ H ∧ it env h = some (xs, h') ∧ ∀ J H1 A1, SR F env h' A1 σ H1 → Step h A H h' A1 H1 → Ylds F (ok F H1) ℓ J xs → R J H1
abbrev SimIE (X : Cx) (F : Fm) (ok : Fm → Hp → Hp → Prop) (ℓ : Lv) (tg e : Expr) (it : IE) : Prop := PI X tg e (tIE F ok ℓ it)
def iE (it : I1) : IE := fun env h => (it env h).bind fun xs => some (xs, h)
def iRngE (a : E1) : IE := fun env h => (a env h).bind fun x => match x.1 with
  | .d (.int n) => if (decide (-(2 ^ 62) ≤ n) && decide (n < 2 ^ 62)) = true then some ((List.range n.toNat).map fun k : Nat => PyData.int (k : Int), x.2) else none
  | _ => none
def iSeqE (a : E1) : IE := fun env h => (a env h).bind fun x => (seqOf x.1).bind fun xs => some (xs, x.2)
section
variable {F : Fm} {X : Cx} {tg a b c e : Expr} {es rest : List Expr} {pos p : Pos} {ℓ : Lv} {ma mb : E1} {env : En} {h h' : Hs} {A A' : As} {σ : L2.St} {H H' : Hp} {ok : Fm → Hp → Hp → Prop}
theorem sie_i {it : I1} (hi : SimI X F ok ℓ tg e it) : SimIE X F ok ℓ tg e (iE it) := PIimp hi fun σ H Q ⟨env, h, A, xs, h', R, e, k⟩ => by
  obtain ⟨ys, ey, e⟩ := bind_some e
  cases e
  exact ⟨env, h, A, _, R, ey, fun J H1 e1 Y => k J H1 A (R.ex e1) (Step.ex e1) Y⟩
theorem sie_rng (hm : X.mg "range" = none) (ha : SimE X F .fs a ma) (hg : Gl X "range" := by rfl) (hs : starEach [a] X.env = [(false, eval a X.env)] := by rfl) : SimIE X F ok ℓ tg (.Call (.Name "range" p) [a] [] pos) (iRngE ma) :=
  PIimp (pi_range1 hg hm (pa_cons ha pa_nil hs) hs) fun σ H Q ⟨env, h, A, z, h', R, e, k⟩ => by
    obtain ⟨⟨x, h1⟩, ex, e⟩ := bind_some e
    refine ⟨env, h, A, x, h1, R, ex, fun v H1 A1 R1 s1 rv => ?_⟩
    simp only at e
    split at e
    · next n =>
      split at e
      · next hn =>
        cases e
        cases ri rv
        simp only [Bool.and_eq_true, decide_eq_true_eq] at hn
        refine ⟨n, rfl, hn.1, hn.2, k _ H1 A1 R1 s1 ?_⟩
        have := ylds_rng (F := F) (ℓ := ℓ) (Ok := ok F H1) 0 n.toNat
        simpa using this
      · cases e
    · cases e
theorem sie_seq (hK : X.K = F.G.K) (ha : SimE X F .fs a ma) : SimIE X F OkS .fs tg a (iSeqE ma) := PIimp (PIor (pi_list ha) (pi_tup ha)) fun σ H Q ⟨env, h, A, z, h', R, e, k⟩ => by
  obtain ⟨⟨x, h1⟩, ex, e⟩ := bind_some e
  obtain ⟨xs, ey, e⟩ := bind_some e
  cases e
  rw [hK]
  have ey : seqOf x = some _ := ey
  unfold seqOf at ey
  split at ey
  · cases ey
    refine .inl ⟨env, h, A, _, _, R, ex, fun v H1 A1 R1 s1 rv => ?_⟩
    obtain ⟨a, us, rfl, q, r⟩ := rl rv
    exact ⟨a, rfl, ⟨us, LPof_sq R1 q⟩, k _ H1 A1 R1 s1 (ylds_list r.len fun Hc ⟨P, _, _, _, _, S⟩ => ⟨LPof_sq (ℓ := .fs) S (Pres.fL P _ _ q), RepAll.mono P.sqT (Pres.fL P) _ _ r⟩)⟩
  · cases ey
    refine .inr ⟨env, h, A, _, _, R, ex, fun v H1 A1 R1 s1 rv => ?_⟩
    obtain ⟨a, us, rfl, q, r⟩ := rt rv
    exact ⟨a, rfl, ⟨us, q⟩, k _ H1 A1 R1 s1 (ylds_tup r.len fun Hc ⟨P, _⟩ => ⟨P.sqT _ _ q, RepAll.mono P.sqT (Pres.fL P) _ _ r⟩)⟩
  · cases ey
def mForE (it : IE) (vs : List Nat) (bn : B1) (body : M1) : M1 := fun env h => (it env h).bind fun xs => forGo vs (fun d env h => (bn d env).bind fun env1 => body env1 h) xs.1 (wipeE env vs) xs.2
theorem ss_forE {iter : Expr} {body : List Stmt} {it : IE} {bn : B1} {ss : List Nat} {mb : M1} (vs : List Nat) (hp : PassesOwn (model X.prog X.w) X.A X.env X.xe) (hc : X.calm = true) (hi : SimIE X F OkS .fs tg iter it) (hg : PG X tg (tGt F ss bn)) (hb : SimB X F body mb)
    (hs : ∀ x, foldedSetIterable iter X.env x = pure x := by intro _; rfl) : SimS X F (.For tg iter body [] pos) (mForE it vs bn mb) := PSimp (ps_for hp hc hi hg hb hs) fun D σ H ⟨env, h, A, r, env', h', R, e, k⟩ => by
  obtain ⟨⟨xs, h0⟩, ex, e⟩ := bind_some e
  refine ⟨env, h, A, xs, h0, R, ex, fun J H1 A0 R0 s0 Y => ?_⟩
  have k1 : Post F H1 D r env' h' := k.pre s0.pres
  refine ⟨fun i m σ Hc => m = xs.length - i ∧ i ≤ xs.length ∧ Pres H1 Hc ∧ ∃ env h A, SR F env h A σ Hc ∧ forGo vs (fun d env h => (bn d env).bind fun env1 => mb env1 h) (xs.drop i) env h = some (r, env', h'),
    ⟨xs.length, by simp, Nat.zero_le _, Pres.refl _, _, h0, A0, R0.wipeS vs, by simpa using e⟩, ?_⟩
  rintro i m σ Hc ⟨rfl, hi, P, env2, h2, A2, R2, e2⟩
  have ok : OkS F H1 Hc := ⟨P, env2, h2, A2, σ, R2⟩
  by_cases hlt : i < xs.length
  · rw [List.drop_eq_getElem_cons hlt] at e2
    obtain ⟨⟨r3, env3, h3⟩, e3, e4⟩ := bind_some e2
    obtain ⟨env4, e5, e6⟩ := bind_some e3
    refine .inr ⟨Y.go Hc i ok hlt, fun σ' H' => i + 1 ≤ xs.length ∧ Pres H1 H' ∧ ∃ env h A, SR F env h A σ' H' ∧ forGo vs (fun d env h => (bn d env).bind fun env1 => mb env1 h) (xs.drop (i + 1)) env h = some (r, env', h'),
      fun σ' H' ⟨a, b, c⟩ => ⟨xs.length - (i + 1), by omega, rfl, a, b, c⟩, fun x Hn hy => ?_⟩
    obtain ⟨zn, rx⟩ := Y.yl Hc i x Hn _ ok (List.getElem?_eq_getElem hlt) hy
    refine ⟨env2, h2, A2, xs[i], env4, R2.ex zn, rx, e5, fun σ5 H5 x5 R5 _ _ => ⟨env4, h2, A2, r3, env3, h3, R5, e6, ?_⟩⟩
    have P5 : Pres H1 H5 := (P.trans (Ex.pres zn)).trans (Ex.pres x5)
    cases r3 with
    | nx => exact fun σ' H' A' R' P' => ⟨hlt, P5.trans P', _, h3, A', R'.wipeS vs, e4⟩
    | ct => exact fun σ' H' A' R' P' => ⟨hlt, P5.trans P', _, h3, A', R'.wipeS vs, e4⟩
    | bk => cases e4; exact fun σ' H' A' R' P' => k1 σ' H' A' (R'.wipeS vs) (P5.trans P')
    | rt ℓ x => cases e4; exact k1.pre P5
    | rf xs => cases e4; exact k1.pre P5
    | ex _ _ => cases e4; exact k1.pre P5
  · have e0 : i = xs.length := by omega
    subst e0
    rw [List.drop_length] at e2
    cases e2
    exact .inl ⟨Y.st Hc _ ok (Nat.le_refl _), k1 σ Hc A2 R2 P⟩

/-! ### comprehensions whose elements write -/
theorem SR.updF {p : Addr} {o : HO} (R : SR F env h A σ H) (f : Fresh F env h A p) (P : Pres H (upd H p o)) : SR F env h A σ (upd H p o) := by
  have oth : ∀ q, live env h q → ∀ u, H (A q) = some u → upd H p o (A q) = some u := fun q hq u e => by rw [upd_ne (f.fp q hq)]; exact e
  refine ⟨fun a u q w => ?_, fun a vs q => P.1 _ _ (R.tp a vs q), fun a b u q => P.2 _ _ _ (R.fz a b u q), R.dm_at, R.le, R.oo, R.nw, R.ow, R.ln, fun i s e => R.sl_keep P (Nat.le_refl _) (fun _ _ => rfl) e fun m => ⟨rfl, fun u z => oth (.s i) ⟨s, e, m⟩ u z⟩, fun n b e => ?_, R.ij, R.ro⟩
  · rw [upd_ne (fun z => by rw [z, f.f0] at q; cases q)]; exact R.fr a u q w
  · exact R.ob_keep P (Nat.le_refl _) (fun _ _ => rfl) e (fun u z => oth (.o n) (List.getElem?_eq_some_iff.mp e).1 u z) fun j hj => ⟨rfl, fun u z => oth _ hj.live u z⟩
theorem Step.updF {p : Addr} {o : HO} (s : Step h A H h' A' H') (hp : H p = none) (P : Pres H' (upd H' p o)) : Step h A H h' A' (upd H' p o) := by
  refine ⟨fun a u q n => ?_, fun a vs q => P.1 _ _ (s.tp a vs q), fun a b u q => P.2 _ _ _ (s.fz a b u q), fun a u q => ?_, s.le, s.oo, s.nw⟩
  · rw [upd_ne (fun z => by rw [z, hp] at q; cases q)]; exact s.fr a u q n
  · obtain ⟨u', e⟩ := s.dm a u q; exact dm_upd a u' e
theorem pres_lst {p : Addr} {us : List V} {o : HO} (e : H p = some (.lst us)) : Pres H (upd H p o) := Pres.upd fun u eu => by
  rw [e] at eu; cases eu
  exact ⟨fun _ q => (by cases q), fun _ _ q => (by cases q)⟩
def lcGoE (step : PyData → Hs → Option (Option PyData × Hs)) : List PyData → Hs → Option (List PyData × Hs)
  | [], h => some ([], h)
  | x :: xs, h => (step x h).bind fun o => (lcGoE step xs o.2).bind fun r => some ((match o.1 with
    | some y => y :: r.1
    | none => r.1), r.2)
def lcStepE (vs : List Nat) (bn : B1) (tt : T1) (te : E1) (env : En) (d : PyData) (h : Hs) : Option (Option PyData × Hs) :=
  (bn d (wipeE env vs)).bind fun env1 => (tt env1 h).bind fun b => if b = true then (te env1 h).bind fun y => (dOf y.1).bind fun z => some (some z, y.2) else some (none, h)
def efLc (it : IE) (vs : List Nat) (bn : B1) (tt : T1) (te : E1) : EF := fun env h => (it env h).bind fun xs =>
  (lcGoE (lcStepE vs bn tt te env) xs.1 xs.2).bind fun ys => if ys.1.length ≤ sizeLine then some ys else none
theorem Step.back (s : Step h A H h' A' H') : Step h A H h' (As.back A A') H' := ⟨s.fr, s.tp, s.fz, s.dm, s.le, s.oo, fun p hp => by rw [back_h hp]; exact s.nw p hp⟩
theorem lcE_read {ss vs : List Nat} {it : IE} {bn : B1} {tt : T1} {te : E1} {Q : VK} (hw : F.rw = true) (hv : ∀ i, i ∈ ss → i ∈ vs) (hq : tEF F (efLc it vs bn tt te) σ H Q) : tLc (tIE F OkS .fs it) (tGt F ss bn) (tT F tt) (tE F .st te) vs σ H Q := by
  obtain ⟨env, h, A, ys, hE, R, e, k⟩ := hq
  obtain ⟨⟨xs, h0⟩, ex, e⟩ := bind_some e
  obtain ⟨⟨zs, hz⟩, ez, e⟩ := bind_some e
  split at e
  · next hl =>
    cases e
    refine ⟨env, h, A, xs, h0, R, ex, fun J H1 A0 R0 s0 Y D hD => ?_⟩
    have hD0 : H D = none := none_back s0 hD
    refine ⟨fun i m Hc => m = xs.length - i ∧ i ≤ xs.length ∧ Pres H1 Hc ∧ ∃ h2 A2 acc ws us, SR F env h2 A2 σ Hc ∧ Step h A H h2 A2 Hc ∧ Fresh F env h2 A2 D ∧ lcGoE (lcStepE vs bn tt te env) (xs.drop i) h2 = some (ws, hE) ∧ acc ++ ws = ys ∧ Hc D = some (.lst us) ∧ RDs F .st Hc acc us,
      ⟨xs.length, by simp, Nat.zero_le _, Ex.pres (Ex.new hD), h0, A0, [], ys, [], R0.ex (Ex.new hD), s0.trans (Step.ex (Ex.new hD)), ⟨(R0.fresh hD).f0, (R0.fresh hD).fp⟩, by simpa using ez, rfl, upd_same, .nil⟩, ?_⟩
    rintro i m Hc ⟨rfl, hi, P, h2, A2, acc, ws, us, R2, s2, f2, e2, ea, hu, ru⟩
    have ok : OkS F H1 Hc := ⟨P, env, h2, A2, σ, R2⟩
    by_cases hlt : i < xs.length
    · rw [List.drop_eq_getElem_cons hlt] at e2
      obtain ⟨⟨o, h3⟩, eo, e2⟩ := bind_some e2
      obtain ⟨⟨w2, h4⟩, er, e2⟩ := bind_some e2
      obtain ⟨env1, eb, eo⟩ := bind_some eo
      obtain ⟨c, ec, eo⟩ := bind_some eo
      refine .inr ⟨Y.go Hc i ok hlt, fun H' => i + 1 ≤ xs.length ∧ Pres H1 H' ∧ ∃ h2 A2 acc ws us, SR F env h2 A2 σ H' ∧ Step h A H h2 A2 H' ∧ Fresh F env h2 A2 D ∧ lcGoE (lcStepE vs bn tt te env) (xs.drop (i + 1)) h2 = some (ws, hE) ∧ acc ++ ws = ys ∧ H' D = some (.lst us) ∧ RDs F .st H' acc us,
        fun H' ⟨a, b⟩ => ⟨xs.length - (i + 1), by omega, rfl, a, b⟩, fun x Hn hy => ?_⟩
      obtain ⟨zn, rx⟩ := Y.yl Hc i x Hn _ ok (List.getElem?_eq_getElem hlt) hy
      refine ⟨_, h2, A2, xs[i], env1, (R2.ex zn).wipe vs, rx, eb, fun σ2 H2 x2 R3 l2 n2 => ⟨?_, env1, h2, A2, c, R3, ec, fun H3 x3 => ?_⟩⟩
      · rw [wipe_eq (σ := L2.wipe σ vs) l2 n2 hv]
        exact wipe_eq (ss := vs) (wipe_len _ _) (fun i hi => wipe_not hi) fun _ z => z
      · have zt : Ex Hc H3 := (zn.trans x2).trans x3
        have Rt : SR F env h2 A2 σ H3 := R2.ex zt
        have ft : Fresh F env h2 A2 D := f2
        cases c with
        | false =>
          cases eo
          cases e2
          exact ⟨hlt, P.trans (Ex.pres zt), h2, A2, acc, w2, us, Rt, s2.trans (Step.ex zt), ft, er, ea, zt D _ hu, RDs.ex zt ru⟩
        | true =>
          obtain ⟨⟨y, h5⟩, ey, eo⟩ := bind_some eo
          obtain ⟨y', ey', eo⟩ := bind_some eo
          cases eo
          cases e2
          refine ⟨env1, h2, A2, y, h5, R3.ex x3, ey, fun v H4 A4 R4 s4 rv => ?_⟩
          have hu4 : H4 D = some (.lst us) := s4.fr D _ (zt D _ hu) fun q hq => ft.fp q hq.live
          have R5 : SR F env h5 (As.back A2 A4) σ H4 := Rt.call hw s4 R4.ob fun p q hp hq e => R4.ij p q hp.live hq.live e
          have f5 : Fresh F env h5 (As.back A2 A4) D := Fresh.step ft s4.back (fun i => .inl rfl) (zt D _ hu)
          have P4 : Pres H4 (upd H4 D (.lst (us ++ [v]))) := pres_lst hu4
          refine ⟨us, hu4, ?_, hlt, ((P.trans (Ex.pres zt)).trans s4.pres).trans P4, h5, _, acc ++ [y'], w2, us ++ [v], R5.updF f5 P4, ((s2.trans (Step.ex zt)).trans s4.back).updF hD0 P4, f5, er, by rw [← ea]; simp, upd_same, ?_⟩
          · rw [ru.len]
            have : (acc ++ [y']).length ≤ ys.length := by rw [← ea]; simp
            have hh : acc.length + 1 ≤ ys.length := by simpa using this
            have hl : ys.length ≤ sizeLine := hl
            omega
          · exact RepAll.append (RDs.pres P4 (by simp) (RDs.pres s4.pres (by simp) (RDs.ex zt ru))) (.cons (RD.pres P4 (by simp) (RD.of_val ey' rv)) .nil)
    · have e0 : i = xs.length := by omega
      subst e0
      rw [List.drop_length] at e2
      cases e2
      rw [List.append_nil] at ea
      subst ea
      exact .inl ⟨Y.st Hc _ ok (Nat.le_refl _), k D us Hc A2 R2 s2 hD0 hu f2 ru⟩
  · cases e
theorem sef_lc {iter elt : Expr} {ifs : List Expr} {ss : List Nat} {scope : Scope} {own : List (Str × Nat)} {it : IE} {bn : B1} {tt : T1} {te : E1} (hw : F.rw = true) (hc : X.calm = true) (hN : X.N.Nodup) (hi : SimIE X F OkS .fs tg iter it) (ok : blkC X.N X.env.scope scope own = true) (hv : (ss.all fun i => (own.map (·.2)).contains i) = true)
    (hg : ∀ (s : Shared) (H : Hp) (C : Addr) (cl : List (Str × Addr)) (fp : List Addr), PG (X.blk s H scope (compEnvC scope cl C X.env) fp) tg (tGt F ss bn)) (ht : ∀ (s : Shared) (H : Hp) (C : Addr) (cl : List (Str × Addr)) (fp : List Addr), PTs (X.blk s H scope (compEnvC scope cl C X.env) fp) ifs (tT F tt))
    (he : ∀ (s : Shared) (H : Hp) (C : Addr) (cl : List (Str × Addr)) (fp : List Addr), SimE (X.blk s H scope (compEnvC scope cl C X.env) fp) F .st elt te) (hs : ∀ x, foldedSetIterable iter X.env x = pure x := by intro _; rfl) :
    SimEF X F (.ListComp elt [⟨tg, iter, ifs, 0⟩] scope pos) (efLc it (own.map (·.2)) bn tt te) :=
  PEimp (pe_lc hc hN hi (blkOk_by ok) hg ht he hs) fun _ _ _ => lcE_read hw fun i hi => by
    have := List.all_eq_true.mp hv i hi
    simpa using this
end
end Sm

set_option Elab.async false
set_option linter.all false
set_option maxRecDepth 100000
set_option maxHeartbeats 4000000
namespace Sm
open PySem L2 Evl PyProof.Rows

/-! ### t[::-1] of a tuple -/
section
variable {prog : Program} {w : World} {A : Around} {E : Value → Shared → Prop} {s : Shared}
theorem rev_places (n : Nat) : Builtin.Slice.slicePlaces ((n : Int) - 1) (-1) (-1) = n := by
  unfold Builtin.Slice.slicePlaces
  rw [if_neg (by decide)]
  by_cases h : n = 0
  · subst h; rfl
  · rw [if_pos (by omega)]
    show (((n : Int) - 1 - -1 - 1) / 1 + 1).toNat = n
    rw [Int.ediv_one]
    omega
theorem sliceApplied_rev {sl : Addr} {vk : Value} {n : Nat} {Q : Int × Int × Nat → Shared → Prop} (hs : s.heap.IsSliceOf sl .none .none vk) (pk : IsPart vk (some (-1))) (h : Q ((n : Int) - 1, -1, n) s) :
    wpAny (model prog w) A (Builtin.Slice.sliceApplied (.ref sl) (pure (n : Int))) Q E s := by
  obtain ⟨os, hos, hcs, hds⟩ := id hs
  unfold Builtin.Slice.sliceApplied
  unfold Builtin.Slice.sliceFields
  apply wpAny_bind
  refine wpAny_bind (wpAny_field hos hds (x := .none) rfl ?_)
  refine wpAny_bind (wpAny_field hos hds (x := .none) rfl ?_)
  refine wpAny_bind (wpAny_field hos hds (x := vk) rfl ?_)
  refine wpAny_pure ?_
  refine wpAny_bind (HT.slicePart_ pk ?_)
  show wpAny _ _ (if ((-1 : Int) == 0) = true then _ else _) _ _ s
  rw [if_neg (by decide)]
  refine wpAny_bind (slicePart_none ?_)
  refine wpAny_bind (slicePart_none ?_)
  refine wpAny_bind (wpAny_pure ?_)
  have ha : Builtin.Slice.sliceAdjust none none (((some (-1 : Int))).getD 1) (n : Int) = ((n : Int) - 1, -1) := rfl
  rw [ha]
  show wpAny _ _ (pure ((n : Int) - 1, (-1 : Int), Builtin.Slice.slicePlaces ((n : Int) - 1) (-1) (-1))) _ _ s
  rw [rev_places]
  exact wpAny_pure h
theorem pick_rev (xs : Array Value) : ((List.range xs.size).filterMap fun (k : Nat) => xs[(((xs.size : Int) - 1) + (k : Int) * (-1)).toNat]?).toArray = xs.toList.reverse.toArray := by
  congr 1
  apply List.ext_getElem?
  intro i
  have e : ∀ l : List Nat, (∀ k ∈ l, k < xs.size) → (l.filterMap fun (k : Nat) => xs[(((xs.size : Int) - 1) + (k : Int) * (-1)).toNat]?) = l.map fun k => xs.toList.getD (xs.size - 1 - k) .none := by
    intro l hl
    induction l with
    | nil => rfl
    | cons k l ih =>
      have hk := hl k (by simp)
      have e1 : (((xs.size : Int) - 1) + (k : Int) * (-1)).toNat = xs.size - 1 - k := by omega
      have e2 : xs[xs.size - 1 - k]? = some (xs.toList.getD (xs.size - 1 - k) .none) := by
        have h3 : xs.size - 1 - k < xs.size := by omega
        rw [Array.getElem?_eq_getElem h3, List.getD_eq_getElem?_getD, Array.getElem?_toList, Array.getElem?_eq_getElem h3]
        rfl
      rw [List.filterMap_cons, e1, e2, List.map_cons]
      rw [ih fun k hk => hl k (by simp [hk])]
  rw [e _ (fun k hk => List.mem_range.mp hk)]
  by_cases hi : i < xs.size
  · rw [List.getElem?_map, List.getElem?_range hi, List.getElem?_reverse (by simpa using hi)]
    simp only [Option.map_some, Array.length_toList]
    have h3 : xs.size - 1 - i < xs.toList.length := by rw [Array.length_toList]; omega
    rw [List.getElem?_eq_getElem h3, List.getD_eq_getElem?_getD, List.getElem?_eq_getElem h3]
    rfl
  · rw [List.getElem?_eq_none (by simpa using hi), List.getElem?_eq_none (by simpa using hi)]
theorem getItem_tuple_rev {t sl : Addr} {items : Array Value} {vk : Value} {Q : Value → Shared → Prop} (ht : IsTup s.heap t items) (hs : s.heap.IsSliceOf sl .none .none vk) (pk : IsPart vk (some (-1))) (hz : items.size ≤ sizeLine)
    (h : Q (.ref s.heap.objs.size) { s with heap := s.heap.push { cls := .type "tuple", data := .seq items.toList.reverse.toArray } }) : wpAny (model prog w) A (getItem (.ref t) (.ref sl)) Q E s := by
  have hsz : sizeOk (.seq items.toList.reverse.toArray) := by
    show items.toList.reverse.toArray.size ≤ sizeLine
    simpa using hz
  have hTs : s.TypeIs (.ref sl) "slice" := by
    obtain ⟨z, z1, z2, _⟩ := id hs
    exact ⟨z, z1, z2⟩
  unfold getItem
  try with_reducible refine wpAny_holding ?_
  first
    | refine wpAny_bind (wpAny_pure ?_)
    | skip
  refine wpAny_bind (wpAny_sequenceKey ht.typeIs (by decide) ?_)
  refine wpAny_bind (wpAny_callSpecial?_slot (name := Str.ofString "__getitem__") ht.typeIs slot_tuple_getitem
    (wpAny_call_entry slot_tuple_getitem ht.typeIs entry_tuple_getitem ?_ (args_tuple_getitem _ _)))
  show wpAny _ _ (Builtin.Tuple.tupleItemsOf (.ref t) >>= _) _ _ s
  refine wpAny_bind (tupleItemsOf_ ht (wpAny_bind (wpAny_typeOf hTs ?_)))
  rw [if_pos (by decide)]
  refine wpAny_bind (sliceApplied_rev hs pk ?_)
  show wpAny _ _ (if ((((items.size : Int) - 1) == 0 && (-1 : Int) == 1 && items.size == items.size) = true) then _ else _) _ _ s
  rw [show (((items.size : Int) - 1) == 0 && (-1 : Int) == 1 && items.size == items.size) = false by rw [show ((-1 : Int) == 1) = false from rfl, Bool.and_false, Bool.false_and], if_neg Bool.false_ne_true, pick_rev]
  first
    | exact wpAny_bind (m := Builtin.Tuple.tupleExact _) (wpAny_newObj_type (wpAny_pure ⟨_, rfl, wpAny_pure h⟩) hsz)
    | exact wpAny_bind (wpAny_bind (m := Builtin.Tuple.tupleExact _) (wpAny_newObj_type (wpAny_pure (wpAny_pure ⟨_, rfl, wpAny_pure h⟩)) hsz))
    | exact wpAny_bind (wpAny_bind (m := Builtin.Tuple.tupleExact _) (wpAny_newObj_type (wpAny_pure ⟨_, rfl, wpAny_pure h⟩) hsz))
end
end Sm
namespace Sm
open PySem L2 Evl PyProof.Rows
section
variable {F : Fm} {X : Cx} {a b c e : Expr} {es rest : List Expr} {pos p p1 p2 p3 : Pos} {k : Nat} {ℓ : Lv} {qa qb qc : Q1} {env : En} {h : Hs} {A : As} {σ : L2.St} {H : Hp}
theorem pe_revT {te : TE} (he : PE X e te) : PE X (.Subscript e (.Slice none none (some (.UnaryOp .USub (.Constant (.int 1) k p1) p2)) p3) pos)
    (fun σ H Q => te σ H fun x H1 => ∃ a xs, x = .ref a ∧ SqT X.K H1 a xs ∧ ∀ p, H1 p = none → Q (.ref p) (upd H1 p (.tup xs.reverse))) := by
  refine ⟨fun pins s σ H Q I h => ?_⟩
  refine Subscript_ (thn (he.run pins s σ H _ I h) fun v s1 ⟨x, H1, I1, r1, a, xs, ex, hx, q⟩ => ?_)
  subst ex
  cases r1
  have hst : PO X (some (.UnaryOp .USub (.Constant (.int 1) k p1) p2)) (tPart (tUn (rU fun i => .int (-i)) (tC (.int 1)))) := po_some (pe_un un_neg pe_int)
  refine wpAny_Slice (thn (po_none.run pins s1 σ H1 (fun o K => o = none ∧ K = H1) I1 ⟨rfl, rfl⟩) fun vl s2 ⟨l, H2, I2, pl, el, e2⟩ => ?_)
  subst el e2
  refine thn (po_none.run pins s2 σ H2 (fun o K => o = none ∧ K = H2) I2 ⟨rfl, rfl⟩) fun vu s3 ⟨u, H3, I3, pu, eu, e3⟩ => ?_
  subst eu e3
  refine thn (hst.run pins s3 σ H3 (fun o K => o = some (-1) ∧ K = H3) I3 ⟨1, rfl, -1, rfl, rfl, rfl⟩) fun vs s4 ⟨o, H4, I4, ps, eo, e4⟩ => ?_
  subst eo e4
  have J : Inv X pins σ H4 { s4 with heap := s4.heap.push { cls := .type "slice", data := .fields #[vl, vu, vs] } } := I4.kept (t' := s4.toks) fun b ob q => Heap.get?_push_of_some _ q
  obtain ⟨its, r, ht, hz⟩ := J.tuple hx
  have hlen := r.length
  cases pl
  cases pu
  show wpAny (model X.prog X.w) X.A (subscriptTail e (.Slice none none (some (.UnaryOp .USub (.Constant (.int 1) k p1) p2)) p3) (.ref a) (.ref s4.heap.objs.size)) (EP X pins σ Q) X.xe { s4 with heap := s4.heap.push { cls := .type "slice", data := .fields #[.none, .none, vs] } }
  refine tail_any (ops := [.ref a, .ref s4.heap.objs.size]) (T := "tuple") ht.typeIs (PyProof.Rows.slot_tuple_getitem.lookup) ?_ (by with_unfolding_all rfl)
  refine getItem_tuple_rev ht (Heap.IsSliceOf.new _ .none .none vs) ps (by rw [List.size_toArray, ← hlen]; exact hz) ?_
  refine ⟨.ref _, _, J.laid (t' := s4.toks) (o := .tup xs.reverse) (fun b ob q => Heap.get?_push_of_some _ q) (Nat.le_refl _) ?_, rfl, q _ (J.hok.fresh (Nat.le_refl _))⟩
  exact ⟨by rw [List.length_reverse]; exact hz, _, r.reverse, IsTup.new _ _⟩
theorem RepAll.reverse {T L : LP} : ∀ {ds : List PyData} {vs : List V}, RepAll T L ds vs → RepAll T L ds.reverse vs.reverse
  | [], vs, r => by simp only [RepAll] at r; subst r; exact RepAll.nil
  | d :: ds, vs, r => by
    simp only [RepAll] at r
    obtain ⟨v, w, rfl, r1, r2⟩ := r
    rw [List.reverse_cons, List.reverse_cons]
    exact RepAll.append (RepAll.reverse r2) (RepAll.cons r1 RepAll.nil)
/-- x[::-1] -/
def gRev : Hs → Val → Option Val := fun _ x => match x with
  | .d (.tuple xs) => some (.d (.tuple xs.reverse))
  | _ => none
def gRevL : Hs → Val → Option (List PyData) := fun _ x => match x with
  | .d (.list xs) => if nlAll xs = true then some xs.reverse else none
  | _ => none
theorem sq_rev (hK : X.K = F.G.K) (ha : SimQ X F ℓ a qa) : SimQ X F ℓ (.Subscript a (.Slice none none (some (.UnaryOp .USub (.Constant (.int 1) k p1) p2)) p3) pos) (q1 gRev qa) :=
  PEimp (pe_revT ha) fun σ H Q ⟨env, h, A, z, R, e, k⟩ => by
    obtain ⟨x, ex, e⟩ := bind_some e
    refine ⟨env, h, A, x, R, ex, fun v H1 e1 rv => ?_⟩
    unfold gRev at e
    split at e
    · next xs =>
      cases e
      obtain ⟨a, us, rfl, t, r⟩ := rt rv
      refine ⟨a, us, rfl, by rw [hK]; exact t, fun p hp => k _ _ (e1.trans (Ex.new hp)) ?_⟩
      exact vt (.inl (.inl upd_same)) (RDs.ex (Ex.new hp) r.reverse)
    · cases e
theorem sf_rev (hK : X.K = F.G.K) (ha : SimQ X F .mo a qa) : SimF X F (.Subscript a (.Slice none none (some (.UnaryOp .USub (.Constant (.int 1) k p1) p2)) p3) pos) (f1 gRevL qa) :=
  PEimp (pe_revL ha) fun σ H Q ⟨env, h, A, z, R, e, k⟩ => by
    obtain ⟨x, ex, e⟩ := bind_some e
    refine ⟨env, h, A, x, R, ex, fun v H1 e1 rv => ?_⟩
    unfold gRevL at e
    split at e
    · next xs =>
      split at e
      · next hn =>
        cases e
        obtain ⟨a, us, rfl, t, r⟩ := rl rv
        refine ⟨a, us, rfl, by rw [hK]; exact t, fun p hp => k p _ _ (fresh_back e1 hp) (e1.trans (Ex.new hp)) upd_same (RDs.ex (Ex.new hp) (RepAll.nl _ _ ?_ r.reverse))⟩
        exact nl_mem.mpr fun x hx => nl_mem.mp hn x (List.mem_reverse.mp hx)
      · cases e
    · cases e
end
end Sm

set_option Elab.async false
set_option linter.all false
set_option maxRecDepth 100000
set_option maxHeartbeats 4000000
namespace Sm
open PySem L2 Evl PyProof.Rows

/-! ### set(xs) of a list of ints, laid so that it can be sorted -/
abbrev so0 (w : World) : Obj := { cls := .type "set", dict := none, data := .set #[] 0 (.fresh 0 0 (!w.params.followText "set-order")) }
section
variable {P : Program} {w : World} {A : Around} {E : Value → Shared → Prop} {s : Shared}
theorem setL_call {l : Addr} {items : Array Value} (ns : List Int) {Q : Value → Shared → Prop} (hh : A.handled = none) (hl : s.heap.IsList l items) (hit : IntsAre items.toList ns) (hb : ns.length + 1 < scanBound)
    (h : ∀ (h' : Heap) (tk c : Nat), SetR w h' s.heap.objs.size (fun j => decide (j ∈ ns)) c → c ≤ ns.length → (∀ b o, s.heap.get? b = some o → h'.get? b = some o) →
      Q (.ref s.heap.objs.size) { s with heap := h', toks := tk }) : wpAny (model P w) A (call (.type "set") [.ref l]) Q E s := by
  have isz : items.size = ns.length := (Array.length_toList (xs := items)).symm.trans (IntsAre.length hit)
  obtain ⟨c, tl, hmro⟩ := F.called_set.mro
  have m1 := F.called_set.made
  have m2 := F.called_set.sub
  refine wpAny_call (codeAny_of_tree ?_)
  show wpAny _ _ (callAny (.type "set") _) _ _ _
  refine wpAny_pure ⟨Code.quiet_builtin _ (by decide +kernel), codeAny_builtin F.entry_type_call ?_⟩
  rw [Around.under_plain (weight_type_call_type "set" [.ref l] []) rfl]
  have m3 := F.called_set.notType
  have m4 := F.called_set.canCreate
  have m5 := F.typeCall_set_1 (.ref l)
  repeat (any_goals (first | assumption | wp_step))

  refine codeAny_mono (code_set_led1 (.ref l) (E := E) (Q₁ := fun obj s₁ => obj = .ref s.heap.objs.size ∧ s₁ = { s with heap := s.heap.push (so0 w) }) ⟨rfl, rfl⟩) fun r s₁ hr => ?_
  rcases r with _ | fl
  · exact hr
  cases fl with
  | ret obj =>
    obtain ⟨rfl, rfl⟩ := hr
    have gS : (s.heap.push (so0 w)).get? s.heap.objs.size = some (so0 w) := Heap.get?_push_size _ rfl
    have gT : Shared.TypeIs { s with heap := s.heap.push (so0 w) } (.ref s.heap.objs.size) "set" := ⟨_, gS, rfl⟩
    have m6 := F.called_set.init.lookup
    have m7 := F.called_set.init.bind (.ref s.heap.objs.size)
    repeat (any_goals (first | assumption | wp_step))

    refine codeAny_mono (codeAny_call_builtin (R := wants (fun r s₂ => r = .none ∧ ∃ h' tk c, s₂ = { s with heap := h', toks := tk } ∧ SetR w h' s.heap.objs.size (fun j => decide (j ∈ ns)) c ∧ c ≤ ns.length ∧
        (∀ b o, s.heap.get? b = some o → h'.get? b = some o)) E) F.called_set.init.plain F.entry_set_init (check_set_init_1 gT ?_)) fun r₂ s₂ hr₂ => ?_
    · obtain ⟨⟨oc, od, oda, osl⟩, gl, hcl, nl, hdl⟩ := hl
      simp only at hcl hdl
      subst hcl; subst hdl
      have gl' : (s.heap.push (so0 w)).get? l = some { cls := .type "list", dict := od, data := .seq items nl, slots := osl } := Heap.get?_push_of_some _ gl
      have n1 := F.sub_list_set
      have n2 := F.sub_list_frozenset
      have n3 : (Value.type "list" == Value.type "dict") = false := by decide
      have isl : (s.heap.push (so0 w)).IsList l items := ⟨_, gl', rfl, nl, rfl⟩
      unfold Builtin.«set.__init__» noKeywords Builtin.Frozenset.updateFrom
      generalize eP : pyIter = PI
      wp_walk
      subst eP

      refine wpAny_pyIter_list isl (wpAny_bind (wpAny_runValue ?_))
      have lts : l < s.heap.objs.size := Heap.lt_size gl
      have hd3 : A.in1.in1.in1.handled = none := by simp [hh]
      have szp : (s.heap.push (so0 w)).objs.size = s.heap.objs.size + 1 := Heap.size_push ..
      have ne1 : l ≠ (s.heap.push (so0 w)).objs.size := by rw [Heap.size_push]; exact Nat.ne_of_lt (Nat.lt_succ_of_lt lts)
      have ne2 : s.heap.objs.size ∉ [(s.heap.push (so0 w)).objs.size, l] := by
        intro z
        rcases List.mem_cons.mp z with z | z
        · rw [Heap.size_push] at z
          exact absurd z (Nat.ne_of_lt (Nat.lt_succ_self _))
        · exact absurd (List.mem_singleton.mp z) (Nat.ne_of_gt lts)
      have vals : ∀ (i : Nat) (v : Value), items[i]? = some v → ∃ k t, ns[i]? = some k ∧ v = .int k t := fun i v hv => by
        have hi : i < ns.length := by rw [← isz]; exact (Array.getElem?_eq_some_iff.mp hv).1
        obtain ⟨t, e⟩ := PyProof.Rows.IntsAre.int_at hit i v (by rw [Array.getElem?_toList]; exact hv)
        refine ⟨ns[i], t, List.getElem?_eq_getElem hi, e.trans ?_⟩
        rw [List.getD_eq_getElem?_getD, List.getElem?_eq_getElem hi] <;> rfl
      refine set_update_ints ((Walks.list hd3 _ l ne1 items).toS) s.heap.objs.size ne2 ns isz hb vals (items.size - 0) 0 _ (by omega) (Nat.zero_le _)
        ⟨⟨_, Heap.get?_push_size _ rfl, rfl, rfl⟩, (isl.push _)⟩ ?g0 ?g1
      case g0 => exact ⟨0, Nat.le_refl 0, setR_new_at (Heap.get?_push_of_some _ gS)⟩
      case g1 =>
        intro s' c' hm hc' hS'
        obtain ⟨h', g2, d', tk', os'⟩ := s'
        obtain rfl : g2 = s.gens := hm.gens
        obtain rfl : d' = s.drawn := hm.drawn
        obtain rfl : os' = s.os := hm.os
        show wpAny _ _ _ _ _ _
        refine wpAny_pure ?_
        show wpAny _ _ (ret Value.none) _ _ _
        rw [isz] at hc'
        refine wpAny_pure ⟨rfl, h', tk', c', rfl, hS', hc', fun b o e => ?_⟩
        have lt0 : b < s.heap.objs.size := Heap.lt_size e
        refine hm.heap b o (fun z => ?_) (Heap.get?_push_of_some _ (Heap.get?_push_of_some _ e))
        rcases List.mem_cons.mp z with z | z
        · exact absurd z (Nat.ne_of_lt lt0)
        · have z2 := List.mem_singleton.mp z
          rw [Heap.size_push] at z2
          exact absurd z2 (Nat.ne_of_lt (Nat.lt_succ_of_lt lt0))

    · rcases r₂ with _ | fl₂
      · exact hr₂
      cases fl₂ with
      | ret r =>
        obtain ⟨rfl, h', tk, c', rfl, hS', hc', hk'⟩ := hr₂
        repeat (any_goals (first | assumption | wp_step))
        exact h _ _ _ hS' hc' hk'
      | _ => exact hr₂.elim
  | _ => exact hr.elim
end

/-! ### sorted(set(x)) -/
/-- the members, in order, each once -/
def insU (x : Int) : List Int → List Int
  | [] => [x]
  | y :: ys => if x < y then x :: y :: ys else if x = y then y :: ys else y :: insU x ys
def sortU : List Int → List Int
  | [] => []
  | x :: xs => insU x (sortU xs)
theorem mem_insU {x y : Int} : ∀ {xs : List Int}, y ∈ insU x xs ↔ y = x ∨ y ∈ xs
  | [] => by simp [insU]
  | z :: zs => by
    unfold insU
    split
    · simp
    · split
      · next h => subst h; simp
      · simp only [List.mem_cons, mem_insU (xs := zs)]
        constructor
        · rintro (a | a | a) <;> simp [a]
        · rintro (a | a | a) <;> simp [a]
theorem mem_sortU {y : Int} : ∀ {xs : List Int}, y ∈ sortU xs ↔ y ∈ xs
  | [] => by simp [sortU]
  | x :: xs => by rw [sortU, mem_insU, mem_sortU, List.mem_cons]
theorem asc_insU {x : Int} : ∀ {xs : List Int}, xs.Pairwise (· < ·) → (insU x xs).Pairwise (· < ·)
  | [], _ => by simp [insU]
  | z :: zs, h => by
    have h2 := List.pairwise_cons.mp h
    unfold insU
    split
    · next q =>
      refine List.pairwise_cons.mpr ⟨fun y hy => ?_, h⟩
      rcases List.mem_cons.mp hy with rfl | hy
      · exact q
      · exact Int.lt_trans q (h2.1 y hy)
    · split
      · exact h
      · next q1 q2 =>
        refine List.pairwise_cons.mpr ⟨fun y hy => ?_, asc_insU h2.2⟩
        rcases mem_insU.mp hy with rfl | hy
        · omega
        · exact h2.1 y hy
theorem asc_sortU : ∀ (xs : List Int), (sortU xs).Pairwise (· < ·)
  | [] => by simp [sortU]
  | x :: xs => asc_insU (asc_sortU xs)
theorem asc_uniq : ∀ {xs ys : List Int}, xs.Pairwise (· < ·) → ys.Pairwise (· < ·) → (∀ k, k ∈ xs ↔ k ∈ ys) → xs = ys
  | [], [], _, _, _ => rfl
  | [], y :: ys, _, _, h => absurd ((h y).mpr (by simp)) (by simp)
  | x :: xs, [], _, _, h => absurd ((h x).mp (by simp)) (by simp)
  | x :: xs, y :: ys, h1, h2, h => by
    have a1 := List.pairwise_cons.mp h1
    have a2 := List.pairwise_cons.mp h2
    have exy : x = y := by
      rcases List.mem_cons.mp ((h x).mp (by simp)) with e | e
      · exact e
      · rcases List.mem_cons.mp ((h y).mpr (by simp)) with e' | e'
        · exact e'.symm
        · have := a1.1 y e'
          have := a2.1 x e
          omega
    subst exy
    congr 1
    refine asc_uniq a1.2 a2.2 fun k => ⟨fun q => ?_, fun q => ?_⟩
    · rcases List.mem_cons.mp ((h k).mp (List.mem_cons_of_mem _ q)) with e | e
      · have := a1.1 k q
        omega
      · exact e
    · rcases List.mem_cons.mp ((h k).mpr (List.mem_cons_of_mem _ q)) with e | e
      · have := a2.1 k q
        omega
      · exact e
def intOf : PyData → Option Int
  | .int n => some n
  | _ => none
def intsOf : List PyData → Option (List Int)
  | [] => some []
  | d :: ds => (intOf d).bind fun n => (intsOf ds).bind fun ns => some (n :: ns)
theorem intsOf_map : ∀ {ds : List PyData} {ns : List Int}, intsOf ds = some ns → ds = ns.map PyData.int
  | [], ns, e => by cases e; rfl
  | d :: ds, ns, e => by
    unfold intsOf at e
    cases d <;> simp only [intOf, Option.bind_some, Option.bind_none, reduceCtorEq] at e
    rename_i n
    cases q : intsOf ds with
    | none => rw [q] at e; cases e
    | some ms => rw [q] at e; cases e; rw [List.map_cons, intsOf_map q]
theorem intsOf_of (ns : List Int) : intsOf (ns.map PyData.int) = some ns := by
  induction ns with
  | nil => rfl
  | cons n ns ih => rw [List.map_cons, intsOf, intOf, ih]; rfl
theorem rep_ints {T L : LP} : ∀ {ns : List Int} {vs : List V}, RepAll T L (ns.map PyData.int) vs → vs = ns.map V.int
  | [], vs, r => by simpa [RepAll] using r
  | n :: ns, vs, r => by
    rw [List.map_cons] at r
    simp only [RepAll, Rep] at r
    obtain ⟨v, u, rfl, r1, r2⟩ := r
    rw [rep_ints r2, r1]; rfl
def gSetS : Hs → Val → Option (List PyData) := fun _ x => match x with
  | .d (.list ds) => (intsOf ds).bind fun ns => if ns.length < 64 then some ((sortU ns).map .int) else none
  | .d (.tuple ds) => (intsOf ds).bind fun ns => if ns.length < 64 then some ((sortU ns).map .int) else none
  | _ => none
def gSetN : Hs → Val → Option Val := fun _ x => match x with
  | .d (.list ds) => (intsOf ds).bind fun ns => if ns.length < 64 then some (.d (.int (sortU ns).length)) else none
  | .d (.tuple ds) => (intsOf ds).bind fun ns => if ns.length < 64 then some (.d (.int (sortU ns).length)) else none
  | _ => none
section
variable {F : Fm} {X : Cx} {a b c e : Expr} {es rest : List Expr} {pos pos2 p p1 p2 p3 : Pos} {k : Nat} {ℓ : Lv} {qa qb qc : Q1} {fa : En → Hs → Option (List PyData)} {env : En} {h : Hs} {A : As} {σ : L2.St} {H : Hp}
def rSetI (X : Cx) : List V → Hp → VK → Prop := fun vs H Q => ∃ (a : Addr) (ns : List Int), vs = [V.ref a] ∧ (SqT X.K H a (ns.map V.int) ∨ SqL X.K H a (ns.map V.int)) ∧ ns.length < 64 ∧
  ∀ p c, H p = none → c ≤ ns.length → Q (.ref p) (upd H p (SetO X.w p (fun j => decide (j ∈ ns)) c))
theorem cr_setI (hc : X.calm = true) : CallR X (.type "set") (rSetI X) := by
  intro pins s σ H vs us Q I r ⟨a, ns, e, hq, hn, q⟩
  subst e
  rw [Vals.ref1 r]
  have fin : ∀ (h' : Heap) (tk c : Nat), SetR X.w h' s.heap.objs.size (fun j => decide (j ∈ ns)) c → c ≤ ns.length → (∀ b o, s.heap.get? b = some o → h'.get? b = some o) →
      EP X pins σ Q (.ref s.heap.objs.size) { s with heap := h', toks := tk } := by
    intro h' tk c R1 hcn k
    have hp : H s.heap.objs.size = none := I.hok.fresh (Nat.le_refl _)
    exact ⟨.ref _, upd H s.heap.objs.size (SetO X.w s.heap.objs.size (fun j => decide (j ∈ ns)) c), I.laid (t' := tk) k (Nat.le_refl _) (setO_new R1), rfl, q _ _ hp hcn⟩
  rcases hq with hq | hq
  · obtain ⟨its, rv, pt, hz⟩ := I.tuple hq
    exact call_set_tupI ns (I.ok.hd hc) pt (ints_of_vals rv) (by unfold scanBound; omega) fin
  · obtain ⟨its, rv, pt, hz⟩ := I.list hq
    exact setL_call ns (I.ok.hd hc) pt.isList (ints_of_vals rv) (by unfold scanBound; omega) fin
theorem pe_setI {t : TE} (hc : X.calm = true) (hg : Gl X "set") (hm : X.mg "set" = none) (ha : PE X a t)
    (he : starEach [a] X.env = (false, eval a X.env) :: starEach [] X.env := by rfl) (hpl : (backTo pos (starEach [] X.env)).any (·.1) = false := by rfl) :
    PE X (.Call (.Name "set" p) [a] [] pos) (tCB (rSetI X) (tCons t tNil)) := pe_callTy (cr_setI hc) hg hm (by decide +kernel) (pa_cons ha pa_nil he) (by decide) (by decide) he hpl
/-- what both begin with -/
theorem set_in {α : Type} (hK : X.K = F.G.K) {H1 : Hp} {v : V} {x : Val} {Z : List Int → Option α} {z : α} (e : (match x with
    | .d (.list ds) => (intsOf ds).bind fun ns => if ns.length < 64 then Z ns else none
    | .d (.tuple ds) => (intsOf ds).bind fun ns => if ns.length < 64 then Z ns else none
    | _ => none) = some z) (rv : RV F .mo h A H1 x v) : ∃ a ns, v = V.ref a ∧ (SqT X.K H1 a (ns.map V.int) ∨ SqL X.K H1 a (ns.map V.int)) ∧ ns.length < 64 ∧ Z ns = some z := by
  rw [hK]
  split at e
  · next ds =>
    cases q : intsOf ds with
    | none => rw [q] at e; cases e
    | some ns =>
      rw [q, Option.bind_some] at e
      split at e
      · next hn =>
        obtain ⟨a, us, rfl, t, r⟩ := rl rv
        rw [intsOf_map q] at r
        rw [rep_ints r] at t
        exact ⟨a, ns, rfl, .inr t, hn, e⟩
      · cases e
  · next ds =>
    cases q : intsOf ds with
    | none => rw [q] at e; cases e
    | some ns =>
      rw [q, Option.bind_some] at e
      split at e
      · next hn =>
        obtain ⟨a, us, rfl, t, r⟩ := rt rv
        rw [intsOf_map q] at r
        rw [rep_ints r] at t
        exact ⟨a, ns, rfl, .inl t, hn, e⟩
      · cases e
  · cases e
theorem sf_sset (hK : X.K = F.G.K) (hc : X.calm = true) (hm : X.mg "sorted" = none) (hm2 : X.mg "set" = none) (ha : SimQ X F .mo a qa) (hg : Gl X "sorted" := by rfl) (hg2 : Gl X "set" := by rfl)
    (he : starEach [a] X.env = (false, eval a X.env) :: starEach [] X.env := by rfl) (hpl : (backTo pos2 (starEach [] X.env)).any (·.1) = false := by rfl)
    (he2 : starEach [.Call (.Name "set" p2) [a] [] pos2] X.env = (false, eval (.Call (.Name "set" p2) [a] [] pos2) X.env) :: starEach [] X.env := by rfl) (hpl2 : (backTo pos (starEach [] X.env)).any (·.1) = false := by rfl) :
    SimF X F (.Call (.Name "sorted" p) [.Call (.Name "set" p2) [a] [] pos2] [] pos) (f1 gSetS qa) := by
  refine PEimp (pe_callB (cr_sortedSet hc) hg hm (by decide +kernel) (pa_cons (pe_setI hc hg2 hm2 ha he hpl) pa_nil he2) (by decide) (by decide) he2 hpl2) fun σ H Q ⟨env, h, A, z, R, e, k⟩ => ?_
  obtain ⟨x, ex, e⟩ := bind_some e
  refine ⟨env, h, A, x, R, ex, fun v H1 e1 rv => ?_⟩
  obtain ⟨a, ns, rfl, hq, hn, ez⟩ := set_in hK e rv
  cases ez
  refine ⟨a, ns, rfl, hq, hn, fun p c hp hcn => ⟨p, _, c, rfl, upd_same, by omega, fun ms p' asc hmem _ hp' => ?_⟩⟩
  have em : ms = sortU ns := asc_uniq asc (asc_sortU ns) fun k => by rw [hmem, decide_eq_true_iff, mem_sortU]
  subst em
  have hpp : p' ≠ p := fun z => by rw [z, upd_same] at hp'; cases hp'
  have hp1 : H1 p' = none := by
    rw [upd_ne hpp] at hp'
    exact hp'
  exact k _ _ _ (fresh_back e1 hp1) (e1.trans ((Ex.new hp).trans (Ex.new hp'))) upd_same (RepAll.ints _)
end
end Sm

set_option Elab.async false
set_option linter.all false
set_option maxRecDepth 100000
set_option maxHeartbeats 4000000
namespace Sm
open PySem L2 Evl PyProof.Rows

/-! ### enumerate(t) of a tuple -/
theorem enum1_new {v : Value} {o : Obj} {Z : Heap → Prop} (B : Begins v o Z) :
    Meets (Builtin.«enumerate.__new__» ⟨[.type "enumerate", v], []⟩) (fun _ R s => Z s.heap ∧ R (.ok (.ret (.ref (s.heap.push o).objs.size)))
      { s with heap := (s.heap.push o).push { cls := .type "enumerate", data := .fields #[.none, .bool false, .ref s.heap.objs.size, rawInt 0, .none, .none] } }) :=
  .of_wp fun prog w A R s ⟨z, r⟩ => by
    obtain ⟨hp, g, d, tk, os⟩ := s
    have hsub := sub_enumerate
    have go : ∀ {A' : Around} {E : Value → Shared → Prop} {Q : Value → Shared → Prop}, Q (.ref hp.objs.size) ⟨hp.push o, g, d, tk, os⟩ → wpAny (model prog w) A' (pyIter v) Q E ⟨hp, g, d, tk, os⟩ :=
      fun q => B.iter prog w _ _ ⟨hp, g, d, tk, os⟩ _ z q
    wp_walk using go
    refine wpAny_stack_any fun st => wpAny_pure ?_
    split
    · rename_i c _ _ _ _ _
      cases (c == Value.type "enumerate")
      · wp_walk using go
        exact ⟨_, rfl, r⟩
      · wp_walk using go
        exact ⟨_, rfl, r⟩
    · wp_walk using go
      exact ⟨_, rfl, r⟩
section
variable {prog : Program} {w : World} {A : Around} {E : Value → Shared → Prop} {s : Shared}
theorem enum1_call {v : Value} {o : Obj} {Z : Heap → Prop} {Q : Value → Shared → Prop} (B : Begins v o Z) (z : Z s.heap)
    (h : ∀ h', IsEnum h' (s.heap.objs.size + 1) s.heap.objs.size 0 .none → h'.get? s.heap.objs.size = some o → (∀ b u, s.heap.get? b = some u → h'.get? b = some u) → Q (.ref (s.heap.objs.size + 1)) { s with heap := h' }) :
    wpAny (model prog w) A (call (.type "enumerate") [v]) Q E s := by
  refine callType_new F.called_enumerate (by decide) (F.typeCall_enumerate_1 _) (F.newCall_enumerate_1 _) (fun obj => F.args_object_init_2 obj _) F.entry_enumerate_new (enum1_new B) ⟨z, ?_⟩
  have n1 : (s.heap.push o).objs.size = s.heap.objs.size + 1 := Heap.size_push ..
  show _ ∧ _
  rw [n1]
  have new : IsEnum ((s.heap.push o).push { cls := .type "enumerate", data := .fields #[.none, .bool false, .ref s.heap.objs.size, rawInt 0, .none, .none] }) (s.heap.objs.size + 1) s.heap.objs.size 0 .none := by
    have q := Heap.get?_push_size (s.heap.push o) (o := { cls := .type "enumerate", data := .fields #[.none, .bool false, .ref s.heap.objs.size, rawInt 0, .none, .none] }) rfl
    rwa [n1] at q
  exact ⟨⟨_, new, rfl⟩, h _ new (Heap.get?_push_of_some _ (Heap.get?_push_size _ B.free)) fun b u x => Heap.get?_push_of_some _ (Heap.get?_push_of_some _ x)⟩
end
/-- the tuple at a, each item in a new pair -/
def Iet (K : PySem.W.Frag) (a : Addr) : It :=
  ⟨fun i H => ∃ xs x, SqT K H a xs ∧ xs[i]? = some x, fun i H v H' => ∃ T x, v = .ref T ∧ H T = none ∧ H' = upd H T (.tup [.int (i : Nat), x]) ∧ ∀ xs, SqT K H a xs → xs[i]? = some x, fun i H => ∃ xs, SqT K H a xs ∧ xs.length ≤ i⟩
theorem turn_enumT {P : Program} {w : World} {K : PySem.W.Frag} {elts : List Expr} {kk : Nat} {tpos : Pos} (a e it : Addr) :
    Turn P w K (.Tuple elts kk tpos) (Iet K a) [e, it] e (fun i h => (∃ old, IsEnum h e it ((i : Nat) : Int) old) ∧ h.IsTupleIter it a i ∧ e ≠ it ∧ a ≠ it ∧ e ≠ a) where
  mem := by simp
  obj := fun i h st b hb => by
    obtain ⟨⟨old, he⟩, ⟨o, ho, hc, hd⟩, _⟩ := st
    rcases List.mem_cons.mp hb with z | z
    · rw [z]; exact ⟨_, he, fun v q => by cases q⟩
    · exact ⟨o, List.mem_singleton.mp z ▸ ho, fun v q => by rw [hd] at q; cases q⟩
  keep := fun i h h' st k => let ⟨⟨old, he⟩, hi, r⟩ := st; ⟨⟨old, k e (by simp) _ he⟩, hi.at fun o q => k it (by simp) o q, r⟩
  item := by
    intro X hP hw hK hc i pins s σ H E I hf ⟨⟨old, he⟩, hit, hne, hai, hea⟩ ⟨xs, x, hq, hx⟩
    subst hP hw hK
    obtain ⟨its, rv, p, hz⟩ := I.tuple hq
    obtain ⟨u, hu, ru⟩ := rv.get hx
    have hel : e < s.heap.objs.size := Heap.lt_size he
    have hil : it < s.heap.objs.size := by obtain ⟨_, q, _⟩ := hit; exact Heap.lt_size q
    have hlt : i < its.toArray.size := by
      rw [List.size_toArray]
      exact (List.getElem?_eq_some_iff.mp hu).1
    have hh : X.A.in1.handled = none := by
      have := I.ok.hd hc
      simpa using this
    refine wpAny_pyNext_enum_itemD (Draws.tuple hh it a hai its.toArray) he ⟨hit, p⟩ hlt hne (by simp [hne, hea]) fun y h' tk hy ho st' hT hsz k => ?_
    have hyu : y = u := by
      have q : its.toArray[i]? = some u := by simpa using hu
      rw [q] at hy
      exact (Option.some.inj hy).symm
    subst hyu
    refine ⟨_, rfl, wpAny_letOwnedTupleGo_enum (s := { s with heap := h', toks := tk + 1 }) ho fun h2 he2 sb => ?_⟩
    have hT2 : h2.get? s.heap.objs.size = some { cls := .type "tuple", data := .seq #[.int i tk, y] } := (sb.2 _ (Nat.ne_of_gt hel)).trans hT
    have new : ObjOk X.prog X.w (upd H s.heap.objs.size (.tup [.int (i : Nat), x])) h2 s.heap.objs.size (.tup [.int (i : Nat), x]) :=
      ⟨by show 2 ≤ sizeLine; decide, [.int i tk, y], .cons ⟨_, rfl⟩ (.cons ru .nil), ⟨_, hT2, rfl, _, rfl⟩⟩
    have J : Inv X pins σ (upd H s.heap.objs.size (.tup [.int (i : Nat), x])) { s with heap := h2, toks := tk + 1 } :=
      I.turnedNew (ch := [e, it]) (fun b ob hb q => (sb.2 b (fun z => hb (by simp [z]))).trans (k b ob (fun z => hb (by simp [z])) (fun z => hb (by simp [z])) q)) hf (Nat.le_refl _) new
    refine ⟨.ref s.heap.objs.size, _, J, rfl, ⟨_, x, rfl, I.hok.fresh (Nat.le_refl _), rfl, fun ys hy => ?_⟩, ⟨⟨y, ?_⟩, st'.1.at fun o q => (sb.2 it (Ne.symm hne)).trans q, hne, hai, hea⟩, fun b hb => ?_⟩
    · rw [I.tuple_inj hy hq]; exact hx
    · have e1 : ((i + 1 : Nat) : Int) = (i : Int) + 1 := by omega
      rw [e1]; exact he2
    · have hb' : b < s.heap.objs.size := by
        rcases List.mem_cons.mp hb with z | z
        · rw [z]; exact hel
        · rw [List.mem_singleton.mp z]; exact hil
      rw [upd_ne (Nat.ne_of_lt hb')]
      exact (hf b hb).1
  done := by
    intro X hP hw hK hc i pins s σ H E I hf ⟨⟨old, he⟩, hit, hne, hai, hea⟩ ⟨xs, hq, hx⟩
    subst hP hw hK
    obtain ⟨its, rv, p, hz⟩ := I.tuple hq
    obtain ⟨f0, f1, f2, f3, f4, f5⟩ := hf it (by simp)
    have hl := rv.length
    have hh : X.A.in1.handled = none := by
      have := I.ok.hd hc
      simpa using this
    have D : Draws X.prog X.w X.A.in1 it [it, a] i (fun _ _ => True) (fun j h => j = i ∧ h.IsTupleIter it a j ∧ h.IsTuple a its.toArray) :=
      ⟨fun _ _ st => let ⟨_, ⟨o, ho, _⟩, _⟩ := st; ⟨o, ho⟩, fun _ _ _ st k => ⟨st.1, st.2.1.at fun o e => k it (by simp) o e, st.2.2.at fun o e => k a (by simp) o e⟩,
        fun j s Q E hj st hQ => absurd st.1 (Nat.ne_of_lt hj), fun s Q E st hE => wpAny_nextOf_tuple_end hh st.2.1 st.2.2 (by simp; omega) hE⟩
    exact wpAny_pyNext_enum_endD D he ⟨rfl, hit, p⟩ fun h' eb => ⟨rfl, I.turned (t' := s.toks) (fun b o hb q => eb b o hb q) f0 f1 f3 f4 f5⟩
  self := fun A i s Q E st h => let ⟨⟨_, he⟩, _⟩ := st; wpAny_pyIter_enum he h
theorem pi_enumT {X : Cx} {e : Expr} {ta : TA} {p pos tpos : Pos} {elts : List Expr} {kk : Nat} (hg : Gl X "enumerate") (hm : X.mg "enumerate" = none) (ha : PA X [e] ta) (hs : starEach [e] X.env = [(false, eval e X.env)] := by rfl) :
    PI X (.Tuple elts kk tpos) (.Call (.Name "enumerate" p) [e] [] pos) (fun σ H R => ta σ H fun vs H1 => ∃ a xs, vs = [.ref a] ∧ SqT X.K H1 a xs ∧ R (Iet X.K a) H1) := by
  refine ⟨fun pins s σ H R I h => ?_⟩
  refine Call_ (ld_blt I hg hm boot_enumerate (PyProof.Rows.callWith_type1 (thn (ha.run pos pins s σ H _ I h) fun us s1 ⟨vs, H1, I1, r1, a, xs, ex, hq, q⟩ => ?_) hs rfl))
  subst ex
  rw [Vals.ref1 r1]
  obtain ⟨its, rv, pt, hz⟩ := I1.tuple hq
  refine enum1_call (begins_tuple a its.toArray) pt fun h' he hi hk => wpAny_pyIter_enum he ?_
  have J : Inv X pins σ H1 { s1 with heap := h' } := I1.kept (t' := s1.toks) hk
  have hal : a < s1.heap.objs.size := by obtain ⟨o, ho, _⟩ := pt; exact Heap.lt_size ho
  refine ⟨s1.heap.objs.size + 1, [s1.heap.objs.size + 1, s1.heap.objs.size], _, _, H1, rfl, J, turn_enumT a (s1.heap.objs.size + 1) s1.heap.objs.size, ⟨⟨.none, he⟩, ⟨_, hi, rfl, rfl⟩, Nat.succ_ne_self _, Nat.ne_of_lt hal, Nat.ne_of_gt (Nat.lt_succ_of_lt hal)⟩, fun b hb => ?_, q⟩
  have hle : s1.heap.objs.size ≤ b := by
    rcases List.mem_cons.mp hb with z | z
    · rw [z]; exact Nat.le_succ _
    · rw [List.mem_singleton.mp z]; exact Nat.le_refl _
  exact I1.fpOk hle (I1.hok.fresh hle)
/-- numbered -/
def numD (xs : List PyData) : List PyData := xs.zipIdx.map fun p => .tuple [.int (p.2 : Nat), p.1]
theorem numD_get {xs : List PyData} {i : Nat} {d : PyData} (h : (numD xs)[i]? = some d) : ∃ x, xs[i]? = some x ∧ d = .tuple [.int (i : Nat), x] := by
  unfold numD at h
  rw [List.getElem?_map] at h
  obtain ⟨p, hp, rfl⟩ := Option.map_eq_some_iff.mp h
  rw [List.getElem?_zipIdx] at hp
  obtain ⟨x, hx, rfl⟩ := Option.map_eq_some_iff.mp hp
  exact ⟨x, hx, by simp⟩
theorem numD_len (xs : List PyData) : (numD xs).length = xs.length := by simp [numD]
def iEnu (a : Q1) : I1 := fun env h => (a env h).bind fun x => (seqOf x).bind fun xs => if nlAll xs = true then some (numD xs) else none
section
variable {F : Fm} {X : Cx} {tg a b c e : Expr} {elts : List Expr} {kk : Nat} {pos p tpos : Pos} {ℓ : Lv} {qa qb qc : Q1} {env : En} {h : Hs} {A : As} {σ : L2.St} {H : Hp}
theorem ylds_enumL {Ok : Hp → Prop} {a : Addr} {us : List V} {xs : List PyData} (hl : us.length = xs.length) (hq : ∀ Hc, Ok Hc → SqL F.G.K Hc a us ∧ RDs F ℓ Hc xs us) : Ylds F Ok ℓ (Ite F.G.K a) (numD xs) where
  go := fun Hc i o hi => ⟨us, us[i]'(by rw [numD_len] at hi; omega), (hq Hc o).1, List.getElem?_eq_getElem _⟩
  yl := fun Hc i x Hn d o hd hy => by
    obtain ⟨T, y, rfl, hT, rfl, hy⟩ := hy
    obtain ⟨z, hz, rfl⟩ := numD_get hd
    obtain ⟨q, r⟩ := hq Hc o
    obtain ⟨v, h1, h2⟩ := r.get hz
    rw [hy us q] at h1
    cases h1
    exact ⟨Ex.new hT, ⟨T, [.int (i : Nat), y], rfl, .inl (.inl upd_same), .cons mk_int (.cons (RD.ex (Ex.new hT) h2) .nil)⟩⟩
  st := fun Hc i o hi => ⟨us, (hq Hc o).1, by rw [numD_len] at hi; omega⟩
theorem ylds_enumT {Ok : Hp → Prop} {a : Addr} {us : List V} {xs : List PyData} (hl : us.length = xs.length) (hq : ∀ Hc, Ok Hc → SqT F.G.K Hc a us ∧ RDs F ℓ Hc xs us) : Ylds F Ok ℓ (Iet F.G.K a) (numD xs) where
  go := fun Hc i o hi => ⟨us, us[i]'(by rw [numD_len] at hi; omega), (hq Hc o).1, List.getElem?_eq_getElem _⟩
  yl := fun Hc i x Hn d o hd hy => by
    obtain ⟨T, y, rfl, hT, rfl, hy⟩ := hy
    obtain ⟨z, hz, rfl⟩ := numD_get hd
    obtain ⟨q, r⟩ := hq Hc o
    obtain ⟨v, h1, h2⟩ := r.get hz
    rw [hy us q] at h1
    cases h1
    exact ⟨Ex.new hT, ⟨T, [.int (i : Nat), y], rfl, .inl (.inl upd_same), .cons mk_int (.cons (RD.ex (Ex.new hT) h2) .nil)⟩⟩
  st := fun Hc i o hi => ⟨us, (hq Hc o).1, by rw [numD_len] at hi; omega⟩
theorem si_enum (hK : X.K = F.G.K) (hm : X.mg "enumerate" = none) (ha : SimQ X F .mo a qa) (hg : Gl X "enumerate" := by rfl) (hs : starEach [a] X.env = [(false, eval a X.env)] := by rfl) :
    SimI X F OkP ℓ (.Tuple elts kk tpos) (.Call (.Name "enumerate" p) [a] [] pos) (iEnu qa) :=
  PIimp (PIor (pi_enum hg hm (pa_cons ha pa_nil hs) hs) (pi_enumT hg hm (pa_cons ha pa_nil hs) hs)) fun σ H Q ⟨env, h, A, z, R, e, k⟩ => by
    obtain ⟨x, ex, e⟩ := bind_some e
    obtain ⟨xs, ey, e⟩ := bind_some e
    rw [hK]
    split at e
    · next hn =>
      cases e
      unfold seqOf at ey
      split at ey
      · cases ey
        refine .inl ⟨env, h, A, _, R, ex, fun v H1 e1 rv => ?_⟩
        obtain ⟨a, us, rfl, q, r⟩ := rl rv
        exact ⟨a, us, rfl, q, k _ H1 e1 (ylds_enumL r.len fun Hc o => ⟨ex_l o q, RDs.ex o (RepAll.nl (L' := LPof F H1 ℓ) _ _ hn r)⟩)⟩
      · cases ey
        refine .inr ⟨env, h, A, _, R, ex, fun v H1 e1 rv => ?_⟩
        obtain ⟨a, us, rfl, q, r⟩ := rt rv
        exact ⟨a, us, rfl, q, k _ H1 e1 (ylds_enumT r.len fun Hc o => ⟨ex_t o q, RDs.ex o (RepAll.nl (L' := LPof F H1 ℓ) _ _ hn r)⟩)⟩
      · cases ey
    · cases e
end
end Sm

set_option Elab.async false
set_option linter.all false
set_option maxRecDepth 100000
set_option maxHeartbeats 4000000
namespace Sm
open PySem L2 Evl
section
variable {F : Fm} {X : Cx} {st : Stmt} {sts rest : List Stmt} {a b c e : Expr} {pos p p2 : Pos} {m n : M1} {ℓ : Lv} {q qa qb : Q1} {f : I1} {t : T1}
/-- an own list (where the slot holds one) is a value from here on -/
def mHold (i : Nat) (m : M1) : M1 := fun env h => match env[i]? with
  | some (.l xs) => m (env.set i (.v (.d (.list xs)))) h
  | _ => m env h
theorem sb_hold (i : Nat) (h1 : SimB X F sts m) : SimB X F sts (mHold i m) := ⟨fun pins s σ H D I ⟨env, h, A, r, env', h', R, e, k⟩ => by
  by_cases c : ∃ xs, env[i]? = some (.l xs)
  · obtain ⟨xs, hx⟩ := c
    refine (sb_lock i h1).run pins s σ H D I ⟨env, h, A, r, env', h', R, ?_, k⟩
    unfold mHold at e
    unfold mLock
    rw [hx] at e ⊢
    exact e
  · refine h1.run pins s σ H D I ⟨env, h, A, r, env', h', R, ?_, k⟩
    unfold mHold at e
    split at e
    · next xs hx => exact absurd ⟨xs, hx⟩ c
    · exact e⟩
/-- tuple(range(n)) -/
def gTupR : Hs → Val → Option Val := fun _ x => match x with
  | .d (.int n) => if (decide (-(2 ^ 62) ≤ n) && decide (n ≤ 2 ^ 24)) = true then some (.d (.tuple ((List.range n.toNat).map fun k : Nat => PyData.int (k : Int)))) else none
  | _ => none
theorem rep_rng {T L : LP} (lo : Int) (n : Nat) : RepAll T L ((List.range n).map fun k : Nat => PyData.int (lo + (k : Int))) ((List.range n).map fun k : Nat => V.int (lo + (k : Int))) := by
  have := RepAll.ints (T := T) (L := L) ((List.range n).map fun k : Nat => lo + (k : Int))
  simpa [List.map_map, Function.comp_def] using this
theorem sq_tuprng (hc : X.calm = true) (hm : X.mg "tuple" = none) (hm2 : X.mg "range" = none) {ℓ₁ : Lv} (ha : SimQ X F ℓ₁ a qa) (hg : Gl X "tuple" := by rfl) (hg2 : Gl X "range" := by rfl)
    (hs : starEach [a] X.env = (false, eval a X.env) :: starEach [] X.env := by rfl) (na : starEach [.Call (.Name "range" p2) [a] [] pos] X.env = (false, eval (.Call (.Name "range" p2) [a] [] pos) X.env) :: starEach [] X.env := by rfl) {pos2 : Pos} :
    SimQ X F ℓ (.Call (.Name "tuple" p) [.Call (.Name "range" p2) [a] [] pos] [] pos2) (q1 gTupR qa) := by
  refine PEimp (pe_tupRg hc hg hm (prg_1 hg2 hm2 ha hs) na) fun σ H Q ⟨env, h, A, z, R, e, k⟩ => ?_
  obtain ⟨x, ex, e⟩ := bind_some e
  refine ⟨env, h, A, x, R, ex, fun v H1 e1 rv => ?_⟩
  unfold gTupR at e
  split at e
  · next n =>
    split at e
    · next hn =>
      cases e
      cases ri rv
      simp only [Bool.and_eq_true, decide_eq_true_eq] at hn
      refine ⟨n, rfl, ⟨by decide, by decide, by omega, by omega, by omega⟩, fun q hq => k _ _ (e1.trans (Ex.new hq)) ?_⟩
      refine vt (.inl (.inl upd_same)) ?_
      have := rep_rng (T := SqT F.G.K (upd H1 q (.tup (rgV 0 n)))) (L := LPof F (upd H1 q (.tup (rgV 0 n))) ℓ) 0 n.toNat
      simpa [rgV] using this
    · cases e
  · cases e
end
theorem Fun.ofD {K : PySem.W.Frag} {x qual : Str} {st : Stmt} {f : Addr} {fd : FuncData} (h : FunD K x qual (defArgs st) (defBody st) (defScope st) [] [] f fd) : Fun K x qual st f fd := by
  obtain ⟨⟨oc, od, dV, kV, doc, pm, an, cdv, ct, osl, e, l, c, D, _⟩, kp⟩ := h
  rcases D with ⟨_, rfl⟩ | ⟨q, _⟩
  · exact ⟨⟨oc, od, kV, doc, pm, an, cdv, ct, osl, e, l, c⟩, kp⟩
  · exact absurd rfl q
theorem hu4 {k : Nat} {A : Around} (hr : Room k A) : A.units + 64 < cLine := by
  have := hr.un
  omega
theorem hu65 {k : Nat} {A : Around} (hr : Room k A) : A.units + 65 < cLine := by
  have := hr.un
  omega
end Sm

set_option Elab.async false
set_option linter.all false
set_option maxRecDepth 100000
set_option maxHeartbeats 4000000
namespace Sm
open PySem L2 Evl
/-- the law's own call, at the beginning -/
theorem enter {G : Glo} {r : List Val → Hs → Option (Val × Hs)} {ns : List Int} {h' : Hs} (e : r [.d (.list (ns.map PyData.int))] [] = some (.d (.bool true), h')) {H : Hp} {a : Addr} (hS : SqL G.K H a (ns.map V.int)) (E : XK) :
    spE G 1 r [V.ref a] H (fun v _ => v = .bl true) E := by
  have R : SR (Fm.cal G true [] (fun _ => 0) H) [] [] (fun _ => 0) [] H := by
    have no : ∀ p, ¬ hlive [] p := fun p => by
      cases p with
      | s i => exact fun z => z
      | o n => exact fun z => Nat.not_lt_zero _ z
      | f n j => exact fun ⟨_, _, _, z, _⟩ => by simp at z
    have no2 : ∀ p, ¬ live [] [] p := fun p => by
      cases p with
      | s i => exact fun ⟨_, z, _⟩ => by simp at z
      | o n => exact no (.o n)
      | f n j => exact no (.f n j)
    exact ⟨fun _ _ e _ => e, fun _ _ e => e, fun _ _ _ e => e, fun _ o e => ⟨o, e⟩, fun _ => Nat.le_refl _, fun _ m z => absurd z (Nat.not_lt_zero _), fun _ p z => absurd z (no p), fun i z => absurd z (no2 _), rfl,
      fun i s e => by simp at e, fun n o e => by simp at e, fun p q z => absurd z (no2 p), fun z => by cases z⟩
  refine ⟨Fm.cal G true [] (fun _ => 0) H, [], [], fun _ => 0, [], [.d (.list (ns.map PyData.int))], .d (.bool true), h', rfl, rfl, R, .cons ?_ .nil, rfl, e, fun v H' A' _ _ rv => rb rv⟩
  show Rep _ _ (.list (ns.map PyData.int)) _
  simp only [Rep]
  refine ⟨a, ns.map V.int, rfl, ?_, RepAll.ints ns⟩
  rcases hS with z | z
  · exact .inl ⟨z, fun ⟨_, p, q, _⟩ => by
      cases p with
      | s i => exact q
      | o n => exact Nat.not_lt_zero _ q
      | f n j => obtain ⟨_, _, _, z, _⟩ := q; have z : ([] : Hs)[n]? = _ := z; simp at z⟩
  · exact .inr (.inr z)
end Sm

set_option Elab.async false
set_option linter.all false
set_option maxRecDepth 100000
set_option maxHeartbeats 4000000
namespace Sm
open PySem L2 Evl
section
variable {F : Fm} {X : Cx} {a b c e o i : Expr} {es rest : List Expr} {pos p p2 apos : Pos} {ℓ : Lv} {env : En} {h h' : Hs} {A A' : As} {σ : L2.St} {H H' : Hp} {qo qi : Q1} {ma mb : E1}
/-- an object without attributes is changed: a step -/
theorem Step.putG {n : Nat} {ob ob' : Ob} {u' : HO} (R : SR F env h A σ H) (hn : h[n]? = some ob) (hk : ∀ c fs, ob' ≠ .ins c fs) : Step h A H (h.set n ob') A (upd H (A (.o n)) u') := by
  have hp : hlive h (.o n) := (List.getElem?_eq_some_iff.mp hn).1
  have P : Pres H (upd H (A (.o n)) u') := R.pres_at hp.live
  refine ⟨fun a u e na => by rw [upd_ne (fun z => na _ hp z.symm)]; exact e, P.1, P.2, dm_upd, by rw [List.length_set]; exact Nat.le_refl _, fun _ _ => rfl, fun q hq => .inl ⟨q, ?_, rfl⟩⟩
  cases q with
  | s i => exact hq
  | o m => simpa [hlive] using hq
  | f m j =>
    obtain ⟨c, fs, s, e1, e2, m'⟩ := hq
    rcases get_set e1 with ⟨_, e, _⟩ | ⟨_, e⟩
    · exact absurd e.symm (hk c fs)
    · exact ⟨c, fs, s, e, e2, m'⟩
/-- o.pop(k) -/
def oPop (h : Hs) (n : Nat) (k : Int) : Option (Val × Hs) := match h[n]? with
  | some (.lst xs) => (ixN xs.length k).bind fun j => (xs[j]?).bind fun d => some (.d d, h.set n (.lst (xs.eraseIdx j)))
  | some (.vls xs) => (ixN xs.length k).bind fun j => (xs[j]?).bind fun d => some (d, h.set n (.vls (xs.eraseIdx j)))
  | _ => none
def ePop (qo qi : Q1) : E1 := fun env h => (qo env h).bind fun o => (qi env h).bind fun i => match o, i with
  | .ref n, .d (.int k) => if (decide (-(2 ^ 62) ≤ k) && decide (k < 2 ^ 62)) = true then oPop h n k else none
  | _, _ => none
theorem pair_erase {α β : Type} {f : α → β → Prop} : ∀ {l : List α} {m : List β} (i : Nat), Paired f l m → Paired f (l.eraseIdx i) (m.eraseIdx i)
  | _, _, i, .nil => by cases i <;> exact .nil
  | _, _, 0, .cons _ t => t
  | _, _, i + 1, .cons h t => .cons h (pair_erase i t)
theorem se_pop (hw : F.rw = true) (hK : X.K = F.G.K) (ho : SimQ X F .mo o qo) (hi : SimQ X F .mo i qi)
    (hbase : attributeBase o "pop" X.env (eval o X.env) = eval o X.env := by rfl)
    (hfew : ((backTo pos (starEach [i] X.env)).all (fun x => !x.1) && (backToKw pos (keywordEach [] X.env)).all (fun x => x.1.isSome) && decide ([i].length + ([] : List Keyword).length + (if ([] : List Keyword).isEmpty then 0 else 1) < 30)) = true := by rfl)
    (hline : (apos.endLine == pos.line) = true := by rfl) (hs : starEach [i] X.env = (false, eval i X.env) :: starEach [] X.env := by rfl) (hplain : (backTo pos (starEach [] X.env)).any (·.1) = false := by rfl) :
    SimE X F .st (.Call (.Attribute o "pop" apos) [i] [] pos) (ePop qo qi) :=
  PEimp (pe_bm PySem.F.plainAttrs_list PySem.F.slot_list_pop PySem.F.type_list_pop mt_popAt ho (pa_cons hi pa_nil hs) hbase hfew hline hs hplain) fun σ H Q ⟨env, h, A, z, h', R, e, k⟩ => by
    obtain ⟨x, ex, e⟩ := bind_some e
    obtain ⟨y, ey, e⟩ := bind_some e
    refine ⟨env, h, A, x, R, ex, fun v H1 e1 rv => ?_⟩
    split at e
    · next n kk _ =>
      split at e
      · next hb =>
        simp only [Bool.and_eq_true, decide_eq_true_eq] at hb
        obtain ⟨_, rfl⟩ := rv
        have R1 := R.ex e1
        unfold oPop at e
        split at e
        · next xs hn =>
          obtain ⟨j, ej, e⟩ := bind_some e
          obtain ⟨d, ed, e⟩ := bind_some e
          cases e
          obtain ⟨us, hu, rs⟩ := R1.ob n _ hn
          refine ⟨by rw [hK]; exact ty_list hu, env, h, A, _, R1, ey, fun w H2 e2 rw' => ?_⟩
          cases ri rw'
          have R2 := R1.ex e2
          obtain ⟨us, hu, rs⟩ := R2.ob n _ hn
          obtain ⟨u, hu2, ru⟩ := rs.get ed
          have hj : ixN us.length kk = some j := by rw [rs.len]; exact ej
          obtain ⟨hsq, hlt, _, _⟩ := ixN_seq hj
          refine ⟨_, us, kk, j, u, rfl, rfl, hu, by omega, by omega, hsq, hu2, ?_⟩
          have R3 := R2.putO (xs' := xs.eraseIdx j) hw hn (rs.eraseIdx j)
          have s3 := Step.putG (u' := .lst (us.eraseIdx j)) (ob' := .lst (xs.eraseIdx j)) R2 hn (fun _ _ z => by cases z)
          exact k u _ A R3 ((Step.ex (e1.trans e2)).trans s3) (RD.pres s3.pres (by simp) ru)
        · next xs hn =>
          obtain ⟨j, ej, e⟩ := bind_some e
          obtain ⟨d, ed, e⟩ := bind_some e
          cases e
          obtain ⟨us, hu, rs⟩ := R1.ob n _ hn
          refine ⟨by rw [hK]; exact ty_list hu, env, h, A, _, R1, ey, fun w H2 e2 rw' => ?_⟩
          cases ri rw'
          have R2 := R1.ex e2
          obtain ⟨us, hu, rs⟩ := R2.ob n _ hn
          obtain ⟨u, hu2, ru⟩ := pair_get rs ed
          have hj : ixN us.length kk = some j := by rw [pair_len rs]; exact ej
          obtain ⟨hsq, hlt, _, _⟩ := ixN_seq hj
          refine ⟨_, us, kk, j, u, rfl, rfl, hu, by omega, by omega, hsq, hu2, ?_⟩
          have R3 := R2.putV (xs' := xs.eraseIdx j) hw hn (pair_erase j rs)
          have s3 := Step.putG (u' := .lst (us.eraseIdx j)) (ob' := .vls (xs.eraseIdx j)) R2 hn (fun _ _ z => by cases z)
          exact k u _ A R3 ((Step.ex (e1.trans e2)).trans s3) (RV.step (ℓ := .st) s3 (by simp) ru)
        · cases e
      · cases e
    · cases e
/-- a built-in of one argument, with effects within -/
theorem tCB1_e {r : List V → Hp → VK → Prop} {g : Hs → Val → Option Val} (o : Op1 F .fs ℓ (fun v H Q => r [v] H Q) g) {Q : VK} (hq : tE F ℓ (e1 g ma) σ H Q) : tCB r (tCons (tE F .fs ma) tNil) σ H Q := by
  obtain ⟨env, h, A, z, h', R, e, k⟩ := hq
  obtain ⟨⟨x, h1⟩, ex, e⟩ := bind_some e
  obtain ⟨y, ey, e⟩ := bind_some e
  cases e
  refine ⟨env, h, A, x, _, R, ex, fun v H1 A1 R1 s1 rv => ?_⟩
  exact o _ _ _ _ _ _ _ _ R1 rv ey Q fun w H2 e2 rw' => k w H2 A1 (R1.ex e2) (s1.trans (Step.ex e2)) rw'
theorem se_toint (hm : X.mg "int" = none) (ha : SimE X F .fs a ma) (hg : Gl X "int" := by rfl) (he : starEach [a] X.env = (false, eval a X.env) :: starEach [] X.env := by rfl) (hpl : (backTo pos (starEach [] X.env)).any (·.1) = false := by rfl) :
    SimE X F ℓ (.Call (.Name "int" p) [a] [] pos) (e1 gInt ma) :=
  PEimp (pe_callTy call_int1 hg hm (by decide +kernel) (pa_cons ha pa_nil he) (by decide) (by decide) he hpl) fun _ _ _ => tCB1_e (o_int (ℓ₁ := .fs))
theorem Op1.fs {r : V → Hp → VK → Prop} {g : Hs → Val → Option Val} (o : Op1 F .mo ℓ r g) : Op1 F .fs ℓ r g := fun env h A σ H x v z R rv => o env h A σ H x v z R (RV.mo R rv)
theorem se_len (hK : X.K = F.G.K) (hm : X.mg "len" = none) (ha : SimE X F .fs a ma) (hg : Gl X "len" := by rfl) (he : starEach [a] X.env = (false, eval a X.env) :: starEach [] X.env := by rfl) (hpl : (backTo pos (starEach [] X.env)).any (·.1) = false := by rfl) :
    SimE X F ℓ (.Call (.Name "len" p) [a] [] pos) (e1 gLen ma) :=
  PEimp (pe_callB call_len hg hm PySem.boot_len (pa_cons ha pa_nil he) (by decide) (by decide) he hpl) fun _ _ _ => tCB1_e (Op1.fs (o_len hK))
end
end Sm

set_option Elab.async false
set_option linter.all false
set_option maxRecDepth 100000
set_option maxHeartbeats 4000000
namespace Sm
open PySem L2 Evl
/-! ### the module's constants -/
mutual
/-- the value u reads as the datum, by K -/
def conB (K : PySem.W.Frag) : PyData → Value → Bool
  | .none, .none => true
  | .bool b, .bool c => b == c
  | .int i, .int j _ => decide (i = j)
  | .str x, .str y _ => decide (x = y)
  | .tuple ds, .ref a => match K.lookup a with
    | some ⟨.type c, none, .seq its _, _⟩ => decide (c = "tuple") && (decide (its.size ≤ sizeLine) && conAll K ds its.toList)
    | _ => false
  | .list ds, .ref a => match K.lookup a with
    | some ⟨.type c, none, .seq its _, _⟩ => decide (c = "list") && (decide (its.size ≤ sizeLine) && conAll K ds its.toList)
    | _ => false
  | _, _ => false
def conAll (K : PySem.W.Frag) : List PyData → List Value → Bool
  | [], [] => true
  | d :: ds, u :: us => conB K d u && conAll K ds us
  | _, _ => false
end
mutual
theorem conB_ok {K : PySem.W.Frag} : ∀ (d : PyData) (u : Value), conB K d u = true → ∃ v, RelV v u ∧ ∀ H, Rep (SqT K H) (SL K H) d v
  | .none, u, h => by
    cases u <;> simp [conB] at h
    exact ⟨.non, rfl, fun H => by simp [Rep]⟩
  | .bool b, u, h => by
    cases u <;> simp [conB] at h
    subst h
    exact ⟨.bl b, rfl, fun H => by simp [Rep]⟩
  | .int i, u, h => by
    cases u <;> simp [conB] at h
    subst h
    exact ⟨.int i, ⟨_, rfl⟩, fun H => by simp [Rep]⟩
  | .str x, u, h => by
    cases u <;> simp [conB] at h
    subst h
    exact ⟨.str x, ⟨_, rfl⟩, fun H => by simp [Rep]⟩
  | .tuple ds, u, h => by
    cases u with
    | ref a =>
      unfold conB at h
      split at h
      · next c its n sl hk =>
        simp only [Bool.and_eq_true, decide_eq_true_eq] at h
        obtain ⟨rfl, hz, h3⟩ := h
        obtain ⟨vs, rv, rr⟩ := conAll_ok ds its.toList h3
        refine ⟨.ref a, rfl, fun H => ?_⟩
        simp only [Rep]
        exact ⟨a, vs, rfl, .inr ⟨_, its, n, hk, rfl, rfl, hz, rv⟩, rr H⟩
      · cases h
    | _ => simp [conB] at h
  | .list ds, u, h => by
    cases u with
    | ref a =>
      unfold conB at h
      split at h
      · next c its n sl hk =>
        simp only [Bool.and_eq_true, decide_eq_true_eq] at h
        obtain ⟨rfl, hz, h3⟩ := h
        obtain ⟨vs, rv, rr⟩ := conAll_ok ds its.toList h3
        refine ⟨.ref a, rfl, fun H => ?_⟩
        simp only [Rep]
        exact ⟨a, vs, rfl, .inr ⟨_, its, n, hk, rfl, rfl, rfl, hz, rv⟩, rr H⟩
      · cases h
    | _ => simp [conB] at h
  | .dict kvs, u, h => by cases u <;> simp [conB] at h
theorem conAll_ok {K : PySem.W.Frag} : ∀ (ds : List PyData) (us : List Value), conAll K ds us = true → ∃ vs, Vals vs us ∧ ∀ H, RepAll (SqT K H) (SL K H) ds vs
  | [], [], _ => ⟨[], .nil, fun _ => .nil⟩
  | [], _ :: _, h => by simp [conAll] at h
  | _ :: _, [], h => by simp [conAll] at h
  | d :: ds, u :: us, h => by
    simp only [conAll, Bool.and_eq_true] at h
    obtain ⟨v, r1, r2⟩ := conB_ok d u h.1
    obtain ⟨vs, q1, q2⟩ := conAll_ok ds us h.2
    exact ⟨v :: vs, .cons r1 q1, fun H => .cons (r2 H) (q2 H)⟩
end
/-- the module's name x stands for the datum d -/
def TupW (K : PySem.W.Frag) (d : PyData) (u : Value) : Prop := ∀ ds, d = .tuple ds → ∃ a o, u = .ref a ∧ K.lookup a = some o ∧ o.cls = .type "tuple" ∧ o.dict = none
theorem conB_tup {K : PySem.W.Frag} {d : PyData} {u : Value} (h : conB K d u = true) : TupW K d u := by
  rintro ds rfl
  cases u with
  | ref a =>
    unfold conB at h
    split at h
    · next c its n sl hk =>
      simp only [Bool.and_eq_true, decide_eq_true_eq] at h
      obtain ⟨rfl, _⟩ := h
      exact ⟨a, _, rfl, hk, rfl, rfl⟩
    · cases h
  | _ => simp [conB] at h
def GlobD (K : PySem.W.Frag) (mg : Str → Option Value) (x : Str) (d : PyData) : Prop := ∃ u v, mg x = some u ∧ RelV v u ∧ (∀ H, Rep (SqT K H) (SL K H) d v) ∧ TupW K d u
section
variable {F : Fm} {X : Cx} {pos : Pos} {ℓ : Lv}
theorem sq_glob {x : Str} {d : PyData} (hK : X.K = F.G.K) (g : GlobD X.K X.mg x d) (hg : Gl X x := by rfl) (hd : (x == ("__debug__" : Str)) = false := by decide) : SimQ X F ℓ (.Name x pos) (qC (.d d)) := by
  obtain ⟨u, v, hm, r, rep, _⟩ := g
  refine PEimp (pe_glob hg hm r hd) fun σ H Q ⟨env, h, A, z, R, e, k⟩ => ?_
  cases e
  refine k v H (Ex.refl H) ?_
  have q := rep H
  rw [hK] at q
  exact RD.of_st (ℓ := ℓ) q
end
/-! ### the head with constants -/
def consB (cs : List (Str × PyData)) (K : PySem.W.Frag) : Bool := cs.all fun c => match PySem.W.nsIn K mainGlobals c.1 with
  | some (some u) => conB K c.2 u
  | _ => false
def SaysX (fa : List He.Fa) (fn : List He.DefD) (cs : List (Str × PyData)) (K : PySem.W.Frag) : Prop := He.SaysD fa fn K ∧ consB cs K = true
def obsX (n : Nat) (fa : List He.Fa) (fn : List He.DefD) (cs : List (Str × PyData)) (g : Addr → Option Obj) : He.AlD × Bool := (He.obsDG n fa fn g, consB cs (He.frG g (He.asD g n)))
def hookX (n : Nat) (fa : List He.Fa) (fn : List He.DefD) (cs : List (Str × PyData)) : PySem.W.Hook where
  α := He.AlD × Bool
  obs := fun s => obsX n fa fn cs s.heap.get?
  val := fun _ => (He.valD fn, true)
  says := fun _ h => ∃ K : PySem.W.Frag, K.In h ∧ SaysX fa fn cs K
  of := fun _ _ e => ⟨_, He.frG_in, congrArg (fun z : He.AlD × Bool => z.1) e, congrArg (fun z : He.AlD × Bool => z.2) e⟩
  keeps := fun _ _ _ ⟨K, hK, c⟩ k => ⟨K, PySem.W.Frag.In.keeps hK k, c⟩
theorem obsX_eq {n : Nat} {fa : List He.Fa} {fn : List He.DefD} {cs : List (Str × PyData)} {g : Addr → Option Obj} {s : Shared} (h : ∀ a, g a = s.heap.get? a) : obsX n fa fn cs g = (hookX n fa fn cs).obs s := by
  have e : g = s.heap.get? := funext h
  rw [e] <;> rfl
theorem SaysX.con {K : PySem.W.Frag} {h : Heap} {mg : Str → Option Value} {fa : List He.Fa} {fn : List He.DefD} {cs : List (Str × PyData)} (c : SaysX fa fn cs K) (X : K.In h) (G : h.Ns mainGlobals mg) (i : Nat) {p : Str × PyData} (e : cs[i]? = some p := by rfl) : GlobD K mg p.1 p.2 := by
  have q := List.all_eq_true.mp c.2 p (List.mem_of_getElem? e)
  split at q
  · next u hu =>
    obtain ⟨v, r1, r2⟩ := conB_ok _ _ q
    exact ⟨u, v, PySem.W.mg_of X G hu, r1, r2, conB_tup q⟩
  · cases q
end Sm

set_option Elab.async false
set_option linter.all false
set_option maxRecDepth 100000
set_option maxHeartbeats 4000000
namespace Sm
open PySem L2 Evl
section
variable {F : Fm} {X : Cx} {a b c e o i : Expr} {es rest : List Expr} {pos p p2 apos : Pos} {ℓ : Lv} {env : En} {h h' : Hs} {A A' : As} {σ : L2.St} {H H' : Hp} {qa qb qc : Q1} {x : Str} {id T : String}
/-! ### built-ins of two -/
theorem tCB2_q {ℓ₁ ℓ₂ : Lv} {r : List V → Hp → VK → Prop} {g : Hs → Val → Val → Option Val} (o : Op2 F ℓ₁ ℓ₂ ℓ (fun v u H Q => r [v, u] H Q) g) {σ : L2.St} {H : Hp} {Q : VK} (hq : tQ F ℓ (q2 g qa qb) σ H Q) : tCB r (tCons (tQ F ℓ₁ qa) (tCons (tQ F ℓ₂ qb) tNil)) σ H Q := by
  obtain ⟨env, h, A, z, R, e, k⟩ := hq
  obtain ⟨x, ex, e⟩ := bind_some e
  obtain ⟨y, ey, e⟩ := bind_some e
  refine ⟨env, h, A, x, R, ex, fun v H1 e1 rv => ⟨env, h, A, y, R.ex e1, ey, fun u H2 e2 ru => ?_⟩⟩
  exact o env h A σ H2 x y v u z ((R.ex e1).ex e2) (rv.ex e2) ru e Q fun v' H' e3 rz => k v' H' ((e1.trans e2).trans e3) rz
theorem sq_b2 {ℓ₁ ℓ₂ : Lv} {r : List V → Hp → VK → Prop} {g : Hs → Val → Val → Option Val} (hc : CallR X (.builtin id) r) (o : Op2 F ℓ₁ ℓ₂ ℓ (fun v u H Q => r [v, u] H Q) g) (hm : X.mg x = none) (hv : bootBuiltins x = some (.builtin id)) (ha : SimQ X F ℓ₁ a qa) (hb : SimQ X F ℓ₂ b qb)
    (hg : Gl X x := by rfl) (hn : x ≠ "__name__" := by decide) (hdb : (x == ("__debug__" : Str)) = false := by decide)
    (he : starEach [a, b] X.env = (false, eval a X.env) :: starEach [b] X.env := by rfl) (he2 : starEach [b] X.env = (false, eval b X.env) :: starEach [] X.env := by rfl) (hpl : (backTo pos (starEach [b] X.env)).any (·.1) = false := by rfl) : SimQ X F ℓ (.Call (.Name x p) [a, b] [] pos) (q2 g qa qb) :=
  PEimp (pe_callB hc hg hm hv (pa_cons ha (pa_cons hb pa_nil he2) he) hn hdb he hpl) fun _ _ _ => tCB2_q o
def gMax2 : Hs → Val → Val → Option Val := fun _ x y => match x, y with
  | .d (.int i), .d (.int j) => some (.d (.int (max i j)))
  | _, _ => none
def gMin2 : Hs → Val → Val → Option Val := fun _ x y => match x, y with
  | .d (.int i), .d (.int j) => some (.d (.int (min i j)))
  | _, _ => none
theorem sq_max2 (hc : X.calm = true) {ℓ₁ ℓ₂ : Lv} (hm : X.mg "max" = none) (ha : SimQ X F ℓ₁ a qa) (hb : SimQ X F ℓ₂ b qb) (hg : Gl X "max" := by rfl)
    (he : starEach [a, b] X.env = (false, eval a X.env) :: starEach [b] X.env := by rfl) (he2 : starEach [b] X.env = (false, eval b X.env) :: starEach [] X.env := by rfl) (hpl : (backTo pos (starEach [b] X.env)).any (·.1) = false := by rfl) : SimQ X F ℓ (.Call (.Name "max" p) [a, b] [] pos) (q2 gMax2 qa qb) :=
  sq_b2 (call_max2 hc) (by
    intro env h A σ H x y v u z R rx ry e Q k
    unfold gMax2 at e
    split at e
    · next i j =>
      cases e
      cases ri rx
      cases ri ry
      refine ⟨i, j, rfl, ?_⟩
      have : (if j > i then j else i) = max i j := by
        split <;> omega
      rw [this]
      exact k _ H (Ex.refl H) vi
    · cases e) hm (by decide +kernel) ha hb hg (by decide) (by decide) he he2 hpl
theorem sq_min2 (hc : X.calm = true) {ℓ₁ ℓ₂ : Lv} (hm : X.mg "min" = none) (ha : SimQ X F ℓ₁ a qa) (hb : SimQ X F ℓ₂ b qb) (hg : Gl X "min" := by rfl)
    (he : starEach [a, b] X.env = (false, eval a X.env) :: starEach [b] X.env := by rfl) (he2 : starEach [b] X.env = (false, eval b X.env) :: starEach [] X.env := by rfl) (hpl : (backTo pos (starEach [b] X.env)).any (·.1) = false := by rfl) : SimQ X F ℓ (.Call (.Name "min" p) [a, b] [] pos) (q2 gMin2 qa qb) :=
  sq_b2 (call_min2 hc) (by
    intro env h A σ H x y v u z R rx ry e Q k
    unfold gMin2 at e
    split at e
    · next i j =>
      cases e
      cases ri rx
      cases ri ry
      refine ⟨i, j, rfl, ?_⟩
      have : (if j < i then j else i) = min i j := by
        split <;> omega
      rw [this]
      exact k _ H (Ex.refl H) vi
    · cases e) hm (by decide +kernel) ha hb hg (by decide) (by decide) he he2 hpl
/-! ### max, min of a list of ints -/
def maxI : List Int → Option Int
  | [] => none
  | n :: ns => match maxI ns with
    | none => some n
    | some m => some (max n m)
def minI : List Int → Option Int
  | [] => none
  | n :: ns => match minI ns with
    | none => some n
    | some m => some (min n m)
theorem maxI_spec : ∀ {ns : List Int} {m : Int}, maxI ns = some m → m ∈ ns ∧ ∀ y ∈ ns, y ≤ m
  | [], m, e => by cases e
  | n :: ns, m, e => by
    unfold maxI at e
    cases q : maxI ns with
    | none =>
      rw [q] at e; cases e
      have : ns = [] := by
        cases ns with
        | nil => rfl
        | cons a l => simp only [maxI] at q; split at q <;> cases q
      subst this
      simp
    | some k =>
      rw [q] at e; cases e
      obtain ⟨h1, h2⟩ := maxI_spec q
      constructor
      · by_cases h : n ≤ k
        · rw [Int.max_eq_right h]; exact List.mem_cons_of_mem _ h1
        · rw [Int.max_eq_left (by omega)]; simp
      · intro y hy
        rcases List.mem_cons.mp hy with rfl | hy
        · omega
        · have := h2 y hy; omega
theorem minI_spec : ∀ {ns : List Int} {m : Int}, minI ns = some m → m ∈ ns ∧ ∀ y ∈ ns, m ≤ y
  | [], m, e => by cases e
  | n :: ns, m, e => by
    unfold minI at e
    cases q : minI ns with
    | none =>
      rw [q] at e; cases e
      have : ns = [] := by
        cases ns with
        | nil => rfl
        | cons a l => simp only [minI] at q; split at q <;> cases q
      subst this
      simp
    | some k =>
      rw [q] at e; cases e
      obtain ⟨h1, h2⟩ := minI_spec q
      constructor
      · by_cases h : n ≤ k
        · rw [Int.min_eq_left h]; simp
        · rw [Int.min_eq_right (by omega)]; exact List.mem_cons_of_mem _ h1
      · intro y hy
        rcases List.mem_cons.mp hy with rfl | hy
        · omega
        · have := h2 y hy; omega
theorem maxI_some : ∀ {ns : List Int}, ns ≠ [] → ∃ m, maxI ns = some m
  | [], h => absurd rfl h
  | n :: ns, _ => by
    unfold maxI
    split <;> exact ⟨_, rfl⟩
theorem minI_some : ∀ {ns : List Int}, ns ≠ [] → ∃ m, minI ns = some m
  | [], h => absurd rfl h
  | n :: ns, _ => by
    unfold minI
    split <;> exact ⟨_, rfl⟩
def gMaxL : Hs → Val → Option Val := fun _ x => match x with
  | .d (.list ds) => (intsOf ds).bind fun ns => (maxI ns).map fun m => .d (.int m)
  | _ => none
def gMinL : Hs → Val → Option Val := fun _ x => match x with
  | .d (.list ds) => (intsOf ds).bind fun ns => (minI ns).map fun m => .d (.int m)
  | _ => none
theorem sq_maxL (hK : X.K = F.G.K) (hc : X.calm = true) (hm : X.mg "max" = none) (ha : SimQ X F .mo a qa) (hg : Gl X "max" := by rfl)
    (he : starEach [a] X.env = (false, eval a X.env) :: starEach [] X.env := by rfl) (hpl : (backTo pos (starEach [] X.env)).any (·.1) = false := by rfl) : SimQ X F ℓ (.Call (.Name "max" p) [a] [] pos) (q1 gMaxL qa) :=
  sq_b1 (cr_max hc) (by
    intro env h A σ H x v z R rx e Q k
    unfold gMaxL at e
    split at e
    · next ds =>
      obtain ⟨ns, en, e⟩ := bind_some e
      obtain ⟨m, em, e⟩ := Option.map_eq_some_iff.mp e
      subst e
      obtain ⟨a, us, rfl, t, r⟩ := rl rx
      rw [intsOf_map en] at r
      rw [rep_ints r] at t
      obtain ⟨s1, s2⟩ := maxI_spec em
      refine ⟨a, ns, rfl, by rw [hK]; exact t, by cases ns with | nil => cases em | cons _ _ => simp, fun m' h1 h2 => ?_⟩
      have : m' = m := by have := h2 m s1; have := s2 m' h1; omega
      subst this
      exact k _ H (Ex.refl H) vi
    · cases e) hm (by decide +kernel) ha hg (by decide) (by decide) he hpl
theorem sq_minL (hK : X.K = F.G.K) (hc : X.calm = true) (hm : X.mg "min" = none) (ha : SimQ X F .mo a qa) (hg : Gl X "min" := by rfl)
    (he : starEach [a] X.env = (false, eval a X.env) :: starEach [] X.env := by rfl) (hpl : (backTo pos (starEach [] X.env)).any (·.1) = false := by rfl) : SimQ X F ℓ (.Call (.Name "min" p) [a] [] pos) (q1 gMinL qa) :=
  sq_b1 (cr_min hc) (by
    intro env h A σ H x v z R rx e Q k
    unfold gMinL at e
    split at e
    · next ds =>
      obtain ⟨ns, en, e⟩ := bind_some e
      obtain ⟨m, em, e⟩ := Option.map_eq_some_iff.mp e
      subst e
      obtain ⟨a, us, rfl, t, r⟩ := rl rx
      rw [intsOf_map en] at r
      rw [rep_ints r] at t
      obtain ⟨s1, s2⟩ := minI_spec em
      refine ⟨a, ns, rfl, by rw [hK]; exact t, by cases ns with | nil => cases em | cons _ _ => simp, fun m' h1 h2 => ?_⟩
      have : m' = m := by have := h2 m s1; have := s2 m' h1; omega
      subst this
      exact k _ H (Ex.refl H) vi
    · cases e) hm (by decide +kernel) ha hg (by decide) (by decide) he hpl
/-! ### len(set(x)) of ints -/
theorem cr_lenSetO : CallR X (.builtin "len") (fun vs H Q => ∃ (a : Addr) (S : Int → Bool) (n : Nat), vs = [V.ref a] ∧ H a = some (SetO X.w a S n) ∧ n < 64 ∧ ∀ ms : List Int, ms.Nodup → (∀ k, k ∈ ms ↔ S k = true) → ms.length = n → Q (.int n) H) := by
  intro pins s σ H vs us Q I r ⟨a, S, n, e, ha, hn64, q⟩
  subst e
  rw [Vals.ref1 r]
  obtain ⟨o, es, ep, t, ho, hex, hd, g, nd, hm, hb, hf, hn, hr, hl⟩ := setO_get I ha
  refine PySem.call_len_set ho hex hd hf (by rw [hn] <;> omega) ⟨.int n, H, I.tok _, ⟨_, by rw [hn]⟩, ?_⟩
  exact q (es.toList.map keyOf) nd (fun k => (hm k).symm) (by rw [List.length_map, Array.length_toList, hn])
theorem nodup_len {xs ys : List Int} (h1 : xs.Nodup) (h2 : ys.Nodup) (h : ∀ k, k ∈ xs ↔ k ∈ ys) : xs.length = ys.length :=
  ((List.perm_ext_iff_of_nodup h1 h2).mpr h).length_eq
theorem sq_lenset (hK : X.K = F.G.K) (hc : X.calm = true) (hm : X.mg "len" = none) (hm2 : X.mg "set" = none) (ha : SimQ X F .mo a qa) (hg : Gl X "len" := by rfl) (hg2 : Gl X "set" := by rfl) {pos2 : Pos}
    (he : starEach [a] X.env = (false, eval a X.env) :: starEach [] X.env := by rfl) (hpl : (backTo pos2 (starEach [] X.env)).any (·.1) = false := by rfl)
    (he2 : starEach [.Call (.Name "set" p2) [a] [] pos2] X.env = (false, eval (.Call (.Name "set" p2) [a] [] pos2) X.env) :: starEach [] X.env := by rfl) (hpl2 : (backTo pos (starEach [] X.env)).any (·.1) = false := by rfl) :
    SimQ X F ℓ (.Call (.Name "len" p) [.Call (.Name "set" p2) [a] [] pos2] [] pos) (q1 gSetN qa) := by
  refine PEimp (pe_callB cr_lenSetO hg hm PySem.boot_len (pa_cons (pe_setI hc hg2 hm2 ha he hpl) pa_nil he2) (by decide) (by decide) he2 hpl2) fun σ H Q ⟨env, h, A, z, R, e, k⟩ => ?_
  obtain ⟨x, ex, e⟩ := bind_some e
  refine ⟨env, h, A, x, R, ex, fun v H1 e1 rv => ?_⟩
  obtain ⟨a, ns, rfl, hq, hn, ez⟩ := set_in hK e rv
  cases ez
  refine ⟨a, ns, rfl, hq, hn, fun p c hp hcn => ⟨p, _, c, rfl, upd_same, by omega, fun ms nd hmem hl => ?_⟩⟩
  have el : ms.length = (sortU ns).length := nodup_len nd ((asc_sortU ns).imp fun h => by omega) fun k => by rw [hmem, decide_eq_true_iff, mem_sortU]
  have ec : c = (sortU ns).length := by rw [← el, hl]
  subst ec
  exact k _ _ (e1.trans (Ex.new hp)) vi
/-! ### text.index -/
def gSIx : Hs → Val → Val → Option Val := fun _ x y => match x, y with
  | .d (.str s), .d (.str t) => match Builtin.Str.occurrences s t 0 s.length 1 with
    | i :: _ => some (.d (.int (i : Nat)))
    | [] => none
  | _, _ => none
theorem sq_sindex {ℓ₁ ℓ₂ : Lv} (ho : SimQ X F ℓ₁ o qa) (hi : SimQ X F ℓ₂ e qb) 
    (hs : starEach [e] X.env = [(false, eval e X.env)] := by rfl) (hbase : attributeBase o "index" X.env (eval o X.env) = eval o X.env := by rfl) (hline : (apos.endLine == pos.line) = true := by rfl) :
    SimQ X F ℓ (.Call (.Attribute o "index" apos) [e] [] pos) (q2 gSIx qa qb) :=
  PEimp (pe_m1 PySem.F.slot_str_index PySem.F.type_str_index mt_sindex ho hi hs hbase hline) fun σ H Q ⟨env, h, A, z, R, e, k⟩ => by
    obtain ⟨x, ex, e⟩ := bind_some e
    obtain ⟨y, ey, e⟩ := bind_some e
    unfold gSIx at e
    split at e
    · next s t _ =>
      split at e
      · next i rest ho =>
        cases e
        refine ⟨env, h, A, _, R, ex, fun v H1 e1 rv => ?_⟩
        cases rs rv
        refine ⟨⟨_, rfl⟩, env, h, A, _, R.ex e1, ey, fun u H2 e2 ru => ?_⟩
        cases rs ru
        exact ⟨s, t, i, rest, rfl, rfl, ho, k _ H2 (e1.trans e2) vi⟩
      · cases e
    · cases e
/-! ### tuple.index of texts -/
def strOf : PyData → Option Str
  | .str n => some n
  | _ => none
def strsOf : List PyData → Option (List Str)
  | [] => some []
  | d :: ds => (strOf d).bind fun n => (strsOf ds).bind fun ns => some (n :: ns)
theorem strsOf_map : ∀ {ds : List PyData} {ns : List Str}, strsOf ds = some ns → ds = ns.map PyData.str
  | [], ns, e => by cases e; rfl
  | d :: ds, ns, e => by
    unfold strsOf at e
    cases d <;> simp only [strOf, Option.bind_some, Option.bind_none, reduceCtorEq] at e
    rename_i n
    cases q : strsOf ds with
    | none => rw [q] at e; cases e
    | some ms => rw [q] at e; cases e; rw [List.map_cons, strsOf_map q]
theorem strsOf_of (ns : List Str) : strsOf (ns.map PyData.str) = some ns := by
  induction ns with
  | nil => rfl
  | cons n ns ih => rw [List.map_cons, strsOf, strOf, ih]; rfl
theorem rep_strs {T L : LP} : ∀ {ns : List Str} {vs : List V}, RepAll T L (ns.map PyData.str) vs → vs = ns.map V.str
  | [], vs, r => by simpa [RepAll] using r
  | n :: ns, vs, r => by
    rw [List.map_cons] at r
    simp only [RepAll, Rep] at r
    obtain ⟨v, u, rfl, r1, r2⟩ := r
    rw [rep_strs r2, r1]; rfl
def ixOf (z : Str) : List Str → Option Nat
  | [] => none
  | y :: ys => if y = z then some 0 else (ixOf z ys).map (· + 1)
theorem ixOf_spec {z : Str} : ∀ {ys : List Str} {j : Nat}, ixOf z ys = some j → ys[j]? = some z ∧ ∀ m, m < j → ys[m]? ≠ some z
  | [], j, e => by cases e
  | y :: ys, j, e => by
    unfold ixOf at e
    split at e
    · next h => cases e; exact ⟨by simp [h], fun m hm => absurd hm (Nat.not_lt_zero _)⟩
    · next h =>
      obtain ⟨i, ei, rfl⟩ := Option.map_eq_some_iff.mp e
      obtain ⟨h1, h2⟩ := ixOf_spec ei
      refine ⟨by simpa using h1, fun m hm => ?_⟩
      cases m with
      | zero => simpa using h
      | succ m => simpa using h2 m (by omega)
def gTIx : Hs → Val → Val → Option Val := fun _ x y => match x, y with
  | .d (.tuple ds), .d (.str t) => (strsOf ds).bind fun ys => (ixOf t ys).map fun j => .d (.int (j : Nat))
  | _, _ => none
theorem gTIx_inv {ds : List PyData} {y z : Val} (e : gTIx h (.d (.tuple ds)) y = some z) : ∃ t ys j, y = .d (.str t) ∧ strsOf ds = some ys ∧ ixOf t ys = some j ∧ z = .d (.int (j : Nat)) := by
  cases y with
  | d d =>
    cases d with
    | str t =>
      obtain ⟨ys, es, e⟩ := bind_some (show (strsOf ds).bind _ = some z from e)
      obtain ⟨j, ej, e⟩ := Option.map_eq_some_iff.mp e
      exact ⟨t, ys, j, rfl, es, ej, e.symm⟩
    | _ => cases e
  | _ => cases e
theorem sq_tindex (hK : X.K = F.G.K) {ℓ₂ : Lv} {y : Str} {ds : List PyData} (g : GlobD X.K X.mg y (.tuple ds)) (hi : SimQ X F ℓ₂ e qb) (hg : Gl X y := by rfl) (hd : (y == ("__debug__" : Str)) = false := by decide)
    (hbase : attributeBase (.Name y p) "index" X.env (eval (.Name y p) X.env) = eval (.Name y p) X.env := by rfl)
    (hfew : ((backTo pos (starEach [e] X.env)).all (fun x => !x.1) && (backToKw pos (keywordEach [] X.env)).all (fun x => x.1.isSome) && decide ([e].length + ([] : List Keyword).length + (if ([] : List Keyword).isEmpty then 0 else 1) < 30)) = true := by rfl)
    (hline : (apos.endLine == pos.line) = true := by rfl) (hs : starEach [e] X.env = (false, eval e X.env) :: starEach [] X.env := by rfl) (hplain : (backTo pos (starEach [] X.env)).any (·.1) = false := by rfl) :
    SimQ X F ℓ (.Call (.Attribute (.Name y p) "index" apos) [e] [] pos) (q2 gTIx (qC (.d (.tuple ds))) qb) := by
  obtain ⟨u, v, hm, r, rep, tw⟩ := g
  obtain ⟨a, o, rfl, ho, hc, hn⟩ := tw ds rfl
  have ev : v = .ref a := by
    obtain ⟨a', vs, rfl, _⟩ := rep_tup (rep fun _ => none)
    cases r; rfl
  subst ev
  refine PEimp (pe_bm PySem.F.plainAttrs_tuple PySem.F.slot_tuple_index PySem.F.type_tuple_index mt_tup_index (pe_glob hg hm r hd) (pa_cons hi pa_nil hs) hbase hfew hline hs hplain) fun σ H Q ⟨env, h, A, z, R, e, k⟩ => ?_
  obtain ⟨x, ex, e⟩ := bind_some e
  obtain ⟨y, ey, e⟩ := bind_some e
  cases ex
  obtain ⟨t, ys, j, rfl, es, ej, rfl⟩ := gTIx_inv e
  refine ⟨.inr (.inl ⟨rfl, o, ho, hc, hn⟩), env, h, A, _, R, ey, fun u H2 e2 ru => ?_⟩
  cases rs ru
  obtain ⟨h1, h2⟩ := ixOf_spec ej
  have rr := rep H2
  rw [strsOf_map es] at rr
  obtain ⟨a', us, e3, q, r'⟩ := rep_tup rr
  cases e3
  rw [rep_strs r'] at q
  exact ⟨a, ys, t, j, rfl, rfl, q, h1, h2, k _ H2 e2 vi⟩
/-! ### text * n, tuple * n -/
theorem op_mulS : OpR X (binaryOp .Mult) (fun x y H Q => ∃ s n, x = .str s ∧ y = .int n ∧ MulOk s n ∧ Q (.str (Txt.mul s n)) H) := by
  intro pins s σ H x y v u Q I rx ry ⟨t, n, e1, e2, hok, q⟩
  subst e1; subst e2
  obtain ⟨tk, rfl⟩ := rx
  obtain ⟨tk2, rfl⟩ := ry
  exact PySem.SB.mul hok fun t' k => ⟨.str (Txt.mul t n), H, I.tok _, ⟨_, rfl⟩, q⟩
def gMulX : Hs → Val → Val → Option Val := fun h x y => match x, y with
  | .d (.str s), .d (.int n) => if (decide (0 ≤ n) && decide (n ≤ 10000) && decide (s.length ≤ 1000)) = true then some (.d (.str (Txt.mul s n))) else none
  | .d (.tuple ds), .d (.int k) => if (!ds.isEmpty && decide (2 ≤ k) && decide (k ≤ 1000) && decide (ds.length ≤ 1000)) = true then some (.d (.tuple (List.replicate k.toNat ds).flatten)) else none
  | x, y => gMul h x y
theorem rep_flat {T L : LP} {ds : List PyData} {vs : List V} (r : RepAll T L ds vs) : ∀ n, RepAll T L (List.replicate n ds).flatten (List.replicate n vs).flatten
  | 0 => .nil
  | n + 1 => by
    rw [List.replicate_succ, List.replicate_succ, List.flatten_cons, List.flatten_cons]
    exact r.append (rep_flat r n)
theorem mulOk_of {s : Str} {n : Int} (h0 : 0 ≤ n) (h1 : n ≤ 10000) (h2 : s.length ≤ 1000) : MulOk s n := by
  refine ⟨?_, fun h3 _ h4 => ?_, fun h3 _ => ?_⟩
  · rw [decide_eq_false (by omega), decide_eq_false (by omega)] <;> rfl
  · have : (2 ^ 63 - 1 : Int) / 10000 ≤ (2 ^ 63 - 1) / n := by
      have hn : 0 < n := by omega
      rw [Int.le_ediv_iff_mul_le hn]
      have := Int.ediv_mul_le (2 ^ 63 - 1) (b := 10000) (by decide)
      have h5 : (2 ^ 63 - 1 : Int) / 10000 * n ≤ (2 ^ 63 - 1) / 10000 * 10000 := Int.mul_le_mul_of_nonneg_left h1 (by decide)
      omega
    have h6 : (s.length : Int) ≤ 1000 := by omega
    have h7 : (1000 : Int) ≤ (2 ^ 63 - 1) / 10000 := by decide
    omega
  · unfold Builtin.Str.tooLong
    refine decide_eq_false ?_
    have : s.length * n.toNat ≤ 1000 * 10000 := Nat.mul_le_mul h2 (by omega)
    have hs := sizeLine_eq
    omega
theorem o_mulX (hK : X.K = F.G.K) {ℓ₂ : Lv} : BinS X F ℓ ℓ₂ ℓ (binaryOp .Mult) gMulX := ⟨_, OpR.or op_mulA (OpR.or op_mulS op_repT), by
  intro env h A σ H x y v u z R rx ry e Q k
  unfold gMulX at e
  split at e
  · next s n =>
    split at e
    · next hc =>
      cases e
      simp only [Bool.and_eq_true, decide_eq_true_eq] at hc
      cases rs rx
      cases ri ry
      exact .inr (.inl ⟨s, n, rfl, rfl, mulOk_of hc.1.1 hc.1.2 hc.2, k _ H (Ex.refl H) vs⟩)
    · cases e
  · next ds n =>
    split at e
    · next hc =>
      cases e
      simp only [Bool.and_eq_true, decide_eq_true_eq, Bool.not_eq_true', List.isEmpty_eq_false_iff] at hc
      obtain ⟨a, us, rfl, t, r⟩ := rt rx
      cases ri ry
      refine .inr (.inr ⟨a, n, us, rfl, rfl, by rw [hK]; exact t, fun z => ?_, hc.1.1.2, hc.1.2, by rw [r.len]; exact hc.2, fun p hp => ?_⟩)
      · have := r.len
        rw [z] at this
        exact hc.1.1.1 (List.eq_nil_of_length_eq_zero this.symm)
      · exact k _ _ (Ex.new hp) (vt (.inl (.inl upd_same)) (RDs.ex (Ex.new hp) (rep_flat r _)))
    · cases e
  · unfold gMul gI at e
    split at e
    · next i j _ _ =>
      split at e
      · next hc =>
        cases e
        cases ri rx
        cases ri ry
        refine .inl ⟨i, j, rfl, rfl, ?_, k _ H (Ex.refl H) vi⟩
        unfold cMul at hc
        simp only [Bool.or_eq_true, decide_eq_true_eq] at hc
        rcases hc with (hc | hc) | hc
        · exact CMul.ok (.inl ⟨by omega, by omega⟩)
        · exact CMul.ok (.inr ⟨by omega, by omega⟩)
        · exact CMulW.ok hc
      · cases e
    · cases e⟩
/-! ### tuple(range(a, b)) -/
def gTupR2 : Hs → Val → Val → Option Val := fun _ x y => match x, y with
  | .d (.int m), .d (.int n) => if (decide (-(2 ^ 60) ≤ m) && decide (m ≤ 2 ^ 60) && decide (n - m ≤ 2 ^ 24) && decide (-(2 ^ 60) ≤ n)) = true then some (.d (.tuple ((List.range (n - m).toNat).map fun k : Nat => PyData.int (m + (k : Int))))) else none
  | _, _ => none
theorem sq_tuprng2 (hc : X.calm = true) (hm : X.mg "tuple" = none) (hm2 : X.mg "range" = none) {ℓ₁ ℓ₂ : Lv} (ha : SimQ X F ℓ₁ a qa) (hb : SimQ X F ℓ₂ b qb) (hg : Gl X "tuple" := by rfl) (hg2 : Gl X "range" := by rfl)
    (hs : starEach [a, b] X.env = (false, eval a X.env) :: starEach [b] X.env := by rfl) (hs2 : starEach [b] X.env = (false, eval b X.env) :: starEach [] X.env := by rfl) (hpr : (backTo pos (starEach [b] X.env)).any (·.1) = false := by rfl) (na : starEach [.Call (.Name "range" p2) [a, b] [] pos] X.env = (false, eval (.Call (.Name "range" p2) [a, b] [] pos) X.env) :: starEach [] X.env := by rfl) {pos2 : Pos} :
    SimQ X F ℓ (.Call (.Name "tuple" p) [.Call (.Name "range" p2) [a, b] [] pos] [] pos2) (q2 gTupR2 qa qb) := by
  refine PEimp (pe_tupRg hc hg hm (prg_2 hg2 hm2 ha hb hs hs2 hpr) na) fun σ H Q ⟨env, h, A, z, R, e, k⟩ => ?_
  obtain ⟨x, ex, e⟩ := bind_some e
  obtain ⟨y, ey, e⟩ := bind_some e
  unfold gTupR2 at e
  split at e
  · next m n _ =>
    split at e
    · next hn =>
      cases e
      simp only [Bool.and_eq_true, decide_eq_true_eq] at hn
      refine ⟨env, h, A, _, R, ex, fun v H1 e1 rv => ⟨env, h, A, _, R.ex e1, ey, fun u H2 e2 ru => ?_⟩⟩
      cases ri rv
      cases ri ru
      refine ⟨m, n, rfl, rfl, ⟨by omega, by omega, by omega, by omega, by omega⟩, fun q hq => k _ _ ((e1.trans e2).trans (Ex.new hq)) ?_⟩
      refine vt (.inl (.inl upd_same)) ?_
      have := rep_rng (T := SqT F.G.K (upd H2 q (.tup (rgV m n)))) (L := LPof F (upd H2 q (.tup (rgV m n))) ℓ) m (n - m).toNat
      simpa [rgV] using this
    · cases e
  · cases e
/-! ### range with a step -/
def iRng3 (a b c : Q1) : I1 := fun env h => (a env h).bind fun x => (b env h).bind fun y => (c env h).bind fun z => match x, y, z with
  | .d (.int m), .d (.int n), .d (.int s) => if ((decide (-(2 ^ 60) ≤ m) && decide (m < 2 ^ 60)) && (decide (-(2 ^ 60) ≤ n) && decide (n < 2 ^ 60)) && (decide (0 < s) && decide (s < 2 ^ 30))) = true then some ((List.range ((n - m + s - 1) / s).toNat).map fun k : Nat => PyData.int (m + (k : Int) * s)) else none
  | _, _, _ => none
theorem ylds_rngC {Ok : Hp → Prop} (lo c : Int) (n : Nat) : Ylds F Ok ℓ (Itc lo c n) ((List.range n).map fun k : Nat => PyData.int (lo + (k : Int) * c)) where
  go := fun Hc i _ hi => by simpa [Itc] using hi
  yl := fun Hc i x Hn d _ hd hy => by
    obtain ⟨rfl, rfl⟩ := hy
    rw [List.getElem?_map] at hd
    obtain ⟨k, hk, rfl⟩ := Option.map_eq_some_iff.mp hd
    obtain ⟨hi, rfl⟩ := List.getElem?_eq_some_iff.mp hk
    refine ⟨Ex.refl _, ?_⟩
    rw [List.getElem_range]
    exact mk_int
  st := fun Hc i _ hi => by simpa [Itc] using hi
theorem si_rng3 (hm : X.mg "range" = none) {ℓ₁ ℓ₂ ℓ₃ : Lv} {ok : Fm → Hp → Hp → Prop} {tg : Expr} (ha : SimQ X F ℓ₁ a qa) (hb : SimQ X F ℓ₂ b qb) (hc : SimQ X F ℓ₃ c qc) (hg : Gl X "range" := by rfl)
    (hs : starEach [a, b, c] X.env = (false, eval a X.env) :: starEach [b, c] X.env := by rfl) (hs2 : starEach [b, c] X.env = (false, eval b X.env) :: starEach [c] X.env := by rfl) (hs3 : starEach [c] X.env = (false, eval c X.env) :: starEach [] X.env := by rfl)
    (hpl : (backTo pos (starEach [b, c] X.env)).any (·.1) = false := by rfl) :
    SimI X F ok ℓ tg (.Call (.Name "range" p) [a, b, c] [] pos) (iRng3 qa qb qc) :=
  PIimp (pi_range3 hg hm (pa_cons ha (pa_cons hb (pa_cons hc pa_nil hs3) hs2) hs) hs hpl) fun σ H Q ⟨env, h, A, z, R, e, k⟩ => by
    obtain ⟨x, ex, e⟩ := bind_some e
    obtain ⟨y, ey, e⟩ := bind_some e
    obtain ⟨w, ew, e⟩ := bind_some e
    refine ⟨env, h, A, x, R, ex, fun v H1 e1 rv => ⟨env, h, A, y, R.ex e1, ey, fun u H2 e2 ru => ⟨env, h, A, w, (R.ex e1).ex e2, ew, fun t H3 e3 rt' => ?_⟩⟩⟩
    split at e
    · next m n s _ _ =>
      split at e
      · next hn =>
        cases e
        cases ri rv
        cases ri ru
        cases ri rt'
        simp only [Bool.and_eq_true, decide_eq_true_eq] at hn
        obtain ⟨⟨⟨m1, m2⟩, n1, n2⟩, s1, s2⟩ := hn
        have er : Builtin.Range.rangeSize m n s = (((n - m + s - 1) / s).toNat : Int) := by
          unfold Builtin.Range.rangeSize
          rw [if_pos s1]
          have e2 : n - m + s - 1 = (n - m - 1) + s := by omega
          rw [e2, Int.add_ediv_of_dvd_right (Int.dvd_refl s), Int.ediv_self (by omega)]
          split
          · have : 0 ≤ (n - m - 1) / s := Int.ediv_nonneg (by omega) (by omega)
            omega
          · have : (n - m - 1) / s < 0 := Int.ediv_neg_of_neg_of_pos (by omega) s1
            omega
        have hle : (((n - m + s - 1) / s).toNat : Int) ≤ 2 ^ 62 := by
          have : (n - m + s - 1) / s ≤ n - m + s - 1 ∨ (n - m + s - 1) / s ≤ 0 := by
            by_cases hp : 0 ≤ n - m + s - 1
            · exact .inl (Int.ediv_le_self _ hp)
            · exact .inr (by have := Int.ediv_neg_of_neg_of_pos (show n - m + s - 1 < 0 by omega) s1; omega)
          omega
        refine ⟨m, n, s, _, rfl, ⟨by omega, by omega, ?_, er⟩, k _ H3 ((e1.trans e2).trans e3) (ylds_rngC m s _)⟩
        unfold Builtin.Range.small
        rw [er]
        simp only [Builtin.Range.rangeFitsLong, Bool.and_eq_true, Bool.or_eq_true, decide_eq_true_eq, beq_iff_eq, show s > 0 from s1, if_true]
        omega
      · cases e
    · cases e
/-! ### comprehensions over two sources -/
/-- the inner source's turns -/
def lcIn (vs1 : List Nat) (it1 : I1) (b1 : B1) (t1 : T1) (te : Q1) (env : En) (h : Hs) : Option (List PyData) :=
  (it1 env h).bind fun ys => lcGo (lcStep vs1 b1 t1 te env h) ys
def lcOut (vs : List Nat) (bn : B1) (tt : T1) (vs1 : List Nat) (it1 : I1) (b1 : B1) (t1 : T1) (te : Q1) (env : En) (h : Hs) (d : PyData) : Option (List PyData) :=
  (bn d (wipeE env vs)).bind fun env1 => (tt env1 h).bind fun b => if b = true then lcIn vs1 it1 b1 t1 te env1 h else some []
def catGo (f : PyData → Option (List PyData)) : List PyData → Option (List PyData)
  | [] => some []
  | x :: xs => (f x).bind fun ys => (catGo f xs).bind fun r => some (ys ++ r)
def fLc2 (it : I1) (vs : List Nat) (bn : B1) (tt : T1) (vs1 : List Nat) (it1 : I1) (b1 : B1) (t1 : T1) (te : Q1) : En → Hs → Option (List PyData) := fun env h => (it env h).bind fun xs =>
  (catGo (lcOut vs bn tt vs1 it1 b1 t1 te env h) xs).bind fun ys => if ys.length ≤ sizeLine then some ys else none
theorem catGo_app {f : PyData → Option (List PyData)} : ∀ {xs ys : List PyData} {r : List PyData}, catGo f (xs ++ ys) = some r → ∃ a b, catGo f xs = some a ∧ catGo f ys = some b ∧ r = a ++ b
  | [], ys, r, e => ⟨[], r, rfl, e, rfl⟩
  | x :: xs, ys, r, e => by
    obtain ⟨o, eo, e⟩ := bind_some e
    obtain ⟨q, eq, e⟩ := bind_some e
    obtain ⟨a, b, ea, eb, rfl⟩ := catGo_app eq
    cases e
    exact ⟨o ++ a, b, by rw [catGo, eo, Option.bind_some, ea, Option.bind_some], eb, by rw [List.append_assoc]⟩
theorem catGo_snoc {f : PyData → Option (List PyData)} {x : PyData} {o : List PyData} (eo : f x = some o) : ∀ {l : List PyData} {acc : List PyData}, catGo f l = some acc → catGo f (l ++ [x]) = some (acc ++ o)
  | [], acc, q => by cases q; simp [catGo, eo]
  | y :: l, acc, q => by
    obtain ⟨o1, q1, q⟩ := bind_some q
    obtain ⟨r1, q2, q⟩ := bind_some q
    cases q
    show catGo f (y :: (l ++ [x])) = _
    simp [catGo, q1, catGo_snoc eo q2]
theorem lcGo_snoc {f : PyData → Option (Option PyData)} {x : PyData} {o : Option PyData} (eo : f x = some o) : ∀ {l : List PyData} {acc : List PyData}, lcGo f l = some acc → lcGo f (l ++ [x]) = some (acc ++ o.toList)
  | [], acc, q => by
    cases q
    show lcGo _ [x] = _
    simp only [lcGo, eo, Option.bind_some]
    cases o <;> rfl
  | y :: l, acc, q => by
    obtain ⟨o1, q1, q⟩ := bind_some q
    obtain ⟨r1, q2, q⟩ := bind_some q
    cases q
    show lcGo _ (y :: (l ++ [x])) = _
    simp only [lcGo, q1, Option.bind_some, lcGo_snoc eo q2]
    cases o1 <;> rfl
section
variable {tg iter elt tg1 iter1 : Expr} {ifs ifs1 : List Expr} {ss ss1 : List Nat} {scope : Scope} {own : List (Str × Nat)} {it it1 : I1} {bn b1 : B1} {tt t1 : T1} {te : Q1}
/-- a thing that is nobody's is changed -/
theorem SR.off {D : Addr} (R : SR F env h A σ H) (f : Fresh F env h A D) (kp : ∀ a o, H a = some o → a ≠ D → H' a = some o) (P : Pres H H') : SR F env h A σ H' where
  fr := fun a o q w => kp a o (R.fr a o q w) fun e => by rw [e, f.f0] at q; cases q
  tp := fun a vs q => P.1 _ _ (R.tp a vs q)
  fz := fun a o u q => P.2 _ _ _ (R.fz a o u q)
  dm := fun a o q => by
    obtain ⟨o', e⟩ := R.dm a o q
    exact ⟨o', kp a o' e fun e => by rw [e, f.f0] at q; cases q⟩
  le := R.le
  oo := R.oo
  nw := R.nw
  ow := R.ow
  ln := R.ln
  sl := fun i s q => R.sl_keep P (Nat.le_refl _) (fun _ _ => rfl) q fun m => ⟨rfl, fun u z => kp _ u z (f.fp _ ⟨s, q, m⟩)⟩
  ob := fun n o q => R.ob_keep P (Nat.le_refl _) (fun _ _ => rfl) q (fun u z => kp _ u z (f.fp _ (hlive.live (show hlive h (.o n) from (List.getElem?_eq_some_iff.mp q).1)))) fun j hj => ⟨rfl, fun u z => kp _ u z (f.fp _ hj.live)⟩
  ij := R.ij
  ro := R.ro
/-- a target gives no slot a list of its own -/
def OwnNo (bn : B1) : Prop := ∀ (d : PyData) (env env' : En) (i : Nat) (s : Sl), bn d env = some env' → env'[i]? = some s → isMut s = true → env[i]? = some s
def OwnsNo (bn : Bs) : Prop := ∀ (d : List PyData) (env env' : En) (i : Nat) (s : Sl), bn d env = some env' → env'[i]? = some s → isMut s = true → env[i]? = some s
theorem bok_name {j : Nat} : OwnNo (bName j) := fun d env env' i s e q m => by
  cases e
  rcases get_set q with ⟨_, rfl, _⟩ | ⟨_, q⟩
  · cases m
  · exact q
theorem bsok_nil : OwnsNo bNil := fun d env env' i s e q m => by
  cases d with
  | nil => cases e; exact q
  | cons _ _ => cases e
theorem bsok_cons {b : B1} {r : Bs} (h1 : OwnNo b) (h2 : OwnsNo r) : OwnsNo (bCons b r) := fun d env env' i s e q m => by
  cases d with
  | nil => cases e
  | cons x xs =>
    obtain ⟨env1, e1, e2⟩ := bind_some e
    exact h1 _ _ _ _ _ e1 (h2 _ _ _ _ _ e2 q m) m
theorem bok_tup {n : Nat} {r : Bs} (h2 : OwnsNo r) : OwnNo (bTup n r) := fun d env env' i s e q m => by
  unfold bTup at e
  split at e
  · split at e
    · exact h2 _ _ _ _ _ e q m
    · cases e
  · cases e
theorem wipe_mut : ∀ {vs : List Nat} {env : En} {i : Nat} {s : Sl}, (wipeE env vs)[i]? = some s → isMut s = true → env[i]? = some s
  | [], _, _, _, q, _ => q
  | v :: vs, env, i, s, q, m => by
    rcases get_set (show ((wipeE env vs).set v .un)[i]? = some s from q) with ⟨_, rfl, _⟩ | ⟨_, q⟩
    · cases m
    · exact wipe_mut q m
theorem lc2_read {K : PySem.W.Frag} (hK : K = F.G.K) {σ : L2.St} {H : Hp} {Q : VK} {vs vs1 : List Nat} (hv : ∀ i, i ∈ ss → i ∈ vs) (hv1 : ∀ i, i ∈ ss1 → i ∈ vs1) (hbo : OwnNo bn) (hbo1 : OwnNo b1) (hq : tF F (fLc2 it vs bn tt vs1 it1 b1 t1 te) σ H Q) :
    tLc2 (tI F OkP .fs it) (tGt F ss bn) (tT F tt) (iList K (tF F it1)) (tGt F ss1 b1) (tT F t1) (tQ F .st te) vs vs1 σ H Q := by
  obtain ⟨env, h, A, ys, R, e, k⟩ := hq
  obtain ⟨xs, ex, e⟩ := bind_some e
  obtain ⟨zs, ez, e⟩ := bind_some e
  split at e
  · next hl =>
    cases e
    refine ⟨env, h, A, xs, R, ex, fun J H1 e1 Y D hD => ?_⟩
    refine ⟨fun i m Hc => m = xs.length - i ∧ i ≤ xs.length ∧ Ex H1 Hc ∧ ∃ acc us, catGo (lcOut vs bn tt vs1 it1 b1 t1 te env h) (xs.take i) = some acc ∧ Hc D = some (.lst us) ∧ RDs F .st Hc acc us,
      ⟨xs.length, by simp, Nat.zero_le _, Ex.new hD, [], [], rfl, upd_same, .nil⟩, ?_⟩
    rintro i m Hc ⟨rfl, hi, z, acc, us, ea, hu, ru⟩
    by_cases hlt : i < xs.length
    · refine .inr ⟨Y.go Hc i z hlt, fun H' => i + 1 ≤ xs.length ∧ Ex H1 H' ∧ ∃ acc us, catGo (lcOut vs bn tt vs1 it1 b1 t1 te env h) (xs.take (i + 1)) = some acc ∧ H' D = some (.lst us) ∧ RDs F .st H' acc us,
        fun H' ⟨h1, h2, h3⟩ => ⟨xs.length - (i + 1), by omega, rfl, h1, h2, h3⟩, fun x Hn hy => ?_⟩
      obtain ⟨zn, rx⟩ := Y.yl Hc i x Hn _ z (List.getElem?_eq_getElem hlt) hy
      have esp : xs = xs.take i ++ xs[i] :: xs.drop (i + 1) := by rw [← List.drop_eq_getElem_cons hlt, List.take_append_drop]
      have es : catGo (lcOut vs bn tt vs1 it1 b1 t1 te env h) (xs.take i ++ xs[i] :: xs.drop (i + 1)) = some ys := by rw [← esp]; exact ez
      obtain ⟨a', b', ha', hb', hab⟩ := catGo_app es
      rw [ea] at ha'; cases ha'
      obtain ⟨o, eo, hb'⟩ := bind_some hb'
      obtain ⟨r2, q2, q3⟩ := bind_some hb'
      cases q3
      have et : catGo (lcOut vs bn tt vs1 it1 b1 t1 te env h) (xs.take (i + 1)) = some (acc ++ o) := by
        rw [List.take_add_one, List.getElem?_eq_getElem hlt]
        exact catGo_snoc eo ea
      obtain ⟨env1, eb, eo⟩ := bind_some eo
      obtain ⟨c, ec, eo⟩ := bind_some eo
      have S0 : SR F (wipeE env vs) h A (L2.wipe σ vs) Hn := ((R.ex e1).ex (z.trans zn)).wipe vs
      refine ⟨_, h, A, xs[i], env1, S0, rx, eb, fun σ2 H2 x2 R2 l2 s2 => ⟨?_, env1, h, A, c, R2, ec, fun H3 x3 => ?_⟩⟩
      · rw [wipe_eq (σ := L2.wipe σ vs) l2 s2 hv]
        exact wipe_eq (ss := vs) (wipe_len _ _) (fun i hi => wipe_not hi) fun _ z => z
      · have zt : Ex Hc H3 := (zn.trans x2).trans x3
        cases c with
        | false =>
          cases eo
          exact ⟨hlt, z.trans zt, acc, us, by rw [et]; simp, zt D _ hu, RDs.ex zt ru⟩
        | true =>
          rw [if_pos rfl] at eo
          obtain ⟨ws, ew, eo⟩ := bind_some eo
          have S3 := R2.ex x3
          refine ⟨env1, h, A, ws, S3, ew, fun p wv H4 hp x4 hpv rp => ⟨p, rfl, ⟨wv, by rw [hK]; exact .inl (.inl hpv)⟩, ?_⟩⟩
          have hpD : p ≠ D := fun q => by rw [q, zt D _ hu] at hp; cases hp
          have z4 : Ex Hc H4 := zt.trans x4
          have Y1 : Ylds F (fun Hd => Hd p = some (.lst wv) ∧ Pres H4 Hd) .fs (Itl F.G.K p) ws := ylds_list rp.len fun Hd o => ⟨.inl (.inl o.1), RDs.of_st (RepAll.mono o.2.sqT o.2.sL _ _ rp)⟩
          -- what stands but for D
          have f0 : Fresh F env h A D := (R.ex e1).fresh hD
          have lv1 : ∀ q, live env1 h q → live env h q := fun q hq => by
            cases q with
            | s i =>
              obtain ⟨s, e, m⟩ := hq
              exact ⟨s, wipe_mut (hbo _ _ _ _ _ eb e m) m, m⟩
            | o n => exact hq
            | f n j => exact hq
          have fD : Fresh F env1 h A D := ⟨f0.f0, fun q hq => f0.fp q (lv1 q hq)⟩
          have S4 : SR F env1 h A σ2 H4 := S3.ex x4
          refine ⟨fun j m Hd => m = ws.length - j ∧ j ≤ ws.length ∧ (∀ a o, H4 a = some o → a ≠ D → Hd a = some o) ∧ Pres H4 Hd ∧ ∃ bcc ts, lcGo (lcStep vs1 b1 t1 te env1 h) (ws.take j) = some bcc ∧ Hd D = some (.lst (us ++ ts)) ∧ RDs F .st Hd bcc ts,
            ⟨ws.length, by simp, Nat.zero_le _, fun a o q _ => q, Pres.refl _, [], [], rfl, by rw [List.append_nil]; exact z4 D _ hu, .nil⟩, ?_⟩
          rintro j m Hd ⟨rfl, hj, kd, Pd, bcc, ts, eb1, hD1, rts⟩
          have okd : Hd p = some (.lst wv) ∧ Pres H4 Hd := ⟨kd _ _ hpv hpD, Pd⟩
          by_cases hjl : j < ws.length
          · refine .inr ⟨by rw [hK]; exact Y1.go Hd j okd hjl, fun H' => j + 1 ≤ ws.length ∧ (∀ a o, H4 a = some o → a ≠ D → H' a = some o) ∧ Pres H4 H' ∧ ∃ bcc ts, lcGo (lcStep vs1 b1 t1 te env1 h) (ws.take (j + 1)) = some bcc ∧ H' D = some (.lst (us ++ ts)) ∧ RDs F .st H' bcc ts,
              fun H' ⟨h1, h2, h3, h4⟩ => ⟨ws.length - (j + 1), by omega, rfl, h1, h2, h3, h4⟩, fun x Hn hy => ?_⟩
            rw [hK] at hy
            obtain ⟨zn', rx'⟩ := Y1.yl Hd j x Hn _ okd (List.getElem?_eq_getElem hjl) hy
            obtain ⟨rfl, _⟩ := hy
            have esp1 : ws = ws.take j ++ ws[j] :: ws.drop (j + 1) := by rw [← List.drop_eq_getElem_cons hjl, List.take_append_drop]
            have es1 : lcGo (lcStep vs1 b1 t1 te env1 h) (ws.take j ++ ws[j] :: ws.drop (j + 1)) = some o := by rw [← esp1]; exact eo
            obtain ⟨a1, b2, ha1, hb2, hab1⟩ := lcGo_app es1
            rw [eb1] at ha1; cases ha1
            obtain ⟨o1, eo1, hb2⟩ := bind_some hb2
            obtain ⟨r3, q4, q5⟩ := bind_some hb2
            cases q5
            have et1 : lcGo (lcStep vs1 b1 t1 te env1 h) (ws.take (j + 1)) = some (bcc ++ o1.toList) := by
              rw [List.take_add_one, List.getElem?_eq_getElem hjl]
              exact lcGo_snoc eo1 eb1
            obtain ⟨env2, eb2, eo1⟩ := bind_some eo1
            obtain ⟨c2, ec2, eo1⟩ := bind_some eo1
            have Sd : SR F env1 h A σ2 Hn := S4.off fD kd Pd
            refine ⟨_, h, A, ws[j], env2, Sd.wipe vs1, rx', eb2, fun σ3 H5 x5 R5 l5 s5 => ⟨?_, env2, h, A, c2, R5, ec2, fun H6 x6 => ?_⟩⟩
            · rw [wipe_eq (σ := L2.wipe σ2 vs1) l5 s5 hv1]
              exact wipe_eq (ss := vs1) (wipe_len _ _) (fun i hi => wipe_not hi) fun _ z => z
            · have zu : Ex Hn H6 := x5.trans x6
              cases c2 with
              | false =>
                cases eo1
                exact ⟨hjl, fun a o q n => zu _ _ (kd a o q n), Pd.trans (Ex.pres zu), bcc, ts, by rw [et1]; simp, zu D _ hD1, RDs.ex zu rts⟩
              | true =>
                obtain ⟨y, ey, eo1⟩ := bind_some eo1
                obtain ⟨y', ey', eo1⟩ := bind_some eo1
                cases eo1
                refine ⟨env2, h, A, y, R5.ex x6, ey, fun v H7 x7 rv => ⟨us ++ ts, (zu.trans x7) D _ hD1, ?_, hjl, fun a o q n => ?_, ?_, _, ts ++ [v], et1, by rw [upd_same, List.append_assoc], ?_⟩⟩
                · have l1 : acc.length = us.length := ru.len.symm
                  have l2 : bcc.length = ts.length := rts.len.symm
                  have : (acc ++ (bcc ++ ([y'] ++ r3) ++ r2)).length ≤ sizeLine := by
                    have e7 : o = bcc ++ ([y'] ++ r3) := by rw [hab1]; rfl
                    rw [← e7]
                    rw [hab] at hl
                    exact hl
                  simp only [List.length_append, List.length_cons, List.length_nil] at this ⊢
                  omega
                · rw [upd_ne n]
                  exact (zu.trans x7) _ _ (kd a o q n)
                · exact (Pd.trans (Ex.pres (zu.trans x7))).trans (Pres.upd fun u eu => by
                    rw [(zu.trans x7) D _ hD1] at eu; cases eu
                    exact ⟨fun _ q => (by cases q), fun _ _ q => (by cases q)⟩)
                · have P : Pres H7 (upd H7 D (.lst (us ++ ts ++ [v]))) := Pres.upd fun u eu => by
                    rw [(zu.trans x7) D _ hD1] at eu; cases eu
                    exact ⟨fun _ q => (by cases q), fun _ _ q => (by cases q)⟩
                  refine RepAll.append (RepAll.mono P.sqT P.sL _ _ (RDs.ex (zu.trans x7) rts)) (.cons ?_ .nil)
                  cases y with
                  | d yy => cases ey'; exact Rep.mono P.sqT P.sL _ _ rv
                  | ref n => cases ey'
                  | fn n => cases ey'
          · have e0 : j = ws.length := by omega
            subst e0
            rw [List.take_length, eo] at eb1
            cases eb1
            refine .inl ⟨by rw [hK]; exact Y1.st Hd _ okd (Nat.le_refl _), hlt, fun a o q => ?_, _, us ++ ts, et, hD1, RepAll.append (RepAll.mono ((Ex.pres z4).trans Pd).sqT ((Ex.pres z4).trans Pd).sL _ _ ru) rts⟩
            exact kd a o ((z.trans z4) a o q) fun e => by rw [e, hD] at q; cases q
    · have e0 : i = xs.length := by omega
      subst e0
      rw [List.take_length, ez] at ea
      cases ea
      exact .inl ⟨Y.st Hc _ z (Nat.le_refl _), k D us Hc (fresh_back e1 hD) (e1.trans z) hu ru⟩
  · cases e
theorem sf_lc2 (hK : X.K = F.G.K) (hc : X.calm = true) (hN : X.N.Nodup) {vs1 : List Nat} (hi : SimI X F OkP .fs tg iter it) (ok : blkC X.N X.env.scope scope own = true) (hv1 : (vs1.all fun i => (own.map (·.2)).contains i) = true) (hv : (ss.all fun i => (own.map (·.2)).contains i) = true) (hv2 : (ss1.all fun i => vs1.contains i) = true) (hbo : OwnNo bn) (hbo1 : OwnNo b1)
    (hg : ∀ (s : Shared) (H : Hp) (C : Addr) (cl : List (Str × Addr)) (fp : List Addr), PG (X.blk s H scope (compEnvC scope cl C X.env) fp) tg (tGt F ss bn)) (ht : ∀ (s : Shared) (H : Hp) (C : Addr) (cl : List (Str × Addr)) (fp : List Addr), PTs (X.blk s H scope (compEnvC scope cl C X.env) fp) ifs (tT F tt))
    (hi1 : ∀ (s : Shared) (H : Hp) (C : Addr) (cl : List (Str × Addr)) (fp : List Addr), SimF (X.blk s H scope (compEnvC scope cl C X.env) fp) F iter1 it1)
    (hg1 : ∀ (s : Shared) (H : Hp) (C : Addr) (cl : List (Str × Addr)) (fp : List Addr), PG (X.blk s H scope (compEnvC scope cl C X.env) fp) tg1 (tGt F ss1 b1)) (ht1 : ∀ (s : Shared) (H : Hp) (C : Addr) (cl : List (Str × Addr)) (fp : List Addr), PTs (X.blk s H scope (compEnvC scope cl C X.env) fp) ifs1 (tT F t1))
    (he : ∀ (s : Shared) (H : Hp) (C : Addr) (cl : List (Str × Addr)) (fp : List Addr), SimQ (X.blk s H scope (compEnvC scope cl C X.env) fp) F .st elt te) (hs : ∀ x, foldedSetIterable iter X.env x = pure x := by intro _; rfl) (hs1 : ∀ env x, foldedSetIterable iter1 env x = pure x := by intro _ _; rfl) :
    SimF X F (.ListComp elt [⟨tg, iter, ifs, 0⟩, ⟨tg1, iter1, ifs1, 0⟩] scope pos) (fLc2 it (own.map (·.2)) bn tt vs1 it1 b1 t1 te) :=
  PEimp (pe_lc2 hc hN hi (blkOk_by ok) (fun i hi => by simpa using List.all_eq_true.mp hv1 i hi) hg ht (fun s H C cl fp => pi_list (hi1 s H C cl fp)) hg1 ht1 he hs hs1) fun _ _ _ => lc2_read hK (fun i hi => by simpa using List.all_eq_true.mp hv i hi) (fun i hi => by simpa using List.all_eq_true.mp hv2 i hi) hbo hbo1
end
end
/-! ### calls without arguments -/
section
variable {F : Fm} {X : Cx} {k : Nat} {f : Addr} {fd : FuncData} {x : Str} {p pos : Pos} {g : List Val → Hs → Option Val} {gf : List Val → Hs → Option (List PyData)}
theorem sq_call0 {G : Glo} (U : FnOk X.prog X.w X.K X.mg X.base CX0 k f fd [] (spQ G 0 g)) (hG : F.G = G) (hr : Room k X.A) (hm : X.mg x = some (.ref f)) (hk : PySem.W.keepIn X.K (.ref f) = true) (hb : Binds X.K fd [] [])
    (hg : Gl X x := by rfl) (hdb : (x == ("__debug__" : Str)) = false := by decide) : SimQ X F .mo (.Call (.Name x p) [] [] pos) (qCall (arity 0 g) aNil) :=
  PEimp (pe_call0 (U.imp fun _ _ _ _ => spQ_ar) hr hg hm hk hb .nil pass0 hdb) fun σ H Q ⟨env, h, A, z, R, e, kk⟩ => by
    obtain ⟨xs, ex, e⟩ := bind_some e
    cases ex
    exact ⟨F, env, h, A, σ, [], z, hG, R, .nil, rfl, e, kk⟩
end
/-! ### a comprehension given to a name -/
section
variable {F : Fm} {X : Cx} {tg iter elt tg1 iter1 : Expr} {ifs ifs1 : List Expr} {pos spos py : Pos} {ss ss1 : List Nat} {scope : Scope} {own : List (Str × Nat)} {it it1 : I1} {bn b1 : B1} {tt t1 : T1} {te : Q1} {i : Nat} {y : Str}
theorem ss_setLc (hN : X.N.Nodup) (hy : X.N[i]? = some y) (hyl : X.env.scope.names.lookup y = some .local) (hc : X.calm = true) (hi : SimI X F OkP .fs tg iter it) (ok : blkC X.N X.env.scope scope own = true) (hv : (ss.all fun i => (own.map (·.2)).contains i) = true)
    (hg : ∀ (s : Shared) (H : Hp) (C : Addr) (cl : List (Str × Addr)) (fp : List Addr), PG (X.blk s H scope (compEnvC scope cl C X.env) fp) tg (tGt F ss bn)) (ht : ∀ (s : Shared) (H : Hp) (C : Addr) (cl : List (Str × Addr)) (fp : List Addr), PTs (X.blk s H scope (compEnvC scope cl C X.env) fp) ifs (tT F tt))
    (he : ∀ (s : Shared) (H : Hp) (C : Addr) (cl : List (Str × Addr)) (fp : List Addr), SimQ (X.blk s H scope (compEnvC scope cl C X.env) fp) F .st elt te) (hsw : swapsWith (.ListComp elt [⟨tg, iter, ifs, 0⟩] scope pos) (some (.Name y py)) spos.line X.env = pure true := by rfl) (hs : ∀ x, foldedSetIterable iter X.env x = pure x := by intro _; rfl) :
    SimS X F (.Assign [.Name y py] (.ListComp elt [⟨tg, iter, ifs, 0⟩] scope pos) spos) (mSetO i (fLc it (own.map (·.2)) bn tt te)) :=
  PSimp (ps_setLc hc hN hy hyl hsw hi (blkOk_by ok) hg ht he hs) fun D σ H ⟨env, h, A, r, env', h', R, e, k⟩ => by
    obtain ⟨x, ex, e⟩ := bind_some e
    cases e
    exact lc_read (fun i hi => by simpa using List.all_eq_true.mp hv i hi) ⟨env, h, A, x, R, ex, fun p us H1 hp e1 hv rs => k _ H1 _ (R.own hp e1 hv rs) (Ex.pres e1)⟩
theorem ss_setLc2 (hN : X.N.Nodup) (hy : X.N[i]? = some y) (hyl : X.env.scope.names.lookup y = some .local) (hK : X.K = F.G.K) (hc : X.calm = true) {vs1 : List Nat} (hi : SimI X F OkP .fs tg iter it) (ok : blkC X.N X.env.scope scope own = true) (hv1 : (vs1.all fun i => (own.map (·.2)).contains i) = true) (hv : (ss.all fun i => (own.map (·.2)).contains i) = true) (hv2 : (ss1.all fun i => vs1.contains i) = true) (hbo : OwnNo bn) (hbo1 : OwnNo b1)
    (hg : ∀ (s : Shared) (H : Hp) (C : Addr) (cl : List (Str × Addr)) (fp : List Addr), PG (X.blk s H scope (compEnvC scope cl C X.env) fp) tg (tGt F ss bn)) (ht : ∀ (s : Shared) (H : Hp) (C : Addr) (cl : List (Str × Addr)) (fp : List Addr), PTs (X.blk s H scope (compEnvC scope cl C X.env) fp) ifs (tT F tt))
    (hi1 : ∀ (s : Shared) (H : Hp) (C : Addr) (cl : List (Str × Addr)) (fp : List Addr), SimF (X.blk s H scope (compEnvC scope cl C X.env) fp) F iter1 it1)
    (hg1 : ∀ (s : Shared) (H : Hp) (C : Addr) (cl : List (Str × Addr)) (fp : List Addr), PG (X.blk s H scope (compEnvC scope cl C X.env) fp) tg1 (tGt F ss1 b1)) (ht1 : ∀ (s : Shared) (H : Hp) (C : Addr) (cl : List (Str × Addr)) (fp : List Addr), PTs (X.blk s H scope (compEnvC scope cl C X.env) fp) ifs1 (tT F t1))
    (he : ∀ (s : Shared) (H : Hp) (C : Addr) (cl : List (Str × Addr)) (fp : List Addr), SimQ (X.blk s H scope (compEnvC scope cl C X.env) fp) F .st elt te) (hsw : swapsWith (.ListComp elt [⟨tg, iter, ifs, 0⟩, ⟨tg1, iter1, ifs1, 0⟩] scope pos) (some (.Name y py)) spos.line X.env = pure true := by rfl) (hs : ∀ x, foldedSetIterable iter X.env x = pure x := by intro _; rfl) (hs1 : ∀ env x, foldedSetIterable iter1 env x = pure x := by intro _ _; rfl) :
    SimS X F (.Assign [.Name y py] (.ListComp elt [⟨tg, iter, ifs, 0⟩, ⟨tg1, iter1, ifs1, 0⟩] scope pos) spos) (mSetO i (fLc2 it (own.map (·.2)) bn tt vs1 it1 b1 t1 te)) :=
  PSimp (ps_setLc2 hc hN hy hyl hsw hi (blkOk_by ok) (fun i hi => by simpa using List.all_eq_true.mp hv1 i hi) hg ht (fun s H C cl fp => pi_list (hi1 s H C cl fp)) hg1 ht1 he hs hs1) fun D σ H ⟨env, h, A, r, env', h', R, e, k⟩ => by
    obtain ⟨x, ex, e⟩ := bind_some e
    cases e
    exact lc2_read hK (fun i hi => by simpa using List.all_eq_true.mp hv i hi) (fun i hi => by simpa using List.all_eq_true.mp hv2 i hi) hbo hbo1 ⟨env, h, A, x, R, ex, fun p us H1 hp e1 hv rs => k _ H1 _ (R.own hp e1 hv rs) (Ex.pres e1)⟩
theorem ss_setLcE {it : IE} {te : E1} (hN : X.N.Nodup) (hy : X.N[i]? = some y) (hyl : X.env.scope.names.lookup y = some .local) (hw : F.rw = true) (hc : X.calm = true) (hi : SimIE X F OkS .fs tg iter it) (ok : blkC X.N X.env.scope scope own = true) (hv : (ss.all fun i => (own.map (·.2)).contains i) = true)
    (hg : ∀ (s : Shared) (H : Hp) (C : Addr) (cl : List (Str × Addr)) (fp : List Addr), PG (X.blk s H scope (compEnvC scope cl C X.env) fp) tg (tGt F ss bn)) (ht : ∀ (s : Shared) (H : Hp) (C : Addr) (cl : List (Str × Addr)) (fp : List Addr), PTs (X.blk s H scope (compEnvC scope cl C X.env) fp) ifs (tT F tt))
    (he : ∀ (s : Shared) (H : Hp) (C : Addr) (cl : List (Str × Addr)) (fp : List Addr), SimE (X.blk s H scope (compEnvC scope cl C X.env) fp) F .st elt te) (hsw : swapsWith (.ListComp elt [⟨tg, iter, ifs, 0⟩] scope pos) (some (.Name y py)) spos.line X.env = pure true := by rfl) (hs : ∀ x, foldedSetIterable iter X.env x = pure x := by intro _; rfl) :
    SimS X F (.Assign [.Name y py] (.ListComp elt [⟨tg, iter, ifs, 0⟩] scope pos) spos) (mSetOE i (efLc it (own.map (·.2)) bn tt te)) :=
  PSimp (ps_setLc hc hN hy hyl hsw hi (blkOk_by ok) hg ht he hs) fun D σ H ⟨env, h, A, r, env', h', R, e, k⟩ => by
    obtain ⟨⟨x, h1⟩, ex, e⟩ := bind_some e
    cases e
    exact lcE_read hw (fun i hi => by simpa using List.all_eq_true.mp hv i hi) ⟨env, h, A, x, _, R, ex, fun p us H1 A1 R1 s hp hv fr rs => k _ H1 _ (R1.setNew fr rfl ⟨rfl, us, hv, rs⟩) s.pres⟩
end
/-! ### a new list as an object of its own -/
def eNewF (f : I1) : E1 := fun env h => (f env h).bind fun xs => some (.ref h.length, h ++ [.lst xs])
section
variable {F : Fm} {X : Cx} {e : Expr} {f : I1} {ℓ : Lv}
theorem se_newF (hf : SimF X F e f) : SimE X F ℓ e (eNewF f) := PEimp hf fun σ H Q ⟨env, h, A, z, h', R, e, k⟩ => by
  obtain ⟨xs, ex, e⟩ := bind_some e
  cases e
  refine ⟨env, h, A, xs, R, ex, fun p vs H1 hp x1 hv rs => ?_⟩
  have f0 : Fresh F env h A p := ⟨(R.fresh hp).f0, (R.fresh hp).fp⟩
  have R1 := R.ex x1
  have ho : ObOf F.G (h.length + 1) (As.put A (.o h.length) p) H1 h.length (.lst xs) := ⟨vs, by rw [As.put_same]; exact hv, rs⟩
  have R3 := R1.alloc (o := .lst xs) f0 (fun j ⟨c, fs, s, e, _⟩ => by simp at e) ho
  have s3 : Step h A H (h ++ [.lst xs]) (As.put A (.o h.length) p) H1 := by
    refine ⟨fun a o q _ => x1 a o q, fun a us q => x1 a _ q, fun a o u q => x1 a _ q, fun a o q => ⟨o, x1 a o q⟩, by simp, fun m hm => As.put_ne (by intro z; cases z; exact absurd hm (Nat.lt_irrefl _)), fun q hq => ?_⟩
    by_cases e : q = .o h.length
    · exact .inr (by rw [e, As.put_same]; exact hp)
    · rw [As.put_ne e]
      refine .inl ⟨q, ?_, rfl⟩
      cases q with
      | s i => exact hq
      | o n =>
        have hq : n < (h ++ [Ob.lst xs]).length := hq
        simp at hq
        have ne : n ≠ h.length := fun z => e (by rw [z])
        show n < h.length
        omega
      | f n j =>
        obtain ⟨c, fs, s, e1, e2, m⟩ := hq
        by_cases hn : n < h.length
        · rw [List.getElem?_append_left hn] at e1; exact ⟨c, fs, s, e1, e2, m⟩
        · rw [List.getElem?_append_right (by omega)] at e1
          have e0 : n - h.length = 0 := by
            have := (List.getElem?_eq_some_iff.mp e1).1
            simp at this; omega
          rw [e0] at e1
          simp at e1
  exact k _ _ _ R3 s3 ⟨by simp, by rw [As.put_same]⟩
end
/-! ### a text's signs walked -/
/-- the signs of a text, each a text -/
def signs (s : Str) : List PyData := s.cps.toList.map fun c => PyData.str ⟨#[c]⟩
def iSeqX (a : Q1) : I1 := fun env h => (a env h).bind fun x => match x with
  | .d (.str s) => some (signs s)
  | x => (seqOf x).bind fun xs => if nlAll xs = true then some xs else none
def iSeqT (a : Q1) : I1 := fun env h => (a env h).bind fun x => match x with
  | .d (.str s) => some (signs s)
  | x => seqOf x
section
variable {F : Fm} {X : Cx} {tg a : Expr} {ℓ : Lv} {qa : Q1} {ok : Fm → Hp → Hp → Prop}
theorem ylds_str {Ok : Hp → Prop} (s : Str) : Ylds F Ok ℓ (Its s) (signs s) where
  go := fun Hc i _ hi => by simpa [signs, Its] using hi
  yl := fun Hc i x Hn d _ hd hy => by
    obtain ⟨rfl, c, hc, rfl⟩ := hy
    unfold signs at hd
    rw [List.getElem?_map, Array.getElem?_toList, hc] at hd
    cases hd
    exact ⟨Ex.refl _, mk_str⟩
  st := fun Hc i _ hi => by simpa [signs, Its] using hi
theorem si_seqX (hK : X.K = F.G.K) (ha : SimQ X F .mo a qa) : SimI X F OkP ℓ tg a (iSeqX qa) := PIimp (PIor (pi_str ha) (si_seqN (ℓ := ℓ) hK ha)) fun σ H Q ⟨env, h, A, z, R, e, k⟩ => by
  obtain ⟨x, ex, e⟩ := bind_some e
  split at e
  · next s =>
    cases e
    refine .inl ⟨env, h, A, _, R, ex, fun v H1 e1 rv => ?_⟩
    cases rs rv
    exact ⟨s, rfl, k _ H1 e1 (ylds_str s)⟩
  · refine .inr ⟨env, h, A, z, R, ?_, k⟩
    unfold iSeqN
    rw [ex]
    exact e
theorem si_seqT (hK : X.K = F.G.K) (ha : SimQ X F .fs a qa) : SimI X F OkS .fs tg a (iSeqT qa) := PIimp (PIor (pi_str ha) (si_seqS hK ha)) fun σ H Q ⟨env, h, A, z, R, e, k⟩ => by
  obtain ⟨x, ex, e⟩ := bind_some e
  split at e
  · next s =>
    cases e
    refine .inl ⟨env, h, A, _, R, ex, fun v H1 e1 rv => ?_⟩
    cases rs rv
    exact ⟨s, rfl, k _ H1 e1 (ylds_str s)⟩
  · refine .inr ⟨env, h, A, z, R, ?_, k⟩
    unfold iSeq
    rw [ex]
    exact e
end
/-! ### one of two new lists -/
def fIf (t : T1) (a b : I1) : I1 := fun env h => (t env h).bind fun c => if c = true then a env h else b env h
section
variable {F : Fm} {X : Cx} {c a b : Expr} {pos : Pos} {t : T1} {fa fb : I1}
theorem sf_if (hc : SimT X F c t) (ha : SimF X F a fa) (hb : SimF X F b fb) : SimF X F (.IfExp c a b pos) (fIf t fa fb) := PEimp (pe_ifExp hc ha hb) fun σ H Q ⟨env, h, A, z, R, e, k⟩ => by
  obtain ⟨d, ed, e⟩ := bind_some e
  refine ⟨env, h, A, d, R, ed, fun H1 e1 => ?_⟩
  cases d with
  | true => exact ⟨env, h, A, z, R.ex e1, e, fun p vs H2 hp e2 hv rs => k p vs H2 (fresh_back e1 hp) (e1.trans e2) hv rs⟩
  | false => exact ⟨env, h, A, z, R.ex e1, e, fun p vs H2 hp e2 hv rs => k p vs H2 (fresh_back e1 hp) (e1.trans e2) hv rs⟩
end
end Sm

set_option Elab.async false
set_option linter.all false
set_option maxRecDepth 100000
set_option maxHeartbeats 4000000
/-! what is unfolded when a semantics is read -/
namespace Sm
open PySem L2 Evl
theorem nlAll_ints (ns : List Int) : nlAll (ns.map PyData.int) = true := by
  induction ns with
  | nil => rfl
  | cons n ns ih => simp [nlAll, nl, ih]
theorem nlAll_app {xs ys : List PyData} : nlAll (xs ++ ys) = (nlAll xs && nlAll ys) := by
  induction xs with
  | nil => simp [nlAll]
  | cons x xs ih => simp [nlAll, ih, Bool.and_assoc]
@[simp] theorem atI0 {α : Type} (x : α) (xs : List α) : atI (x :: xs) 0 = some x := by simp [atI, ixN]
@[simp] theorem atI1 {α : Type} (x y : α) (xs : List α) : atI (x :: y :: xs) 1 = some y := by
  have : (1 : Int) < (xs.length : Int) + 1 + 1 := by omega
  simp [atI, ixN, this]
@[simp] theorem atI2 {α : Type} (x y z : α) (xs : List α) : atI (x :: y :: z :: xs) 2 = some z := by
  have : (2 : Int) < (xs.length : Int) + 1 + 1 + 1 := by omega
  simp [atI, ixN, this]
@[simp] theorem atI3 {α : Type} (x y z u : α) (xs : List α) : atI (x :: y :: z :: u :: xs) 3 = some u := by
  have : (3 : Int) < (xs.length : Int) + 1 + 1 + 1 + 1 := by omega
  simp [atI, ixN, this]
theorem atI_map {α β : Type} {f : α → β} {xs : List α} {i : Int} {x : α} (e : atI xs i = some x) : atI (xs.map f) i = some (f x) := by
  unfold atI at e ⊢
  rw [List.length_map]
  cases hj : ixN xs.length i with
  | none => rw [hj] at e; cases e
  | some j =>
    rw [hj] at e
    have e : xs[j]? = some x := e
    show (xs.map f)[j]? = _
    rw [List.getElem?_map, e]
    rfl
theorem atN {α : Type} {xs : List α} {k : Nat} {x : α} (e : xs[k]? = some x) : atI xs (k : Int) = some x := by
  have hk := (List.getElem?_eq_some_iff.mp e).1
  have : (xs[k]'hk) = x := by
    rw [List.getElem?_eq_getElem hk] at e
    exact Option.some.inj e
  unfold atI ixN
  simp [hk, this]
theorem atI_last {α : Type} {xs : List α} {x : α} : atI (xs ++ [x]) (-1) = some x := by
  have h1 : (1 : Int) ≤ (xs.length : Int) + 1 := by omega
  have h2 : (-1 + ((xs.length : Int) + 1)).toNat = xs.length := by omega
  unfold atI ixN
  simp [h1, h2]
theorem take_min {α : Type} (n : Nat) (xs : List α) : xs.take (min n xs.length) = xs.take n := by
  by_cases h : n ≤ xs.length
  · rw [Nat.min_eq_left h]
  · rw [Nat.min_eq_right (by omega), List.take_of_length_le (Nat.le_refl _), List.take_of_length_le (by omega)]
/-- a comprehension that takes each item -/
theorem lcGo_map {α : Type} {step : PyData → Option (Option PyData)} {f : α → PyData} {g : α → PyData} : ∀ {xs : List α}, (∀ x ∈ xs, step (f x) = some (some (g x))) → lcGo step (xs.map f) = some (xs.map g)
  | [], _ => rfl
  | x :: xs, h => by
    rw [List.map_cons, lcGo, h x (by simp), lcGo_map fun y hy => h y (by simp [hy])]
    rfl
/-- and one that takes some -/
theorem lcGo_filter {α : Type} {step : PyData → Option (Option PyData)} {f : α → PyData} {p : α → Bool} {g : α → PyData} : ∀ {xs : List α}, (∀ x ∈ xs, step (f x) = some (if p x = true then some (g x) else none)) → lcGo step (xs.map f) = some ((xs.filter p).map g)
  | [], _ => rfl
  | x :: xs, h => by
    rw [List.map_cons, lcGo, h x (by simp), lcGo_filter fun y hy => h y (by simp [hy])]
    cases hp : p x <;> simp [hp]
theorem bools_map {α : Type} (p : α → Bool) : ∀ xs : List α, boolsOf (xs.map fun x => PyData.bool (p x)) = some (xs.map p)
  | [] => rfl
  | x :: xs => by rw [List.map_cons, boolsOf, bools_map p xs]; rfl
theorem intsOf_ints (ns : List Int) : intsOf (ns.map PyData.int) = some ns := intsOf_of ns
section
variable {it : I1} {vs : List Nat} {bn : B1} {tt : T1} {te : Q1} {env env1 env2 : En} {h h1 h2 : Hs} {a b m : M1} {q : Q1} {t : T1} {ℓ : Lv} {x : Val} {d : PyData}
theorem fLc_map {α : Type} {f g : α → PyData} {xs : List α} (hi : it env h = some (xs.map f)) (hs : ∀ x ∈ xs, lcStep vs bn tt te env h (f x) = some (some (g x))) (hl : xs.length ≤ sizeLine) : fLc it vs bn tt te env h = some (xs.map g) := by
  unfold fLc
  rw [hi, Option.bind_some, lcGo_map hs, Option.bind_some, if_pos (by rw [List.length_map]; exact hl)]
theorem fLc_filter {α : Type} {f g : α → PyData} {p : α → Bool} {xs : List α} (hi : it env h = some (xs.map f)) (hs : ∀ x ∈ xs, lcStep vs bn tt te env h (f x) = some (if p x = true then some (g x) else none)) (hl : xs.length ≤ sizeLine) :
    fLc it vs bn tt te env h = some ((xs.filter p).map g) := by
  unfold fLc
  rw [hi, Option.bind_some, lcGo_filter hs, Option.bind_some, if_pos (by rw [List.length_map]; exact Nat.le_trans (List.length_filter_le _ _) hl)]
theorem all_lc {α : Type} {f : α → PyData} {p : α → Bool} {xs : List α} (hi : it env h = some (xs.map f)) (hs : ∀ x ∈ xs, lcStep vs bn tt te env h (f x) = some (some (.bool (p x)))) (hl : xs.length ≤ sizeLine) : q1 gAll (qF (fLc it vs bn tt te)) env h = some (.d (.bool (xs.all p))) := by
  unfold q1 qF
  rw [fLc_map (g := fun x => .bool (p x)) hi hs hl, Option.bind_some, Option.bind_some]
  show (boolsOf _).map _ = _
  rw [bools_map, Option.map_some, List.all_map]
  rfl
theorem any_lc {α : Type} {f : α → PyData} {p : α → Bool} {xs : List α} (hi : it env h = some (xs.map f)) (hs : ∀ x ∈ xs, lcStep vs bn tt te env h (f x) = some (some (.bool (p x)))) (hl : xs.length ≤ sizeLine) : q1 gAny (qF (fLc it vs bn tt te)) env h = some (.d (.bool (xs.any p))) := by
  unfold q1 qF
  rw [fLc_map (g := fun x => .bool (p x)) hi hs hl, Option.bind_some, Option.bind_some]
  show (boolsOf _).map _ = _
  rw [bools_map, Option.map_some, List.any_map]
  rfl
theorem run_q {k : Nat} {args : List Val} (e : m (startE k args) h = some (.rt ℓ (.d d), env1, h1)) : runQ k m args h = some (.d d) := by
  unfold runQ
  rw [e]
  rfl
theorem run_ret {k : Nat} {args : List Val} (e : q (startE k args) h = some (.d d)) : runQ k (mRet ℓ q) args h = some (.d d) := run_q (ℓ := ℓ) (env1 := startE k args) (h1 := h) (by unfold mRet; rw [e]; rfl)
theorem run_e {k : Nat} {args : List Val} (e : m (startE k args) h = some (.rt ℓ (.d d), env1, h1)) (hn : nl d = true) : runE k m args h = some (.d d, h1) := by
  unfold runE
  rw [e, Option.bind_some]
  cases ℓ
  · show (if nl d = true then _ else _) = _
    rw [if_pos hn]
  · show (if nl d = true then _ else _) = _
    rw [if_pos hn]
  · rfl
theorem seq_nx (e : a env h = some (.nx, env1, h1)) : mSeq a b env h = b env1 h1 := by
  unfold mSeq
  rw [e]
  rfl
theorem seq_to {r : Option (Flo × En × Hs)} (e : a env h = some (.nx, env1, h1)) (e2 : b env1 h1 = r) : mSeq a b env h = r := (seq_nx e).trans e2
theorem seq_rt (e : a env h = some (.rt ℓ x, env1, h1)) : mSeq a b env h = some (.rt ℓ x, env1, h1) := by
  unfold mSeq
  rw [e]
  rfl
theorem if_t {r : Option (Flo × En × Hs)} (e : t env h = some true) (e2 : a env h = r) : mIf t a b env h = r := by
  unfold mIf
  rw [e]
  exact e2
theorem if_f {r : Option (Flo × En × Hs)} (e : t env h = some false) (e2 : b env h = r) : mIf t a b env h = r := by
  unfold mIf
  rw [e]
  exact e2
theorem ife_t {t : ET} {r : Option (Flo × En × Hs)} (e : t env h = some (true, h1)) (e2 : a env h1 = r) : mIfE t a b env h = r := by
  unfold mIfE
  rw [e]
  exact e2
theorem ife_f {t : ET} {r : Option (Flo × En × Hs)} (e : t env h = some (false, h1)) (e2 : b env h1 = r) : mIfE t a b env h = r := by
  unfold mIfE
  rw [e]
  exact e2
theorem ret_q (e : q env h = some x) : mRet ℓ q env h = some (.rt ℓ x, env, h) := by
  unfold mRet
  rw [e]
  rfl
/-- a loop by what stands at each turn (I) and what is wanted behind (Po) -/
theorem for_post {body : PyData → M1} (I : Nat → En → Hs → Prop) (Po : Flo → En → Hs → Prop) : ∀ (xs : List PyData) (i : Nat) (env : En) (h : Hs), I i env h →
    (∀ j x env h, xs[j]? = some x → I (i + j) env h → ∃ r env1 h1, body x env h = some (r, env1, h1) ∧ ((r = .nx ∨ r = .ct) ∧ I (i + j + 1) (wipeE env1 vs) h1 ∨ (r ≠ .nx ∧ r ≠ .ct ∧ r ≠ .bk) ∧ Po r env1 h1)) →
    (∀ env h, I (i + xs.length) env h → Po .nx env h) → ∃ r env' h', forGo vs body xs env h = some (r, env', h') ∧ Po r env' h'
  | [], i, env, h, hI, _, hE => ⟨.nx, env, h, rfl, hE env h hI⟩
  | x :: xs, i, env, h, hI, hS, hE => by
    obtain ⟨r, env1, h1, e, c⟩ := hS 0 x env h rfl hI
    rcases c with ⟨c, hI1⟩ | ⟨⟨n1, n2, n3⟩, p⟩
    · obtain ⟨r', env', h', e', p'⟩ := for_post (body := body) I Po xs (i + 1) _ h1 hI1 (fun j x env h hj hI => by
        have := hS (j + 1) x env h (by simpa using hj) (by rw [show i + (j + 1) = i + 1 + j by omega]; exact hI)
        rw [show i + (j + 1) = i + 1 + j by omega] at this
        exact this) (fun env h z => hE env h (by rw [List.length_cons, show i + (xs.length + 1) = i + 1 + xs.length by omega]; exact z))
      refine ⟨r', env', h', ?_, p'⟩
      unfold forGo
      rw [e, Option.bind_some]
      rcases c with rfl | rfl <;> exact e'
    · refine ⟨r, env1, h1, ?_, p⟩
      unfold forGo
      rw [e, Option.bind_some]
      cases r with
      | nx => exact absurd rfl n1
      | ct => exact absurd rfl n2
      | bk => exact absurd rfl n3
      | _ => rfl
/-- a loop that goes through -/
theorem for_all {body : PyData → M1} (I : Nat → En → Hs → Prop) {xs : List PyData} {env : En} {h : Hs} (h0 : I 0 env h)
    (hS : ∀ j x env h, xs[j]? = some x → I j env h → ∃ r env1 h1, body x env h = some (r, env1, h1) ∧ (r = .nx ∨ r = .ct) ∧ I (j + 1) (wipeE env1 vs) h1) : ∃ env' h', forGo vs body xs env h = some (.nx, env', h') ∧ I xs.length env' h' := by
  obtain ⟨r, env', h', e, p, q⟩ := for_post (vs := vs) (body := body) I (fun r env h => r = .nx ∧ I xs.length env h) xs 0 env h h0 (fun j x env h hj hI => by
    obtain ⟨r, env1, h1, e, c, z⟩ := hS j x env h hj (by simpa using hI)
    exact ⟨r, env1, h1, e, .inl ⟨c, by simpa using z⟩⟩) (fun env h z => ⟨rfl, by simpa using z⟩)
  subst p
  exact ⟨env', h', e, q⟩
end
/-! lists of ints -/
theorem depth_ints (ns : List Int) : PyData.depthAll (ns.map PyData.int) = 0 ∨ PyData.depthAll (ns.map PyData.int) = 1 := by
  induction ns with
  | nil => exact .inl rfl
  | cons n ns ih =>
    rw [List.map_cons, PyData.depthAll]
    have e : PyData.depth (.int n) = 0 ∨ PyData.depth (.int n) = 1 := by first | exact .inl rfl | exact .inr rfl
    omega
theorem canLay_ints (ns : List Int) : PyData.canLayAll0 (ns.map PyData.int) = true := by
  induction ns with
  | nil => rfl
  | cons n ns ih =>
    rw [List.map_cons, PyData.canLayAll0, ih]
    rfl
theorem shaped_ints (ns : List Int) : SeqAt.shaped (.list (ns.map PyData.int)) = true := by
  unfold SeqAt.shaped
  rw [Bool.and_eq_true, decide_eq_true_eq]
  refine ⟨canLay_ints ns, ?_⟩
  rw [PyData.depth]
  have := depth_ints ns
  omega
theorem shaped_intsT (ns : List Int) : SeqAt.shaped (.tuple (ns.map PyData.int)) = true := by
  unfold SeqAt.shaped
  rw [Bool.and_eq_true, decide_eq_true_eq]
  refine ⟨canLay_ints ns, ?_⟩
  rw [PyData.depth]
  have := depth_ints ns
  omega
theorem eqv_ints : ∀ (xs ys : List Int), PyData.eqvAll (xs.map PyData.int) (ys.map PyData.int) = decide (xs = ys)
  | [], [] => rfl
  | [], y :: ys => rfl
  | x :: xs, [] => rfl
  | x :: xs, y :: ys => by
    rw [List.map_cons, List.map_cons, PyData.eqvAll, eqv_ints xs ys]
    show ((x == y) && _) = _
    by_cases h : x = y <;> by_cases h2 : xs = ys <;> simp [h, h2]
theorem eq_ints (xs ys : List Int) (h : Hs) : gEq h (.d (.list (xs.map PyData.int))) (.d (.list (ys.map PyData.int))) = some (.d (.bool (decide (xs = ys)))) := by
  show (if (SeqAt.shaped (.list (xs.map PyData.int)) && SeqAt.shaped (.list (ys.map PyData.int))) = true then _ else _) = _
  rw [shaped_ints, shaped_ints]
  show some (Val.d (.bool (PyData.eqvAll _ _))) = _
  rw [eqv_ints]
theorem ne_ints (xs ys : List Int) (h : Hs) : gNe h (.d (.list (xs.map PyData.int))) (.d (.list (ys.map PyData.int))) = some (.d (.bool (!decide (xs = ys)))) := by
  show (if (SeqAt.shaped (.list (xs.map PyData.int)) && SeqAt.shaped (.list (ys.map PyData.int))) = true then _ else _) = _
  rw [shaped_ints, shaped_ints]
  show some (Val.d (.bool (!PyData.eqvAll _ _))) = _
  rw [eqv_ints]
theorem ne_intsT (xs ys : List Int) (h : Hs) : gNe h (.d (.tuple (xs.map PyData.int))) (.d (.tuple (ys.map PyData.int))) = some (.d (.bool (!decide (xs = ys)))) := by
  show (if (SeqAt.shaped (.tuple (xs.map PyData.int)) && SeqAt.shaped (.tuple (ys.map PyData.int))) = true then _ else _) = _
  rw [shaped_intsT, shaped_intsT]
  show some (Val.d (.bool (!PyData.eqvAll _ _))) = _
  rw [eqv_ints]
theorem sortU_id {xs : List Int} (h : xs.Pairwise (· < ·)) : sortU xs = xs := asc_uniq (asc_sortU xs) h fun _ => mem_sortU
theorem sortU_iff {xs : List Int} : xs = sortU xs ↔ xs.Pairwise (· < ·) := ⟨fun e => by rw [e]; exact asc_sortU xs, fun h => (sortU_id h).symm⟩
theorem step_of {vs : List Nat} {bn : B1} {tt : T1} {te : Q1} {env env1 : En} {h : Hs} {d y : PyData} (hb : bn d (wipeE env vs) = some env1) (ht : tt env1 h = some true) (he : te env1 h = some (.d y)) : lcStep vs bn tt te env h d = some (some y) := by
  unfold lcStep
  rw [hb, Option.bind_some, ht, Option.bind_some, if_pos rfl, he]
  rfl
/-- neighbours ascend -/
def ascB (ns : List Int) : Bool := (List.range (ns.length - 1)).all fun k => decide (ns.getD k 0 < ns.getD (k + 1) 0)
theorem ascB_iff {ns : List Int} : ascB ns = true ↔ ns.Pairwise (· < ·) := by
  unfold ascB
  rw [List.all_eq_true]
  induction ns with
  | nil => simp
  | cons x xs ih =>
    cases xs with
    | nil => simp
    | cons y ys =>
      rw [List.pairwise_cons]
      constructor
      · intro h
        have h0 : x < y := by simpa using h 0 (by simp)
        have h1 : (y :: ys).Pairwise (· < ·) := ih.mp fun k hk => by
          have := h (k + 1) (by simp at hk ⊢; omega)
          simpa using this
        refine ⟨fun z hz => ?_, h1⟩
        rcases List.mem_cons.mp hz with rfl | hz
        · exact h0
        · exact Int.lt_trans h0 ((List.pairwise_cons.mp h1).1 z hz)
      · intro ⟨h0, h1⟩ k hk
        cases k with
        | zero => simpa using h0 y (by simp)
        | succ k =>
          have := ih.mpr h1 k (by simp at hk ⊢; omega)
          simpa using this
/-! sorted -/
theorem alike_ints : ∀ xs ys : List Int, PySem.W.alikeAll (xs.map PyData.int) (ys.map PyData.int) = true
  | [], ys => by simp [PySem.W.alikeAll]
  | x :: xs, [] => by simp [PySem.W.alikeAll]
  | x :: xs, y :: ys => by simp [PySem.W.alikeAll, PySem.W.alike, alike_ints xs ys]
theorem le_tup (xs ys : List Int) : PySem.W.dataLe false id (.tuple (xs.map PyData.int)) (.tuple (ys.map PyData.int)) = decide (xs ≤ ys) := by
  show (!PySem.W.dataLt (.tuple (ys.map .int)) (.tuple (xs.map .int))) = _
  rw [PySem.W.dataLt_tuple]
  show (!PySem.W.rowLt (ys.map .int) (xs.map .int)) = _
  rw [PySem.W.dataLt_ints]
  by_cases h : ys < xs
  · have h' : ¬ xs ≤ ys := fun r => List.not_lt.mpr r h
    simp [h, h']
  · have h' : xs ≤ ys := List.not_lt.mp h
    simp [h, h']
theorem le_int (x y : Int) : PySem.W.dataLe false id (PyData.int x) (PyData.int y) = decide (x ≤ y) := by
  show (!PySem.W.dataLt (.int y) (.int x)) = _
  rw [PySem.W.dataLt_int]
  by_cases h : y < x
  · have h' : ¬ x ≤ y := by omega
    simp [h, h']
  · have h' : x ≤ y := by omega
    simp [h, h']
theorem depth_row (xs : List Int) : PyData.depth (.tuple (xs.map PyData.int)) ≤ 2 := by
  rw [PyData.depth]
  have := depth_ints xs
  omega
theorem depth_le {ds : List PyData} {n : Nat} (h : ∀ d ∈ ds, d.depth ≤ n) : PyData.depthAll ds ≤ n := by
  induction ds with
  | nil => exact Nat.zero_le _
  | cons d ds ih =>
    rw [PyData.depthAll]
    exact Nat.max_le.mpr ⟨h d (by simp), ih fun e he => h e (by simp [he])⟩
theorem sorted_rows {α : Type} (f : α → List Int) (rs : List α) (hne : ∀ r ∈ rs, f r ≠ []) (h : Hs) : gSorted h (.d (.list (rs.map fun r => PyData.tuple ((f r).map .int)))) = some ((rs.mergeSort fun a b => decide (f a ≤ f b)).map fun r => PyData.tuple ((f r).map .int)) := by
  have c1 : nlAll (rs.map fun r => PyData.tuple ((f r).map .int)) = true := nl_mem.mpr fun d hd => by
    obtain ⟨r, _, rfl⟩ := List.mem_map.mp hd
    exact nlAll_ints _
  have c2 : alikeB (rs.map fun r => PyData.tuple ((f r).map .int)) = true := by
    unfold alikeB
    rw [List.all_eq_true]
    intro d hd
    rw [List.all_eq_true]
    intro e he
    obtain ⟨r, _, rfl⟩ := List.mem_map.mp hd
    obtain ⟨s, _, rfl⟩ := List.mem_map.mp he
    exact alike_ints _ _
  have c3 : sortB (rs.map fun r => PyData.tuple ((f r).map .int)) = true := by
    unfold sortB
    rw [Bool.or_eq_true]
    refine .inl (List.all_eq_true.mpr fun d hd => ?_)
    obtain ⟨r, hr, rfl⟩ := List.mem_map.mp hd
    have := hne r hr
    cases hf : f r with
    | nil => exact absurd hf this
    | cons _ _ => rfl
  have c4 : PyData.depthAll (rs.map fun r => PyData.tuple ((f r).map .int)) ≤ 60 := depth_le fun d hd => by
    obtain ⟨r, _, rfl⟩ := List.mem_map.mp hd
    exact Nat.le_trans (depth_row _) (by decide)
  show (if (nlAll _ && alikeB _ && sortB _ && decide (PyData.depthAll _ ≤ 60)) = true then _ else _) = _
  rw [c1, c2, c3, decide_eq_true c4, if_pos (by decide), List.map_mergeSort fun a _ b _ => (le_tup (f a) (f b)).symm]
theorem sorted_ints (ns : List Int) (h : Hs) : gSorted h (.d (.list (ns.map PyData.int))) = some ((ns.mergeSort fun a b => decide (a ≤ b)).map PyData.int) := by
  have c2 : alikeB (ns.map PyData.int) = true := by
    unfold alikeB
    rw [List.all_eq_true]
    intro d hd
    rw [List.all_eq_true]
    intro e he
    obtain ⟨r, _, rfl⟩ := List.mem_map.mp hd
    obtain ⟨s, _, rfl⟩ := List.mem_map.mp he
    rfl
  have c3 : sortB (ns.map PyData.int) = true := by
    unfold sortB
    rw [Bool.or_eq_true]
    refine .inr (List.all_eq_true.mpr fun d hd => ?_)
    obtain ⟨r, hr, rfl⟩ := List.mem_map.mp hd
    rfl
  have c4 : PyData.depthAll (ns.map PyData.int) ≤ 60 := by
    have := depth_ints ns
    omega
  show (if (nlAll _ && alikeB _ && sortB _ && decide (PyData.depthAll _ ≤ 60)) = true then _ else _) = _
  rw [nlAll_ints, c2, c3, decide_eq_true c4, if_pos (by decide), List.map_mergeSort fun a _ b _ => (le_int a b).symm]
theorem msort_asc {ns : List Int} (h : ns.Nodup) : ns.mergeSort (fun a b => decide (a ≤ b)) = sortU ns := by
  have p := List.mergeSort_perm ns (fun a b => decide (a ≤ b))
  have s : (ns.mergeSort fun a b => decide (a ≤ b)).Pairwise (fun a b => decide (a ≤ b) = true) :=
    List.pairwise_mergeSort (fun a b c h1 h2 => by simp only [decide_eq_true_eq] at h1 h2 ⊢; omega) (fun a b => by simp only [Bool.or_eq_true, decide_eq_true_eq]; omega) ns
  have nd : (ns.mergeSort fun a b => decide (a ≤ b)).Nodup := p.nodup_iff.mpr h
  refine asc_uniq ?_ (asc_sortU ns) fun k => by rw [p.mem_iff, mem_sortU]
  refine (List.Pairwise.and s nd).imp fun {a b} z => ?_
  have z1 := z.1
  simp only [decide_eq_true_eq] at z1
  have z2 : a ≠ b := z.2
  omega
theorem nodup_asc {ns : List Int} (h : ns.Pairwise (· < ·)) : ns.Nodup := h.imp fun {a b} z => Int.ne_of_lt z
theorem eqI (i j : Int) (h : Hs) : gEq h (.d (.int i)) (.d (.int j)) = some (.d (.bool (decide (i = j)))) := rfl
theorem neI (i j : Int) (h : Hs) : gNe h (.d (.int i)) (.d (.int j)) = some (.d (.bool (!decide (i = j)))) := rfl
theorem eq_intsT (xs ys : List Int) (h : Hs) : gEq h (.d (.tuple (xs.map PyData.int))) (.d (.tuple (ys.map PyData.int))) = some (.d (.bool (decide (xs = ys)))) := by
  show (if (SeqAt.shaped (.tuple (xs.map PyData.int)) && SeqAt.shaped (.tuple (ys.map PyData.int))) = true then _ else _) = _
  rw [shaped_intsT, shaped_intsT]
  show some (Val.d (.bool (PyData.eqvAll _ _))) = _
  rw [eqv_ints]
theorem setS_t {ns : List Int} (hl : ns.length < 64) (h : Hs) : gSetS h (.d (.tuple (ns.map PyData.int))) = some ((sortU ns).map .int) := by
  show (intsOf _).bind _ = _
  rw [intsOf_of, Option.bind_some, if_pos hl]
theorem setS_l {ns : List Int} (hl : ns.length < 64) (h : Hs) : gSetS h (.d (.list (ns.map PyData.int))) = some ((sortU ns).map .int) := by
  show (intsOf _).bind _ = _
  rw [intsOf_of, Option.bind_some, if_pos hl]
theorem iRng_of {a : Q1} {env : En} {h : Hs} {n : Int} (e : a env h = some (.d (.int n))) (h0 : -1000000 ≤ n) (h1 : n ≤ 1000000) : iRng a env h = some ((List.range n.toNat).map fun k : Nat => PyData.int (k : Int)) := by
  unfold iRng
  rw [e, Option.bind_some]
  show (if (decide (-(2 ^ 62) ≤ n) && decide (n < 2 ^ 62)) = true then _ else _) = _
  rw [if_pos]
  rw [Bool.and_eq_true, decide_eq_true_eq, decide_eq_true_eq]
  constructor <;> omega
theorem iRngE_of {a : E1} {env : En} {h h1 : Hs} {n : Int} (e : a env h = some (.d (.int n), h1)) (h0 : -1000000 ≤ n) (h2 : n ≤ 1000000) : iRngE a env h = some ((List.range n.toNat).map (fun k : Nat => PyData.int (k : Int)), h1) := by
  unfold iRngE
  rw [e, Option.bind_some]
  show (if (decide (-(2 ^ 62) ≤ n) && decide (n < 2 ^ 62)) = true then _ else _) = _
  rw [if_pos]
  rw [Bool.and_eq_true, decide_eq_true_eq, decide_eq_true_eq]
  constructor <;> omega
end Sm

set_option Elab.async false
set_option linter.all false
set_option maxRecDepth 100000
set_option maxHeartbeats 2000000
/-! an own exception whose __init__ begins with super().__init__(..), ValueError's at the end -/
namespace Sx
open PySem L2 PyProof.Rows

/-- what the written part tells of super() in the def at f, in class C, its cell at cc, its code at cda -/
structure SupT (X : Cx) (me : Str) (C f cc cda : Addr) : Prop where
  T : OexC X.K C
  fn : ∃ of fd ar, X.K.lookup f = some of ∧ of.data = .func fd ∧ (fd.params.posonlyargs ++ fd.params.args).head? = some ar ∧ ar.arg = me
  code : ∃ oc vs file tf, X.K.lookup cda = some oc ∧ oc.data = .fields vs ∧ vs[2]? = some (.str file tf) ∧ ((X.prog.main.file : Str) == file) = true
  cell : ∃ ol, X.K.lookup cc = some ol ∧ ol.data = .cell (some (.ref C))
  top : (X.prog.main.scope.names.lookup ("super" : Str)).isSome = false
  msup : X.mg "super" = none
  any : PySem.W.nsIn X.K cStatics "thirdparty.any" = some none
  along : PySem.W.ks_superIn X.K C C "__init__" = some (some (.builtin "ValueError.__init__"))
  subV : PySem.W.subIn X.K (.ref C) (.type "ValueError") = some true
  mro : PySem.W.mroIn X.K C (.ref C) = some true
/-- of the frame -/
structure SupE (X : Cx) (me : Str) (f cc cda : Addr) : Prop where
  ks : X.env.kindOf "super" = some .globalImplicit
  kc : X.env.kindOf "__class__" = some .free
  kme : X.env.kindOf me = some .local
  fu : X.env.func = some f
  co : X.env.code = .ref cda
  cl : X.env.cells.lookup ("__class__" : Str) = some cc
section
variable {X : Cx} {pins : List (Addr × Obj)} {σ : L2.St} {H : Hp} {s : Shared} {a C f cc cda : Addr} {me : Str} {i : Nat}
theorem exo_in (T : OexC X.K C) (I : Inv X pins σ H s) (ha : H a = some (exo a C none)) : ∃ t1, PySem.W.InstAt s.heap a { cls := .ref C, dict := none, data := .fields #[.ref t1, .none, .none, .none, .bool false, .none] } C none := by
  obtain ⟨t1, ho⟩ := exo_at I.hok ha
  exact ⟨t1, ho, rfl, rfl, trivial⟩
/-- super().__init__(..) in the body, then on -/
theorem st_super {body : List Stmt} {e : Expr} {es : List Expr} {ta : TA} {p0 p1 p2 pos pos0 : Pos} {pl : Sem Bool} {P : L2.St → Hp → Prop} (S : SupT X me C f cc cda) (V : SupE X me f cc cda) (hN : X.N[i]? = some me) (hs : σ[i]? = some (some (.ref a))) (I : Inv X pins σ H s) (ha : H a = some (exo a C none))
    (hA : PA X (e :: es) ta) (q : ta σ H fun vs H1 => vs.length ≤ 1000 ∧ H1 a = some (exo a C none) ∧ P σ H1)
    (he : eval (.Call (.Attribute (.Call (.Name "super" p0) [] [] p1) "__init__" p2) (e :: es) [] pos) X.env = (do
      let ov ← attributeBase (.Call (.Name "super" p0) [] [] p1) "__init__" X.env (eval (.Call (.Name "super" p0) [] [] p1) X.env)
      standAt p2.atName
      let (f, first) ← holding [ov] (getMethod ov "__init__" pl)
      callWith pos f first (backTo pos (starEach (e :: es) X.env)) []) := by rfl)
    (he1 : starEach (e :: es) X.env = (false, eval e X.env) :: starEach es X.env := by rfl) (hpl : (backTo pos (starEach es X.env)).any (·.1) = false := by rfl) (hsw : swapsWith (.Call (.Attribute (.Call (.Name "super" p0) [] [] p1) "__init__" p2) (e :: es) [] pos) none pos0.line X.env = pure false := by rfl) :
    PySem.wpAt (model X.prog X.w) X.A (.func body X.env) (exec (.Expr (.Call (.Attribute (.Call (.Name "super" p0) [] [] p1) "__init__" p2) (e :: es) [] pos) pos0) X.env) (fun fl s' => fl = .next ∧ ∃ H', Inv X pins σ H' s' ∧ P σ H') X.xe s := by
  obtain ⟨of, fd, ar, hf, hfd, hp, hme⟩ := S.fn
  obtain ⟨oc, vs, file, tf, hcc, hoc, hvs, hfile⟩ := S.code
  obtain ⟨ol, hol, hld⟩ := S.cell
  obtain ⟨nm, q0, N0, bs, bm, sn, sub, ab, col, dd, k0, k1, k2, k3, k5, hC, hbm⟩ := S.T.cls
  refine PySem.ks_wpAt_Expr_any (ks_wpAt_MethodCall (pl := pl) (ks_wpAt_super_base V.ks V.kc (by decide) V.fu (I.kIn _ _ hf) hfd hp V.co (I.kIn _ _ hcc) hoc hvs hfile S.top ?_) he) I.quiet hsw
  obtain ⟨mb, hb1, hb2⟩ := I.mod.blt
  refine PySem.W.ks_loadName_global I.ok.kind V.ks (Calls.loadGlobal_builtin (by rw [I.ok.glob]; exact I.mod.glob.keeps I.bk) S.msup (by rw [I.ok.blt]; exact hb1.keeps I.bk) ((hb2 _ (by decide)).trans (show bootBuiltins "super" = some (.type "super") by kernel_rfl)) ⟨rfl, ?_⟩)
  refine wpAny_loadName_free I.ok.kind V.kc V.cl ⟨_, I.kIn _ _ hol, hld⟩ ?_
  obtain ⟨m, hn, hl⟩ := I.loc
  obtain ⟨u, r, l⟩ := hl i me (.ref a) hN hs (.inl V.kme)
  obtain rfl : u = Value.ref a := r
  have hm : m me = some (.ref a) := by
    rcases l with ⟨_, hm⟩ | ⟨hk, _⟩
    · exact hm
    · rw [V.kme] at hk
      rcases hk with hk | hk <;> cases hk
  rw [hme]
  refine wpAny_loadName_local I.ok.kind V.kme hn hm ?_
  obtain ⟨t1, J⟩ := exo_in S.T I ha
  obtain ⟨hh, g, d, t, os⟩ := s
  have hCg : hh.get? C = some _ := I.kIn _ _ hC
  refine ks_wpAny_isType_cls hCg rfl ⟨rfl, ?_⟩
  refine ks_wpAny_call_super hCg rfl J.at_ J.cls (fun c z => by cases z) (PySem.W.looks_mroIn I.kIn S.mro) (fun h1 e1 k1 => ?_)
  have I1 : Inv X pins σ H ⟨h1, g, d, t, os⟩ := I.kept (t' := t) k1
  obtain ⟨t1', J1⟩ := exo_in S.T I1 ha
  have hcl : PySem.W.clsIn X.K C = some { name := nm, bases := bs, mro := .ref C :: bm, ns := N0, qualname := q0, hasDict := true, slotNames := sn, subclasses := sub, abstract := ab, collection := col, hasDel := false } := by unfold PySem.W.clsIn; rw [hC] <;> rfl
  have hal := S.along
  unfold PySem.W.ks_superIn at hal
  rw [hcl] at hal
  have hxC : a ≠ C := PySem.W.ks_ne I1.kIn J1 hcl
  refine PySem.W.kxs_getMethod PySem.W.kxs_ValueError e1 (PySem.W.looks_opaque I1.kIn S.any) (l₀ := .ref C :: bm) (fun A Q E s k q => wpAny_bind ((PySem.W.looks_clsIn I1.kIn hcl) A _ E s k (wpAny_pure q))) rfl I1.kIn hal
    (J1.type.andThen (PySem.W.looks_subIn I1.kIn S.subV)) hxC (by decide) ?_
  have I2 : Inv X pins σ H ⟨h1.push (PySem.W.kxs_mw "ValueError.__init__" a), g, d, t + 1, os⟩ := I1.kept (t' := t + 1) (fun b o z => Heap.get?_push_of_some _ z)
  have hu : (h1.push (PySem.W.kxs_mw "ValueError.__init__" a)).get? h1.objs.size = some (PySem.W.kxs_mw "ValueError.__init__" a) := Heap.get?_push_at rfl rfl
  have I3 : Inv X ((h1.objs.size, PySem.W.kxs_mw "ValueError.__init__" a) :: pins) σ H ⟨h1.push (PySem.W.kxs_mw "ValueError.__init__" a), g, d, t + 1, os⟩ := I2.pins_of fun p hp => by
    rcases List.mem_cons.mp hp with rfl | hp
    · exact ⟨hu, I1.hok.fresh (Nat.le_refl _), fun z => Nat.lt_irrefl _ (z ▸ I1.lt), I1.nofs (Nat.le_refl _), fun v z => by cases z⟩
    · exact I2.pin p (List.mem_append_right _ hp)
  show wpAny _ _ (callWith pos (.ref h1.objs.size) [] (backTo pos (starEach (e :: es) X.env)) []) _ _ _
  rw [he1]
  refine PySem.W.kxs_callWith (i := "ValueError.__init__") (x := a) (by show (false || (backTo pos (starEach es X.env)).any (·.1)) = false; rw [hpl]; rfl) ?_
  have z := hA.run pos _ _ σ H _ I3 q
  rw [he1] at z
  refine PySem.Calls.evalArgs_plain (thn z ?_)
  rintro us s4 ⟨vs4, H4, I4, r4, hl4, ha4, p4⟩
  have hu4 : s4.heap.get? h1.objs.size = some (PySem.W.kxs_mw "ValueError.__init__" a) := (I4.pin _ (List.mem_append_right _ List.mem_cons_self)).1
  refine ⟨hu4, ?_⟩
  obtain ⟨t4, ho4⟩ := exo_at I4.hok ha4
  have hC4 := I4.kIn _ _ hC
  have hlen : us.length ≤ sizeLine := by
    rw [← Paired.length r4, sizeLine_eq]
    omega
  obtain ⟨h4, g4, d4, tk4, os4⟩ := s4
  refine wpAny_call (codeAny_of_tree ?_)
  show wpAny _ X.A.in1 (callAny (.ref h1.objs.size) ⟨[] ++ us, []⟩) _ _ _
  simp only [callAny, List.nil_append]
  refine wpAny_bind (wpAny_load hu4 ?_)
  simp only [PySem.W.kxs_mw, show (Value.type "method-wrapper" == Value.type "method" || Value.type "method-wrapper" == Value.type "builtin_function_or_method" || Value.type "method-wrapper" == Value.type "method-wrapper") = true by decide, if_true]
  refine PySem.W.KFB.if_so (by decide) ?_
  refine wpAny_bind (PySem.W.check_bound_init F.excBase_ValueError.toExcCallFacts hC4 ho4 rfl ?_)
  refine wpAny_bind (wpAny_pure (wpAny_pure ?_))
  refine ⟨plainId_quiet F.excBase_ValueError.init.plain _, codeAny_builtin F.excBase_ValueError.initEntry ?_⟩
  refine PySem.W.exc_init_tree (cls := .ref C) (t0 := t4) (dv := none) (c2 := .none) (c3 := .none) (b4 := .bool false) ho4 hlen fun h5 k5' e5 _ => ?_
  have J5 := I4.write (t' := tk4) (x := a) (e := a) (o := exo a C none) (by rw [ha4]; exact True.intro) (.inl rfl) k5' ⟨_, e5⟩ (exo_ok e5)
  have eu : upd H4 a (exo a C none) = H4 := by
    funext b
    by_cases hb : b = a
    · rw [hb, upd_same, ha4]
    · rw [upd_ne hb]
  rw [eu] at J5
  exact ⟨True.intro, H4, J5.pins_of fun p hp => J5.pin p (List.mem_append_right _ (List.mem_cons_of_mem _ hp)), p4⟩
end
end Sx

set_option Elab.async false
set_option linter.all false
set_option maxRecDepth 100000
set_option maxHeartbeats 2000000
namespace Sx
open PySem L2 NdefX PyProof.Rows

/-! ### the def __init__ that begins with super().__init__('..' + str(place)) and keeps the place -/
structure IPos where
  (q1 q2 p0 p1 p2 p3 p4 p5 p6 p7 p8 p9 p10 p11 pos pos0 : Pos)
  j : Nat
def iA (T : IPos) : Arguments := { posonlyargs := [], args := [{ arg := "self", annotation := none, pos := T.q1 }, { arg := "place", annotation := none, pos := T.q2 }], vararg := none, kwonlyargs := [], kw_defaults := [], kwarg := none, defaults := [] }
def iS : Scope := { kind := .function, names := [(PySem.Str.ofString "self", .local), (PySem.Str.ofString "place", .local), (PySem.Str.ofString "__class__", .free), (PySem.Str.ofString "super", .globalImplicit), (PySem.Str.ofString "str", .globalImplicit)], isGenerator := false, isCoroutine := false, more := [] }
def iE (T : IPos) (msg : Str) : Expr := .BinOp (.Constant (.str msg) T.j T.p3) .Add (.Call (.Name "str" T.p4) [.Name "place" T.p5] [] T.p6) T.p7
def iB1 (T : IPos) (msg : Str) : Stmt := .Expr (.Call (.Attribute (.Call (.Name "super" T.p0) [] [] T.p1) "__init__" T.p2) [iE T msg] [] T.pos) T.pos0
def iB2 (T : IPos) : Stmt := .Assign [.Attribute (.Name "self" T.p8) "place" T.p9] (.Name "place" T.p10) T.p11
def iB (T : IPos) (msg : Str) : List Stmt := [iB1 T msg, iB2 T]
def iN : List Str := ["self", "place", "__class__"]
theorem iScope : NScope iN ["self", "place"] ["__class__"] iS := nscope_by (by decide +kernel)
abbrev iF (T : IPos) (msg qual : Str) (cc cda : Addr) : NF := ⟨"__init__", qual, iA T, iB T msg, iS, [("__class__", cc)], cda⟩
/-- what __init__ does with a new exception of class C -/
def spI (C : Addr) : Sp := fun vs H Q E => ∃ (a : Addr) (n : Int), vs = [.ref a, .int n] ∧ H a = some (exo a C none) ∧ n.natAbs.log2 < 1000 ∧ ∀ d, H d = none → d ≠ a → Q .non (upd (upd H d (exd d [(("place" : Str), V.int n)])) a (exo a C (some d)))
section
variable {CX : CXT} {P : Program} {w : World} {K : PySem.W.Frag} {mg : Str → Option Value} {base : Heap} {T : IPos} {msg qual : Str} {C f cc cda : Addr} {k : Nat} {oc doc pm ct dV kV : Value} {od an : Option Addr} {osl : Array (Option Value)}
abbrev iFd (T : IPos) (msg qual : Str) (cc cda : Addr) (dV kV doc pm : Value) (an : Option Addr) (ct : Value) : FuncData := PySem.W.fnX "__init__" qual (iA T) (iB T msg) iS [("__class__", cc)] dV kV doc pm an (.ref cda) ct
theorem fn_init (hev : ∀ env : Env, ∃ pl : Sem Bool, eval (.Call (.Attribute (.Call (.Name "super" T.p0) [] [] T.p1) "__init__" T.p2) [iE T msg] [] T.pos) env = (do
      let ov ← attributeBase (.Call (.Name "super" T.p0) [] [] T.p1) "__init__" env (eval (.Call (.Name "super" T.p0) [] [] T.p1) env)
      standAt T.p2.atName
      let (f, first) ← holding [ov] (getMethod ov "__init__" pl)
      callWith T.pos f first (backTo T.pos (starEach [iE T msg] env)) []))
    (lk : K.lookup f = some ⟨oc, od, .func (iFd T msg qual cc cda dV kV doc pm an ct), osl⟩) (hcd : PySem.W.codeIn K (.ref cda) qual = true) (hmsg : msg.length ≤ 1000)
    (hcode : ∃ oc vs file tf, K.lookup cda = some oc ∧ oc.data = .fields vs ∧ vs[2]? = some (.str file tf) ∧ ((P.main.file : Str) == file) = true)
    (hcell : ∃ ol, K.lookup cc = some ol ∧ ol.data = .cell (some (.ref C))) (htop : (P.main.scope.names.lookup ("super" : Str)).isSome = false) (hms : mg "super" = none) (hmstr : mg "str" = none)
    (hany : PySem.W.nsIn K cStatics "thirdparty.any" = some none) (hal : PySem.W.ks_superIn K C C "__init__" = some (some (.builtin "ValueError.__init__")))
    (hsv : PySem.W.subIn K (.ref C) (.type "ValueError") = some true) (hmro : PySem.W.mroIn K C (.ref C) = some true) (hno : PySem.W.findIn K (.ref C) "place" = some none) (TC : OexC K C) :
    FnOk P w K mg base CX (k + 1) f (iFd T msg qual cc cda dV kV doc pm an ct) ["self", "place"] (spI C) := by
  refine ⟨fun vs H Q E ⟨a, n, e, _⟩ => by rw [e]; rfl, fun A outer s H args us vs Q E hr e0 hb r hsp => ?_⟩
  obtain ⟨a, n, rfl, ha, hn, q⟩ := hsp
  have KX : K.In s.heap := e0.mod.kin.keeps fun b o e => (e0.bs b o e).1
  have lim : s.heap.NoLimit := e0.mod.nolimit.keeps fun b o e => (e0.bs b o e).1
  refine PySem.ks_codeAny_call_defAt hr.depth (KX _ _ lk) rfl lim (PySem.W.codeRec_of KX hcd) rfl hb iScope.nocell (fun ⟨n, _⟩ hy => iScope.par n (List.of_mem_zip hy).1) (fun h₁ hns kp => ?_) iScope.co iScope.gen iScope.kind
  obtain ⟨ol, hol, hld⟩ := hcell
  have CA : CellsAt (iF T msg qual cc cda).cl ["__class__"] [none] s.heap H := {
    len := rfl
    all := fun y c e => by
      have e : List.lookup y [(("__class__" : Str), cc)] = some c := e
      have ec : c = cc := by
        simp only [List.lookup] at e
        split at e
        · exact (Option.some.inj e).symm
        · cases e
      subst ec
      exact ⟨(e0.bs _ _ (e0.mod.kin _ _ hol)).2, _, ol, KX _ _ hol, hld⟩
    inj := fun x y c e1 e2 => by
      have e1 : List.lookup x [(("__class__" : Str), cc)] = some c := e1
      have e2 : List.lookup y [(("__class__" : Str), cc)] = some c := e2
      simp only [List.lookup] at e1 e2
      split at e1
      · next h1 =>
        split at e2
        · next h2 => rw [eq_of_beq h1, eq_of_beq h2]
        · cases e2
      · cases e1
    has := fun i y e => by
      rcases i with _ | i
      · cases e
        exact ⟨cc, by show List.lookup ("__class__" : Str) [(("__class__" : Str), cc)] = some cc; simp [List.lookup], fun v z => by cases z⟩
      · cases e }
  have I : Inv (ncx CX P w K mg base iN (iF T msg qual cc cda) f A outer s H E) [] (startF iN [.ref a, .int n] [none]) H { s with heap := h₁, toks := s.toks + ((["self", "place"] : List Str).zip us).length } := inv_startN iScope hr.hd e0 rfl r CA hns kp
  have S : SupT (ncx CX P w K mg base iN (iF T msg qual cc cda) f A outer s H E) "self" C f cc cda := ⟨TC, ⟨_, _, _, lk, rfl, rfl, rfl⟩, hcode, ⟨ol, hol, hld⟩, htop, hms, hany, hal, hsv, hmro⟩
  have V : SupE (ncx CX P w K mg base iN (iF T msg qual cc cda) f A outer s H E) "self" f cc cda := ⟨by rfl, by rfl, by rfl, rfl, rfl, by show List.lookup ("__class__" : Str) [(("__class__" : Str), cc)] = some cc; simp [List.lookup]⟩
  have hA : PA (ncx CX P w K mg base iN (iF T msg qual cc cda) f A outer s H E) [iE T msg] _ := pa_cons (pe_op op_add_str pe_str (pe_callTy call_str_int (by rfl) hmstr (by decide +kernel) (pa_cons (pe_var (i := 1) rfl (.inl (by rfl))) pa_nil))) pa_nil
  obtain ⟨pl, hev⟩ := hev (ncx CX P w K mg base iN (iF T msg qual cc cda) f A outer s H E).env
  refine PySem.ks_wpAt_execs_cons (PySem.wpAt_mono (st_super (i := 0) (he := hev) (X := ncx CX P w K mg base iN (iF T msg qual cc cda) f A outer s H E) (P := fun _ H' => H' = H) S V rfl rfl I ha hA ?_) (fun fl s' h => ?_) (fun _ _ z => z))
  · have hl : msg.length + (Str.ofString (toString n)).length ≤ sizeLine := by
      have h1 := int_text_length_le (a := n) (k := 1000) (by decide) hn
      have h2 : (Str.ofString (toString n)).length = (toString n).length := PySem.ofString_length _
      rw [sizeLine_eq]
      omega
    exact ⟨.int n, rfl, n, rfl, by omega, msg, _, rfl, rfl, hl, (by decide : 1 ≤ 1000), ha, rfl⟩
  · obtain ⟨rfl, H', I', rfl⟩ := h
    refine wpAt_of_wpAny ?_
    refine wpAny_mono ((pss_one (ps_ost (f := "place") (pe_var (i := 0) rfl (.inl (by rfl))) (pe_var (i := 1) rfl (.inl (by rfl))))).run [] s' _ _ { nx := fun _ H' => Q .non H', rt := Q } I' ?_) (fun fl s'' hs => ?_) fun e s'' hs => hs
    · refine ⟨_, rfl, _, rfl, a, C, rfl, TC, hno, .inl ⟨ha, fun dx n1 n2 => q dx n1 n2⟩⟩
    · have fin : ∀ {σ' : L2.St} {H2 : Hp} {v : L2.V} {u : Value}, Inv (ncx CX P w K mg base iN (iF T msg qual cc cda) f A outer s H' E) [] σ' H2 s'' → L2.RelV v u → Q v H2 → L2.CE outer P w H' s Q u s'' :=
        fun {σ' H2 v u} J rv q => ⟨v, H2, J.os, J.bare, J.base, J.hok, rv, q⟩
      cases fl with
      | ret u =>
        obtain ⟨v, σ', H2, J, rv, q⟩ := hs
        exact fin J rv q
      | next =>
        obtain ⟨σ', H2, J, q⟩ := hs
        exact fin (v := L2.V.non) (u := Value.none) J rfl q
      | brk =>
        obtain ⟨_, _, _, q⟩ := hs
        exact False.elim q
      | cont =>
        obtain ⟨_, _, _, q⟩ := hs
        exact False.elim q
end
end Sx

set_option Elab.async false
set_option linter.all false
set_option maxRecDepth 100000
set_option maxHeartbeats 1000000
namespace Sm
open PySem L2 Evl Sx

/-! ### an own error with a place, raised -/
/-- what is known of the class x, at C -/
structure XC (X : Cx) (x : Str) (C fI : Addr) (k : Nat) : Prop where
  T : OexC X.K C
  iC : PySem.W.findIn X.K (.ref C) "__init__" = some (some (.ref fI))
  tI : PySem.W.typeIn X.K (.ref fI) = some (.type "function")
  fn : ∃ fd, FnOk X.prog X.w X.K X.mg X.base CX0 k fI fd ["self", "place"] (spI C) ∧ Binds X.K fd ["self", "place"] []
  gC : X.mg x = some (.ref C)
/-- how a def ends that may raise: a value, or the error no. j with its place -/
abbrev XR := Except (Nat × Int) Val
abbrev XQ := En → Hs → Option XR
def mRaise (j : Nat) (q : Q1) : M1 := fun env h => (q env h).bind fun x => match x with
  | .d (.int n) => if n.natAbs.log2 < 1000 then some (.ex j n, env, h) else none
  | _ => none
def tX (F : Fm) (m : XQ) : TE := fun σ H Q => ∃ env h A r, SR F env h A σ H ∧ m env h = some r ∧ match r with
  | .ok x => ∀ v H1, Ex H H1 → RV F .mo h A H1 x v → Q v H1
  | .error (j, n) => ∀ d H1, Ex H H1 → H1 d = some (.xd [(("place" : Str), V.int n)]) → F.wx (.ref (F.xc j)) (some d) σ H1
abbrev SimX (X : Cx) (F : Fm) (e : Expr) (m : XQ) : Prop := PE X e (tX F m)
section
variable {F : Fm} {X : Cx} {e c : Expr} {es : List Expr} {x : Str} {C fI : Addr} {j k n : Nat} {p pos pos2 : Pos} {q : Q1} {m : XQ} {ℓ : Lv} {body : List Stmt}
theorem ss_raise (S : XC X x C fI k) (hr : Room (k + 1) X.A) (hc : X.calm = true) (tk : Takes X F.wx) (hx : F.xc j = C) (he0 : SimQ X F .mo e q) (hg : Gl X x := by rfl) (hdb : (x == ("__debug__" : Str)) = false := by decide)
    (he : starEach [e] X.env = (false, eval e X.env) :: starEach [] X.env := by rfl) (hpl : (backTo pos (starEach [] X.env)).any (·.1) = false := by rfl) :
    SimS X F (.Raise (some (.Call (.Name x p) [e] [] pos)) none pos2) (mRaise j q) := by
  obtain ⟨fd, F1, hb⟩ := S.fn
  refine PSimp (ps_raise hc tk (pmk_oex (p := p) S.T S.iC S.tI F1 hr hb .nil pass0 hg S.gC (pa_cons he0 pa_nil he) hdb he hpl)) fun D σ H ⟨env, h, A, r, env', h', R, e, k⟩ => ?_
  obtain ⟨y, ey, e⟩ := bind_some e
  refine ⟨env, h, A, y, R, ey, fun v H1 e1 rv => ?_⟩
  split at e
  · next n =>
    split at e
    · next hn =>
      cases e
      cases ri rv
      refine ⟨(by decide : 1 ≤ 1000), fun a ha => ⟨a, n, rfl, upd_same, hn, fun d hd hda => ⟨rfl, d, _, upd_same, by rw [upd_ne hda, upd_same], ?_, ?_⟩⟩⟩
      · rw [upd_ne hda] at hd
        exact hd
      · rw [upd_ne hda] at hd
        have eH : upd (del (upd (upd (upd H1 a (exo a C none)) d (exd d [(("place" : Str), V.int n)])) a (exo a C (some d))) a) d (.xd [(("place" : Str), V.int n)]) = upd H1 d (.xd [(("place" : Str), V.int n)]) := by
          funext b
          by_cases hbd : b = d
          · rw [hbd, upd_same, upd_same]
          · rw [upd_ne hbd, upd_ne hbd]
            by_cases hba : b = a
            · rw [hba, del_same, ha]
            · rw [del_ne hba, upd_ne hba, upd_ne hbd, upd_ne hba]
        rw [eH, ← hx]
        exact k _ _ A d ((R.ex e1).ex (Ex.new hd)) ((Ex.pres e1).trans (Ex.pres (Ex.new hd))) upd_same
    · cases e
  · cases e
/-! ### defs that may raise -/
def resX : Flo → Option XR
  | .ex j n => some (.error (j, n))
  | r => (resD r).map .ok
def runX (k : Nat) (m : M1) : List Val → Hs → Option XR := fun args h => (m (startE k args) h).bind fun r => resX r.1
def spX (G : Glo) (xc : Nat → Addr) (n : Nat) (f : List Val → Hs → Option XR) : Sp := fun vs H Q E => ∃ F env h A σ args r, F.G = G ∧ SR F env h A σ H ∧ Paired (fun x v => RV F .mo h A H x v) args vs ∧ args.length = n ∧ f args h = some r ∧ match r with
  | .ok x => ∀ v H', Ex H H' → RV F .mo h A H' x v → Q v H'
  | .error (j, n) => ∀ d H', Ex H H' → H' d = some (.xd [(("place" : Str), V.int n)]) → E (.ref (xc j)) (some d) H'
theorem SR.wish {env : En} {h : Hs} {A : As} {σ : L2.St} {H : Hp} (R : SR F env h A σ H) (xc : Nat → Addr) (wx : Value → Option Addr → L2.St → Hp → Prop) : SR { F with xc := xc, wx := wx } env h A σ H :=
  ⟨R.fr, R.tp, R.fz, R.dm, R.le, R.oo, R.nw, R.ow, R.ln, R.sl, R.ob, R.ij, R.ro⟩
theorem SR.unwish {env : En} {h : Hs} {A : As} {σ : L2.St} {H : Hp} {xc : Nat → Addr} {wx : Value → Option Addr → L2.St → Hp → Prop} (R : SR { F with xc := xc, wx := wx } env h A σ H) : SR F env h A σ H :=
  ⟨R.fr, R.tp, R.fz, R.dm, R.le, R.oo, R.nw, R.ow, R.ln, R.sl, R.ob, R.ij, R.ro⟩
end
section
variable {P : Program} {w : World} {K : PySem.W.Frag} {mg : Str → Option Value} {base : Heap} {x qual : Str} {st : Stmt} {f : Addr} {fd : FuncData} {N ps : List Str} {k : Nat} {G : Glo} {xc : Nat → Addr} {m : M1}
theorem fn_x (U : Fun K x qual st f fd) (S : FnScope N ps (defScope st)) (hl : ps.length ≤ N.length)
    (hb : ∀ (cdv : Value) (A : Around) (outer : List Env) (s : Shared) (H : Hp) (E : XK), Room k (A.deeper (PyProof.Rows.envOfC qual (defScope st) s.heap.objs.size f cdv)) → ∀ F : Fm, F.G = G → F.xc = xc → F.wx = (fun cls d _ H' => E cls d H') → SimB (cxOf (L2.CX P w) P w K mg base N qual (defScope st) f cdv A outer s H E) F (defBody st) m) :
    FnOk P w K mg base (L2.CX P w) (k + 1) f fd ps (spX G xc ps.length (runX (N.length - ps.length) m)) := by
  refine U.okX S (fun vs H Q E h => ?_) (fun cdv A outer s H vs Q E hr h => ?_)
  · obtain ⟨F, env, h, A, σ, args, y, _, _, r, hn, _⟩ := h
    rw [← Paired.len r, hn]
  · obtain ⟨F, env, hh, As, σ, args, y, hG, R, r, hn, e, kk⟩ := h
    obtain ⟨⟨r1, env1, h1⟩, e1, e2⟩ := bind_some e
    have R0 : SR (Fm.cal G false hh As H) [] hh As [] H := by
      have := R.start false
      rw [hG] at this
      exact this
    have R1 := R0.args (N := N) (Paired.imp (fun _ _ z => cal_fs hG z) r) (by omega)
    rw [hn] at R1
    refine ⟨tS { Fm.cal G false hh As H with xc := xc, wx := fun cls d _ H' => E cls d H' } m, hb cdv A outer s H E hr _ rfl rfl rfl, _, hh, As, r1, env1, h1, R1.wish _ _, e1, ?_⟩
    cases r1 with
    | nx =>
      cases e2
      exact fun σ' H' A' R' _ => kk _ H' (cal_ex R'.unwish) vn
    | bk => cases e2
    | ct => cases e2
    | ex j n =>
      cases e2
      exact fun σ' H' A' d R' _ hd => kk d H' (cal_ex R'.unwish) hd
    | rt ℓ y' =>
      intro σ' H' A' v R' _ rv
      have R' := R'.unwish
      have rv : RV (Fm.cal G false hh As H) ℓ h1 A' H' y' v := by
        cases ℓ <;> exact rv
      have rv' := RV.mo R' rv
      cases y' with
      | d d => cases e2; refine kk v H' (cal_ex R') ?_; subst hG; exact rv'
      | ref n => cases e2
      | fn n => cases e2; refine kk v H' (cal_ex R') ?_; subst hG; exact rv'
    | rf xs =>
      intro σ' H' A' p us R' _ _ hv _ rs
      cases e2
      subst hG
      exact kk _ H' (cal_ex R'.unwish) (vl (ℓ := .mo) (.inl (.inl hv)) (RDs.of_st (F := F) (ℓ := .mo) rs))
end
end Sm

set_option Elab.async false
set_option linter.all false
set_option maxRecDepth 100000
set_option maxHeartbeats 1000000
namespace Sm
open PySem L2 Evl Sx

/-! ### calls that may raise -/
def xCall (g : List Val → Hs → Option XR) (a : En → Hs → Option (List Val)) : XQ := fun env h => (a env h).bind fun xs => g xs h
/-- where nothing is raised -/
def okX (g : List Val → Hs → Option XR) : List Val → Hs → Option Val := fun xs h => (g xs h).bind fun r => match r with
  | .ok x => some x
  | .error _ => none
/-- what must hold behind -/
def EndX (F : Fm) (ℓ : Lv) (h : Hs) (A : As) (σ : L2.St) (H : Hp) (Q : VK) : XR → Prop
  | .ok x => ∀ v H1, Ex H H1 → RV F ℓ h A H1 x v → Q v H1
  | .error (j, n) => ∀ d H1, Ex H H1 → H1 d = some (.xd [(("place" : Str), V.int n)]) → F.wx (.ref (F.xc j)) (some d) σ H1
def tXl (F : Fm) (ℓ : Lv) (m : XQ) : TE := fun σ H Q => ∃ env h A r, SR F env h A σ H ∧ m env h = some r ∧ EndX F ℓ h A σ H Q r
abbrev SimXl (X : Cx) (F : Fm) (ℓ : Lv) (e : Expr) (m : XQ) : Prop := PE X e (tXl F ℓ m)
def xNl (m : XQ) : XQ := fun env h => (m env h).bind fun r => match r with
  | .ok (.d d) => if nl d = true then some (.ok (.d d)) else none
  | r => some r
def x2 (g : Hs → Val → Val → Option Val) (m : XQ) (b : Q1) : XQ := fun env h => (m env h).bind fun r => match r with
  | .ok x => (b env h).bind fun y => (g h x y).map .ok
  | .error p => some (.error p)
abbrev XT := En → Hs → Option (Except (Nat × Int) Bool)
def xV (m : XQ) : XT := fun env h => (m env h).bind fun r => match r with
  | .ok (.d d) => (gTru d).map .ok
  | .ok _ => none
  | .error p => some (.error p)
def tTX (F : Fm) (t : XT) : TT := fun σ H Q => ∃ env h A r, SR F env h A σ H ∧ t env h = some r ∧ match r with
  | .ok b => ∀ H', Ex H H' → Q b H'
  | .error (j, n) => ∀ d H1, Ex H H1 → H1 d = some (.xd [(("place" : Str), V.int n)]) → F.wx (.ref (F.xc j)) (some d) σ H1
abbrev SimTX (X : Cx) (F : Fm) (e : Expr) (t : XT) : Prop := PT X e (tTX F t)
def mSetX (i : Nat) (m : XQ) : M1 := fun env h => (m env h).bind fun r => match r with
  | .ok x => some (.nx, env.set i (.v x), h)
  | .error (j, n) => some (.ex j n, env, h)
def mAsgX (m : XQ) (b : B1) : M1 := fun env h => (m env h).bind fun r => match r with
  | .ok (.d d) => (b d env).bind fun env' => some (.nx, env', h)
  | .ok _ => none
  | .error (j, n) => some (.ex j n, env, h)
def mRetX (ℓ : Lv) (m : XQ) : M1 := fun env h => (m env h).bind fun r => match r with
  | .ok x => some (.rt ℓ x, env, h)
  | .error (j, n) => some (.ex j n, env, h)
def mExprX (m : XQ) : M1 := fun env h => (m env h).bind fun r => match r with
  | .ok _ => some (.nx, env, h)
  | .error (j, n) => some (.ex j n, env, h)
def mIfX (t : XT) (a b : M1) : M1 := fun env h => (t env h).bind fun r => match r with
  | .ok c => if c = true then a env h else b env h
  | .error (j, n) => some (.ex j n, env, h)
def whGoX (vs : List Nat) (t : XT) (body : M1) : Nat → M1
  | 0, _, _ => none
  | n + 1, env, h => (t env h).bind fun b => match b with
    | .error (j, p) => some (.ex j p, env, h)
    | .ok b => if b = true then (body env h).bind fun r => match r.1 with
        | .nx => whGoX vs t body n (wipeE r.2.1 vs) r.2.2
        | .ct => whGoX vs t body n (wipeE r.2.1 vs) r.2.2
        | .bk => some (.nx, wipeE r.2.1 vs, r.2.2)
        | _ => some r
      else some (.nx, env, h)
def mWhileX (fuel : Nat) (vs : List Nat) (t : XT) (body : M1) : M1 := fun env h => whGoX vs t body fuel (wipeE env vs) h
section
variable {F : Fm} {X : Cx} {a b e c : Expr} {es : List Expr} {x : Str} {f : Addr} {fd : FuncData} {ps : List Str} {k n : Nat} {p pos pos2 : Pos} {q qb : Q1} {m : XQ} {t : XT} {ℓ ℓ₁ ℓ₂ : Lv} {body orelse : List Stmt} {g : List Val → Hs → Option XR} {ar : En → Hs → Option (List Val)} {G : Glo} {xc : Nat → Addr} {ma mb : M1}
theorem spX_ar {vs : List V} {H : Hp} {Q : VK} {E : XK} (h : spX G xc n (arity n g) vs H Q E) : spX G xc n g vs H Q E := by
  obtain ⟨F, env, h, A, σ, args, y, hG, R, r, hn, e, kk⟩ := h
  exact ⟨F, env, h, A, σ, args, y, hG, R, r, hn, by simpa [arity, hn] using e, kk⟩
theorem sx_call (U : FnOk X.prog X.w X.K X.mg X.base (L2.CX X.prog X.w) k f fd ps (spX G xc n g)) (hG : F.G = G) (hxc : F.xc = xc) (tk : Takes X F.wx) (hr : Room k X.A) (hm : X.mg x = some (.ref f)) (hk : PySem.W.keepIn X.K (.ref f) = true) (hb : Binds X.K fd ps []) (ha : SimA X F .mo (e :: es) ar)
    (hg : Gl X x := by rfl) (hdb : (x == ("__debug__" : Str)) = false := by decide) (he : starEach (e :: es) X.env = (false, eval e X.env) :: starEach es X.env := by rfl) (hpl : (backTo pos (starEach es X.env)).any (·.1) = false := by rfl) :
    SimXl X F .mo (.Call (.Name x p) (e :: es) [] pos) (xCall (arity n g) ar) :=
  PEimp (pe_callS (E := fun σ => WE F.wx σ) (U.imp fun _ _ _ _ => spX_ar) hr hg hm hk hb (fun σ => passAt tk σ) ha hdb he hpl) fun σ H Q ⟨env, h, A, z, R, e, k⟩ => by
    obtain ⟨xs, ex, e⟩ := bind_some e
    refine ⟨env, h, A, xs, R, ex, fun vs H1 e1 rs => ?_⟩
    refine ⟨F, env, h, A, σ, xs, z, hG, R.ex e1, rs, arity_n _ _ _ e, e, ?_⟩
    cases z with
    | ok x => exact fun v H' e2 rv => k v H' (e1.trans e2) rv
    | error jn =>
      obtain ⟨j, n⟩ := jn
      subst hxc
      exact fun d H' e2 hd => k d H' (e1.trans e2) hd
theorem sq_callX (U : FnOk X.prog X.w X.K X.mg X.base (L2.CX X.prog X.w) k f fd ps (spX G xc n g)) (hG : F.G = G) (hr : Room k X.A) (hm : X.mg x = some (.ref f)) (hk : PySem.W.keepIn X.K (.ref f) = true) (hb : Binds X.K fd ps []) (ha : SimA X F .mo (e :: es) ar)
    (hg : Gl X x := by rfl) (hdb : (x == ("__debug__" : Str)) = false := by decide) (he : starEach (e :: es) X.env = (false, eval e X.env) :: starEach es X.env := by rfl) (hpl : (backTo pos (starEach es X.env)).any (·.1) = false := by rfl) :
    SimQ X F .mo (.Call (.Name x p) (e :: es) [] pos) (qCall (arity n (okX g)) ar) :=
  PEimp (pe_callS (E := fun _ _ _ _ => False) U hr hg hm hk hb (fun σ => fun _ _ _ _ _ _ c => by obtain ⟨_, _, _, _, _, _, _, _, _, _, _, _, z⟩ := c; exact z.elim) ha hdb he hpl) fun σ H Q ⟨env, h, A, z, R, e, k⟩ => by
    obtain ⟨xs, ex, e⟩ := bind_some e
    have hn := arity_n _ _ _ e
    unfold arity at e
    rw [if_pos hn] at e
    obtain ⟨r, er, e⟩ := bind_some e
    refine ⟨env, h, A, xs, R, ex, fun vs H1 e1 rs => ?_⟩
    refine ⟨F, env, h, A, σ, xs, r, hG, R.ex e1, rs, hn, er, ?_⟩
    cases r with
    | ok x => cases e; exact fun v H' e2 rv => k v H' (e1.trans e2) rv
    | error jn => cases e
theorem sx_nl (ha : SimXl X F ℓ₁ a m) : SimXl X F ℓ a (xNl m) := PEimp ha fun σ H Q ⟨env, h, A, z, R, e, k⟩ => by
  obtain ⟨r, ex, e⟩ := bind_some e
  refine ⟨env, h, A, r, R, ex, ?_⟩
  cases r with
  | error jn => cases e; exact k
  | ok x =>
    intro v H1 e1 rv
    cases x with
    | d d =>
      simp only at e
      split at e
      · next hn => cases e; exact k v H1 e1 (Rep.nl d v hn rv)
      · cases e
    | ref n => cases e; exact k v H1 e1 rv
    | fn n => cases e; exact k v H1 e1 rv
theorem sx_cmp {op : CmpOp} {g : Hs → Val → Val → Option Val} (o : BinS X F ℓ₁ ℓ₂ ℓ (compareOp op) g) (ha : SimXl X F ℓ₁ a m) (hb : SimQ X F ℓ₂ b qb) (hm : behindInMarks op b = false) : SimXl X F ℓ (.Compare a [op] [b] pos) (x2 g m qb) := by
  obtain ⟨r, h1, h2⟩ := o
  refine PEimp (pe_cmpR h1 ha hb hm) fun σ H Q ⟨env, h, A, z, R, e, k⟩ => ?_
  obtain ⟨y, ex, e⟩ := bind_some e
  refine ⟨env, h, A, y, R, ex, ?_⟩
  cases y with
  | error jn =>
    obtain ⟨j, n⟩ := jn
    cases e
    exact fun d H1 e1 hd => k d H1 e1 hd
  | ok x =>
    intro v H1 e1 rv
    obtain ⟨y, ey, e⟩ := bind_some e
    obtain ⟨w, ew, rfl⟩ := Option.map_eq_some_iff.mp e
    refine ⟨env, h, A, y, R.ex e1, ey, fun u H2 e2 ru => ?_⟩
    exact h2 env h A σ H2 x y v u w ((R.ex e1).ex e2) (rv.ex e2) ru ew Q fun v' H' e3 rz => k v' H' ((e1.trans e2).trans e3) rz
theorem stx_v (hK : X.K = F.G.K) (ha : SimXl X F .mo a m) (he : ∀ whole, isTrue a X.env whole = (do let v ← whole; standAt a.pos; holding [v] (truthy v)) := by intro _; rfl) : SimTX X F a (xV m) := PTimp (pt_truth ha he) fun σ H Q ⟨env, h, A, k, R, e, q⟩ => by
  obtain ⟨r, ex, e⟩ := bind_some e
  refine ⟨env, h, A, r, R, ex, ?_⟩
  cases r with
  | error jn =>
    obtain ⟨j, n⟩ := jn
    cases e
    exact fun d H1 e1 hd => q d H1 e1 hd
  | ok x =>
    intro v H1 e1 rv
    cases x with
    | d d =>
      obtain ⟨b, eb, rfl⟩ := Option.map_eq_some_iff.mp e
      exact ⟨b, by rw [hK]; exact truV_of rv eb, q H1 e1⟩
    | ref n => cases e
    | fn n => cases e
/-! ### statements -/
theorem ss_setX {i : Nat} {x : Str} {p2 : Pos} (hN : X.N.Nodup) (hi : X.N[i]? = some x) (hx : Loc X.env.scope x) (he : SimXl X F .fs e m) (hs : swapsWith e (some (.Name x p2)) pos.line X.env = pure false := by rfl) (hf : X.fn x = true ∨ X.env.scope.names.lookup x = some .local := by first | exact .inl rfl | exact .inr rfl | assumption) :
    SimS X F (.Assign [.Name x p2] e pos) (mSetX i m) := PSimp (ps_set hN hi hx he hs hf) fun D σ H ⟨env, h, A, r, env', h', R, e, k⟩ => by
  obtain ⟨y, ex, e⟩ := bind_some e
  refine ⟨env, h, A, y, R, ex, ?_⟩
  cases y with
  | ok x => cases e; exact fun v H1 e1 rv => k _ H1 A ((R.ex e1).setV rv) (Ex.pres e1)
  | error jn => obtain ⟨j, n⟩ := jn; cases e; exact fun d H1 e1 hd => k σ H1 A d (R.ex e1) (Ex.pres e1) hd
theorem ss_asgX {tg : Expr} {ss : List Nat} {b : B1} (he : SimXl X F .fs e m) (hg : PG X tg (tGt F ss b)) (hs : swapsWithSole [tg] e pos.line X.env = pure false := by rfl) (hw : swappedStores [tg] e X.env = pure none := by rfl)
    (h1 : (assignEach [tg] X.env).map (·.2) = [assign tg X.env] := by rfl) : SimS X F (.Assign [tg] e pos) (mAsgX m b) := PSimp (ps_asg he hg hs hw h1) fun D σ H ⟨env, h, A, r, env', h', R, e, k⟩ => by
  obtain ⟨y, ex, e⟩ := bind_some e
  refine ⟨env, h, A, y, R, ex, ?_⟩
  cases y with
  | error jn => obtain ⟨j, n⟩ := jn; cases e; exact fun d H1 e1 hd => k σ H1 A d (R.ex e1) (Ex.pres e1) hd
  | ok x =>
    cases x with
    | d d =>
      obtain ⟨env1, eb, e⟩ := bind_some e
      cases e
      exact fun v H1 e1 rv => ⟨env, h, A, d, _, R.ex e1, rv, eb, fun σ' H' x1 R1 _ _ => k σ' H' A R1 ((Ex.pres e1).trans (Ex.pres x1))⟩
    | ref n => cases e
    | fn n => cases e
theorem ss_retX (he : SimXl X F ℓ e m) : SimS X F (.Return (some e) pos) (mRetX ℓ m) := PSimp (ps_ret he) fun D σ H ⟨env, h, A, r, env', h', R, e, k⟩ => by
  obtain ⟨y, ex, e⟩ := bind_some e
  refine ⟨env, h, A, y, R, ex, ?_⟩
  cases y with
  | ok x => cases e; exact fun v H1 e1 rv => k σ H1 A v (R.ex e1) (Ex.pres e1) rv
  | error jn => obtain ⟨j, n⟩ := jn; cases e; exact fun d H1 e1 hd => k σ H1 A d (R.ex e1) (Ex.pres e1) hd
theorem ss_exprX (he : SimXl X F ℓ e m) (hs : swapsWith e none pos.line X.env = pure false := by rfl) : SimS X F (.Expr e pos) (mExprX m) := PSimp (ps_expr he hs) fun D σ H ⟨env, h, A, r, env', h', R, e, k⟩ => by
  obtain ⟨y, ex, e⟩ := bind_some e
  refine ⟨env, h, A, y, R, ex, ?_⟩
  cases y with
  | ok x => cases e; exact fun v H1 e1 rv => k σ H1 A (R.ex e1) (Ex.pres e1)
  | error jn => obtain ⟨j, n⟩ := jn; cases e; exact fun d H1 e1 hd => k σ H1 A d (R.ex e1) (Ex.pres e1) hd
theorem ss_whileX (fuel : Nat) (vs : List Nat) (hp : PassesOwn (model X.prog X.w) X.A X.env X.xe) (hc : SimTX X F c t) (hb : SimB X F body mb) : SimS X F (.While c body [] pos) (mWhileX fuel vs t mb) := PSimp (ps_while hp hc hb) fun D σ H ⟨env, h, A, r, env', h', R, e, k⟩ => by
  refine ⟨fun m σ Hc => Pres H Hc ∧ ∃ env h A, SR F env h A σ Hc ∧ whGoX vs t mb m env h = some (r, env', h'), ⟨fuel, Pres.refl _, _, h, A, R.wipeS vs, e⟩, ?_⟩
  rintro m σ Hc ⟨P, env2, h2, A2, R2, e2⟩
  cases m with
  | zero => cases e2
  | succ m =>
    obtain ⟨b, eb, e2⟩ := bind_some e2
    refine ⟨env2, h2, A2, b, R2, eb, ?_⟩
    cases b with
    | error jn =>
      obtain ⟨j, n⟩ := jn
      cases e2
      exact fun d H1 e1 hd => k σ H1 A2 d (R2.ex e1) (P.trans (Ex.pres e1)) hd
    | ok b =>
      intro H1 e1
      cases b with
      | false => cases e2; exact k σ H1 A2 (R2.ex e1) (P.trans (Ex.pres e1))
      | true =>
        obtain ⟨⟨r3, env3, h3⟩, e3, e4⟩ := bind_some e2
        refine ⟨fun σ' H' => Pres H H' ∧ ∃ env h A, SR F env h A σ' H' ∧ whGoX vs t mb m env h = some (r, env', h'), fun σ' H' z => ⟨m, Nat.lt_succ_self _, z⟩, env2, h2, A2, r3, env3, h3, R2.ex e1, e3, ?_⟩
        have P5 : Pres H H1 := P.trans (Ex.pres e1)
        cases r3 with
        | nx => exact fun σ' H' A' R' P' => ⟨P5.trans P', _, h3, A', R'.wipeS vs, e4⟩
        | ct => exact fun σ' H' A' R' P' => ⟨P5.trans P', _, h3, A', R'.wipeS vs, e4⟩
        | bk => cases e4; exact fun σ' H' A' R' P' => k σ' H' A' (R'.wipeS vs) (P5.trans P')
        | rt ℓ x => cases e4; exact k.pre P5
        | rf xs => cases e4; exact k.pre P5
        | ex _ _ => cases e4; exact k.pre P5
end
end Sm

set_option Elab.async false
set_option linter.all false
set_option maxRecDepth 100000
set_option maxHeartbeats 1000000
namespace Sm
open PySem L2 Evl Sx

/-! ### try: .. except X as n: y = n.place, and: .. return n.place -/
/-- j: which error; i: the slot of n; b: the slot of y -/
def mTryA (j i b : Nat) (mb : M1) : M1 := fun env h => (mb env h).bind fun r => match r with
  | (.ex j' n, env', h') => if j' = j ∧ i < env'.length then some (.nx, ((env'.set i .un).set b (.v (.d (.int n)))).set i .un, h') else none
  | r => some r
def mTryR (j i : Nat) (mb : M1) : M1 := fun env h => (mb env h).bind fun r => match r with
  | (.ex j' n, env', h') => if j' = j ∧ i < env'.length then some (.rt .st (.d (.int n)), env'.set i .un, h') else none
  | r => some r
section
variable {F : Fm} {X : Cx} {x nm y : Str} {C : Addr} {j i b : Nat} {body : List Stmt} {mb : M1} {np pos pos' p1 p2 p3 p4 : Pos}
theorem Post.unwish {H : Hp} {D : Ends} {r : Flo} {env' : En} {h' : Hs} {xc : Nat → Addr} {wx : Value → Option Addr → L2.St → Hp → Prop} (hr : ∀ j n, r ≠ .ex j n) (q : Post F H D r env' h') : Post { F with xc := xc, wx := wx } H D r env' h' := by
  cases r with
  | nx => exact fun σ' H' A' R p => q σ' H' A' R.unwish p
  | bk => exact fun σ' H' A' R p => q σ' H' A' R.unwish p
  | ct => exact fun σ' H' A' R p => q σ' H' A' R.unwish p
  | rt ℓ x => exact fun σ' H' A' v R p rv => q σ' H' A' v R.unwish p (by cases ℓ <;> exact rv)
  | rf xs => exact fun σ' H' A' p us R pp z1 z2 z3 z4 => q σ' H' A' p us R.unwish pp z1 z2 z3 z4
  | ex j n => exact absurd rfl (hr j n)
/-- what is known of the class for a handler -/
structure XH (X : Cx) (x : Str) (C : Addr) : Prop where
  xf : XfC X.K C
  no : PySem.W.findIn X.K (.ref C) "place" = some none
  te : PySem.W.exmOne X.K (.ref C) (.ref C) = some true
  nm : Names X x (.ref C)
theorem ss_tryA (S : XH X x C) (hs : X.stack = X.env :: X.outer) (hf : X.env.frame = some X.env.locals) (hN : X.N.Nodup) (hi : X.N[i]? = some nm) (hln : X.env.kindOf nm = some .local) (hb : X.N[b]? = some y) (hy : Loc X.env.scope y) (hx : F.xc j = C) (tk : Takes X F.wx)
    (hB : ∀ (W : WX) (pn : List (Addr × Obj)) (xe : Value → Shared → Prop), Takes (X.tr pn xe) W → PassesOwn (model X.prog X.w) X.A X.env xe → SimB (X.tr pn xe) { F with wx := W } body mb)
    (hd : (nm == ("__debug__" : Str)) = false := by decide) (hcd : (nm == ("__classdict__" : Str)) = false := by decide) (hat : attributeBase (.Name nm p2) "place" X.env (eval (.Name nm p2) X.env) = eval (.Name nm p2) X.env := by rfl)
    (hsw : swapsWith (.Attribute (.Name nm p2) "place" p3) (some (.Name y p1)) p4.line X.env = pure false := by rfl) (hfn : X.fn y = true ∨ X.env.scope.names.lookup y = some .local := by first | exact .inl rfl | exact .inr rfl | assumption) :
    SimS X F (.Try body [.ExceptHandler (some (.Name x np)) (some nm) [.Assign [.Name y p1] (.Attribute (.Name nm p2) "place" p3) p4] pos'] [] [] pos) (mTryA j i b mb) := by
  refine PSimp (ps_try_as (i := i) (tb := fun W => tS { F with wx := W } mb) (ts := fun a cls d => tAsg (tXf a cls d C "place" (tVar i)) (gName b)) hs hf hN hi hln S.nm tk hB (fun a oe cls d pn hz hfl => pss_one (ps_set (X := X.suite a ((a, oe) :: pn)) hN hb hy (pe_xf S.xf S.no hz hfl (pe_var (X := X.suite a ((a, oe) :: pn)) hi (.inl hln) hd hcd) hat) hsw hfn))) fun D σ H ⟨env, h, A, r, env', h', R, e, k⟩ => ?_
  obtain ⟨⟨r1, env1, h1⟩, e1, e2⟩ := bind_some e
  refine ⟨env, h, A, r1, env1, h1, R.wish _ _, e1, ?_⟩
  by_cases hr : ∀ j n, r1 ≠ .ex j n
  · have e3 : (r, env', h') = (r1, env1, h1) := by
      cases r1 with
      | ex j n => exact absurd rfl (hr j n)
      | _ => exact (Option.some.inj e2).symm
    cases e3
    exact k.unwish hr
  · cases r1 with
    | ex j' n =>
      simp only at e2
      split at e2
      · next hj =>
        obtain ⟨rfl, hlt⟩ := hj
        cases e2
        intro σ' H' A' d R' P hd'
        refine ⟨true, by show PySem.W.exmOne X.K (.ref (F.xc j')) (.ref C) = some true; rw [hx]; exact S.te, fun _ a ha => ?_, fun z => by cases z⟩
        have R0 := R'.unwish
        refine ⟨.ref a, by rw [List.getElem?_set_self (by rw [R0.ln]; exact hlt)], rfl, by show Value.ref (F.xc j') = _; rw [hx], d, _, .int n, rfl, hd', by simp [List.lookup], ?_⟩
        exact k _ H' A' (((R0.setUn' (i := i) (o := some (.ref a))).setV (i := b) (x := .d (.int n)) (v := .int n) (by simp [RepV, Rep])).setUn' (i := i) (o := none)) P
      · cases e2
    | _ => exact absurd (fun j n z => by cases z) hr
theorem ss_tryR (S : XH X x C) (hs : X.stack = X.env :: X.outer) (hf : X.env.frame = some X.env.locals) (hN : X.N.Nodup) (hi : X.N[i]? = some nm) (hln : X.env.kindOf nm = some .local) (hx : F.xc j = C) (tk : Takes X F.wx)
    (hB : ∀ (W : WX) (pn : List (Addr × Obj)) (xe : Value → Shared → Prop), Takes (X.tr pn xe) W → PassesOwn (model X.prog X.w) X.A X.env xe → SimB (X.tr pn xe) { F with wx := W } body mb)
    (hd : (nm == ("__debug__" : Str)) = false := by decide) (hcd : (nm == ("__classdict__" : Str)) = false := by decide) (hat : attributeBase (.Name nm p2) "place" X.env (eval (.Name nm p2) X.env) = eval (.Name nm p2) X.env := by rfl) :
    SimS X F (.Try body [.ExceptHandler (some (.Name x np)) (some nm) [.Return (some (.Attribute (.Name nm p2) "place" p3)) p4] pos'] [] [] pos) (mTryR j i mb) := by
  refine PSimp (ps_try_as (i := i) (tb := fun W => tS { F with wx := W } mb) (ts := fun a cls d => tRet (tXf a cls d C "place" (tVar i))) hs hf hN hi hln S.nm tk hB (fun a oe cls d pn hz hfl => pss_one (ps_ret (X := X.suite a ((a, oe) :: pn)) (pe_xf S.xf S.no hz hfl (pe_var (X := X.suite a ((a, oe) :: pn)) hi (.inl hln) hd hcd) hat)))) fun D σ H ⟨env, h, A, r, env', h', R, e, k⟩ => ?_
  obtain ⟨⟨r1, env1, h1⟩, e1, e2⟩ := bind_some e
  refine ⟨env, h, A, r1, env1, h1, R.wish _ _, e1, ?_⟩
  by_cases hr : ∀ j n, r1 ≠ .ex j n
  · have e3 : (r, env', h') = (r1, env1, h1) := by
      cases r1 with
      | ex j n => exact absurd rfl (hr j n)
      | _ => exact (Option.some.inj e2).symm
    cases e3
    exact k.unwish hr
  · cases r1 with
    | ex j' n =>
      simp only at e2
      split at e2
      · next hj =>
        obtain ⟨rfl, hlt⟩ := hj
        cases e2
        intro σ' H' A' d R' P hd'
        refine ⟨true, by show PySem.W.exmOne X.K (.ref (F.xc j')) (.ref C) = some true; rw [hx]; exact S.te, fun _ a ha => ?_, fun z => by cases z⟩
        have R0 := R'.unwish
        refine ⟨.ref a, by rw [List.getElem?_set_self (by rw [R0.ln]; exact hlt)], rfl, by show Value.ref (F.xc j') = _; rw [hx], d, _, .int n, rfl, hd', by simp [List.lookup], ?_⟩
        exact k _ H' A' (.int n) (R0.setUn' (i := i) (o := some (.ref a))) P vi
      · cases e2
    | _ => exact absurd (fun j n z => by cases z) hr
end
end Sm

set_option Elab.async false
set_option linter.all false
set_option maxRecDepth 100000
set_option maxHeartbeats 2000000
namespace Sx
open PySem L2 PyProof.Rows

/-! ### what the head tells of an own error -/
structure ErrD where
  x : Str
  msg : Str
  qual : Str
  T : IPos
abbrev ErrW : Type := Option (Str × Str × Arguments × FuncBody × Scope × Addr × List Str × Addr)
def errC (K : PySem.W.Frag) (d : ErrD) : Addr := He.ga K d.x
def errF (K : PySem.W.Frag) (d : ErrD) : Addr := He.ma K (errC K d) "__init__"
def errW (K : PySem.W.Frag) (d : ErrD) : ErrW := match K.lookup (errF K d) with
  | some ⟨_, _, .func fd, _⟩ => some (fd.name, fd.qualname, fd.params, fd.body, fd.scope, fd.globals, fd.closure.map (·.1), fd.builtins)
  | _ => none
def ErrD.val (d : ErrD) : ErrW := some ("__init__", d.qual, iA d.T, .stmts (iB d.T d.msg), iS, mainGlobals, ["__class__"], builtinsNs)
def clsB (K : PySem.W.Frag) (C : Addr) : Bool := match K.lookup C with
  | some ⟨.type c, _, .cls cd, sl⟩ => decide (c = "type") && (cd.hasDict && (!cd.hasDel && match cd.mro, sl.toList with
    | .ref C' :: bm, [_, _, _, _, some (.builtin n), _] => decide (C' = C) && (decide (n = "ValueError.__new__") && PySem.HandSPX.refsVE bm)
    | _, _ => false))
  | _ => false
theorem clsB_ok {K : PySem.W.Frag} {C : Addr} (h : clsB K C = true) : ∃ nm q N bs bm sn sub ab col dd k0 k1 k2 k3 k5, K.lookup C = some (excClassObj nm q C N bs bm true sn sub ab col dd k0 k1 k2 k3 k5 "ValueError.__new__") ∧ PySem.HandSPX.refsVE bm = true := by
  unfold clsB at h
  split at h
  · next c dd cd sl hk =>
    simp only [Bool.and_eq_true, decide_eq_true_eq, Bool.not_eq_true'] at h
    obtain ⟨rfl, h1, h2, h3⟩ := h
    split at h3
    · next C' bm k0 k1 k2 k3 n k5 hm hs =>
      simp only [Bool.and_eq_true, decide_eq_true_eq] at h3
      obtain ⟨rfl, rfl, h4⟩ := h3
      obtain ⟨nm, bs, mro, ns, qn, hd, sn, sub, ab, col, del⟩ := cd
      dsimp only at hm h1 h2
      subst hm h1 h2
      obtain ⟨l⟩ := sl
      simp only at hs
      subst hs
      exact ⟨_, _, _, _, _, _, _, _, _, _, _, _, _, _, _, hk, h4⟩
    · cases h3
  · cases h
def ovB (a : Option (Option Value)) (b : Option (Option Value)) : Bool := decide (a = b)
def errB (P : Program) (K : PySem.W.Frag) (d : ErrD) : Bool := decide (d.msg.length ≤ 1000) && (clsB K (errC K d) && (ovB (PySem.W.findIn K (.ref (errC K d)) "__setattr__") (some (some (.builtin "object.__setattr__"))) &&
  (decide (PySem.W.subIn K (.ref (errC K d)) (.type "BaseException") = some true) && (decide (PySem.W.typeIn K (.ref (errC K d)) = some (.type "type")) && (PySem.W.keepIn K (.ref (errC K d)) &&
  (ovB (PySem.W.findIn K (.ref (errC K d)) "__init__") (some (some (.ref (errF K d)))) && (decide (PySem.W.typeIn K (.ref (errF K d)) = some (.type "function")) &&
  (ovB (PySem.W.nsIn K mainGlobals d.x) (some (some (.ref (errC K d)))) && (xfB K (errC K d) && (ovB (PySem.W.findIn K (.ref (errC K d)) "place") (some none) && (decide (PySem.W.exmOne K (.ref (errC K d)) (.ref (errC K d)) = some true) &&
  (ovB (PySem.W.nsIn K mainGlobals "super") (some none) && (ovB (PySem.W.nsIn K mainGlobals "str") (some none) && (ovB (PySem.W.nsIn K cStatics "thirdparty.any") (some none) &&
  (ovB (PySem.W.ks_superIn K (errC K d) (errC K d) "__init__") (some (some (.builtin "ValueError.__init__"))) && (decide (PySem.W.subIn K (.ref (errC K d)) (.type "ValueError") = some true) && (decide (PySem.W.mroIn K (errC K d) (.ref (errC K d)) = some true) &&
  (!(P.main.scope.names.lookup ("super" : Str)).isSome && (match K.lookup (errF K d) with
    | some ⟨_, _, .func fd, _⟩ => (match fd.closure, fd.code with
      | [(_, cc)], .ref cda => decide (fd.defaults = .none) && (decide (fd.kwdefaults = .none) && (PySem.W.codeIn K (.ref cda) d.qual && ((match K.lookup cc with
        | some ⟨_, _, .cell (some (.ref D)), _⟩ => decide (D = errC K d)
        | _ => false) && (match K.lookup cda with
        | some ⟨_, _, .fields vs, _⟩ => (match (vs[2]? : Option Value) with
          | some (Value.str f _) => (P.main.file : Str) == f
          | _ => false)
        | _ => false))))
      | _, _ => false)
    | _ => false)))))))))))))))))))
/-- all that is wanted of the class x -/
structure ErrT (P : Program) (w : World) (K : PySem.W.Frag) (mg : Str → Option Value) (base : Heap) (x : Str) (C fI : Addr) : Prop where
  T : OexC K C
  iC : PySem.W.findIn K (.ref C) "__init__" = some (some (.ref fI))
  tI : PySem.W.typeIn K (.ref fI) = some (.type "function")
  fn : ∃ fd, FnOk P w K mg base CX0 1 fI fd ["self", "place"] (spI C) ∧ Binds K fd ["self", "place"] []
  gC : mg x = some (.ref C)
  xf : XfC K C
  no : PySem.W.findIn K (.ref C) "place" = some none
  te : PySem.W.exmOne K (.ref C) (.ref C) = some true
theorem ErrT.xc {X : Cx} {x : Str} {C fI : Addr} (S : ErrT X.prog X.w X.K X.mg X.base x C fI) : Sm.XC X x C fI 1 := ⟨S.T, S.iC, S.tI, S.fn, S.gC⟩
theorem ErrT.xh {X : Cx} {x : Str} {C fI : Addr} (S : ErrT X.prog X.w X.K X.mg X.base x C fI) (hg : Gl X x := by rfl) (hd : (x == ("__debug__" : Str)) = false := by decide) : Sm.XH X x C := ⟨S.xf, S.no, S.te, hg, hd, .inl S.gC⟩
theorem bind_init {K : PySem.W.Frag} {T : IPos} {msg qual : Str} {cc cda : Addr} {doc pm ct : Value} {an : Option Addr} : Binds K (iFd T msg qual cc cda .none .none doc pm an ct) ["self", "place"] [] := fun s us _ hl => by
  match us, hl with
  | [u1, u2], _ => exact BindsTo.of_eq (by first | rfl | with_unfolding_all rfl)
theorem err_ok {P : Program} {K : PySem.W.Frag} {h : Heap} {mg : Str → Option Value} {d : ErrD} (X : K.In h) (N : h.Ns mainGlobals mg) (e1 : errW K d = d.val) (e2 : errB P K d = true)
    (hev : ∀ env : Env, ∃ pl : Sem Bool, eval (.Call (.Attribute (.Call (.Name "super" d.T.p0) [] [] d.T.p1) "__init__" d.T.p2) [iE d.T d.msg] [] d.T.pos) env = (do
      let ov ← attributeBase (.Call (.Name "super" d.T.p0) [] [] d.T.p1) "__init__" env (eval (.Call (.Name "super" d.T.p0) [] [] d.T.p1) env)
      standAt d.T.p2.atName
      let (f, first) ← holding [ov] (getMethod ov "__init__" pl)
      callWith d.T.pos f first (backTo d.T.pos (starEach [iE d.T d.msg] env)) [])) (w : World) (base : Heap) : ErrT P w K mg base d.x (errC K d) (errF K d) := by
  unfold errB ovB at e2
  simp only [Bool.and_eq_true, decide_eq_true_eq, Bool.not_eq_true'] at e2
  obtain ⟨b0, b1, b2, b3, b4, b5, b6, b7, b8, b9, b10, b11, b12, b13, b14, b15, b16, b17, b18, b19⟩ := e2
  split at b19
  · next oc od fd osl hk =>
    split at b19
    · next nm cc cda hcl hco =>
      simp only [Bool.and_eq_true, decide_eq_true_eq] at b19
      obtain ⟨d1, d2, c1, c2, c3⟩ := b19
      have TC : OexC K (errC K d) := ⟨clsB_ok b1, b2, b3, b4, b5⟩
      refine ⟨TC, b6, b7, ?_, PySem.W.mg_of X N b8, xfB_ok b9, b10, b11⟩
      unfold errW ErrD.val at e1
      rw [hk] at e1
      obtain ⟨n1, n2, n3, n4, n5, n6, n7, n8, n9, n10, n11, n12, n13, n14, n15⟩ := fd
      simp only at hcl hco d1 d2
      subst hcl hco d1 d2
      simp only [Option.some.injEq, Prod.mk.injEq, List.map_cons, List.map_nil, List.cons.injEq, and_true] at e1
      obtain ⟨h1, h2, h3, h4, h5, h6, h7, h8⟩ := e1
      subst h1 h2 h3 h4 h5 h6 h7 h8
      refine ⟨_, fn_init hev hk c1 b0 ?_ ?_ b18 (PySem.W.mg_none_of X N b12) (PySem.W.mg_none_of X N b13) b14 b15 b16 b17 b10 TC, bind_init⟩
      · split at c3
        · next oc2 od2 vs sl2 hk2 =>
          split at c3
          · next f t hv => exact ⟨_, vs, f, t, hk2, rfl, hv, c3⟩
          · cases c3
        · cases c3
      · split at c2
        · next hk2 =>
          have := of_decide_eq_true c2
          subst this
          exact ⟨_, hk2, rfl⟩
        · cases c2
    · cases b19
  · cases b19
end Sx

set_option Elab.async false
set_option linter.all false
set_option maxRecDepth 100000
set_option maxHeartbeats 2000000
namespace Sm
open PySem L2 Evl Sx
/-! ### the head with constants and own errors -/
def SaysE (fa : List He.Fa) (fn : List He.DefD) (cs : List (Str × PyData)) (P : Program) (es : List ErrD) (K : PySem.W.Frag) : Prop := SaysX fa fn cs K ∧ es.all (errB P K) = true ∧ es.map (errW K) = es.map ErrD.val
abbrev ObE : Type := (He.AlD × Bool) × (Bool × List ErrW)
/-- the part of the heap that is told: what the module's names reach, and the statics -/
def partE (n : Nat) (g : Addr → Option Obj) : PySem.W.Frag := He.frG g (cStatics :: He.asD g n)
def obsE (n : Nat) (fa : List He.Fa) (fn : List He.DefD) (cs : List (Str × PyData)) (P : Program) (es : List ErrD) (g : Addr → Option Obj) : ObE := ((He.obsD fa fn (partE n g), consB cs (partE n g)), (es.all (errB P (partE n g)), es.map (errW (partE n g))))
def hookE (n : Nat) (fa : List He.Fa) (fn : List He.DefD) (cs : List (Str × PyData)) (P : Program) (es : List ErrD) : PySem.W.Hook where
  α := ObE
  obs := fun s => obsE n fa fn cs P es s.heap.get?
  val := fun _ => ((He.valD fn, true), (true, es.map ErrD.val))
  says := fun _ h => ∃ K : PySem.W.Frag, K.In h ∧ SaysE fa fn cs P es K
  of := fun _ _ e => ⟨_, He.frG_in, ⟨congrArg (fun z : ObE => z.1.1) e, congrArg (fun z : ObE => z.1.2) e⟩, congrArg (fun z : ObE => z.2.1) e, congrArg (fun z : ObE => z.2.2) e⟩
  keeps := fun _ _ _ ⟨K, hK, c⟩ k => ⟨K, PySem.W.Frag.In.keeps hK k, c⟩
theorem obsE_eq {n : Nat} {fa : List He.Fa} {fn : List He.DefD} {cs : List (Str × PyData)} {P : Program} {es : List ErrD} {g : Addr → Option Obj} {s : Shared} (h : ∀ a, g a = s.heap.get? a) : obsE n fa fn cs P es g = (hookE n fa fn cs P es).obs s := by
  have e : g = s.heap.get? := funext h
  rw [e] <;> rfl
theorem SaysE.err {fa : List He.Fa} {fn : List He.DefD} {cs : List (Str × PyData)} {P : Program} {es : List ErrD} {K : PySem.W.Frag} (c : SaysE fa fn cs P es K) (i : Nat) {d : ErrD} (e : es[i]? = some d := by rfl) : errW K d = d.val ∧ errB P K d = true := by
  refine ⟨?_, List.all_eq_true.mp c.2.1 d (List.mem_of_getElem? e)⟩
  have q := congrArg (fun l : List ErrW => l[i]?) c.2.2
  simp only [List.getElem?_map, e, Option.map_some] at q
  exact Option.some.inj q
/-! ### defs that catch, and let nothing out -/
section
variable {P : Program} {w : World} {K : PySem.W.Frag} {mg : Str → Option Value} {base : Heap} {x qual : Str} {st : Stmt} {f : Addr} {fd : FuncData} {N ps : List Str} {k : Nat} {G : Glo} {xc : Nat → Addr} {m : M1}
theorem fn_qt (U : Fun K x qual st f fd) (S : FnScope N ps (defScope st)) (hl : ps.length ≤ N.length)
    (hb : ∀ (cdv : Value) (A : Around) (outer : List Env) (s : Shared) (H : Hp) (E : XK), Room k (A.deeper (PyProof.Rows.envOfC qual (defScope st) s.heap.objs.size f cdv)) → ∀ F : Fm, F.G = G → F.xc = xc → F.wx = (fun _ _ _ _ => False) → SimB (cxOf CX0 P w K mg base N qual (defScope st) f cdv A outer s H E).nox F (defBody st) m) :
    FnOk P w K mg base CX0 (k + 1) f fd ps (spQ G ps.length (runQ (N.length - ps.length) m)) := by
  refine U.ok S (fun vs H Q E h => ?_) (fun cdv A outer s H vs Q E hr h => ?_)
  · obtain ⟨F, env, h, A, σ, args, y, _, _, r, hn, _⟩ := h
    rw [← Paired.len r, hn]
  · obtain ⟨F, env, hh, As, σ, args, y, hG, R, r, hn, e, kk⟩ := h
    obtain ⟨⟨r1, env1, h1⟩, e1, e2⟩ := bind_some e
    have R0 : SR (Fm.cal G false hh As H) [] hh As [] H := by
      have := R.start false
      rw [hG] at this
      exact this
    have R1 := R0.args (N := N) (Paired.imp (fun _ _ z => cal_fs hG z) r) (by omega)
    rw [hn] at R1
    refine ⟨tS { Fm.cal G false hh As H with xc := xc, wx := fun _ _ _ _ => False } m, hb cdv A outer s H E hr _ rfl rfl rfl, _, hh, As, r1, env1, h1, R1.wish _ _, e1, ?_⟩
    cases r1 with
    | nx =>
      cases e2
      exact fun σ' H' A' R' _ => kk _ H' (cal_ex R'.unwish) vn
    | bk => cases e2
    | ct => cases e2
    | ex j n => cases e2
    | rt ℓ y' =>
      intro σ' H' A' v R' _ rv
      have R' := R'.unwish
      have rv : RV (Fm.cal G false hh As H) ℓ h1 A' H' y' v := by
        cases ℓ <;> exact rv
      have rv' := RV.mo R' rv
      cases y' with
      | d d => cases e2; refine kk v H' (cal_ex R') ?_; subst hG; exact rv'
      | ref n => cases e2
      | fn n => cases e2; refine kk v H' (cal_ex R') ?_; subst hG; exact rv'
    | rf xs =>
      intro σ' H' A' p us R' _ _ hv _ rs
      cases e2
      subst hG
      exact kk _ H' (cal_ex R'.unwish) (vl (ℓ := .mo) (.inl (.inl hv)) (RDs.of_st (F := F) (ℓ := .mo) rs))
end
end Sm

set_option Elab.async false
set_option linter.all false
set_option maxRecDepth 100000
set_option maxHeartbeats 1000000
namespace Sm
open PySem L2 Evl Sx
/-! ### x += e, ints -/
def mAugI (i : Nat) (g : Int → Int → Int) (q : Q1) : M1 := fun env h => match env[i]? with
  | some (.v (.d (.int a))) => (q env h).bind fun x => match x with
    | .d (.int b) => some (.nx, env.set i (.v (.d (.int (g a b)))), h)
    | _ => none
  | _ => none
section
variable {F : Fm} {X : Cx} {e : Expr} {x : Str} {i : Nat} {pos pos' : Pos} {q : Q1} {op : Operator} {g : Int → Int → Int}
theorem ss_augI (hN : X.N.Nodup) (hi : X.N[i]? = some x) (hx : Loc X.env.scope x) (ho : PIp X op (ipI g)) (he : SimQ X F .mo e q) (hf : X.fn x = true ∨ X.env.scope.names.lookup x = some .local := by first | exact .inl rfl | exact .inr rfl | assumption) : SimS X F (.AugAssign (.Name x pos') op e pos) (mAugI i g q) := PSimp (ps_aug hN hi hx he ho hf) fun D σ H ⟨env, h, A, r, env', h', R, e, k⟩ => by
  unfold mAugI at e
  split at e
  · next a hy =>
    obtain ⟨v, e1, rv⟩ := R.sl i _ hy
    obtain rfl : v = V.int a := by simpa [RepV, Rep] using rv
    obtain ⟨y, ey, e⟩ := bind_some e
    have hs : σ[i]? = some (some (V.int a)) := by
      cases hs : σ[i]? with
      | none => rw [hs] at e1; cases e1
      | some o => rw [hs] at e1; exact congrArg some e1
    refine ⟨_, hs, env, h, A, y, R, ey, fun u H1 e2 ru => ?_⟩
    split at e
    · next b =>
      cases e
      cases ri ru
      exact ⟨a, b, rfl, rfl, k _ H1 A ((R.ex e2).setV (i := i) (x := .d (.int (g a b))) (v := .int (g a b)) (by simp [RepV, Rep])) (Ex.pres e2)⟩
    · cases e
  · cases e
/-- f(..) < e as a test, f may raise -/
theorem stx_cmp {ℓ₁ ℓ₂ : Lv} {op : CmpOp} {gg : Hs → Val → Val → Option Val} {a b : Expr} {m : XQ} {qb : Q1} (o : BinS X F ℓ₁ ℓ₂ .st (compareOp op) gg) (ha : SimXl X F ℓ₁ a m) (hb : SimQ X F ℓ₂ b qb) (hm : behindInMarks op b = false) (hg : ∀ h x y z, gg h x y = some z → ∃ k, z = .d (.bool k)) :
    SimTX X F (.Compare a [op] [b] pos) (xV (x2 gg m qb)) := by
  obtain ⟨r, h1, h2⟩ := o
  refine PTimp (pt_cmpR h1 ha hb hm) fun σ H Q ⟨env, h, A, k, R, e, q⟩ => ?_
  obtain ⟨z, ex, e⟩ := bind_some e
  obtain ⟨y, ey, ez⟩ := bind_some ex
  refine ⟨env, h, A, y, R, ey, ?_⟩
  cases y with
  | error jn =>
    obtain ⟨j, n⟩ := jn
    cases ez
    cases e
    exact fun d H1 e1 hd => q d H1 e1 hd
  | ok x =>
    intro v H1 e1 rv
    obtain ⟨y, ey, ez⟩ := bind_some ez
    obtain ⟨w, ew, rfl⟩ := Option.map_eq_some_iff.mp ez
    obtain ⟨c, rfl⟩ := hg _ _ _ _ ew
    refine ⟨env, h, A, y, R.ex e1, ey, fun u H2 e2 ru => ?_⟩
    refine h2 env h A σ H2 x y v u _ ((R.ex e1).ex e2) (rv.ex e2) ru ew _ fun v' H' e3 rz => ?_
    obtain ⟨b, eb, rfl⟩ := Option.map_eq_some_iff.mp e
    cases eb
    exact ⟨_, rb rz, q H' ((e1.trans e2).trans e3)⟩
end
end Sm

set_option Elab.async false
set_option linter.all false
set_option maxRecDepth 100000
set_option maxHeartbeats 1000000
namespace Sm
open PySem L2 Evl Sx
/-! ### ''.join of a list of texts -/
def gJoin (s : Str) : Hs → Val → Option Val := fun _ x => match x with
  | .d (.list ds) => (strsOf ds).bind fun ys => if (ys.map (·.length)).sum + ys.length * s.length ≤ 16777216 then some (.d (.str (Txt.join s ys))) else none
  | _ => none
section
variable {F : Fm} {X : Cx} {a : Expr} {s : Str} {j : Nat} {p1 apos pos : Pos} {ℓ : Lv} {qa : Q1} {ma : E1}
theorem join_in (hK : X.K = F.G.K) {env : En} {h : Hs} {A : As} {σ : L2.St} {H1 : Hp} {x z : Val} {v : V} (e : gJoin s h x = some z) (rv : RV F .mo h A H1 x v) : ∃ p, ∃ ys : List Str, v = V.ref p ∧ (SqL X.K H1 p (ys.map V.str) ∨ SqT X.K H1 p (ys.map V.str)) ∧ (ys.map (·.length)).sum + ys.length * s.length ≤ 16777216 ∧ z = .d (.str (Txt.join s ys)) := by
  rw [hK]
  unfold gJoin at e
  split at e
  · next ds =>
    obtain ⟨ys, e1, e⟩ := bind_some e
    split at e
    · next hn =>
      cases e
      obtain ⟨p, us, rfl, t, r⟩ := rl rv
      rw [strsOf_map e1] at r
      rw [rep_strs r] at t
      exact ⟨p, ys, rfl, .inl t, hn, rfl⟩
    · cases e
  · cases e
theorem sq_join (hK : X.K = F.G.K) (ha : SimQ X F .mo a qa) (hs : starEach [a] X.env = [(false, eval a X.env)] := by rfl) (hbase : attributeBase (.Constant (.str s) j p1) "join" X.env (eval (.Constant (.str s) j p1) X.env) = eval (.Constant (.str s) j p1) X.env := by rfl) (hline : (apos.endLine == pos.line) = true := by rfl) :
    SimQ X F ℓ (.Call (.Attribute (.Constant (.str s) j p1) "join" apos) [a] [] pos) (q1 (gJoin s) qa) := PEimp (pe_join pe_str ha hs hbase hline) fun σ H Q ⟨env, h, A, z, R, e, k⟩ => by
  obtain ⟨x, ex, e⟩ := bind_some e
  refine ⟨⟨s, rfl⟩, env, h, A, x, R, ex, fun v H1 e1 rv => ?_⟩
  obtain ⟨p, ys, rfl, hq, hn, rfl⟩ := join_in (env := env) (σ := σ) hK e rv
  exact ⟨s, p, ys, rfl, rfl, hq, hn, k _ H1 e1 (by cases ℓ <;> simp [RV, RepV, Rep])⟩
theorem se_join (hK : X.K = F.G.K) (ha : SimE X F .fs a ma) (hs : starEach [a] X.env = [(false, eval a X.env)] := by rfl) (hbase : attributeBase (.Constant (.str s) j p1) "join" X.env (eval (.Constant (.str s) j p1) X.env) = eval (.Constant (.str s) j p1) X.env := by rfl) (hline : (apos.endLine == pos.line) = true := by rfl) :
    SimE X F ℓ (.Call (.Attribute (.Constant (.str s) j p1) "join" apos) [a] [] pos) (e1 (gJoin s) ma) := PEimp (pe_join pe_str ha hs hbase hline) fun σ H Q ⟨env, h, A, z, h', R, e, k⟩ => by
  obtain ⟨⟨x, h1⟩, ex, e⟩ := bind_some e
  obtain ⟨y, ey, e⟩ := bind_some e
  cases e
  refine ⟨⟨s, rfl⟩, env, h, A, x, _, R, ex, fun v H1 A1 R1 st rv => ?_⟩
  obtain ⟨p, ys, rfl, hq, hn, rfl⟩ := join_in (env := env) (σ := σ) hK ey (RV.mo R1 rv)
  exact ⟨s, p, ys, rfl, rfl, hq, hn, k _ H1 A1 R1 st (by cases ℓ <;> simp [RV, RepV, Rep])⟩
/-- tuple(x), x with effects -/
theorem se_totup {p : Pos} (hK : X.K = F.G.K) (hm : X.mg "tuple" = none) (ha : SimE X F .fs a ma) (hg : Gl X "tuple" := by rfl) (he : starEach [a] X.env = (false, eval a X.env) :: starEach [] X.env := by rfl) (hpl : (backTo pos (starEach [] X.env)).any (·.1) = false := by rfl) :
    SimE X F .fs (.Call (.Name "tuple" p) [a] [] pos) (e1 gTuple ma) :=
  PEimp (pe_callTy call_tuple_of hg hm (by decide +kernel) (pa_cons ha pa_nil he) (by decide) (by decide) he hpl) fun _ _ _ => tCB1_e (o_tuple hK)
/-- [..] * n: a new list -/
def fRep (fa : En → Hs → Option (List PyData)) (b : Q1) : En → Hs → Option (List PyData) := fun env h => (fa env h).bind fun xs => (b env h).bind fun y => match y with
  | .d (.int k) => if (decide (0 ≤ k) && decide (k ≤ 10000) && decide (xs.length ≤ 1000)) = true then some (List.replicate k.toNat xs).flatten else none
  | _ => none
theorem sf_rep {a b : Expr} {fa : En → Hs → Option (List PyData)} {qb : Q1} (ha : SimF X F a fa) (hb : SimQ X F .mo b qb) : SimF X F (.BinOp a .Mult b pos) (fRep fa qb) := PEimp (pe_op op_rep ha hb) fun σ H Q ⟨env, h, A, z, R, e, k⟩ => by
  obtain ⟨xs, ex, e⟩ := bind_some e
  obtain ⟨y, ey, e⟩ := bind_some e
  refine ⟨env, h, A, xs, R, ex, fun p us H1 hp e1 hv rs => ?_⟩
  refine ⟨env, h, A, y, R.ex e1, ey, fun v H2 e2 rv => ?_⟩
  split at e
  · next m =>
    split at e
    · next hc =>
      cases e
      cases ri rv
      simp only [Bool.and_eq_true, decide_eq_true_eq] at hc
      have hl : us.length = xs.length := rs.len
      refine ⟨p, m, us, rfl, rfl, e2 _ _ hv, by omega, by omega, ?_, fun p' hp' => ?_⟩
      · rw [hl, sizeLine_eq]
        have h1 : m.toNat ≤ 10000 := by omega
        have := Nat.mul_le_mul hc.2 h1
        omega
      · have hn : H p' = none := fresh_back e1 (fresh_back e2 hp')
        exact k p' _ _ hn ((e1.trans e2).trans (Ex.new hp')) upd_same (RDs.ex (Ex.new hp') (rep_flat (RDs.ex e2 rs) m.toNat))
    · cases e
  · cases e
end
end Sm

set_option Elab.async false
set_option linter.all false
set_option maxRecDepth 100000
set_option maxHeartbeats 1000000
/-! more to read semantics with -/
namespace Sm
open PySem L2 Evl
abbrev iL (ns : List Int) : List PyData := ns.map .int
theorem one_sl : 1 ≤ sizeLine := by rw [sizeLine_eq]; omega
theorem log_small {n : Nat} (hn : n ≤ 1000000) : n.log2 < 1000 := by
  by_cases h0 : n = 0
  · subst h0; decide
  · rw [Nat.log2_lt h0]
    exact Nat.lt_of_le_of_lt hn (Nat.lt_of_lt_of_le (by decide : 1000000 < 2 ^ 20) (Nat.pow_le_pow_right (by decide) (by decide)))
theorem for_nx {vs : List Nat} {body : PyData → M1} {x : PyData} {xs : List PyData} {env env1 : En} {h h1 : Hs} {r : Option (Flo × En × Hs)} (e : body x env h = some (.nx, env1, h1)) (e2 : forGo vs body xs (wipeE env1 vs) h1 = r) : forGo vs body (x :: xs) env h = r := by
  unfold forGo
  rw [e, Option.bind_some]
  exact e2
theorem mFor_ {it : I1} {vs : List Nat} {bn : B1} {body : M1} {env : En} {h : Hs} {xs : List PyData} {r : Option (Flo × En × Hs)} (hi : it env h = some xs) (e : forGo vs (fun d env h => (bn d env).bind fun env1 => body env1 h) xs (wipeE env vs) h = r) : mFor it vs bn body env h = r := by
  unfold mFor
  rw [hi]
  exact e
theorem q2_of {g : Hs → Val → Val → Option Val} {a b : Q1} {env : En} {h : Hs} {x y : Val} {z : Option Val} (ea : a env h = some x) (eb : b env h = some y) (e : g h x y = z) : Sm.q2 g a b env h = z := by
  unfold Sm.q2
  rw [ea, Option.bind_some, eb, Option.bind_some, e]
theorem q1_of {g : Hs → Val → Option Val} {a : Q1} {env : En} {h : Hs} {x : Val} {z : Option Val} (ea : a env h = some x) (e : g h x = z) : Sm.q1 g a env h = z := by
  unfold Sm.q1
  rw [ea, Option.bind_some, e]
theorem iRngB_of {a b : Q1} {env : En} {h : Hs} {m n : Int} (ea : a env h = some (.d (.int m))) (eb : b env h = some (.d (.int n))) (m0 : -1000000 ≤ m) (m1 : m ≤ 1000000) (n0 : -1000000 ≤ n) (n1 : n ≤ 1000000) : iRngB a b env h = some ((List.range (n - m).toNat).map fun k : Nat => PyData.int (m + (k : Int))) := by
  unfold iRngB
  rw [ea, Option.bind_some, eb, Option.bind_some]
  show (if ((decide (-(2 ^ 62) ≤ m) && decide (m < 2 ^ 62)) && (decide (-(2 ^ 62) ≤ n) && decide (n < 2 ^ 62))) = true then _ else _) = _
  rw [if_pos]
  simp only [Bool.and_eq_true, decide_eq_true_eq]
  omega
section
variable {it it1 : I1} {vs vs1 : List Nat} {bn b1 : B1} {tt t1 : T1} {te : Q1} {env env1 : En} {h : Hs}
theorem catGo_map {α : Type} {F : PyData → Option (List PyData)} {f : α → PyData} {g : α → List PyData} : ∀ {xs : List α}, (∀ x ∈ xs, F (f x) = some (g x)) → catGo F (xs.map f) = some (xs.map g).flatten
  | [], _ => rfl
  | x :: xs, hs => by
    rw [List.map_cons, catGo, hs x (by simp), Option.bind_some, catGo_map fun y hy => hs y (by simp [hy])]
    rfl
theorem fLc2_map {α : Type} {f : α → PyData} {g : α → List PyData} {xs : List α} (hi : it env h = some (xs.map f)) (hs : ∀ x ∈ xs, lcOut vs bn tt vs1 it1 b1 t1 te env h (f x) = some (g x)) (hl : (xs.map g).flatten.length ≤ sizeLine) : fLc2 it vs bn tt vs1 it1 b1 t1 te env h = some (xs.map g).flatten := by
  unfold fLc2
  rw [hi, Option.bind_some, catGo_map hs, Option.bind_some, if_pos hl]
theorem lcOut_of {d : PyData} {ws ys : List PyData} (hb : bn d (wipeE env vs) = some env1) (ht : tt env1 h = some true) (hi : it1 env1 h = some ws) (hg : lcGo (lcStep vs1 b1 t1 te env1 h) ws = some ys) : lcOut vs bn tt vs1 it1 b1 t1 te env h d = some ys := by
  unfold lcOut
  rw [hb, Option.bind_some, ht, Option.bind_some, if_pos rfl]
  unfold lcIn
  rw [hi, Option.bind_some, hg]
end
theorem flat_len {α β : Type} {f : α → List β} {n : Nat} : ∀ {xs : List α}, (∀ x ∈ xs, (f x).length = n) → (xs.map f).flatten.length = xs.length * n
  | [], _ => by simp
  | x :: xs, h => by
    rw [List.map_cons, List.flatten_cons, List.length_append, h x (by simp), flat_len fun y hy => h y (by simp [hy]), List.length_cons, Nat.succ_mul, Nat.add_comm]
theorem iL_flat {α : Type} (f : α → List Int) (xs : List α) : (xs.map fun x => iL (f x)).flatten = iL (xs.map f).flatten := by
  induction xs with
  | nil => rfl
  | cons x xs ih => simp [ih]
theorem eqS {s t : Str} (b : Bool) (h : Hs) (e : (SeqAt.shaped (.str s) && SeqAt.shaped (.str t)) = true := by decide +kernel) (e2 : (s == t) = b := by decide +kernel) : gEq h (.d (.str s)) (.d (.str t)) = some (.d (.bool b)) := by
  show (if _ then some (Val.d (.bool (s == t))) else none) = _
  rw [if_pos e, e2]
theorem neS {s t : Str} (b : Bool) (h : Hs) (e : (SeqAt.shaped (.str s) && SeqAt.shaped (.str t)) = true := by decide +kernel) (e2 : (!(s == t)) = b := by decide +kernel) : gNe h (.d (.str s)) (.d (.str t)) = some (.d (.bool b)) := by
  show (if _ then some (Val.d (.bool (!(s == t)))) else none) = _
  rw [if_pos e, e2]
end Sm

set_option Elab.async false
set_option linter.all false
set_option maxRecDepth 100000
set_option maxHeartbeats 1000000
/-! what is asked behind: a small calculus to read semantics with effects -/
namespace Sm
open PySem L2 Evl
def evE (m : E1) (env : En) (h : Hs) (Q : Val → Hs → Prop) : Prop := ∃ x h', m env h = some (x, h') ∧ Q x h'
def evA (m : EA) (env : En) (h : Hs) (Q : List Val → Hs → Prop) : Prop := ∃ x h', m env h = some (x, h') ∧ Q x h'
def evF (m : EF) (env : En) (h : Hs) (Q : List PyData → Hs → Prop) : Prop := ∃ x h', m env h = some (x, h') ∧ Q x h'
def evT (m : ET) (env : En) (h : Hs) (Q : Bool → Hs → Prop) : Prop := ∃ x h', m env h = some (x, h') ∧ Q x h'
def evP (m : PA1) (env : En) (h : Hs) (Q : List Sl → Hs → Prop) : Prop := ∃ x h', m env h = some (x, h') ∧ Q x h'
def wp (m : M1) (env : En) (h : Hs) (Q : Flo → En → Hs → Prop) : Prop := ∃ r env' h', m env h = some (r, env', h') ∧ Q r env' h'
section
variable {env env1 : En} {h : Hs} {q : Q1} {f : I1} {x : Val} {xs : List PyData} {a b c : E1} {r : EA} {F : EF} {t s : ET} {g1 : Hs → Val → Option Val} {g2 : Hs → Val → Val → Option Val} {i j : Nat}
section
variable {Q : Val → Hs → Prop}
theorem evE.pq (e : q env h = some x) (k : Q x h) : evE (eQ q) env h Q := ⟨x, h, by unfold eQ; rw [e]; rfl, k⟩
theorem evE.e1 (k : evE a env h fun x h1 => ∃ z, g1 h1 x = some z ∧ Q z h1) : evE (e1 g1 a) env h Q := by
  obtain ⟨x, h1, e, z, e2, k⟩ := k
  exact ⟨z, h1, by unfold Sm.e1; rw [e, Option.bind_some, e2]; rfl, k⟩
theorem evE.e2 (k : evE a env h fun x h1 => evE b env h1 fun y h2 => ∃ z, g2 h2 x y = some z ∧ Q z h2) : evE (e2 g2 a b) env h Q := by
  obtain ⟨x, h1, e, y, h2, e2, z, e3, k⟩ := k
  exact ⟨z, h2, by unfold Sm.e2; rw [e, Option.bind_some, e2, Option.bind_some, e3]; rfl, k⟩
theorem evE.tup (k : evA r env h fun xs h1 => ∃ ds, dsOf xs = some ds ∧ ds.length ≤ 1000000 ∧ Q (.d (.tuple ds)) h1) : evE (eTup r) env h Q := by
  obtain ⟨xs, h1, e, ds, e2, hl, k⟩ := k
  exact ⟨_, h1, by unfold eTup; rw [e, Option.bind_some, e2, Option.bind_some, if_pos (by rw [sizeLine_eq]; omega)], k⟩
theorem evE.lock (k : evF F env h fun xs h1 => Q (.d (.list xs)) h1) : evE (eLock F) env h Q := by
  obtain ⟨xs, h1, e, k⟩ := k
  exact ⟨_, h1, by unfold eLock; rw [e]; rfl, k⟩
theorem evE.ite (k : evT t env h fun c h1 => if c = true then evE a env h1 Q else evE b env h1 Q) : evE (eIf t a b) env h Q := by
  obtain ⟨c, h1, e, k⟩ := k
  unfold evE eIf
  rw [e, Option.bind_some]
  by_cases hc : c = true
  · rw [if_pos hc] at k
    simp only [hc, if_true]
    exact k
  · rw [if_neg hc] at k
    simp only [hc, if_false]
    exact k
theorem evE.nl (k : evE a env h fun x h1 => (∃ d, x = .d d ∧ nl d = true) ∧ Q x h1) : evE (enl a) env h Q := by
  obtain ⟨x, h1, e, ⟨d, rfl, e2⟩, k⟩ := k
  refine ⟨_, h1, ?_, k⟩
  unfold enl
  rw [e, Option.bind_some]
  exact if_pos e2
theorem evE.call {g : List Val → Hs → Option (Val × Hs)} (k : evA r env h fun xs h1 => ∃ y h2, g xs h1 = some (y, h2) ∧ Q y h2) : evE (eCall g r) env h Q := by
  obtain ⟨xs, h1, e, y, h2, e2, k⟩ := k
  exact ⟨y, h2, by unfold eCall; rw [e, Option.bind_some, e2], k⟩
end
section
variable {Q : List Val → Hs → Prop}
theorem evA.nil (k : Q [] h) : evA eNil env h Q := ⟨[], h, rfl, k⟩
theorem evA.cons (k : evE a env h fun x h1 => evA r env h1 fun xs h2 => Q (x :: xs) h2) : evA (eCons a r) env h Q := by
  obtain ⟨x, h1, e, xs, h2, e2, k⟩ := k
  exact ⟨x :: xs, h2, by unfold eCons; rw [e, Option.bind_some, e2]; rfl, k⟩
end
section
variable {Q : List PyData → Hs → Prop}
theorem evF.pf (e : f env h = some xs) (k : Q xs h) : evF (eF f) env h Q := ⟨xs, h, by unfold eF; rw [e]; rfl, k⟩
theorem evF.cat (k : evE a env h fun x h1 => evE b env h1 fun y h2 => ∃ z, gCat h2 x y = some z ∧ Q z h2) : evF (ef2 gCat a b) env h Q := by
  obtain ⟨x, h1, e, y, h2, e2, z, e3, k⟩ := k
  exact ⟨z, h2, by unfold Sm.ef2; rw [e, Option.bind_some, e2, Option.bind_some, e3]; rfl, k⟩
theorem evF.lst (k : evA r env h fun xs h1 => ∃ ds, dsOf xs = some ds ∧ ds.length ≤ 1000000 ∧ nlAll ds = true ∧ Q ds h1) : evF (efLst r) env h Q := by
  obtain ⟨xs, h1, e, ds, e2, hl, hn, k⟩ := k
  exact ⟨_, h1, by unfold efLst; rw [e, Option.bind_some, e2, Option.bind_some, if_pos ⟨by rw [sizeLine_eq]; omega, hn⟩], k⟩
theorem lcGoE_inv {step : PyData → Hs → Option (Option PyData × Hs)} (R : PyData → Prop) (P : Hs → Prop) : ∀ {xs : List PyData} {h : Hs}, P h → (∀ x ∈ xs, ∀ h, P h → ∃ y h', step x h = some (some y, h') ∧ P h' ∧ R y) → ∃ ys h', lcGoE step xs h = some (ys, h') ∧ P h' ∧ ys.length = xs.length ∧ ∀ y ∈ ys, R y
  | [], h, hp, _ => ⟨[], h, rfl, hp, rfl, fun y hy => by simp at hy⟩
  | x :: xs, h, hp, hs => by
    obtain ⟨y, h1, e1, i1, q1⟩ := hs x (by simp) h hp
    obtain ⟨ys, h2, e2, i2, l2, q2⟩ := lcGoE_inv R P i1 fun z hz => hs z (List.mem_cons_of_mem _ hz)
    refine ⟨y :: ys, h2, ?_, i2, by simp [l2], fun z hz => ?_⟩
    · unfold lcGoE
      rw [e1, Option.bind_some, e2]
      rfl
    · rcases List.mem_cons.mp hz with rfl | hz
      · exact q1
      · exact q2 z hz
theorem evF.lc {it : IE} {vs : List Nat} {bn : B1} {te : E1} (R : PyData → Prop) (P : Hs → Prop) {h1 : Hs} (hi : it env h = some (xs, h1)) (hp : P h1) (hl : xs.length ≤ 1000000)
    (hs : ∀ x ∈ xs, ∀ h, P h → ∃ env1, bn x (wipeE env vs) = some env1 ∧ evE te env1 h fun y h' => ∃ d, y = .d d ∧ P h' ∧ R d)
    (k : ∀ ys h', ys.length = xs.length → (∀ y ∈ ys, R y) → P h' → Q ys h') : evF (efLc it vs bn tTrue te) env h Q := by
  obtain ⟨ys, h2, e, p2, l2, r2⟩ := lcGoE_inv (step := lcStepE vs bn tTrue te env) R P hp (fun x hx h hp => by
    obtain ⟨env1, e1, y, h', e2, d, rfl, p, r⟩ := hs x hx h hp
    refine ⟨d, h', ?_, p, r⟩
    unfold lcStepE
    rw [e1, Option.bind_some]
    show ((te env1 h).bind _) = _
    rw [e2]
    rfl)
  refine ⟨ys, h2, ?_, k ys h2 l2 r2 p2⟩
  unfold efLc
  rw [hi, Option.bind_some, e, Option.bind_some]
  exact if_pos (by rw [sizeLine_eq]; show ys.length ≤ _; omega)
end
theorem rngE_of {h1 : Hs} {n : Int} (e : a env h = some (.d (.int n), h1)) (h0 : -1000000 ≤ n) (h2 : n ≤ 1000000) : iRngE a env h = some ((List.range n.toNat).map (fun k : Nat => PyData.int (k : Int)), h1) := iRngE_of e h0 h2
section
variable {Q : Bool → Hs → Prop}
theorem evT.pt {t : T1} {b : Bool} (e : t env h = some b) (k : Q b h) : evT (eT t) env h Q := ⟨b, h, by unfold eT; rw [e]; rfl, k⟩
theorem evT.v (k : evE a env h fun x h1 => ∃ d b, x = .d d ∧ gTru d = some b ∧ Q b h1) : evT (etV a) env h Q := by
  obtain ⟨x, h1, e, d, b, rfl, e2, k⟩ := k
  refine ⟨b, h1, ?_, k⟩
  unfold etV
  rw [e, Option.bind_some]
  simp only [e2, Option.bind_some]
theorem evT.not (k : evT t env h fun b h1 => Q (!b) h1) : evT (eNot t) env h Q := by
  obtain ⟨b, h1, e, k⟩ := k
  exact ⟨_, h1, by unfold eNot; rw [e]; rfl, k⟩
theorem evT.and (k : evT t env h fun c h1 => if c = true then evT s env h1 Q else Q false h1) : evT (eAnd t s) env h Q := by
  obtain ⟨c, h1, e, k⟩ := k
  unfold evT eAnd
  rw [e, Option.bind_some]
  cases c
  · exact ⟨false, h1, rfl, k⟩
  · exact k
theorem evT.or (k : evT t env h fun c h1 => if c = true then Q true h1 else evT s env h1 Q) : evT (eOr t s) env h Q := by
  obtain ⟨c, h1, e, k⟩ := k
  unfold evT eOr
  rw [e, Option.bind_some]
  cases c
  · exact k
  · exact ⟨true, h1, rfl, k⟩
end
section
variable {Q : List Sl → Hs → Prop} {p : PA1}
theorem evP.nil (k : Q [] h) : evP pNil env h Q := ⟨[], h, rfl, k⟩
theorem evP.v (k : evE a env h fun x h1 => evP p env h1 fun ss h2 => Q (.v x :: ss) h2) : evP (pV a p) env h Q := by
  obtain ⟨x, h1, e, xs, h2, e2, k⟩ := k
  exact ⟨_, h2, by unfold pV; rw [e, Option.bind_some, e2]; rfl, k⟩
theorem evP.l (k : evF F env h fun x h1 => evP p env h1 fun ss h2 => Q (.l x :: ss) h2) : evP (pL F p) env h Q := by
  obtain ⟨x, h1, e, xs, h2, e2, k⟩ := k
  exact ⟨_, h2, by unfold pL; rw [e, Option.bind_some, e2]; rfl, k⟩
end
section
variable {Q : Flo → En → Hs → Prop} {A B : M1} {t : T1} {te : ET} {d : PyData} {bn : B1} {p : PA1} {ℓ : Lv}
theorem wp.seq (k : wp A env h fun r e h => (r = .nx → wp B e h Q) ∧ (r ≠ .nx → Q r e h)) : wp (mSeq A B) env h Q := by
  obtain ⟨r, e1, h1, e, k1, k2⟩ := k
  by_cases hr : r = .nx
  · subst hr
    obtain ⟨r2, e2, h2, e', k⟩ := k1 rfl
    exact ⟨r2, e2, h2, (seq_nx e).trans e', k⟩
  · refine ⟨r, e1, h1, ?_, k2 hr⟩
    unfold mSeq
    rw [e, Option.bind_some]
    cases r <;> first | rfl | exact absurd rfl hr
/-- a statement that goes on -/
theorem wp.sq (k : wp A env h fun r e h => r = .nx ∧ wp B e h Q) : wp (mSeq A B) env h Q := by
  obtain ⟨r, e1, h1, e, rfl, r2, e2, h2, e', k⟩ := k
  exact ⟨r2, e2, h2, (seq_nx e).trans e', k⟩
theorem wp.nx (k : Q .nx env h) : wp mNx env h Q := ⟨_, _, _, rfl, k⟩
theorem wp.of {r : Flo} {h1 : Hs} (e : A env h = some (r, env1, h1)) (k : Q r env1 h1) : wp A env h Q := ⟨_, _, _, e, k⟩
theorem wp.set (e : q env h = some x) (k : Q .nx (env.set i (.v x)) h) : wp (mSet i q) env h Q := ⟨_, _, _, by unfold mSet; rw [e]; rfl, k⟩
theorem wp.setO (e : f env h = some xs) (k : Q .nx (env.set i (.l xs)) h) : wp (mSetO i f) env h Q := ⟨_, _, _, by unfold mSetO; rw [e]; rfl, k⟩
theorem wp.setE (k : evE a env h fun x h1 => Q .nx (env.set i (.v x)) h1) : wp (mSetE i a) env h Q := by
  obtain ⟨x, h1, e, k⟩ := k
  exact ⟨_, _, _, by unfold mSetE; rw [e]; rfl, k⟩
theorem wp.setOE (k : evF F env h fun x h1 => Q .nx (env.set i (.l x)) h1) : wp (mSetOE i F) env h Q := by
  obtain ⟨x, h1, e, k⟩ := k
  exact ⟨_, _, _, by unfold mSetOE; rw [e]; rfl, k⟩
theorem wp.asg (e : q env h = some (.d d)) (e2 : bn d env = some env1) (k : Q .nx env1 h) : wp (mAsg q bn) env h Q := ⟨_, _, _, by unfold mAsg; rw [e, Option.bind_some]; show Option.bind (some d) _ = _; rw [Option.bind_some, e2]; rfl, k⟩
theorem wp.asgE (k : evE a env h fun x h1 => ∃ d env1, x = .d d ∧ bn d env = some env1 ∧ Q .nx env1 h1) : wp (mAsgE a bn) env h Q := by
  obtain ⟨x, h1, e, d, env1, rfl, e2, k⟩ := k
  exact ⟨_, _, _, by unfold mAsgE; rw [e, Option.bind_some]; show Option.bind (some d) _ = _; rw [Option.bind_some, e2]; rfl, k⟩
theorem wp.par2 (k : evP p env h fun ss h1 => ∃ s t, ss = [s, t] ∧ Q .nx ((env.set i s).set j t) h1) : wp (mPar2 i j p) env h Q := by
  obtain ⟨ss, h1, e, s, t, rfl, k⟩ := k
  exact ⟨_, _, _, by unfold mPar2; rw [e]; rfl, k⟩
theorem wp.no (e : t env h = some false) (k : wp B env h Q) : wp (mIf t A B) env h Q := by
  obtain ⟨r, e1, h1, e', k⟩ := k
  exact ⟨r, e1, h1, if_f e e', k⟩
theorem wp.yes (e : t env h = some true) (k : wp A env h Q) : wp (mIf t A B) env h Q := by
  obtain ⟨r, e1, h1, e', k⟩ := k
  exact ⟨r, e1, h1, if_t e e', k⟩
theorem wp.ite {c : Bool} (e : t env h = some c) (k1 : c = true → wp A env h Q) (k2 : c = false → wp B env h Q) : wp (mIf t A B) env h Q := by
  cases c
  · exact .no e (k2 rfl)
  · exact .yes e (k1 rfl)
theorem wp.iteE (k : evT te env h fun c h1 => (c = true → wp A env h1 Q) ∧ (c = false → wp B env h1 Q)) : wp (mIfE te A B) env h Q := by
  obtain ⟨c, h1, e, k1, k2⟩ := k
  cases c
  · obtain ⟨r, e1, h2, e', k⟩ := k2 rfl
    exact ⟨r, e1, h2, ife_f e e', k⟩
  · obtain ⟨r, e1, h2, e', k⟩ := k1 rfl
    exact ⟨r, e1, h2, ife_t e e', k⟩
theorem wp.ret (e : q env h = some x) (k : Q (.rt ℓ x) env h) : wp (mRet ℓ q) env h Q := ⟨_, _, _, ret_q e, k⟩
theorem wp.retE (k : evE a env h fun x h1 => Q (.rt ℓ x) env h1) : wp (mRetE ℓ a) env h Q := by
  obtain ⟨x, h1, e, k⟩ := k
  exact ⟨_, _, _, by unfold mRetE; rw [e]; rfl, k⟩
theorem wp.app (e : env[i]? = some (.l xs)) (hl : xs.length < 1000000) (k : evE a env h fun x h1 => ∃ d, x = .d d ∧ Q .nx (env.set i (.l (xs ++ [d]))) h1) : wp (mAppE i a) env h Q := by
  obtain ⟨x, h1, e1, d, rfl, k⟩ := k
  refine ⟨_, _, _, ?_, k⟩
  unfold mAppE
  simp only [e, e1, Option.bind_some, dOf]
  rw [if_pos (by rw [sizeLine_eq]; omega)]
/-- a loop that goes through: what stands at each turn -/
theorem wp.for {it : I1} {vs : List Nat} (I : Nat → En → Hs → Prop) (hi : it env h = some xs) (h0 : I 0 (wipeE env vs) h)
    (hs : ∀ j x e h, xs[j]? = some x → I j e h → ∃ e1, bn x e = some e1 ∧ wp A e1 h fun r e2 h2 => (r = .nx ∨ r = .ct) ∧ I (j + 1) (wipeE e2 vs) h2)
    (k : ∀ e h, I xs.length e h → Q .nx e h) : wp (mFor it vs bn A) env h Q := by
  obtain ⟨e', h', e1, i1⟩ := for_all (vs := vs) (body := fun d env h => (bn d env).bind fun env1 => A env1 h) I h0 (fun j x env h hx hI => by
    obtain ⟨e1, b1, r, e2, h2, e3, c, i2⟩ := hs j x env h hx hI
    exact ⟨r, e2, h2, by rw [b1]; exact e3, c, i2⟩)
  exact ⟨_, _, _, mFor_ hi e1, k _ _ i1⟩
end
theorem map_of {α : Type} {f : α → PyData} {p : α → Prop} : ∀ {ys : List PyData}, (∀ y ∈ ys, ∃ a, y = f a ∧ p a) → ∃ as : List α, ys = as.map f ∧ ∀ a ∈ as, p a
  | [], _ => ⟨[], rfl, fun a ha => by simp at ha⟩
  | y :: ys, h => by
    obtain ⟨a, rfl, pa⟩ := h y (by simp)
    obtain ⟨as, rfl, pas⟩ := map_of (ys := ys) fun z hz => h z (List.mem_cons_of_mem _ hz)
    exact ⟨a :: as, rfl, fun b hb => by rcases List.mem_cons.mp hb with rfl | hb; exact pa; exact pas b hb⟩
end
end Sm

set_option Elab.async false
set_option linter.all false
set_option maxRecDepth 100000
set_option maxHeartbeats 1000000
/-! < <= > >= of texts, and of tuples whose unlike places are whole numbers or texts -/
namespace Sm
open PySem L2 Evl
inductive Co where
  | lt | le | gt | ge
def Co.op : Co → CmpOp
  | .lt => .Lt | .le => .LtE | .gt => .Gt | .ge => .GtE
def Co.i : Co → Int → Int → Bool
  | .lt, a, b => decide (a < b) | .le, a, b => decide (a ≤ b) | .gt, a, b => decide (b < a) | .ge, a, b => decide (b ≤ a)
def Co.s : Co → Str → Str → Bool
  | .lt, a, b => decide (a.cps.toList < b.cps.toList) | .le, a, b => !decide (b.cps.toList < a.cps.toList) | .gt, a, b => decide (b.cps.toList < a.cps.toList) | .ge, a, b => !decide (a.cps.toList < b.cps.toList)
def Co.n : Co → Nat → Nat → Bool
  | .lt, a, b => decide (a < b) | .le, a, b => decide (a ≤ b) | .gt, a, b => decide (a > b) | .ge, a, b => decide (a ≥ b)
def cmp0 (o : Co) : PyData → PyData → Option Bool
  | .int i, .int j => some (o.i i j)
  | .str s, .str t => some (o.s s t)
  | _, _ => none
def cmpT (o : Co) : List PyData → List PyData → Option Bool
  | x :: xs, y :: ys => (cmpT o xs ys).bind fun r => if PyData.eqv x y = true then some r else cmp0 o x y
  | xs, ys => some (o.n xs.length ys.length)
def cmpG (o : Co) : PyData → PyData → Option Bool
  | .tuple xs, .tuple ys => if (SeqAt.shaped (.tuple xs) && SeqAt.shaped (.tuple ys)) = true then cmpT o xs ys else none
  | x, y => cmp0 o x y
section
open SeqAt
theorem rc_at {o : Co} {A : Around} {s : Shared} {a b : Value} {k : Bool} (h : ∀ (prog : Program) (w : World) (E : Value → Shared → Prop) (Q : Value → Shared → Prop), Q (.bool k) s → wpAny (model prog w) A (compareOp o.op a b) Q E s) : Ob.RcOp o.op A s a b k := by
  cases o <;> exact h
theorem rc_0 {o : Co} {A : Around} {s : Shared} {x y : PyData} {a b : Value} {as bs : List Addr} {k : Bool} (ra : Reads s.heap a x as) (rb : Reads s.heap b y bs) (e : cmp0 o x y = some k) : Ob.RcOp o.op A s a b k := by
  unfold cmp0 at e
  split at e
  · next i j =>
    cases e
    cases ra; cases rb
    cases o
    · exact Ob.RcOp.lt_int _ _ _ _
    · exact Ob.RcOp.le_int _ _ _ _
    · exact Ob.RcOp.gt_int _ _ _ _
    · exact Ob.RcOp.ge_int _ _ _ _
  · next i j =>
    cases e
    cases ra; cases rb
    cases o
    · exact fun _ _ _ _ h => PySem.P.lt_str h
    · exact fun _ _ _ _ h => PySem.P.le_str h
    · exact fun _ _ _ _ h => PySem.P.gt_str h
    · exact fun _ _ _ _ h => PySem.P.ge_str h
  · cases e
theorem lex_shift (e r : Nat → Bool) (z : Bool) : ∀ n i, Ob.lexAt (fun j => e (j + 1)) (fun j => r (j + 1)) z i n = Ob.lexAt e r z (i + 1) n
  | 0, i => rfl
  | n + 1, i => by rw [Ob.lexAt_succ, Ob.lexAt_succ, lex_shift e r z n (i + 1)]
def rOf (o : Co) (xs ys : List PyData) (j : Nat) : Bool := ((cmp0 o (xs.getD j .none) (ys.getD j .none)).getD false)
theorem n_succ {o : Co} (a b : Nat) : o.n (a + 1) (b + 1) = o.n a b := by cases o <;> simp [Co.n]
theorem lex_of {o : Co} : ∀ {xs ys : List PyData} {k : Bool}, cmpT o xs ys = some k → Ob.lexAt (pairEq xs ys) (rOf o xs ys) (o.n xs.length ys.length) 0 (min xs.length ys.length) = k ∧
    ∀ j, j < xs.length → j < ys.length → pairEq xs ys j = false → cmp0 o (xs.getD j .none) (ys.getD j .none) = some (rOf o xs ys j)
  | [], ys, k, e => by
    cases e
    exact ⟨by simp [Ob.lexAt], fun j h => by simp at h⟩
  | x :: xs, [], k, e => by
    cases e
    exact ⟨by simp [Ob.lexAt], fun j _ h => by simp at h⟩
  | x :: xs, y :: ys, k, e => by
    obtain ⟨r, e1, e⟩ := bind_some e
    obtain ⟨i1, i2⟩ := lex_of e1
    have pe : ∀ j, pairEq (x :: xs) (y :: ys) (j + 1) = pairEq xs ys j := fun j => rfl
    have p0 : pairEq (x :: xs) (y :: ys) 0 = PyData.eqv x y := rfl
    have re : ∀ j, rOf o (x :: xs) (y :: ys) (j + 1) = rOf o xs ys j := fun j => rfl
    have r0 : rOf o (x :: xs) (y :: ys) 0 = (cmp0 o x y).getD false := rfl
    have hm : min (x :: xs).length (y :: ys).length = min xs.length ys.length + 1 := by simp only [List.length_cons]; omega
    refine ⟨?_, fun j h1 h2 hp => ?_⟩
    · rw [hm, Ob.lexAt_succ, p0, r0, ← lex_shift]
      simp only [pe, re, List.length_cons, n_succ]
      split at e
      · next hq => rw [if_pos hq]; cases e; exact i1
      · next hq => rw [if_neg hq, e]; rfl
    · cases j with
      | zero =>
        rw [p0] at hp
        rw [if_neg (by rw [hp]; decide)] at e
        show cmp0 o x y = some ((cmp0 o x y).getD false)
        rw [e]; rfl
      | succ j =>
        simp only [List.length_cons] at h1 h2
        exact i2 j (by omega) (by omega) hp
theorem readsAll_len {h : Heap} : ∀ {vs : List Value} {xs : List PyData} {as : List Addr}, ReadsAll h vs xs as → vs.length = xs.length
  | [], [], _, _ => rfl
  | _ :: _, _ :: _, _, .cons _ t => by rw [List.length_cons, List.length_cons, readsAll_len t]
theorem readsAll_at {h : Heap} : ∀ {vs : List Value} {xs : List PyData} {as : List Addr}, ReadsAll h vs xs as → ∀ j (h1 : j < vs.length), ∃ bs, Reads h vs[j] (xs.getD j .none) bs
  | _ :: _, _ :: _, _, .cons r t, 0, _ => ⟨_, r⟩
  | _ :: _, _ :: _, _, .cons r t, j + 1, h1 => readsAll_at t j (by simpa using h1)
theorem reads_tup {h : Heap} {v : Value} {xs : List PyData} {as : List Addr} (r : Reads h v (.tuple xs) as) : ∃ l o vs n, v = .ref l ∧ h.get? l = some o ∧ o.cls = .type "tuple" ∧ o.data = .seq vs n ∧ ReadsAll h vs.toList xs as := by
  cases r with
  | tuple a b c d => exact ⟨_, _, _, _, rfl, a, b, c, d⟩
theorem rc_g {o : Co} {A : Around} {s : Shared} {x y : PyData} {a b : Value} {as bs : List Addr} {k : Bool} (ra : Reads s.heap a x as) (rb : Reads s.heap b y bs) (hu : A.units + 64 < cLine) (e : cmpG o x y = some k) : Ob.RcOp o.op A s a b k := by
  unfold cmpG at e
  split at e
  · next xs ys =>
    split at e
    · next hs =>
      rw [Bool.and_eq_true] at hs
      obtain ⟨i1, i2⟩ := lex_of e
      obtain ⟨l1, o1, v1, n1, rfl, ha, hca, hda, rsa⟩ := reads_tup ra
      obtain ⟨l2, o2, v2, n2, rfl, hb, hcb, hdb, rsb⟩ := reads_tup rb
      have la := readsAll_len rsa
      have lb := readsAll_len rsb
      have c1 := SeqAt.canLay_of_shaped hs.1
      have c2 := SeqAt.canLay_of_shaped hs.2
      have d1 := SeqAt.depth_of_shaped hs.1
      have d2 := SeqAt.depth_of_shaped hs.2
      rw [PyData.depth] at d1 d2
      have hu' : A.units < cLine := by omega
      have he : ∀ j (h1 : j < v1.size) (h2 : j < v2.size), EqAt A.in1 s v1[j] v2[j] (pairEq xs ys j) := fun j h1 h2 =>
        SeqAt.eqAt_readsAll xs ys A.in1 s v1.toList v2.toList _ _ rsa rsb c1 c2 (by show A.units + 1 + _ < _; omega) j (by simpa using h1) (by simpa using h2)
      have hr : ∀ j (h1 : j < v1.size) (h2 : j < v2.size), pairEq xs ys j = false → Ob.RcOp o.op A.in1 s v1[j] v2[j] (rOf o xs ys j) := fun j h1 h2 hp => by
        obtain ⟨_, q1⟩ := readsAll_at rsa j (by simpa using h1)
        obtain ⟨_, q2⟩ := readsAll_at rsb j (by simpa using h2)
        exact rc_0 q1 q2 (i2 j (by rw [← la]; simpa using h1) (by rw [← lb]; simpa using h2) hp)
      have e1 : v1.size = xs.length := by rw [← la]; simp
      have e2 : v2.size = ys.length := by rw [← lb]; simp
      have t1 : s.heap.IsTuple _ v1 := ⟨_, ha, hca, _, hda⟩
      have t2 : s.heap.IsTuple _ v2 := ⟨_, hb, hcb, _, hdb⟩
      rw [← i1]
      cases o
      · have z := Ob.RcOp.tuples_lt t1 t2 hu' he hr
        rw [e1, e2] at z; exact z
      · have z := Ob.RcOp.tuples_le t1 t2 hu' he hr
        rw [e1, e2] at z; exact z
      · have z := Ob.RcOp.tuples_gt t1 t2 hu' he hr
        rw [e1, e2] at z; exact z
      · have z := Ob.RcOp.tuples_ge t1 t2 hu' he hr
        rw [e1, e2] at z; exact z
    · cases e
  · exact rc_0 ra rb e
end
def rCmp (o : Co) (K : PySem.W.Frag) : R2 := fun x y H Q => ∃ d e k, Dp K H x d ∧ Dp K H y e ∧ cmpG o d e = some k ∧ Q (.bl k) H
theorem op_cmp {X : Cx} (o : Co) (hu : X.A.units + 64 < cLine) : OpR X (compareOp o.op) (rCmp o X.K) := by
  intro pins s σ H x y v u Q I rx ry ⟨d, e, k, hd, he, hc, q⟩
  obtain ⟨as, r1⟩ := Dp.reads I d x v hd rx
  obtain ⟨bs, r2⟩ := Dp.reads I e y u he ry
  have z := rc_g r1 r2 hu hc X.prog X.w X.xe (EP X pins σ Q) ⟨.bl _, H, I, rfl, q⟩
  cases o <;> exact z
/-- < and its like -/
def gCo (o : Co) : Hs → Val → Val → Option Val := fun _ x y => match x, y with
  | .d a, .d b => (cmpG o a b).bind fun k => some (.d (.bool k))
  | _, _ => none
section
variable {F : Fm} {X : Cx} {ℓ : Lv}
theorem o_co (o : Co) (hK : X.K = F.G.K) (hu : X.A.units + 64 < cLine) : BinS X F .mo .mo ℓ (compareOp o.op) (gCo o) := ⟨_, op_cmp o hu, by
  intro env h A σ H x y v u z R rx ry e Q k
  unfold gCo at e
  split at e
  · next a b =>
    obtain ⟨c, e1, e⟩ := bind_some e
    cases e
    rw [hK]
    exact ⟨a, b, c, Rep.dp a v rx, Rep.dp b u ry, e1, k _ H (Ex.refl H) vb⟩
  · cases e⟩
theorem o_ltG (hK : X.K = F.G.K) (hu : X.A.units + 64 < cLine) : BinS X F .mo .mo ℓ (compareOp .Lt) (gCo .lt) := o_co .lt hK hu
theorem o_leG (hK : X.K = F.G.K) (hu : X.A.units + 64 < cLine) : BinS X F .mo .mo ℓ (compareOp .LtE) (gCo .le) := o_co .le hK hu
theorem o_gtG (hK : X.K = F.G.K) (hu : X.A.units + 64 < cLine) : BinS X F .mo .mo ℓ (compareOp .Gt) (gCo .gt) := o_co .gt hK hu
theorem o_geG (hK : X.K = F.G.K) (hu : X.A.units + 64 < cLine) : BinS X F .mo .mo ℓ (compareOp .GtE) (gCo .ge) := o_co .ge hK hu
theorem gCo_b {o : Co} : ∀ h x y z, gCo o h x y = some z → ∃ k, z = .d (.bool k) := by
  intro h x y z e
  unfold gCo at e
  split at e
  · obtain ⟨c, _, e⟩ := bind_some e
    cases e; exact ⟨_, rfl⟩
  · cases e
end
end Sm

set_option Elab.async false
set_option linter.all false
set_option maxRecDepth 100000
set_option maxHeartbeats 1000000
/-! abs, list.index, min and max of data, sorted keys of a dict, lists taken apart, chains of data, list if-else with effects -/
namespace Sm
open PySem L2 Evl
/-! ### texts in order -/
abbrev sLt (a b : Str) : Prop := a.cps.toList < b.cps.toList
theorem str_ext {a b : Str} (h : a.cps.toList = b.cps.toList) : a = b := by
  cases a; cases b
  simp only [Str.mk.injEq]
  exact Array.toList_inj.mp h
theorem sLt_irr (a : Str) : ¬ sLt a a := List.lt_irrefl _
theorem sLt_trans {a b c : Str} (h1 : sLt a b) (h2 : sLt b c) : sLt a c := List.lt_trans h1 h2
theorem sLt_tri {a b : Str} (h1 : ¬ sLt a b) (h2 : a ≠ b) : sLt b a := by
  by_cases h3 : sLt b a
  · exact h3
  · exact absurd (str_ext (List.le_antisymm (List.not_lt.mp h3) (List.not_lt.mp h1))) h2
def insS (x : Str) : List Str → List Str
  | [] => [x]
  | y :: ys => if sLt x y then x :: y :: ys else if x = y then y :: ys else y :: insS x ys
def strU : List Str → List Str
  | [] => []
  | x :: xs => insS x (strU xs)
theorem mem_insS {x y : Str} : ∀ {xs : List Str}, y ∈ insS x xs ↔ y = x ∨ y ∈ xs
  | [] => by simp [insS]
  | z :: zs => by
    unfold insS
    split
    · simp
    · split
      · next h => subst h; simp
      · simp only [List.mem_cons, mem_insS (xs := zs)]
        constructor
        · rintro (a | a | a) <;> simp [a]
        · rintro (a | a | a) <;> simp [a]
theorem mem_strU {y : Str} : ∀ {xs : List Str}, y ∈ strU xs ↔ y ∈ xs
  | [] => by simp [strU]
  | x :: xs => by rw [strU, mem_insS, mem_strU, List.mem_cons]
theorem asc_insS {x : Str} : ∀ {xs : List Str}, xs.Pairwise sLt → (insS x xs).Pairwise sLt
  | [], _ => by simp [insS]
  | z :: zs, h => by
    have h2 := List.pairwise_cons.mp h
    unfold insS
    split
    · next q =>
      refine List.pairwise_cons.mpr ⟨fun y hy => ?_, h⟩
      rcases List.mem_cons.mp hy with rfl | hy
      · exact q
      · exact sLt_trans q (h2.1 y hy)
    · split
      · exact h
      · next q1 q2 =>
        refine List.pairwise_cons.mpr ⟨fun y hy => ?_, asc_insS h2.2⟩
        rcases mem_insS.mp hy with rfl | hy
        · exact sLt_tri q1 q2
        · exact h2.1 y hy
theorem asc_strU : ∀ xs : List Str, (strU xs).Pairwise sLt
  | [] => by simp [strU]
  | x :: xs => asc_insS (asc_strU xs)
theorem strs_uniq : ∀ {xs ys : List Str}, xs.Pairwise sLt → ys.Pairwise sLt → (∀ k, k ∈ xs ↔ k ∈ ys) → xs = ys
  | [], [], _, _, _ => rfl
  | [], y :: ys, _, _, h => absurd ((h y).mpr (by simp)) (by simp)
  | x :: xs, [], _, _, h => absurd ((h x).mp (by simp)) (by simp)
  | x :: xs, y :: ys, h1, h2, h => by
    have a1 := List.pairwise_cons.mp h1
    have a2 := List.pairwise_cons.mp h2
    have exy : x = y := by
      rcases List.mem_cons.mp ((h x).mp (by simp)) with e | e
      · exact e
      · rcases List.mem_cons.mp ((h y).mpr (by simp)) with e' | e'
        · exact e'.symm
        · exact absurd (sLt_trans (a1.1 y e') (a2.1 x e)) (sLt_irr x)
    subst exy
    congr 1
    refine strs_uniq a1.2 a2.2 fun k => ⟨fun q => ?_, fun q => ?_⟩
    · rcases List.mem_cons.mp ((h k).mp (List.mem_cons_of_mem _ q)) with e | e
      · subst e; exact absurd (a1.1 k q) (sLt_irr k)
      · exact e
    · rcases List.mem_cons.mp ((h k).mpr (List.mem_cons_of_mem _ q)) with e | e
      · subst e; exact absurd (a2.1 k q) (sLt_irr k)
      · exact e
theorem nodup_strs {xs : List Str} (h : xs.Pairwise sLt) : xs.Nodup := h.imp fun {a b} z e => by subst e; exact sLt_irr a z
theorem ltCps_iff : ∀ {a b : List Nat}, PySem.Spec.ltCps a b = true ↔ a < b
  | [], [] => by simp [PySem.Spec.ltCps]
  | [], _ :: _ => by simp [PySem.Spec.ltCps]
  | _ :: _, [] => by simp [PySem.Spec.ltCps]
  | x :: xs, y :: ys => by
    rw [List.cons_lt_cons_iff, ← ltCps_iff (a := xs) (b := ys)]
    by_cases h1 : x = y
    · subst h1
      simp [PySem.Spec.ltCps]
    · by_cases h2 : x < y <;> simp [PySem.Spec.ltCps, h1, h2] <;> omega
theorem rising_le : ∀ {xs : List Str} {p : Str}, PyProof.Rows.risingS p xs = true → (∀ y ∈ xs, ¬ sLt y p) ∧ xs.Pairwise fun a b => ¬ sLt b a
  | [], _, _ => ⟨fun y h => by simp at h, .nil⟩
  | x :: xs, p, h => by
    have h' : (!PySem.Spec.ltCps x.cps.toList p.cps.toList && PyProof.Rows.risingS x xs) = true := h
    rw [Bool.and_eq_true] at h'
    have h1 : ¬ sLt x p := by
      intro z
      have : PySem.Spec.ltCps x.cps.toList p.cps.toList = true := ltCps_iff.mpr z
      rw [this] at h'
      exact absurd h'.1 (by decide)
    obtain ⟨i1, i2⟩ := rising_le h'.2
    refine ⟨fun y hy => ?_, List.pairwise_cons.mpr ⟨i1, i2⟩⟩
    rcases List.mem_cons.mp hy with rfl | hy
    · exact h1
    · intro z
      have := i1 y hy
      by_cases e : y = x
      · subst e; exact h1 z
      · exact h1 (sLt_trans (sLt_tri this e) z)
theorem sorted_le {xs : List Str} (h : PyProof.Rows.sortedS xs = true) : xs.Pairwise fun a b => ¬ sLt b a := by
  cases xs with
  | nil => exact .nil
  | cons x xs =>
    obtain ⟨a, b⟩ := rising_le h
    exact List.pairwise_cons.mpr ⟨a, b⟩
theorem sorted_asc {xs : List Str} (h : PyProof.Rows.sortedS xs = true) (n : xs.Nodup) : xs.Pairwise sLt :=
  (List.Pairwise.and (sorted_le h) n).imp fun {a b} z => by
    by_cases q : sLt a b
    · exact q
    · exact absurd (sLt_tri q z.2) z.1
/-! ### the operations -/
theorem PGor {X : Cx} {e : Expr} {t t' : TG} (h : PG X e t) (h' : PG X e t') : PG X e (fun v σ H Q => t v σ H Q ∨ t' v σ H Q) := ⟨fun pins s σ H v u Q I r q => q.elim (h.run pins s σ H v u Q I r) (h'.run pins s σ H v u Q I r)⟩
section
variable {F : Fm} {X : Cx} {tg a b c e o : Expr} {es rest : List Expr} {pos pos2 p p1 p2 apos : Pos} {ℓ : Lv} {qa qb qc qo : Q1} {env : En} {h h' : Hs} {A A' : As} {σ : L2.St} {H H' : Hp} {ss : List Nat} {ma mb : E1} {fa fb : EF}
def gAbs : Hs → Val → Option Val := fun _ x => match x with
  | .d (.int i) => some (.d (.int (if i < 0 then -i else i)))
  | _ => none
theorem sq_abs {ℓ₁ : Lv} (hm : X.mg "abs" = none) (ha : SimQ X F ℓ₁ a qa) (hg : Gl X "abs" := by rfl)
    (he : starEach [a] X.env = (false, eval a X.env) :: starEach [] X.env := by rfl) (hpl : (backTo pos (starEach [] X.env)).any (·.1) = false := by rfl) : SimQ X F ℓ (.Call (.Name "abs" p) [a] [] pos) (q1 gAbs qa) :=
  sq_b1 call_abs (by
    intro env h A σ H x v z R rx e Q k
    unfold gAbs at e
    split at e
    · next i =>
      cases e
      cases ri rx
      exact ⟨i, rfl, k _ H (Ex.refl H) vi⟩
    · cases e) hm (by decide +kernel) ha hg (by decide) (by decide) he hpl
/-- a tuple, or a list, taken apart -/
def bTupX (n : Nat) (r : Bs) : B1 := fun d env => match d with
  | .tuple ds => if ds.length = n then r ds env else none
  | .list ds => if ds.length = n then r ds env else none
  | _ => none
theorem sg_tupX {bs : Bs} {n k : Nat} (hK : X.K = F.G.K) (hc : X.calm = true) (h : PGs X es (tGts F ss bs)) (hn : (assignEach es X.env).length = n := by rfl) (hst : (assignEach es X.env).findIdx? (·.1) = none := by rfl) : PG X (.Tuple es k pos) (tGt F ss (bTupX n bs)) :=
  PGimp (PGor (pg_tup hc h hn hst) (pg_lst hc h hn hst)) fun v σ H Q ⟨env, h, A, d, env', R, r, e, k⟩ => by
    unfold bTupX at e
    split at e
    · next ds =>
      split at e
      · next hl =>
        obtain ⟨a, us, rfl, t, rs⟩ := rep_tup r
        exact .inl ⟨a, us, rfl, by rw [hK]; exact t, by rw [rs.len]; exact hl, env, h, A, ds, env', R, rs, e, k⟩
      · cases e
    · next ds =>
      split at e
      · next hl =>
        obtain ⟨a, us, rfl, t, rs⟩ := rep_list r
        exact .inr ⟨a, us, rfl, by rw [hK]; exact R.fl_sq _ _ t, by rw [rs.len]; exact hl, env, h, A, ds, env', R, rs, e, k⟩
      · cases e
    · cases e
/-- xs.index(x) -/
def ixEq (y : PyData) : List PyData → Option Nat
  | [] => none
  | z :: zs => if PyData.eqv z y = true then some 0 else (ixEq y zs).map (· + 1)
theorem ixEq_spec {y : PyData} : ∀ {zs : List PyData} {j : Nat}, ixEq y zs = some j → ∃ z, zs[j]? = some z ∧ PyData.eqv z y = true ∧ ∀ (m : Nat) z', m < j → zs[m]? = some z' → PyData.eqv z' y = false
  | [], j, e => by cases e
  | z :: zs, j, e => by
    unfold ixEq at e
    split at e
    · next h => cases e; exact ⟨z, rfl, h, fun m z' hm => absurd hm (Nat.not_lt_zero _)⟩
    · next h =>
      obtain ⟨k, ek, e⟩ := Option.map_eq_some_iff.mp e
      subst e
      obtain ⟨w, h1, h2, h3⟩ := ixEq_spec ek
      refine ⟨w, by simpa using h1, h2, fun m z' hm hz => ?_⟩
      cases m with
      | zero =>
        cases hz
        cases q : PyData.eqv z y with
        | false => rfl
        | true => exact absurd q h
      | succ m => exact h3 m z' (by omega) (by simpa using hz)
def gLIx : Hs → Val → Val → Option Val := fun _ x y => match x, y with
  | .d (.list ds), .d y => if (SeqAt.shaped (.list ds) && SeqAt.shaped y) = true then (ixEq y ds).map fun j => .d (.int (j : Nat)) else none
  | _, _ => none
theorem gLIx_inv {x y z : Val} (e : gLIx h x y = some z) : ∃ ds d j, x = .d (.list ds) ∧ y = .d d ∧ SeqAt.shaped (.list ds) = true ∧ SeqAt.shaped d = true ∧ ixEq d ds = some j ∧ z = .d (.int (j : Nat)) := by
  unfold gLIx at e
  split at e
  · split at e
    · next hs =>
      rw [Bool.and_eq_true] at hs
      obtain ⟨j, ej, e⟩ := Option.map_eq_some_iff.mp e
      exact ⟨_, _, j, rfl, rfl, hs.1, hs.2, ej, e.symm⟩
    · cases e
  · cases e
theorem sq_lindex (hK : X.K = F.G.K) (hu : X.A.units + 65 < cLine) (ho : SimQ X F .mo o qo) (hi : SimQ X F .mo e qb)
    (hbase : attributeBase o "index" X.env (eval o X.env) = eval o X.env := by rfl)
    (hfew : ((backTo pos (starEach [e] X.env)).all (fun x => !x.1) && (backToKw pos (keywordEach [] X.env)).all (fun x => x.1.isSome) && decide ([e].length + ([] : List Keyword).length + (if ([] : List Keyword).isEmpty then 0 else 1) < 30)) = true := by rfl)
    (hline : (apos.endLine == pos.line) = true := by rfl) (hs : starEach [e] X.env = (false, eval e X.env) :: starEach [] X.env := by rfl) (hplain : (backTo pos (starEach [] X.env)).any (·.1) = false := by rfl) :
    SimQ X F ℓ (.Call (.Attribute o "index" apos) [e] [] pos) (q2 gLIx qo qb) := by
  refine PEimp (pe_bm PySem.F.plainAttrs_list PySem.F.slot_list_index PySem.F.type_list_index (mt_indexD hu) ho (pa_cons hi pa_nil hs) hbase hfew hline hs hplain) fun σ H Q ⟨env, h, A, z, R, e, k⟩ => ?_
  obtain ⟨x, ex, e⟩ := bind_some e
  obtain ⟨y, ey, e⟩ := bind_some e
  refine ⟨env, h, A, x, R, ex, fun v H1 e1 rv => ?_⟩
  obtain ⟨ds, d, j, rfl, rfl, s1, s2, ej, rfl⟩ := gLIx_inv e
  obtain ⟨w, w1, w2, w3⟩ := ixEq_spec ej
  obtain ⟨a, us, rfl, t, r⟩ := rl rv
  refine ⟨.inl ⟨rfl, us, by rw [hK]; exact t⟩, env, h, A, _, R.ex e1, ey, fun u H2 e2 ru => ?_⟩
  have rv2 := RV.ex e2 rv
  exact ⟨a, u, d, ds, j, w, rfl, rfl, by rw [hK]; exact Rep.dp _ _ rv2, by rw [hK]; exact Rep.dp _ _ ru, s1, s2, w1, w2, w3, k _ H2 (e1.trans e2) vi⟩
end
end Sm

set_option Elab.async false
set_option linter.all false
set_option maxRecDepth 100000
set_option maxHeartbeats 1000000
namespace Sm
open PySem L2 Evl
/-! ### min, max of a list of data -/
def rMinD (K : PySem.W.Frag) : List V → Hp → VK → Prop := fun vs H Q => ∃ (a : Addr) (us : List V) (x : PyData) (xs : List PyData), vs = [V.ref a] ∧ SqL K H a us ∧ DpAll K H us (x :: xs) ∧ PySem.W.AlikeAll (x :: xs) ∧ PyData.depthAll (x :: xs) ≤ 60 ∧
  ∀ (i : Nat) v, (x :: xs)[i]? = some (PySem.W.minD x xs) → us[i]? = some v → Q v H
def rMaxD' (K : PySem.W.Frag) : List V → Hp → VK → Prop := fun vs H Q => ∃ (a : Addr) (us : List V) (x : PyData) (xs : List PyData), vs = [V.ref a] ∧ SqL K H a us ∧ DpAll K H us (x :: xs) ∧ PySem.W.AlikeAll (x :: xs) ∧ PyData.depthAll (x :: xs) ≤ 60 ∧
  ∀ (i : Nat) v, (x :: xs)[i]? = some (PySem.W.maxD x xs) → us[i]? = some v → Q v H
theorem minD_mem : ∀ (xs : List PyData) (x : PyData), PySem.W.minD x xs ∈ x :: xs
  | [], x => List.mem_cons_self
  | y :: ys, x => by
    show PySem.W.minD (if PySem.W.dataLt y x then y else x) ys ∈ _
    have := minD_mem ys (if PySem.W.dataLt y x then y else x)
    rcases List.mem_cons.mp this with e | e
    · rw [e]; split <;> simp
    · simp [e]
theorem maxD_mem : ∀ (xs : List PyData) (x : PyData), PySem.W.maxD x xs ∈ x :: xs
  | [], x => List.mem_cons_self
  | y :: ys, x => by
    show PySem.W.maxD (if PySem.W.dataLt x y then y else x) ys ∈ _
    have := maxD_mem ys (if PySem.W.dataLt x y then y else x)
    rcases List.mem_cons.mp this with e | e
    · rw [e]; split <;> simp
    · simp [e]
theorem reads_get {h : Heap} : ∀ {vs : List Value} {xs : List PyData} {as : List Addr} {i : Nat} {v : Value}, ReadsAll h vs xs as → vs[i]? = some v → ∃ d bs, xs[i]? = some d ∧ Reads h v d bs
  | _, _, _, _, _, .nil, e => by simp at e
  | _, _, _, 0, _, .cons r t, e => by simp at e; subst e; exact ⟨_, _, rfl, r⟩
  | _, _, _, i + 1, _, .cons r t, e => reads_get (i := i) t (by simpa using e)
theorem reads_keep {h h' : Heap} (k : ∀ b o, h.get? b = some o → h'.get? b = some o) : ∀ {v : Value} {d : PyData} {as : List Addr}, Reads h v d as → Reads h' v d as := fun r => PySem.W.reads_keeps k r
theorem vals_at : ∀ {xs : List V} {us : List Value} {i : Nat} {u : Value}, Vals xs us → us[i]? = some u → ∃ x, xs[i]? = some x ∧ RelV x u
  | _, _, _, _, .nil, e => by simp at e
  | _, _, 0, _, .cons r _, e => by simp at e; subst e; exact ⟨_, rfl, r⟩
  | _, _, i + 1, u, .cons _ t, e => vals_at (i := i) t (by simpa using e)
section
variable {X : Cx}
theorem room60 (hu : X.A.units + 64 < cLine) {ds : List PyData} (hd : PyData.depthAll ds ≤ 60) : X.A.units + 1 + PyData.depthAll ds < cLine := by omega
theorem cr_minD (hc : X.calm = true) (hu : X.A.units + 64 < cLine) : CallR X (.builtin "min") (rMinD X.K) := by
  intro pins s σ H vs us Q I r ⟨a, ws, x, xs, e, hs, hd, ha, hdep, q⟩
  subst e
  obtain ⟨its, rv, pl, _⟩ := I.list hs
  rw [Vals.ref1 r]
  obtain ⟨as, ra⟩ := Dp.readsAll I (x :: xs) ws its hd rv
  refine PySem.W.min_list_data (I.ok.hd hc) pl.isList ra ha (room60 hu hdep) fun i v h' tk bs hv rd hk => ?_
  have hv : its[i]? = some v := by simpa using hv
  obtain ⟨d, cs, hd1, rd1⟩ := reads_get ra hv
  have rd2 := reads_keep hk rd1
  have hm := minD_mem xs x
  have ed : d = PySem.W.minD x xs := PySem.W.alike_unique d _ v _ _ (ha.1 d (List.mem_of_getElem? hd1) _ hm) rd2 rd
  subst ed
  obtain ⟨w, hw, rw⟩ := vals_at rv hv
  exact ⟨w, H, I.kept hk, rw, q i w hd1 hw⟩
theorem cr_maxD' (hc : X.calm = true) (hu : X.A.units + 64 < cLine) : CallR X (.builtin "max") (rMaxD' X.K) := by
  intro pins s σ H vs us Q I r ⟨a, ws, x, xs, e, hs, hd, ha, hdep, q⟩
  subst e
  obtain ⟨its, rv, pl, _⟩ := I.list hs
  rw [Vals.ref1 r]
  obtain ⟨as, ra⟩ := Dp.readsAll I (x :: xs) ws its hd rv
  refine PySem.W.max_list_data (I.ok.hd hc) pl.isList ra ha (room60 hu hdep) fun i v h' tk bs hv rd hk => ?_
  have hv : its[i]? = some v := by simpa using hv
  obtain ⟨d, cs, hd1, rd1⟩ := reads_get ra hv
  have rd2 := reads_keep hk rd1
  have hm := maxD_mem xs x
  have ed : d = PySem.W.maxD x xs := PySem.W.alike_unique d _ v _ _ (ha.1 d (List.mem_of_getElem? hd1) _ hm) rd2 rd
  subst ed
  obtain ⟨w, hw, rw⟩ := vals_at rv hv
  exact ⟨w, H, I.kept hk, rw, q i w hd1 hw⟩
end
def noneB : PyData → Bool
  | .none => true
  | _ => false
def dataB (ds : List PyData) : Bool := alikeB ds && (ds.all fun d => !noneB d) && decide (PyData.depthAll ds ≤ 60)
theorem dataB_of {ds : List PyData} (h : dataB ds = true) : PySem.W.AlikeAll ds ∧ PyData.depthAll ds ≤ 60 := by
  unfold dataB at h
  rw [Bool.and_eq_true, Bool.and_eq_true, decide_eq_true_eq, List.all_eq_true] at h
  refine ⟨⟨fun x hx y hy => ?_, fun x hx z => ?_⟩, h.2⟩
  · have := h.1.1
    unfold alikeB at this
    exact List.all_eq_true.mp (List.all_eq_true.mp this x hx) y hy
  · have := h.1.2 x hx
    rw [z] at this
    cases this
/-- min(xs): of whole numbers, or of data that can be compared -/
def gMinX : Hs → Val → Option Val := fun h x => match x with
  | .d (.list (d :: ds)) => if dataB (d :: ds) = true then some (.d (PySem.W.minD d ds)) else none
  | _ => none
def gMaxX : Hs → Val → Option Val := fun h x => match x with
  | .d (.list (d :: ds)) => if dataB (d :: ds) = true then some (.d (PySem.W.maxD d ds)) else none
  | _ => none
section
variable {F : Fm} {X : Cx} {tg a b c e o : Expr} {es rest : List Expr} {pos pos2 p p1 p2 apos : Pos} {ℓ : Lv} {qa qb qc qo : Q1} {env : En} {h h' : Hs} {A A' : As} {σ : L2.St} {H H' : Hp} {ss : List Nat} {ma mb : E1} {fa fb : EF}
theorem sq_minX (hK : X.K = F.G.K) (hu : X.A.units + 64 < cLine) (hc : X.calm = true) (hm : X.mg "min" = none) (ha : SimQ X F .mo a qa) (hg : Gl X "min" := by rfl)
    (he : starEach [a] X.env = (false, eval a X.env) :: starEach [] X.env := by rfl) (hpl : (backTo pos (starEach [] X.env)).any (·.1) = false := by rfl) : SimQ X F .mo (.Call (.Name "min" p) [a] [] pos) (q1 gMinX qa) :=
  sq_b1 (cr_minD hc hu) (by
    intro env h A σ H x v z R rx e Q k
    unfold gMinX at e
    split at e
    · next d ds =>
      split at e
      · next hs =>
        cases e
        obtain ⟨a, us, rfl, t, r⟩ := rl rx
        obtain ⟨h1, h2⟩ := dataB_of hs
        rw [hK]
        refine ⟨a, us, d, ds, rfl, t, RepAll.dp _ _ r, h1, h2, fun i v e1 e2 => ?_⟩
        obtain ⟨w, e3, rw⟩ := r.get e1
        rw [e2] at e3
        cases e3
        exact k _ H (Ex.refl H) rw
      · cases e
    · cases e) hm (by decide +kernel) ha hg (by decide) (by decide) he hpl
theorem sq_maxX (hK : X.K = F.G.K) (hu : X.A.units + 64 < cLine) (hc : X.calm = true) (hm : X.mg "max" = none) (ha : SimQ X F .mo a qa) (hg : Gl X "max" := by rfl)
    (he : starEach [a] X.env = (false, eval a X.env) :: starEach [] X.env := by rfl) (hpl : (backTo pos (starEach [] X.env)).any (·.1) = false := by rfl) : SimQ X F .mo (.Call (.Name "max" p) [a] [] pos) (q1 gMaxX qa) :=
  sq_b1 (cr_maxD' hc hu) (by
    intro env h A σ H x v z R rx e Q k
    unfold gMaxX at e
    split at e
    · next d ds =>
      split at e
      · next hs =>
        cases e
        obtain ⟨a, us, rfl, t, r⟩ := rl rx
        obtain ⟨h1, h2⟩ := dataB_of hs
        rw [hK]
        refine ⟨a, us, d, ds, rfl, t, RepAll.dp _ _ r, h1, h2, fun i v e1 e2 => ?_⟩
        obtain ⟨w, e3, rw⟩ := r.get e1
        rw [e2] at e3
        cases e3
        exact k _ H (Ex.refl H) rw
      · cases e
    · cases e) hm (by decide +kernel) ha hg (by decide) (by decide) he hpl
/-! ### a op b op' c of data -/
def qChG (o o' : Co) (a b c : Q1) : Q1 := fun env h => (a env h).bind fun x => (b env h).bind fun y => match x, y with
  | .d i, .d j => (cmpG o i j).bind fun r => if r = true then (c env h).bind fun z => (match z with
      | .d k => (cmpG o' j k).bind fun s => some (.d (.bool s))
      | _ => none) else some (.d (.bool false))
  | _, _ => none
theorem chG_read {o o' : Co} (hK : X.K = F.G.K) {Q : VK} (hq : tQ F ℓ (qChG o o' qa qb qc) σ H Q) : tChain (rCmp o X.K) (rCmp o' X.K) (tQ F .mo qa) (tQ F .mo qb) (tQ F .mo qc) σ H Q := by
  obtain ⟨env, h, A, z, R, e, k⟩ := hq
  obtain ⟨x, ex, e⟩ := bind_some e
  obtain ⟨y, ey, e⟩ := bind_some e
  refine ⟨env, h, A, x, R, ex, fun v H1 e1 rv => ⟨env, h, A, y, R.ex e1, ey, fun u H2 e2 ru => ?_⟩⟩
  cases x with
  | d i =>
    cases y with
    | d j =>
      obtain ⟨r, er, e⟩ := bind_some (show (cmpG o i j).bind _ = some z from e)
      rw [hK]
      have rv2 := RV.ex e2 rv
      refine ⟨i, j, r, Rep.dp i v rv2, Rep.dp j u ru, er, r, rfl, ?_⟩
      cases r with
      | false =>
        cases e
        rw [if_neg (by decide)]
        exact k _ H2 (e1.trans e2) vb
      | true =>
        rw [if_pos rfl]
        obtain ⟨w, ew, e⟩ := bind_some e
        refine ⟨env, h, A, w, (R.ex e1).ex e2, ew, fun t H3 e3 rt => ?_⟩
        cases w with
        | d m =>
          obtain ⟨s, es, e⟩ := bind_some (show (cmpG o' j m).bind _ = some z from e)
          cases e
          have ru3 := RV.ex e3 ru
          exact ⟨j, m, s, Rep.dp j u ru3, Rep.dp m t rt, es, k _ H3 ((e1.trans e2).trans e3) vb⟩
        | _ => cases e
    | _ => cases e
  | _ => cases e
theorem chG_b {o o' : Co} {x : Val} (ex : qChG o o' qa qb qc env h = some x) : ∃ b, x = .d (.bool b) := by
  obtain ⟨y, _, ex⟩ := bind_some ex
  obtain ⟨z, _, ex⟩ := bind_some ex
  cases y with
  | d i =>
    cases z with
    | d j =>
      obtain ⟨r, _, ex⟩ := bind_some (show (cmpG o i j).bind _ = some x from ex)
      cases r with
      | false => cases ex; exact ⟨_, rfl⟩
      | true =>
        obtain ⟨w, _, ex⟩ := bind_some ex
        cases w with
        | d m =>
          obtain ⟨s, _, ex⟩ := bind_some (show (cmpG o' j m).bind _ = some x from ex)
          cases ex; exact ⟨_, rfl⟩
        | _ => cases ex
    | _ => cases ex
  | _ => cases ex
theorem sq_chG {o o' : Co} (hK : X.K = F.G.K) (hu : X.A.units + 64 < cLine) (ha : SimQ X F .mo a qa) (hb : SimQ X F .mo b qb) (hc : SimQ X F .mo c qc) (hm : lastMarks [o.op, o'.op] [b, c] = false := by with_unfolding_all rfl) : SimQ X F ℓ (.Compare a [o.op, o'.op] [b, c] pos) (qChG o o' qa qb qc) :=
  PEimp (pe_chain (op_cmp o hu) (op_cmp o' hu) ha hb hc hm) fun _ _ _ => chG_read hK
theorem st_chG {o o' : Co} (hK : X.K = F.G.K) (hu : X.A.units + 64 < cLine) (ha : SimQ X F .mo a qa) (hb : SimQ X F .mo b qb) (hc : SimQ X F .mo c qc) (hm : lastMarks [o.op, o'.op] [b, c] = false := by with_unfolding_all rfl) : SimT X F (.Compare a [o.op, o'.op] [b, c] pos) (tV (qChG o o' qa qb qc)) :=
  PTimp (pt_chain (op_cmp o hu) (op_cmp o' hu) ha hb hc hm) fun σ H Q ⟨env, h, A, k, R, e, q⟩ => by
    obtain ⟨x, ex, e⟩ := bind_some e
    obtain ⟨b, rfl⟩ := chG_b ex
    refine chG_read (ℓ := .mo) hK ⟨env, h, A, _, R, ex, fun v H1 e1 rv => ?_⟩
    cases e
    exact ⟨k, rb rv, q H1 e1⟩
/-! ### list if-else with effects -/
def efIf (t : ET) (a b : EF) : EF := fun env h => (t env h).bind fun c => if c.1 = true then a env c.2 else b env c.2
theorem sef_if {t : ET} (hc : SimTE X F c t) (ha : SimEF X F a fa) (hb : SimEF X F b fb) : SimEF X F (.IfExp c a b pos) (efIf t fa fb) := PEimp (pe_ifExp hc ha hb) fun σ H Q ⟨env, h, A, z, h', R, e, k⟩ => by
  obtain ⟨⟨d, h1⟩, ed, e⟩ := bind_some e
  refine ⟨env, h, A, d, h1, R, ed, fun H1 A1 R1 s1 => ?_⟩
  cases d with
  | true => exact ⟨env, h1, A1, z, h', R1, e, fun p us H2 A2 R2 s2 hp hv f r => k p us H2 A2 R2 (s1.trans s2) (none_back s1 hp) hv f r⟩
  | false => exact ⟨env, h1, A1, z, h', R1, e, fun p us H2 A2 R2 s2 hp hv f r => k p us H2 A2 R2 (s1.trans s2) (none_back s1 hp) hv f r⟩
end
end Sm

set_option Elab.async false
set_option linter.all false
set_option maxRecDepth 100000
set_option maxHeartbeats 1000000
namespace Sm
open PySem L2 Evl
/-! ### sorted(dict(pairs)), the keys texts -/
def pairOf : PyData → Option (Str × PyData)
  | .tuple [.str k, v] => some (k, v)
  | _ => none
theorem pairOf_eq {d : PyData} {p : Str × PyData} (e : pairOf d = some p) : d = .tuple [.str p.1, p.2] := by
  unfold pairOf at e
  split at e
  · cases e; rfl
  · cases e
def pairsOf : List PyData → Option (List (Str × PyData))
  | [] => some []
  | d :: ds => (pairOf d).bind fun p => (pairsOf ds).bind fun ps => some (p :: ps)
theorem pairs_rep {K : PySem.W.Frag} {H : Hp} {L : LP} : ∀ {ds : List PyData} {us : List V} {ps : List (Str × PyData)}, pairsOf ds = some ps → RepAll (SqT K H) L ds us →
    ∃ (as : List Addr) (kvs : List (Key × V)), us = as.map V.ref ∧ Paired (fun p kv => SqT K H p [kV kv.1, kv.2]) as kvs ∧ kvs.map (·.1) = (ps.map (·.1)).map Sum.inr
  | [], us, ps, e, r => by
    cases e
    simp only [RepAll] at r
    subst r
    exact ⟨[], [], rfl, .nil, rfl⟩
  | d :: ds, us, ps, e, r => by
    obtain ⟨p, ep, e⟩ := bind_some e
    obtain ⟨qs, eq, e⟩ := bind_some e
    cases e
    simp only [RepAll] at r
    obtain ⟨v, ws, rfl, r1, r2⟩ := r
    obtain ⟨as, kvs, rfl, h1, h2⟩ := pairs_rep eq r2
    rw [pairOf_eq ep] at r1
    obtain ⟨a, us, rfl, t, r1⟩ := rep_tup r1
    simp only [RepAll, Rep] at r1
    obtain ⟨v1, r', rfl, rfl, v2, r2, rfl, rv, rfl⟩ := r1
    exact ⟨a :: as, (Sum.inr p.1, v2) :: kvs, rfl, .cons t h1, by simp [h2]⟩
theorem putK_keys {kvs : List (Key × V)} {as : List Str} {k : Str} {v : V} (h : kvs.map (·.1) = as.map Sum.inr) (n : as.Nodup) : ∃ bs : List Str, (putK kvs (Sum.inr k) v).map (·.1) = bs.map Sum.inr ∧ bs.Nodup ∧ (∀ x, x ∈ bs ↔ x ∈ as ∨ x = k) ∧ bs.length ≤ as.length + 1 := by
  have hany : (kvs.any fun kv => decide (kv.1 = Sum.inr k)) = true ↔ k ∈ as := by
    rw [List.any_eq_true]
    constructor
    · rintro ⟨kv, hk, e⟩
      have : kv.1 ∈ as.map Sum.inr := by rw [← h]; exact List.mem_map.mpr ⟨kv, hk, rfl⟩
      rw [of_decide_eq_true e] at this
      obtain ⟨x, hx, e⟩ := List.mem_map.mp this
      cases e; exact hx
    · intro hk
      have : (Sum.inr k : Key) ∈ kvs.map (·.1) := by rw [h]; exact List.mem_map.mpr ⟨k, hk, rfl⟩
      obtain ⟨kv, hkv, e⟩ := List.mem_map.mp this
      exact ⟨kv, hkv, decide_eq_true e⟩
  unfold putK
  by_cases c : k ∈ as
  · rw [if_pos (hany.mpr c)]
    refine ⟨as, ?_, n, fun x => ⟨.inl, fun z => z.elim id fun e => e ▸ c⟩, Nat.le_succ _⟩
    rw [List.map_map, ← h]
    refine List.map_congr_left fun kv _ => ?_
    simp only [Function.comp_apply]
    split
    · next e => rw [e]
    · rfl
  · rw [if_neg fun z => c (hany.mp z)]
    refine ⟨as ++ [k], by rw [List.map_append, h, List.map_append]; rfl, ?_, fun x => by simp, by simp⟩
    rw [List.nodup_append]
    refine ⟨n, by simp, fun x hx y hy e => ?_⟩
    rw [List.mem_singleton] at hy
    subst hy; subst e
    exact c hx
theorem mergeK_keys : ∀ {more kvs : List (Key × V)} {as bs : List Str}, kvs.map (·.1) = as.map Sum.inr → as.Nodup → more.map (·.1) = bs.map Sum.inr → ∃ cs : List Str, (mergeK kvs more).map (·.1) = cs.map Sum.inr ∧ cs.Nodup ∧ (∀ x, x ∈ cs ↔ x ∈ as ∨ x ∈ bs) ∧ cs.length ≤ as.length + bs.length
  | [], kvs, as, bs, h, n, hb => by
    have : bs = [] := by
      cases bs with
      | nil => rfl
      | cons _ _ => simp at hb
    subst this
    exact ⟨as, h, n, fun x => by simp, by simp⟩
  | kv :: more, kvs, as, bs, h, n, hb => by
    cases bs with
    | nil => simp at hb
    | cons b bs =>
      rw [List.map_cons, List.map_cons, List.cons.injEq] at hb
      obtain ⟨cs, c1, c2, c3, c4⟩ := putK_keys (k := b) (v := kv.2) h n
      obtain ⟨es, e1, e2, e3, e4⟩ := mergeK_keys c1 c2 hb.2
      refine ⟨es, ?_, e2, fun x => ?_, ?_⟩
      · show (mergeK (putK kvs kv.1 kv.2) more).map (·.1) = _
        rw [hb.1]
        exact e1
      · rw [e3, c3, List.mem_cons]
        constructor
        · rintro ((a | a) | a) <;> simp [a]
        · rintro (a | a | a) <;> simp [a]
      · rw [List.length_cons]; omega
def gSDict : Hs → Val → Option (List PyData) := fun _ x => match x with
  | .d (.list ds) => (pairsOf ds).bind fun ps => if ps.length < 64 then some ((strU (ps.map (·.1))).map .str) else none
  | _ => none
theorem gSDict_inv {h : Hs} {x : Val} {z : List PyData} (e : gSDict h x = some z) : ∃ ds ps, x = .d (.list ds) ∧ pairsOf ds = some ps ∧ ps.length < 64 ∧ z = (strU (ps.map (·.1))).map .str := by
  unfold gSDict at e
  split at e
  · obtain ⟨ps, ep, e⟩ := bind_some e
    split at e
    · next hl => cases e; exact ⟨_, ps, rfl, ep, hl, rfl⟩
    · cases e
  · cases e
theorem RepAll.strs {T L : LP} : ∀ (ns : List Str), RepAll T L (ns.map PyData.str) (ns.map V.str)
  | [] => .nil
  | n :: ns => .cons (by simp [Rep]) (RepAll.strs ns)
section
variable {F : Fm} {X : Cx} {tg a b c e o : Expr} {es rest : List Expr} {pos pos2 p p1 p2 apos : Pos} {ℓ : Lv} {qa qb qc qo : Q1} {env : En} {h h' : Hs} {A A' : As} {σ : L2.St} {H H' : Hp} {ss : List Nat} {ma mb : E1} {fa fb : EF}
theorem sf_sdict (hK : X.K = F.G.K) (hc : X.calm = true) (hm : X.mg "sorted" = none) (hm2 : X.mg "dict" = none) (ha : SimQ X F .mo a qa) (hg : Gl X "sorted" := by rfl) (hg2 : Gl X "dict" := by rfl)
    (he : starEach [a] X.env = (false, eval a X.env) :: starEach [] X.env := by rfl) (hpl : (backTo pos2 (starEach [] X.env)).any (·.1) = false := by rfl)
    (he2 : starEach [.Call (.Name "dict" p2) [a] [] pos2] X.env = (false, eval (.Call (.Name "dict" p2) [a] [] pos2) X.env) :: starEach [] X.env := by rfl) (hpl2 : (backTo pos (starEach [] X.env)).any (·.1) = false := by rfl) :
    SimF X F (.Call (.Name "sorted" p) [.Call (.Name "dict" p2) [a] [] pos2] [] pos) (f1 gSDict qa) := by
  refine PEimp (pe_callB (call_sortedD hc) hg hm (by decide +kernel) (pa_cons (pe_callTy (call_dictP hc) hg2 hm2 (by decide +kernel) (pa_cons ha pa_nil he) (by decide) (by decide) he hpl) pa_nil he2) (by decide) (by decide) he2 hpl2) fun σ H Q ⟨env, h, A, z, R, e, k⟩ => ?_
  obtain ⟨x, ex, e⟩ := bind_some e
  refine ⟨env, h, A, x, R, ex, fun v H1 e1 rv => ?_⟩
  obtain ⟨ds, ps, rfl, ep, hl, rfl⟩ := gSDict_inv e
  obtain ⟨a, us, rfl, t, r⟩ := rl rv
  obtain ⟨as, kvs, rfl, h1, h2⟩ := pairs_rep ep r
  rw [hK]
  refine ⟨a, as, kvs, rfl, t, h1, fun p hp => ?_⟩
  obtain ⟨cs, c1, c2, c3, c4⟩ := mergeK_keys (kvs := []) (as := []) (more := kvs) rfl .nil h2
  refine ⟨p, _, cs, rfl, .inl upd_same, c1, by simp at c4; omega, fun ys p' pm so hp' => ?_⟩
  have ey : ys = strU (ps.map (·.1)) := strs_uniq (sorted_asc so (pm.nodup_iff.mpr c2)) (asc_strU _) fun x => by rw [pm.mem_iff, c3, mem_strU]; simp
  subst ey
  have hpp : p' ≠ p := fun z => by rw [z, upd_same] at hp'; cases hp'
  have hp1 : H1 p' = none := by rw [upd_ne hpp] at hp'; exact hp'
  exact k _ _ _ (fresh_back e1 hp1) (e1.trans ((Ex.new hp).trans (Ex.new hp'))) upd_same (RepAll.strs _)
def ef1 (g : Hs → Val → Option (List PyData)) (a : E1) : EF := fun env h => (a env h).bind fun x => (g x.2 x.1).bind fun z => some (z, x.2)
theorem sef_sdict (hK : X.K = F.G.K) (hc : X.calm = true) (hm : X.mg "sorted" = none) (hm2 : X.mg "dict" = none) (ha : SimE X F .fs a ma) (hg : Gl X "sorted" := by rfl) (hg2 : Gl X "dict" := by rfl)
    (he : starEach [a] X.env = (false, eval a X.env) :: starEach [] X.env := by rfl) (hpl : (backTo pos2 (starEach [] X.env)).any (·.1) = false := by rfl)
    (he2 : starEach [.Call (.Name "dict" p2) [a] [] pos2] X.env = (false, eval (.Call (.Name "dict" p2) [a] [] pos2) X.env) :: starEach [] X.env := by rfl) (hpl2 : (backTo pos (starEach [] X.env)).any (·.1) = false := by rfl) :
    SimEF X F (.Call (.Name "sorted" p) [.Call (.Name "dict" p2) [a] [] pos2] [] pos) (ef1 gSDict ma) := by
  refine PEimp (pe_callB (call_sortedD hc) hg hm (by decide +kernel) (pa_cons (pe_callTy (call_dictP hc) hg2 hm2 (by decide +kernel) (pa_cons ha pa_nil he) (by decide) (by decide) he hpl) pa_nil he2) (by decide) (by decide) he2 hpl2) fun σ H Q ⟨env, h, A, z, h', R, e, k⟩ => ?_
  obtain ⟨⟨x, h1⟩, ex, e⟩ := bind_some e
  obtain ⟨w, ew, e⟩ := bind_some e
  cases e
  refine ⟨env, h, A, x, h1, R, ex, fun v H1 A1 R1 s1 rv => ?_⟩
  have rv := RV.mo R1 rv
  have ew : gSDict h1 x = some _ := ew
  obtain ⟨ds, ps, rfl, ep, hl, rfl⟩ := gSDict_inv ew
  obtain ⟨a, us, rfl, t, r⟩ := rl rv
  obtain ⟨as, kvs, rfl, g1, g2⟩ := pairs_rep ep r
  rw [hK]
  refine ⟨a, as, kvs, rfl, t, g1, fun p hp => ?_⟩
  obtain ⟨cs, c1, c2, c3, c4⟩ := mergeK_keys (kvs := []) (as := []) (more := kvs) rfl .nil g2
  refine ⟨p, _, cs, rfl, .inl upd_same, c1, by simp at c4; omega, fun ys p' pm so hp' => ?_⟩
  have ey : ys = strU (ps.map (·.1)) := strs_uniq (sorted_asc so (pm.nodup_iff.mpr c2)) (asc_strU _) fun x => by rw [pm.mem_iff, c3, mem_strU]; simp
  subst ey
  have hpp : p' ≠ p := fun z => by rw [z, upd_same] at hp'; cases hp'
  have hp1 : H1 p' = none := by rw [upd_ne hpp] at hp'; exact hp'
  have e2 : Ex H1 (upd (upd H1 p (.dK (mergeK [] kvs))) p' (.lst ((strU (ps.map (·.1))).map V.str))) := (Ex.new hp).trans (Ex.new hp')
  exact k p' _ _ A1 (R1.ex e2) (s1.trans (Step.ex e2)) (none_back s1 hp1) upd_same ⟨(R1.fresh hp1).f0, (R1.fresh hp1).fp⟩ (RepAll.strs _)
end
end Sm

set_option Elab.async false
set_option linter.all false
set_option maxRecDepth 100000
set_option maxHeartbeats 1000000
/-! lists of lists: own lists walked, indexed, sifted, whatever their items hold -/
namespace Sm
open PySem L2 Evl
def iOwn (i : Nat) : I1 := fun env _ => match env[i]? with
  | some (.l xs) => some xs
  | _ => none
theorem iOwn_inv {i : Nat} {env : En} {h : Hs} {xs : List PyData} (e : iOwn i env h = some xs) : env[i]? = some (.l xs) := by
  unfold iOwn at e
  split at e
  · next hq => cases e; exact hq
  · cases e
section
variable {F : Fm} {X : Cx} {tg a b c e o : Expr} {es rest : List Expr} {pos pos2 p p1 p2 apos : Pos} {ℓ : Lv} {qa qb qc qo : Q1} {env : En} {h h' : Hs} {A A' : As} {σ : L2.St} {H H' : Hp} {ss : List Nat} {it : I1} {tt : T1}
theorem own_at {i : Nat} {xs : List PyData} (R : SR F env h A σ H) (e : env[i]? = some (.l xs)) : ∃ us, σ[i]? = some (some (.ref (A (.s i)))) ∧ H (A (.s i)) = some (.lst us) ∧ RDs F .st H xs us := by
  obtain ⟨e1, us, e2, r⟩ := R.sl i _ e
  refine ⟨us, ?_, e2, r⟩
  cases hs : σ[i]? with
  | none => rw [hs] at e1; cases e1
  | some o => rw [hs] at e1; exact congrArg some e1
theorem si_own (i : Nat) {x : Str} (hK : X.K = F.G.K) (hN : X.N[i]? = some x := by rfl) (hv : Vis X.env.scope x := by first | exact Or.inl rfl | exact Or.inr (Or.inl rfl) | exact Or.inr (Or.inr rfl)) (hd : (x == ("__debug__" : Str)) = false := by decide)
    (hcd : (x == ("__classdict__" : Str)) = false := by decide) : SimI X F OkP ℓ tg (.Name x pos) (iOwn i) := PIimp (pi_list (pe_var hN hv hd hcd)) fun σ H Q ⟨env, h, A, xs, R, e, k⟩ => by
  obtain ⟨us, e1, e2, r⟩ := own_at R (iOwn_inv e)
  refine ⟨_, e1, _, rfl, ⟨us, .inl (.inl e2)⟩, ?_⟩
  rw [hK]
  exact k _ H (Ex.refl H) (ylds_list r.len fun Hc o => ⟨.inl (.inl (o _ _ e2)), RDs.of_st (RDs.ex o r)⟩)
def qOwnIx (i : Nat) (b : Q1) : Q1 := fun env h => (b env h).bind fun y => match env[i]?, y with
  | some (.l xs), .d (.int j) => (atI xs j).map .d
  | _, _ => none
theorem sq_ownIx (i : Nat) {x : Str} {ℓ₂ : Lv} (hK : X.K = F.G.K) (hb : SimQ X F ℓ₂ b qb) (hN : X.N[i]? = some x := by rfl) (hv : Vis X.env.scope x := by first | exact Or.inl rfl | exact Or.inr (Or.inl rfl) | exact Or.inr (Or.inr rfl)) (hd : (x == ("__debug__" : Str)) = false := by decide)
    (hcd : (x == ("__classdict__" : Str)) = false := by decide) (hs : PlainIx b := by intro _ _; rfl) : SimQ X F ℓ (.Subscript (.Name x p) b pos) (qOwnIx i qb) :=
  PEimp (pe_ix ix_seq (pe_var hN hv hd hcd) hb hs) fun σ H Q ⟨env, h, A, z, R, e, k⟩ => by
    obtain ⟨y, ey, e⟩ := bind_some e
    cases hq : env[i]? with
    | none => rw [hq] at e; cases e
    | some s =>
      rw [hq] at e
      cases s with
      | l xs =>
        cases y with
        | d y =>
          cases y with
          | int j =>
            obtain ⟨d, e1, e2⟩ := Option.map_eq_some_iff.mp (show (atI xs j).map _ = some z from e)
            subst e2
            obtain ⟨us, g1, g2, r⟩ := own_at R hq
            refine ⟨_, g1, env, h, A, _, R, ey, fun u H1 x1 ru => ?_⟩
            cases ri ru
            obtain ⟨w, h1, h2⟩ := at_rep (RDs.ex x1 r) e1
            exact .inl ⟨_, us, j, w, rfl, rfl, .inl (.inl (x1 _ _ g2)), h1, k _ H1 x1 (RD.of_st (ℓ := ℓ) h2)⟩
          | _ => cases e
        | _ => cases e
      | _ => cases e
/-! [x for x in xs if ..] -/
def lcSelf (i : Nat) (vs : List Nat) (tt : T1) (env : En) (h : Hs) (d : PyData) : Option (Option PyData) := (tt ((wipeE env vs).set i (.v (.d d))) h).bind fun b => some (if b = true then some d else none)
def fLcS (it : I1) (i : Nat) (vs : List Nat) (tt : T1) : I1 := fun env h => if i < env.length then (it env h).bind fun xs => (lcGo (lcSelf i vs tt env h) xs).bind fun ys => if ys.length ≤ sizeLine then some ys else none else none
theorem lcS_read {i : Nat} {Q : VK} {vs : List Nat} (hv : i ∈ vs) (hq : tF F (fLcS it i vs tt) σ H Q) : tLc (tI F OkP .st it) (gName i) (tT F tt) (tVar i) vs σ H Q := by
  obtain ⟨env, h, A, ys, R, e, k⟩ := hq
  unfold fLcS at e
  split at e
  case isFalse => cases e
  case isTrue hil =>
  obtain ⟨xs, ex, e⟩ := bind_some e
  obtain ⟨zs, ez, e⟩ := bind_some e
  split at e
  · next hl =>
    cases e
    refine ⟨env, h, A, xs, R, ex, fun J H1 e1 Y D hD => ?_⟩
    refine ⟨fun n m Hc => m = xs.length - n ∧ n ≤ xs.length ∧ Ex H1 Hc ∧ ∃ acc us, lcGo (lcSelf i vs tt env h) (xs.take n) = some acc ∧ Hc D = some (.lst us) ∧ RDs F .st Hc acc us,
      ⟨xs.length, by simp, Nat.zero_le _, Ex.new hD, [], [], rfl, upd_same, .nil⟩, ?_⟩
    rintro n m Hc ⟨rfl, hn, z, acc, us, ea, hu, ru⟩
    by_cases hlt : n < xs.length
    · refine .inr ⟨Y.go Hc n z hlt, fun H' => n + 1 ≤ xs.length ∧ Ex H1 H' ∧ ∃ acc us, lcGo (lcSelf i vs tt env h) (xs.take (n + 1)) = some acc ∧ H' D = some (.lst us) ∧ RDs F .st H' acc us,
        fun H' ⟨h1, h2, h3⟩ => ⟨xs.length - (n + 1), by omega, rfl, h1, h2, h3⟩, fun x Hn hy => ?_⟩
      obtain ⟨zn, rx⟩ := Y.yl Hc n x Hn _ z (List.getElem?_eq_getElem hlt) hy
      have esp : xs = xs.take n ++ xs[n] :: xs.drop (n + 1) := by rw [← List.drop_eq_getElem_cons hlt, List.take_append_drop]
      have es : lcGo (lcSelf i vs tt env h) (xs.take n ++ xs[n] :: xs.drop (n + 1)) = some ys := by rw [← esp]; exact ez
      obtain ⟨a', b', ha', hb', hab⟩ := lcGo_app es
      rw [ea] at ha'; cases ha'
      obtain ⟨o, eo, hb'⟩ := bind_some hb'
      obtain ⟨c, ec, eo'⟩ := bind_some eo
      have et : lcGo (lcSelf i vs tt env h) (xs.take (n + 1)) = some (acc ++ (match o with | some y => [y] | none => [])) := by
        rw [List.take_add_one, List.getElem?_eq_getElem hlt]
        have : ∀ l : List PyData, lcGo (lcSelf i vs tt env h) l = some acc → lcGo (lcSelf i vs tt env h) (l ++ [xs[n]]) = some (acc ++ (match o with | some y => [y] | none => [])) := by
          intro l
          generalize acc = ac
          induction l generalizing ac with
          | nil =>
            intro q
            cases q
            show lcGo _ [xs[n]] = _
            simp only [lcGo, eo, Option.bind_some]
            cases o <;> rfl
          | cons y l ih =>
            intro q
            obtain ⟨o1, q1, q⟩ := bind_some q
            obtain ⟨r1, q2, q⟩ := bind_some q
            cases q
            show lcGo _ (y :: (l ++ [xs[n]])) = _
            simp only [lcGo, q1, Option.bind_some, ih r1 q2]
            cases o1 <;> rfl
        exact this _ ea
      have S0 : SR F (wipeE env vs) h A (L2.wipe σ vs) Hn := ((R.ex e1).ex (z.trans zn)).wipe vs
      have S1 := S0.setV (i := i) (x := .d xs[n]) (v := x) (RD.of_st (ℓ := .fs) rx)
      have hil2 : i < (L2.wipe σ vs).length := by rw [wipe_len, R.ln]; exact hil
      refine ⟨?_, (wipeE env vs).set i (.v (.d xs[n])), h, A, c, S1, ec, fun H3 x3 => ?_⟩
      · refine (wipe_eq (σ := L2.wipe σ vs) (ss := [i]) (by simp) (fun j hj => List.getElem?_set_ne (by simpa using fun e : i = j => hj (by simp [e]))) (fun j hj => by rw [List.mem_singleton] at hj; subst hj; exact hv)).trans ?_
        exact wipe_eq (ss := vs) (wipe_len _ _) (fun i hi => wipe_not hi) fun _ z => z
      · have zt : Ex Hc H3 := zn.trans x3
        cases c with
        | false =>
          cases eo'
          refine ⟨hlt, z.trans zt, acc, us, by rw [et]; simp, zt D _ hu, RDs.ex zt ru⟩
        | true =>
          cases eo'
          refine ⟨x, List.getElem?_set_self hil2, us, zt D _ hu, ?_, hlt, Ex.mut (z.trans zt) hD, _, us ++ [x], et, upd_same, ?_⟩
          · rw [ru.len]
            have : (acc ++ [xs[n]]).length ≤ ys.length := by
              rw [hab]
              obtain ⟨r2, q2, q3⟩ := bind_some hb'
              cases q3
              simp
            have hh : acc.length + 1 ≤ ys.length := by simpa using this
            omega
          · have P : Pres H3 (upd H3 D (.lst (us ++ [x]))) := Pres.upd fun u eu => by
              rw [zt D _ hu] at eu; cases eu
              exact ⟨fun _ q => (by cases q), fun _ _ q => (by cases q)⟩
            exact RepAll.append (RepAll.mono P.sqT P.sL _ _ (RDs.ex zt ru)) (.cons (Rep.mono P.sqT P.sL _ _ (RD.ex x3 rx)) .nil)
    · have e0 : n = xs.length := by omega
      subst e0
      rw [List.take_length, ez] at ea
      cases ea
      exact .inl ⟨Y.st Hc _ z (Nat.le_refl _), k D us Hc (fresh_back e1 hD) (e1.trans z) hu ru⟩
  · cases e
theorem sf_lcS {i : Nat} {x : Str} {iter : Expr} {ifs : List Expr} {scope : Scope} {own : List (Str × Nat)} {p1 p2 : Pos} (hc : X.calm = true) (hN : X.N.Nodup) (hi : SimI X F OkP .st (.Name x p1) iter it) (ok : blkC X.N X.env.scope scope own = true) (hv : ((own.map (·.2)).contains i) = true)
    (hg : ∀ (s : Shared) (H : Hp) (C : Addr) (cl : List (Str × Addr)) (fp : List Addr), PG (X.blk s H scope (compEnvC scope cl C X.env) fp) (.Name x p1) (gName i)) (ht : ∀ (s : Shared) (H : Hp) (C : Addr) (cl : List (Str × Addr)) (fp : List Addr), PTs (X.blk s H scope (compEnvC scope cl C X.env) fp) ifs (tT F tt))
    (he : ∀ (s : Shared) (H : Hp) (C : Addr) (cl : List (Str × Addr)) (fp : List Addr), PE (X.blk s H scope (compEnvC scope cl C X.env) fp) (.Name x p2) (tVar i)) (hs : ∀ x, foldedSetIterable iter X.env x = pure x := by intro _; rfl) :
    SimF X F (.ListComp (.Name x p2) [⟨.Name x p1, iter, ifs, 0⟩] scope pos) (fLcS it i (own.map (·.2)) tt) :=
  PEimp (pe_lc hc hN hi (blkOk_by ok) hg ht he hs) fun _ _ _ => lcS_read (by simpa using hv)
theorem ss_setLcS {j i : Nat} {y x : Str} {iter : Expr} {ifs : List Expr} {scope : Scope} {own : List (Str × Nat)} {py p1 p2 spos : Pos} (hN : X.N.Nodup) (hy : X.N[j]? = some y) (hyl : X.env.scope.names.lookup y = some .local) (hc : X.calm = true) (hi : SimI X F OkP .st (.Name x p1) iter it) (ok : blkC X.N X.env.scope scope own = true) (hv : ((own.map (·.2)).contains i) = true)
    (hg : ∀ (s : Shared) (H : Hp) (C : Addr) (cl : List (Str × Addr)) (fp : List Addr), PG (X.blk s H scope (compEnvC scope cl C X.env) fp) (.Name x p1) (gName i)) (ht : ∀ (s : Shared) (H : Hp) (C : Addr) (cl : List (Str × Addr)) (fp : List Addr), PTs (X.blk s H scope (compEnvC scope cl C X.env) fp) ifs (tT F tt))
    (he : ∀ (s : Shared) (H : Hp) (C : Addr) (cl : List (Str × Addr)) (fp : List Addr), PE (X.blk s H scope (compEnvC scope cl C X.env) fp) (.Name x p2) (tVar i)) (hsw : swapsWith (.ListComp (.Name x p2) [⟨.Name x p1, iter, ifs, 0⟩] scope pos) (some (.Name y py)) spos.line X.env = pure true := by rfl) (hs : ∀ x, foldedSetIterable iter X.env x = pure x := by intro _; rfl) :
    SimS X F (.Assign [.Name y py] (.ListComp (.Name x p2) [⟨.Name x p1, iter, ifs, 0⟩] scope pos) spos) (mSetO j (fLcS it i (own.map (·.2)) tt)) :=
  PSimp (ps_setLc hc hN hy hyl hsw hi (blkOk_by ok) hg ht he hs) fun D σ H ⟨env, h, A, r, env', h', R, e, k⟩ => by
    obtain ⟨x, ex, e⟩ := bind_some e
    cases e
    exact lcS_read (by simpa using hv) ⟨env, h, A, x, R, ex, fun p us H1 hp e1 hv rs => k _ H1 _ (R.own hp e1 hv rs) (Ex.pres e1)⟩
end
end Sm

set_option Elab.async false
set_option linter.all false
set_option maxRecDepth 100000
set_option maxHeartbeats 1000000
namespace Sm
open PySem L2 Evl
@[simp] theorem atI4 {α : Type} (a b c d e : α) (xs : List α) : atI (a :: b :: c :: d :: e :: xs) 4 = some e := atN (k := 4) rfl
@[simp] theorem atI5 {α : Type} (a b c d e f : α) (xs : List α) : atI (a :: b :: c :: d :: e :: f :: xs) 5 = some f := atN (k := 5) rfl
@[simp] theorem atL1 {α : Type} (a : α) : atI [a] (-1) = some a := rfl
@[simp] theorem atL2 {α : Type} (a b : α) : atI [a, b] (-1) = some b := rfl
@[simp] theorem atL3 {α : Type} (a b c : α) : atI [a, b, c] (-1) = some c := rfl
@[simp] theorem atL4 {α : Type} (a b c d : α) : atI [a, b, c, d] (-1) = some d := rfl
@[simp] theorem atL5 {α : Type} (a b c d e : α) : atI [a, b, c, d, e] (-1) = some e := rfl
@[simp] theorem atL6 {α : Type} (a b c d e f : α) : atI [a, b, c, d, e, f] (-1) = some f := rfl
section
variable {env env1 : En} {h : Hs} {q : Q1} {f : I1} {x : Val} {xs : List PyData} {m : M1} {k : Nat} {args : List Val} {d : PyData} {F : EF} {ℓ : Lv} {i : Nat}
theorem wp.retF {Q : Flo → En → Hs → Prop} (e : f env h = some xs) (k : Q (.rf xs) env h) : wp (mRetF f) env h Q := ⟨_, _, _, by unfold mRetF; rw [e]; rfl, k⟩
theorem wp.retFE {Q : Flo → En → Hs → Prop} (k : evF F env h fun xs h1 => Q (.rf xs) env h1) : wp (mRetFE F) env h Q := by
  obtain ⟨x, h1, e, k⟩ := k
  exact ⟨_, _, _, by unfold mRetFE; rw [e]; rfl, k⟩
theorem wp.retO {Q : Flo → En → Hs → Prop} (e : env[i]? = some (.l xs)) (k : Q (.rf xs) env h) : wp (mRetO i) env h Q := ⟨_, _, _, by unfold mRetO; rw [e], k⟩
theorem wp.extF {Q : Flo → En → Hs → Prop} {ys : List PyData} (e : env[i]? = some (.l xs)) (e2 : f env h = some ys) (hl : xs.length + ys.length ≤ 1000000) (k : Q .nx (env.set i (.l (xs ++ ys))) h) : wp (mExtE i (eF f)) env h Q := ⟨_, _, _, by
  unfold mExtE eF
  simp only [e, e2, Option.bind_some]
  rw [if_pos (by rw [sizeLine_eq]; omega)], k⟩
theorem runF_wp (w : wp m (startE k args) h fun r _ h' => r = .rf xs) : runF k m args h = some xs := by
  obtain ⟨r, e, h', e1, rfl⟩ := w
  unfold runF
  rw [e1]
  rfl
theorem runQ_wp (w : wp m (startE k args) h fun r _ h' => ∃ ℓ, r = .rt ℓ (.d d)) : runQ k m args h = some (.d d) := by
  obtain ⟨r, e, h', e1, ℓ, rfl⟩ := w
  exact run_q e1
theorem runE_wp {Q : Val → Hs → Prop} (w : wp m (startE k args) h fun r _ h' => ∃ d, (∃ ℓ, r = .rt ℓ (.d d)) ∧ nl d = true ∧ Q (.d d) h') : ∃ x h', runE k m args h = some (x, h') ∧ Q x h' := by
  obtain ⟨r, e, h', e1, d, ⟨ℓ, rfl⟩, hn, q⟩ := w
  exact ⟨_, h', run_e e1 hn, q⟩
/-- a loop that builds an own list of numbers, item by item -/
theorem for_acc {α : Type} {vs : List Nat} {bn : B1} {A : M1} {f : α → PyData} {g : α → List Int} (E : List Int → En) (P : α → Prop) : ∀ (as : List α) (acc : List Int), (∀ a ∈ as, P a) →
    (∀ a acc, P a → ∃ e1, bn (f a) (E acc) = some e1 ∧ ∃ e2, A e1 h = some (.nx, e2, h) ∧ wipeE e2 vs = E (acc ++ g a)) → forGo vs (fun d env h => (bn d env).bind fun env1 => A env1 h) (as.map f) (E acc) h = some (.nx, E (acc ++ (as.map g).flatten), h)
  | [], acc, _, _ => by simp [forGo]
  | a :: as, acc, hP, hs => by
    obtain ⟨e1, b1, e2, a2, w⟩ := hs a acc (hP a (by simp))
    have ih := for_acc E P as (acc ++ g a) (fun b hb => hP b (by simp [hb])) hs
    rw [List.map_cons]
    refine for_nx (env1 := e2) (h1 := h) (by rw [b1]; exact a2) ?_
    rw [w, ih]
    simp
theorem qTup1_ {d : PyData} (e : q env h = some (.d d)) : qTup (aCons q aNil) env h = some (.d (.tuple [d])) := by
  unfold qTup aCons
  rw [e]
  have : 1 ≤ sizeLine := by rw [sizeLine_eq]; omega
  simp [aNil, dsOf, dOf, this]
theorem qTup2_ {q' : Q1} {d d' : PyData} (e : q env h = some (.d d)) (e' : q' env h = some (.d d')) : qTup (aCons q (aCons q' aNil)) env h = some (.d (.tuple [d, d'])) := by
  unfold qTup aCons
  rw [e]
  have : 2 ≤ sizeLine := by rw [sizeLine_eq]; omega
  simp [aNil, dsOf, dOf, e', this]
theorem qCall1_ {g : List Val → Hs → Option Val} {x z : Val} (e : q env h = some x) (e2 : g [x] h = some z) : qCall (arity 1 g) (aCons q aNil) env h = some z := by
  unfold qCall aCons aNil
  rw [e]
  exact e2
theorem qCall2_ {q' : Q1} {g : List Val → Hs → Option Val} {x y z : Val} (e : q env h = some x) (e' : q' env h = some y) (e2 : g [x, y] h = some z) : qCall (arity 2 g) (aCons q (aCons q' aNil)) env h = some z := by
  unfold qCall aCons aNil
  rw [e]
  simp only [Option.bind_some, e']
  exact e2
theorem fCall1_ {g : List Val → Hs → Option (List PyData)} {x : Val} {z : List PyData} (e : q env h = some x) (e2 : g [x] h = some z) : fCall (arity 1 g) (aCons q aNil) env h = some z := by
  unfold fCall aCons aNil
  rw [e]
  exact e2
theorem fCall2_ {q' : Q1} {g : List Val → Hs → Option (List PyData)} {x y : Val} {z : List PyData} (e : q env h = some x) (e' : q' env h = some y) (e2 : g [x, y] h = some z) : fCall (arity 2 g) (aCons q (aCons q' aNil)) env h = some z := by
  unfold fCall aCons aNil
  rw [e]
  simp only [Option.bind_some, e']
  exact e2
theorem qF_ (e : f env h = some xs) : qF f env h = some (.d (.list xs)) := by
  unfold qF
  rw [e]
  rfl
end
end Sm

set_option Elab.async false
set_option linter.all false
set_option maxRecDepth 100000
set_option maxHeartbeats 4000000
/-! sets of several texts: set(xs), sorted(set(xs)) -/
namespace Sm
open PySem L2 Evl PyProof.Rows PySem.Froz
def keyS (e : Int × Value) : Str := match e.2 with
  | .str k _ => k
  | _ => Str.empty
def GoodS (w : World) (e : Int × Value) : Prop := ∃ k tk, e.2 = Value.str k tk ∧ e.1 = hashStr w k
/-- a payload that holds the texts l, such that it can be walked -/
structure TxS (w : World) (D : SD) (l : List Str) : Prop where
  good : ∀ e ∈ D.1.toList, GoodS w e
  perm : (D.1.toList.map keyS).Perm l
  nd : l.Nodup
  fit : D.2.2.fits D.1.size = true
  ris : Ris D.2.2.place.toList
  led : w.params.followText "set-order" = true ∨ D.2.2.led = true
section
variable {ep : Nat} {es1 : Array (Int × Value)} {t2 : SetTable} {wd : Bool}
theorem tail_perm : (tailTx ep es1 t2 wd).1.toList.Perm es1.toList := by
  unfold tailTx
  split
  · exact relayAll_perm _ _ _
  · exact .refl _
theorem tail_fit (hf : t2.fits es1.size = true) : (tailTx ep es1 t2 wd).2.2.fits (tailTx ep es1 t2 wd).1.size = true := by
  unfold tailTx
  split
  · exact relayAll_fits _ _ _
  · exact hf
theorem tail_ris (hf : Ris t2.place.toList) : Ris (tailTx ep es1 t2 wd).2.2.place.toList := by
  unfold tailTx
  split
  · exact relayAll_ris _ _ _
  · exact hf
theorem tail_led : (tailTx ep es1 t2 wd).2.2.led = t2.led := by
  unfold tailTx
  split
  · exact relayAll_led _ _ _
  · rfl
end
theorem addTx_perm (h : Int) (v : Value) (D : SD) : (addTx h v D).1.toList.Perm (D.1.push (h, v)).toList := tail_perm.trans (layNew_perm D.2.2 D.1 h v)
theorem addTx_fit (h : Int) (v : Value) (D : SD) : (addTx h v D).2.2.fits (addTx h v D).1.size = true := tail_fit (by
  have hf := layNew_fits D.2.2 D.1 h v
  split
  · exact SetTable.fits_plain_off hf
  · exact hf)
theorem addTx_ris (h : Int) (v : Value) (D : SD) (r : Ris D.2.2.place.toList) : Ris (addTx h v D).2.2.place.toList := tail_ris (by
  have hf := layNew_ris D.2.2 D.1 h v r
  split
  · exact hf
  · exact hf)
theorem addTx_led (h : Int) (v : Value) (D : SD) : (addTx h v D).2.2.led = D.2.2.led := tail_led.trans (by
  have hf := layNew_led D.2.2 D.1 h v
  split
  · exact hf
  · exact hf)
section
variable {P : Program} {w : World} {A : Around} {E : Value → Shared → Prop} {s : Shared}
theorem TxS.sz {D : SD} {l : List Str} (F : TxS w D l) : D.1.size = l.length := by
  have := F.perm.length_eq
  rw [List.length_map, Array.length_toList] at this
  exact this
theorem good_isS {e : Int × Value} (g : GoodS w e) (k : Str) : (PySem.strKind P w).is k e.2 = true ↔ keyS e = k := by
  obtain ⟨k0, tk, h1, _⟩ := g
  unfold keyS
  rw [h1]
  constructor
  · intro z
    exact (PySem.strKind P w).inj (.str k0 tk) k0 k (is_str k0 tk) z
  · intro z
    have z : k0 = k := z
    subst z
    exact is_str k0 tk
theorem TxS.ok {D : SD} {l : List Str} (F : TxS w D l) : TxOk P w D l where
  el := fun e he => by
    obtain ⟨k, tk, h1, h2⟩ := F.good e he
    exact ⟨⟨k, by rw [h1]; exact is_str k tk, h2⟩, by rw [h1]; rfl⟩
  mem := fun k => by
    rw [← F.perm.mem_iff, List.mem_map]
    constructor
    · rintro ⟨e, he, q⟩
      exact ⟨e, he, (good_isS (F.good e he) k).mpr q⟩
    · rintro ⟨e, he, q⟩
      exact ⟨e, he, (good_isS (F.good e he) k).mp q⟩
  sz := F.sz
  fit := F.fit
theorem TxS.add {D : SD} {l : List Str} {k : Str} (u : Tok) (F : TxS w D l) (hk : k ∉ l) : TxS w (addTx (hashStr w k) (.str k u) D) (k :: l) := by
  have p := addTx_perm (hashStr w k) (.str k u) D
  rw [Array.toList_push] at p
  have p : (addTx (hashStr w k) (.str k u) D).1.toList.Perm ((hashStr w k, .str k u) :: D.1.toList) := p.trans (List.perm_append_singleton _ _)
  exact {
    good := fun e he => by
      rcases List.mem_cons.mp (p.mem_iff.mp he) with z | z
      · rw [z]; exact ⟨k, u, rfl, rfl⟩
      · exact F.good e z
    perm := (p.map keyS).trans (F.perm.cons k)
    nd := List.nodup_cons.mpr ⟨hk, F.nd⟩
    fit := addTx_fit _ _ _
    ris := addTx_ris _ _ _ F.ris
    led := F.led.imp id fun z => by rw [addTx_led]; exact z }
theorem TxS.nil : TxS w (#[], 0, .fresh 0 0 (!w.params.followText "set-order")) [] where
  good := fun e he => by simp at he
  perm := .nil
  nd := .nil
  fit := rfl
  ris := List.Pairwise.nil
  led := by
    show _ ∨ (!w.params.followText "set-order") = true
    cases w.params.followText "set-order"
    · exact .inr rfl
    · exact .inl rfl
/-- the add of a text that is there -/
theorem add_old {a : Addr} {D : SD} {l : List Str} {k : Str} {u : Tok} {Q : Bool → Shared → Prop} (ho : s.heap.get? a = some (sObj "set" D)) (F : TxS w D l) (hk : k ∈ l) (hb : l.length < scanBound)
    (h : Q false s) : wpAny (model P w) A (setAddHashed a (.str k u) (hashStr w k)) Q E s := by
  have G := F.ok (P := P)
  obtain ⟨es, ep, t⟩ := D
  have hd : (sObj "set" (es, ep, t)).data = .set es ep t := rfl
  have hf : t.fits es.size = true := F.fit
  have hel : ElemsOf (PySem.strKind P w) es.toList := G.el
  have hsz : es.size = l.length := G.sz
  have hb0 : es.size < scanBound := by omega
  have hkey : (PySem.strKind P w).is k (.str k u) = true := is_str k u
  unfold setAddHashed setAddHashedIn
  refine wpAny_holding (wpAny_bind (wpAny_setState_of ho hd hf ?_))
  dsimp only
  rw [byScan_of rfl hb0 hel]
  simp only [↓reduceIte]
  unfold setAddByScan
  refine wpAny_bind ?_
  refine wpAny_bind (wpAny_rule ?_)
  refine wpAny_bind (wpAny_setScan_of (knd := PySem.strKind P w) (k := k) hkey ho hd hf hel ?_)
  cases hfi : List.findIdx? (fun e => (PySem.strKind P w).is k e.2) es.toList with
  | some j =>
    dsimp only
    exact wpAny_pure (wpAny_pure h)
  | none =>
    obtain ⟨e, he, q⟩ := (G.mem k).mp hk
    have c := List.findIdx?_eq_none_iff.mp hfi e he
    rw [q] at c
    cases c
end
end Sm

set_option Elab.async false
set_option linter.all false
set_option maxRecDepth 100000
set_option maxHeartbeats 4000000
namespace Sm
open PySem L2 Evl PyProof.Rows PySem.Froz
section
variable {P : Program} {w : World} {A : Around} {E : Value → Shared → Prop} {s : Shared}
/-- a set at S that holds the texts of a list -/
def SetS (w : World) (h : Heap) (S : Addr) (xs : List Str) : Prop := ∃ D l, h.get? S = some (sObj "set" D) ∧ TxS w D l ∧ (∀ k, k ∈ l ↔ k ∈ xs) ∧ l.length ≤ xs.length
theorem set_update_strs {I : Addr} {fp wr : List Addr} {G : Array GenState → Array GenState → Prop} {n : Nat} {Pv : Nat → Value → Prop} {St : Nat → Shared → Prop} {R : Result → Shared → Prop}
    (W : WalksS P w A.in1 I fp wr G n Pv St) (S : Addr) (hSf : S ∉ fp) (ns : List Str) (hn : n = ns.length) (hb : ns.length + 1 < scanBound) (hval : ∀ i v, Pv i v → ∃ k t, ns[i]? = some k ∧ v = .str k t) :
    ∀ (k i : Nat) (s : Shared), n - i = k → i ≤ n → St i s → SetS w s.heap S (ns.take i) →
      (∀ s', Moved (S :: wr) G s s' → SetS w s'.heap S ns → R (.ok (.ret .none)) s') →
      codeAny (model P w) A (.builtin "set.update.loop" ⟨[.ref S, .ref I], []⟩) R s := by
  have hSw : S ∉ wr := fun h => hSf (W.sub _ h)
  have hsub : ∀ b ∈ wr, b ∈ S :: wr := fun b hb => List.mem_cons_of_mem _ hb
  intro k
  induction k with
  | zero =>
    intro i s hk' hi hst hS hR
    have hin : i = n := by omega
    subst hin
    refine codeAny_builtin F.entry_set_update_loop ?_
    rw [Around.under_plainId F.plain_set_update_loop _]
    show wpAny _ A.in1 (pyNext (.ref I) >>= _) _ _ s
    refine wpAny_bind (W.done s _ _ hst fun s' hm => ?_)
    show wpAny _ A.in1 (ret Value.none) _ _ s'
    have e : ns.take i = ns := List.take_of_length_le (by omega)
    rw [e] at hS
    obtain ⟨D, l, h1, h2⟩ := hS
    exact wpAny_pure (hR s' (hm.mono hsub) ⟨D, l, hm.heap S _ hSw h1, h2⟩)
  | succ k ih =>
    intro i s hk' hi hst ⟨D, l, h1, h2, h3, h4⟩ hR
    have hlt : i < n := by omega
    refine codeAny_builtin F.entry_set_update_loop ?_
    rw [Around.under_plainId F.plain_set_update_loop _]
    show wpAny _ A.in1 (pyNext (.ref I) >>= _) _ _ s
    refine wpAny_bind (W.item i s _ _ hlt hst fun v s' hP hst' hm => ?_)
    obtain ⟨z, t, hz, rfl⟩ := hval i v hP
    have h1' : s'.heap.get? S = some (sObj "set" D) := hm.heap S _ hSw h1
    have hl : l.length < scanBound := by
      have : (ns.take i).length ≤ ns.length := by rw [List.length_take]; omega
      omega
    show wpAny _ A.in1 (holding [Value.str z t] (setAdd S (.str z t)) >>= _) _ _ s'
    refine wpAny_bind (wpAny_holding ?_)
    unfold setAdd
    refine wpAny_holding ?_
    refine wpAny_bind ((PySem.strKind P w).pyHash (k := z) (is_str z t) ?_)
    have hti : ns.take (i + 1) = ns.take i ++ [z] := by rw [List.take_add_one, hz]; rfl
    by_cases hk : z ∈ l
    · refine add_old (s := { s' with toks := s'.toks + 1 }) h1' h2 hk hl ?_
      have hS2 : SetS w s'.heap S (ns.take (i + 1)) := ⟨D, l, h1', h2, fun j => by
        rw [hti, List.mem_append, List.mem_singleton, h3]
        exact ⟨.inl, fun q => q.elim id fun e => e ▸ (h3 z).mp hk⟩, by rw [hti, List.length_append]; omega⟩
      refine wpAny_pure ⟨plainId_quiet F.plain_set_update_loop _, ih (i + 1) _ (by omega) hlt (W.frame _ s' _ _ hst' (Nat.le_succ _) fun b hb o e => e) hS2 fun s'' hm'' hS'' => ?_⟩
      exact hR s'' (Moved.trans W.gtrans ((hm.mono hsub).then_heap (Nat.le_succ _) fun b o hb e => e) hm'') hS''
    · have hl2 : l.length + 1 < scanBound := by
        have : (ns.take i).length ≤ ns.length := by rw [List.length_take]; omega
        omega
      refine add_x (s := { s' with toks := s'.toks + 1 }) h1' (h2.ok (P := P)) hk hl2 ?_
      have hsb : ∀ b : Addr, b ≠ S → (s'.heap.update S (fun _ => sObj "set" (addTx (hashStr w z) (.str z t) D))).get? b = s'.heap.get? b := fun b hb => Heap.get?_update_other _ _ (Ne.symm hb)
      have hS2 : SetS w (s'.heap.update S (fun _ => sObj "set" (addTx (hashStr w z) (.str z t) D))) S (ns.take (i + 1)) := ⟨_, z :: l, get_upd _ h1' rfl, h2.add t hk, fun j => by
        rw [hti, List.mem_append, List.mem_singleton, List.mem_cons, h3]
        exact Or.comm, by rw [hti, List.length_append, List.length_cons, List.length_singleton]; omega⟩
      refine wpAny_pure ⟨plainId_quiet F.plain_set_update_loop _, ih (i + 1) _ (by omega) hlt (W.frame _ s' _ _ hst' (Nat.le_succ _) fun b hb o e => ?_) hS2 fun s'' hm'' hS'' => ?_⟩
      · exact (hsb b (fun h : b = S => hSf (by rw [← h]; exact hb))).trans e
      · refine hR s'' (Moved.trans W.gtrans ((hm.mono hsub).then_heap (Nat.le_succ _) fun b o hb e => ?_) hm'') hS''
        exact (hsb b (fun h : b = S => hb (by rw [h]; exact List.mem_cons_self))).trans e
theorem strs_len : ∀ {us : List Value} {xs : List Str}, StrsAre us xs → us.length = xs.length
  | _, _, .nil => rfl
  | _, _, .cons _ _ h => by rw [List.length_cons, List.length_cons, strs_len h]
theorem setLS_call {l : Addr} {items : Array Value} (ns : List Str) {Q : Value → Shared → Prop} (hh : A.handled = none) (hl : s.heap.IsList l items) (hit : StrsAre items.toList ns) (hb : ns.length + 1 < scanBound)
    (h : ∀ (h' : Heap) (tk : Nat), SetS w h' s.heap.objs.size ns → (∀ b o, s.heap.get? b = some o → h'.get? b = some o) →
      Q (.ref s.heap.objs.size) { s with heap := h', toks := tk }) : wpAny (model P w) A (call (.type "set") [.ref l]) Q E s := by
  have isz : items.size = ns.length := (Array.length_toList (xs := items)).symm.trans (strs_len hit)
  obtain ⟨c, tl, hmro⟩ := F.called_set.mro
  have m1 := F.called_set.made
  have m2 := F.called_set.sub
  refine wpAny_call (codeAny_of_tree ?_)
  show wpAny _ _ (callAny (.type "set") _) _ _ _
  refine wpAny_pure ⟨Code.quiet_builtin _ (by decide +kernel), codeAny_builtin F.entry_type_call ?_⟩
  rw [Around.under_plain (weight_type_call_type "set" [.ref l] []) rfl]
  have m3 := F.called_set.notType
  have m4 := F.called_set.canCreate
  have m5 := F.typeCall_set_1 (.ref l)
  repeat (any_goals (first | assumption | wp_step))

  refine codeAny_mono (code_set_led1 (.ref l) (E := E) (Q₁ := fun obj s₁ => obj = .ref s.heap.objs.size ∧ s₁ = { s with heap := s.heap.push (so0 w) }) ⟨rfl, rfl⟩) fun r s₁ hr => ?_
  rcases r with _ | fl
  · exact hr
  cases fl with
  | ret obj =>
    obtain ⟨rfl, rfl⟩ := hr
    have gS : (s.heap.push (so0 w)).get? s.heap.objs.size = some (so0 w) := Heap.get?_push_size _ rfl
    have gT : Shared.TypeIs { s with heap := s.heap.push (so0 w) } (.ref s.heap.objs.size) "set" := ⟨_, gS, rfl⟩
    have m6 := F.called_set.init.lookup
    have m7 := F.called_set.init.bind (.ref s.heap.objs.size)
    repeat (any_goals (first | assumption | wp_step))

    refine codeAny_mono (codeAny_call_builtin (R := wants (fun r s₂ => r = .none ∧ ∃ h' tk, s₂ = { s with heap := h', toks := tk } ∧ SetS w h' s.heap.objs.size ns ∧
        (∀ b o, s.heap.get? b = some o → h'.get? b = some o)) E) F.called_set.init.plain F.entry_set_init (check_set_init_1 gT ?_)) fun r₂ s₂ hr₂ => ?_
    · obtain ⟨⟨oc, od, oda, osl⟩, gl, hcl, nl, hdl⟩ := hl
      simp only at hcl hdl
      subst hcl; subst hdl
      have gl' : (s.heap.push (so0 w)).get? l = some { cls := .type "list", dict := od, data := .seq items nl, slots := osl } := Heap.get?_push_of_some _ gl
      have n1 := F.sub_list_set
      have n2 := F.sub_list_frozenset
      have n3 : (Value.type "list" == Value.type "dict") = false := by decide
      have isl : (s.heap.push (so0 w)).IsList l items := ⟨_, gl', rfl, nl, rfl⟩
      unfold Builtin.«set.__init__» noKeywords Builtin.Frozenset.updateFrom
      generalize eP : pyIter = PI
      wp_walk
      subst eP

      refine wpAny_pyIter_list isl (wpAny_bind (wpAny_runValue ?_))
      have lts : l < s.heap.objs.size := Heap.lt_size gl
      have hd3 : A.in1.in1.in1.handled = none := by simp [hh]
      have szp : (s.heap.push (so0 w)).objs.size = s.heap.objs.size + 1 := Heap.size_push ..
      have ne1 : l ≠ (s.heap.push (so0 w)).objs.size := by rw [Heap.size_push]; exact Nat.ne_of_lt (Nat.lt_succ_of_lt lts)
      have ne2 : s.heap.objs.size ∉ [(s.heap.push (so0 w)).objs.size, l] := by
        intro z
        rcases List.mem_cons.mp z with z | z
        · rw [Heap.size_push] at z
          exact absurd z (Nat.ne_of_lt (Nat.lt_succ_self _))
        · exact absurd (List.mem_singleton.mp z) (Nat.ne_of_gt lts)
      have vals : ∀ (i : Nat) (v : Value), items[i]? = some v → ∃ k t, ns[i]? = some k ∧ v = .str k t := fun i v hv => by
        have hi : i < ns.length := by rw [← isz]; exact (Array.getElem?_eq_some_iff.mp hv).1
        obtain ⟨t, e⟩ := SS.strs_at hit i v (by rw [Array.getElem?_toList]; exact hv)
        refine ⟨ns[i], t, List.getElem?_eq_getElem hi, e.trans ?_⟩
        rw [List.getD_eq_getElem?_getD, List.getElem?_eq_getElem hi] <;> rfl
      refine set_update_strs ((Walks.list hd3 _ l ne1 items).toS) s.heap.objs.size ne2 ns isz hb vals (items.size - 0) 0 _ (by omega) (Nat.zero_le _)
        ⟨⟨_, Heap.get?_push_size _ rfl, rfl, rfl⟩, (isl.push _)⟩ ?g0 ?g1
      case g0 => exact ⟨(#[], 0, .fresh 0 0 (!w.params.followText "set-order")), [], Heap.get?_push_of_some _ gS, TxS.nil, fun k => by simp, Nat.zero_le _⟩
      case g1 =>
        intro s' hm hS'
        obtain ⟨h', g2, d', tk', os'⟩ := s'
        obtain rfl : g2 = s.gens := hm.gens
        obtain rfl : d' = s.drawn := hm.drawn
        obtain rfl : os' = s.os := hm.os
        show wpAny _ _ _ _ _ _
        refine wpAny_pure ?_
        show wpAny _ _ (ret Value.none) _ _ _
        refine wpAny_pure ⟨rfl, h', tk', rfl, hS', fun b o e => ?_⟩
        have lt0 : b < s.heap.objs.size := Heap.lt_size e
        refine hm.heap b o (fun z => ?_) (Heap.get?_push_of_some _ (Heap.get?_push_of_some _ e))
        rcases List.mem_cons.mp z with z | z
        · exact absurd z (Nat.ne_of_lt lt0)
        · have z2 := List.mem_singleton.mp z
          rw [Heap.size_push] at z2
          exact absurd z2 (Nat.ne_of_lt (Nat.lt_succ_of_lt lt0))

    · rcases r₂ with _ | fl₂
      · exact hr₂
      cases fl₂ with
      | ret r =>
        obtain ⟨rfl, h', tk, rfl, hS', hk'⟩ := hr₂
        repeat (any_goals (first | assumption | wp_step))
        exact h _ _ hS' hk'
      | _ => exact hr₂.elim
  | _ => exact hr.elim
theorem strs_keys : ∀ (l : List Value), (∀ v ∈ l, ∃ k tk, v = Value.str k tk) → StrsAre l (l.map fun v => match v with | .str k _ => k | _ => Str.empty)
  | [], _ => .nil
  | v :: l, h => by
    obtain ⟨k, tk, rfl⟩ := h v List.mem_cons_self
    exact .cons k tk (strs_keys l fun u hu => h u (List.mem_cons_of_mem _ hu))
theorem sorted_setS {a : Addr} {xs : List Str} {Q : Value → Shared → Prop} (R : SetS w s.heap a xs) (hh : A.handled = none) (h64 : xs.length < 64)
    (hQ : ∀ s' p (out : Array Value) (c : Nat) (ns : List Str), (∀ b o, s.heap.get? b = some o → s'.heap.get? b = some o) → s'.gens = s.gens → s'.os = s.os → s.heap.objs.size ≤ p →
      s'.heap.get? p = some (seqObj "list" out c) → StrsAre out.toList ns → sortedS ns = true → ns.Nodup → (∀ k, k ∈ ns ↔ k ∈ xs) → ns.length ≤ xs.length → Q (.ref p) s') :
    wpAny (model P w) A (call (.builtin "sorted") [.ref a]) Q E s := by
  obtain ⟨⟨es, ep, t⟩, l, ho, T, hm, hll⟩ := R
  have hsz : es.size = l.length := T.sz
  have hb : es.size < scanBound := by rw [hsz]; exact Nat.lt_of_le_of_lt hll (Nat.lt_of_lt_of_le h64 (by unfold scanBound; omega))
  refine Calls.call_function_entry kind_sorted plain_sorted entry_sorted (args_sorted1 _) ?_
  unfold Builtin.«sorted»
  refine wpAny_bind (m := checkCount "sorted" 1 1 _) (wpAny_pure ?_)
  refine wpAny_bind (collect_set (A := A.in1) hh ⟨_, ho, rfl, rfl⟩ T.fit hb T.ris T.led fun s1 vs k1 hz g1 o1 pm => ?_)
  have hvl : vs.length = l.length := by rw [pm.length_eq, List.length_map, Array.length_toList]; exact hsz
  have hI : StrsAre vs (vs.map fun v => match v with | .str k _ => k | _ => Str.empty) := strs_keys vs fun v hv => by
    obtain ⟨e, he, q⟩ := List.mem_map.mp (pm.mem_iff.mp hv)
    obtain ⟨k, tk, h1, _⟩ := T.good e he
    exact ⟨k, tk, by rw [← q]; exact h1⟩
  have pk : (vs.map fun v => match v with | .str k _ => k | _ => Str.empty).Perm l := by
    have q := pm.map fun v : Value => match v with | .str k _ => k | _ => Str.empty
    rw [List.map_map] at q
    exact q.trans T.perm
  refine wpAny_bind (wpAny_newList ?_ (by rw [hvl, sizeLine_eq]; omega))
  have hoL : (s1.heap.push (seqObj "list" vs.toArray 0)).get? s1.heap.objs.size = some (seqObj "list" vs.toArray 0) := Heap.get?_push_size _ rfl
  refine wpAny_bind (wpAny_holding (wpAny_call_entry slot_list_sort ⟨_, hoL, rfl⟩ entry_list_sort
    (list_sort_treeK strKind_oneLt (s := { s1 with heap := s1.heap.push (seqObj "list" vs.toArray 0) }) hoL hI.keysOf (fun v₁ v₂ rest e => keyKind_strs (by rw [← e]; exact hI)) (by rw [hvl]; omega) fun st' hp hs => ⟨_, rfl, ?_⟩)
    (args_list_sort _)))
  obtain ⟨ys, q1, q2, q3⟩ := sorted_out_str hI hp hs
  obtain ⟨c, hc⟩ := sortedHeap_at (vs := vs) (out := (arrOf st').map (·.2)) hoL
  have pn : ys.Perm l := q2.trans pk
  refine wpAny_pure ⟨_, rfl, hQ _ s1.heap.objs.size _ c ys (fun b u e => ?_) g1 o1 hz hc q1 q3 (pn.nodup_iff.mpr T.nd) (fun k => by rw [pn.mem_iff, hm k]) (by rw [pn.length_eq]; exact hll)⟩
  have q := k1 b u e
  have hlt := Heap.lt_size q
  show (sortedHeap (s1.heap.push (seqObj "list" vs.toArray 0)) s1.heap.objs.size vs _).get? b = some u
  rw [sortedHeap_old (Nat.ne_of_lt hlt) (by rw [size_push']; exact Nat.lt_succ_of_lt hlt)]
  exact Heap.get?_push_of_some _ q
end
end Sm

set_option Elab.async false
set_option linter.all false
set_option maxRecDepth 100000
set_option maxHeartbeats 4000000
namespace Sm
open PySem L2 Evl PyProof.Rows PySem.Froz
/-- the set of the texts xs at a -/
def SetSO (w : World) (a : Addr) (xs : List Str) : HO := .ext fun h => SetS w h a xs
section
variable {X : Cx}
theorem SetS.at {w : World} {h h' : Heap} {a : Addr} {xs : List Str} (R : SetS w h a xs) (k : ∀ o, h.get? a = some o → h'.get? a = some o) : SetS w h' a xs := by
  obtain ⟨D, l, h1, h2⟩ := R
  exact ⟨D, l, k _ h1, h2⟩
theorem setSO_new {w : World} {P : Program} {H : Hp} {h : Heap} {a : Addr} {xs : List Str} (R : SetS w h a xs) : ObjOk P w H h a (SetSO w a xs) := by
  have ⟨D, l, h1, _⟩ := R
  exact ⟨R, ⟨_, h1⟩, fun h1 h2 p k => SetS.at p k⟩
theorem setSO_get {pins : List (Addr × Obj)} {σ : L2.St} {H : Hp} {s : Shared} {a : Addr} {xs : List Str} (I : Inv X pins σ H s) (ha : H a = some (SetSO X.w a xs)) : SetS X.w s.heap a xs := (I.hok a _ ha).1
def rSetS (X : Cx) : List V → Hp → VK → Prop := fun vs H Q => ∃ (a : Addr) (ns : List Str), vs = [V.ref a] ∧ SqL X.K H a (ns.map V.str) ∧ ns.length < 64 ∧ ∀ p, H p = none → Q (.ref p) (upd H p (SetSO X.w p ns))
theorem cr_setSS (hc : X.calm = true) : CallR X (.type "set") (rSetS X) := by
  intro pins s σ H vs us Q I r ⟨a, ns, e, hq, hn, q⟩
  subst e
  rw [Vals.ref1 r]
  obtain ⟨its, rv, pt, hz⟩ := I.list hq
  refine setLS_call ns (I.ok.hd hc) pt.isList (strsAre_of rv) (by unfold scanBound; omega) fun h' tk R1 k => ?_
  exact ⟨.ref _, upd H s.heap.objs.size (SetSO X.w s.heap.objs.size ns), I.laid (t' := tk) k (Nat.le_refl _) (setSO_new R1), rfl, q _ (I.hok.fresh (Nat.le_refl _))⟩
def rSortedSS (w : World) : List V → Hp → VK → Prop := fun vs H Q => ∃ (a : Addr) (xs : List Str), vs = [V.ref a] ∧ H a = some (SetSO w a xs) ∧ xs.length < 64 ∧
  ∀ (ns : List Str) (p : Addr), sortedS ns = true → ns.Nodup → (∀ k, k ∈ ns ↔ k ∈ xs) → H p = none → Q (.ref p) (upd H p (.lst (ns.map V.str)))
theorem cr_sortedSS (hc : X.calm = true) : CallR X (.builtin "sorted") (rSortedSS X.w) := by
  intro pins s σ H vs us Q I r h
  obtain ⟨a, xs, rfl, ha, h64, q⟩ := h
  have R := setSO_get I ha
  rw [Vals.ref1 r]
  refine sorted_setS R (I.ok.hd hc) h64 fun s' p out c ns k g o hp hg hi hs hd hm hl => ?_
  have hlen : (ns.map V.str).length ≤ sizeLine := by rw [List.length_map, sizeLine_eq]; omega
  have hn : H p = none := I.hok.fresh hp
  have J : Inv X pins σ (upd H p (.lst (ns.map V.str))) { s with heap := s'.heap, gens := s'.gens, drawn := s'.drawn, toks := s'.toks } :=
    I.call (ch := []) (Un.laid k hp hn) (I.hok.laid k hp ⟨hlen, out.toList, c, vals_of_strs hi, hg⟩) (by rw [g]; exact I.bare) (fun _ z => nomatch z)
  have e : s' = { s with heap := s'.heap, gens := s'.gens, drawn := s'.drawn, toks := s'.toks } := by
    cases s'
    cases s
    cases o
    rfl
  rw [e]
  exact ⟨.ref p, _, J, rfl, q ns p hs hd hm hn⟩
end
/-- sorted(set(x)) of a list of texts -/
def gSetT : Hs → Val → Option (List PyData) := fun _ x => match x with
  | .d (.list ds) => (strsOf ds).bind fun ns => if ns.length < 64 then some ((strU ns).map .str) else none
  | _ => none
theorem gSetT_inv {h : Hs} {x : Val} {z : List PyData} (e : gSetT h x = some z) : ∃ ns, x = .d (.list (ns.map .str)) ∧ ns.length < 64 ∧ z = (strU ns).map .str := by
  unfold gSetT at e
  split at e
  · obtain ⟨ns, ep, e⟩ := bind_some e
    split at e
    · next hl => cases e; exact ⟨ns, by rw [strsOf_map ep], hl, rfl⟩
    · cases e
  · cases e
section
variable {F : Fm} {X : Cx} {tg a b c e o : Expr} {es rest : List Expr} {pos pos2 p p1 p2 apos : Pos} {ℓ : Lv} {qa qb qc qo : Q1} {env : En} {h h' : Hs} {A A' : As} {σ : L2.St} {H H' : Hp} {ss : List Nat} {ma mb : E1} {fa fb : EF}
theorem sf_sset' (hK : X.K = F.G.K) (hc : X.calm = true) (hm : X.mg "sorted" = none) (hm2 : X.mg "set" = none) (ha : SimQ X F .mo a qa) (hg : Gl X "sorted" := by rfl) (hg2 : Gl X "set" := by rfl)
    (he : starEach [a] X.env = (false, eval a X.env) :: starEach [] X.env := by rfl) (hpl : (backTo pos2 (starEach [] X.env)).any (·.1) = false := by rfl)
    (he2 : starEach [.Call (.Name "set" p2) [a] [] pos2] X.env = (false, eval (.Call (.Name "set" p2) [a] [] pos2) X.env) :: starEach [] X.env := by rfl) (hpl2 : (backTo pos (starEach [] X.env)).any (·.1) = false := by rfl) :
    SimF X F (.Call (.Name "sorted" p) [.Call (.Name "set" p2) [a] [] pos2] [] pos) (f1 gSetT qa) := by
  refine PEimp (pe_callB (cr_sortedSS hc) hg hm (by decide +kernel) (pa_cons (pe_callTy (cr_setSS hc) hg2 hm2 (by decide +kernel) (pa_cons ha pa_nil he) (by decide) (by decide) he hpl) pa_nil he2) (by decide) (by decide) he2 hpl2) fun σ H Q ⟨env, h, A, z, R, e, k⟩ => ?_
  obtain ⟨x, ex, e⟩ := bind_some e
  refine ⟨env, h, A, x, R, ex, fun v H1 e1 rv => ?_⟩
  obtain ⟨ns, rfl, hl, rfl⟩ := gSetT_inv e
  obtain ⟨a, us, rfl, t, r⟩ := rl rv
  rw [rep_strs r] at t
  refine ⟨a, ns, rfl, by rw [hK]; exact t, hl, fun p hp => ⟨p, ns, rfl, upd_same, hl, fun ys p' so nd hmem hp' => ?_⟩⟩
  have ey : ys = strU ns := strs_uniq (sorted_asc so nd) (asc_strU _) fun x => by rw [hmem, mem_strU]
  subst ey
  have hpp : p' ≠ p := fun z => by rw [z, upd_same] at hp'; cases hp'
  have hp1 : H1 p' = none := by rw [upd_ne hpp] at hp'; exact hp'
  exact k _ _ _ (fresh_back e1 hp1) (e1.trans ((Ex.new hp).trans (Ex.new hp'))) upd_same (RepAll.strs _)
theorem sef_sset' (hK : X.K = F.G.K) (hc : X.calm = true) (hm : X.mg "sorted" = none) (hm2 : X.mg "set" = none) (ha : SimE X F .fs a ma) (hg : Gl X "sorted" := by rfl) (hg2 : Gl X "set" := by rfl)
    (he : starEach [a] X.env = (false, eval a X.env) :: starEach [] X.env := by rfl) (hpl : (backTo pos2 (starEach [] X.env)).any (·.1) = false := by rfl)
    (he2 : starEach [.Call (.Name "set" p2) [a] [] pos2] X.env = (false, eval (.Call (.Name "set" p2) [a] [] pos2) X.env) :: starEach [] X.env := by rfl) (hpl2 : (backTo pos (starEach [] X.env)).any (·.1) = false := by rfl) :
    SimEF X F (.Call (.Name "sorted" p) [.Call (.Name "set" p2) [a] [] pos2] [] pos) (ef1 gSetT ma) := by
  refine PEimp (pe_callB (cr_sortedSS hc) hg hm (by decide +kernel) (pa_cons (pe_callTy (cr_setSS hc) hg2 hm2 (by decide +kernel) (pa_cons ha pa_nil he) (by decide) (by decide) he hpl) pa_nil he2) (by decide) (by decide) he2 hpl2) fun σ H Q ⟨env, h, A, z, h', R, e, k⟩ => ?_
  obtain ⟨⟨x, h1⟩, ex, e⟩ := bind_some e
  obtain ⟨w, ew, e⟩ := bind_some e
  cases e
  refine ⟨env, h, A, x, h1, R, ex, fun v H1 A1 R1 s1 rv => ?_⟩
  have rv := RV.mo R1 rv
  have ew : gSetT h1 x = some _ := ew
  obtain ⟨ns, rfl, hl, rfl⟩ := gSetT_inv ew
  obtain ⟨a, us, rfl, t, r⟩ := rl rv
  rw [rep_strs r] at t
  refine ⟨a, ns, rfl, by rw [hK]; exact t, hl, fun p hp => ⟨p, ns, rfl, upd_same, hl, fun ys p' so nd hmem hp' => ?_⟩⟩
  have ey : ys = strU ns := strs_uniq (sorted_asc so nd) (asc_strU _) fun x => by rw [hmem, mem_strU]
  subst ey
  have hpp : p' ≠ p := fun z => by rw [z, upd_same] at hp'; cases hp'
  have hp1 : H1 p' = none := by rw [upd_ne hpp] at hp'; exact hp'
  have e2 : Ex H1 (upd (upd H1 p (SetSO X.w p ns)) p' (.lst ((strU ns).map V.str))) := (Ex.new hp).trans (Ex.new hp')
  exact k p' _ _ A1 (R1.ex e2) (s1.trans (Step.ex e2)) (none_back s1 hp1) upd_same ⟨(R1.fresh hp1).f0, (R1.fresh hp1).fp⟩ (RepAll.strs _)
end
end Sm

set_option Elab.async false
set_option linter.all false
set_option maxRecDepth 100000
set_option maxHeartbeats 4000000
/-! dicts of a def's own: keys whole numbers and texts, values plain data -/
namespace Sm
open PySem L2 Evl
abbrev KVs := List (Key × PyData)
abbrev K1 := En → Hs → Option KVs
def dGet (kvs : KVs) (k : Key) : Option PyData := (kvs.find? fun kv => decide (kv.1 = k)).map (·.2)
def dPut (kvs : KVs) (k : Key) (d : PyData) : KVs := if (kvs.any fun kv => decide (kv.1 = k)) = true then kvs.map (fun kv => if kv.1 = k then (kv.1, d) else kv) else kvs ++ [(k, d)]
def dMerge (kvs more : KVs) : KVs := more.foldl (fun acc kv => dPut acc kv.1 kv.2) kvs
def keyD : PyData → Option Key
  | .int i => some (.inl i)
  | .str s => some (.inr s)
  | _ => none
section
variable {T L : LP}
theorem kv_get {k : Key} : ∀ {ps : KVs} {ks : List (Key × V)}, KvAll T L ps ks → (dGet ps k = none ∧ valV ks k = none) ∨ ∃ d v, dGet ps k = some d ∧ valV ks k = some v ∧ Rep T L d v
  | [], ks, h => by
    have : ks = [] := h
    subst this
    exact .inl ⟨rfl, rfl⟩
  | p :: ps, ks, h => by
    obtain ⟨v, r, rfl, h1, h2⟩ := h
    by_cases c : p.1 = k
    · right
      exact ⟨p.2, v, by simp [dGet, List.find?_cons, c], valV_pos c, h1⟩
    · have e1 : dGet (p :: ps) k = dGet ps k := by simp [dGet, List.find?_cons, c]
      have e2 : valV ((p.1, v) :: r) k = valV r k := valV_neg c
      rw [e1, e2]
      exact kv_get h2
theorem kv_any {k : Key} : ∀ {ps : KVs} {ks : List (Key × V)}, KvAll T L ps ks → (ps.any fun kv => decide (kv.1 = k)) = (ks.any fun kv => decide (kv.1 = k))
  | [], ks, h => by
    have : ks = [] := h
    subst this
    rfl
  | p :: ps, ks, h => by
    obtain ⟨v, r, rfl, h1, h2⟩ := h
    rw [List.any_cons, List.any_cons, kv_any h2]
theorem kv_len : ∀ {ps : KVs} {ks : List (Key × V)}, KvAll T L ps ks → ps.length = ks.length
  | [], ks, h => by
    have : ks = [] := h
    subst this
    rfl
  | p :: ps, ks, h => by
    obtain ⟨v, r, rfl, h1, h2⟩ := h
    rw [List.length_cons, List.length_cons, kv_len h2]
theorem kv_map {k : Key} {d : PyData} {v : V} (hv : Rep T L d v) : ∀ {ps : KVs} {ks : List (Key × V)}, KvAll T L ps ks → KvAll T L (ps.map fun kv => if kv.1 = k then (kv.1, d) else kv) (ks.map fun kv => if kv.1 = k then (kv.1, v) else kv)
  | [], ks, h => by
    have : ks = [] := h
    subst this
    exact rfl
  | p :: ps, ks, h => by
    obtain ⟨u, r, rfl, h1, h2⟩ := h
    rw [List.map_cons, List.map_cons]
    by_cases c : p.1 = k
    · rw [if_pos c, if_pos c]
      exact ⟨v, _, rfl, hv, kv_map hv h2⟩
    · rw [if_neg c, if_neg c]
      exact ⟨u, _, rfl, h1, kv_map hv h2⟩
theorem kv_snoc {k : Key} {d : PyData} {v : V} (hv : Rep T L d v) : ∀ {ps : KVs} {ks : List (Key × V)}, KvAll T L ps ks → KvAll T L (ps ++ [(k, d)]) (ks ++ [(k, v)])
  | [], ks, h => by
    have : ks = [] := h
    subst this
    exact ⟨v, [], rfl, hv, rfl⟩
  | p :: ps, ks, h => by
    obtain ⟨u, r, rfl, h1, h2⟩ := h
    exact ⟨u, _, rfl, h1, kv_snoc hv h2⟩
theorem kv_put {k : Key} {d : PyData} {v : V} (hv : Rep T L d v) {ps : KVs} {ks : List (Key × V)} (h : KvAll T L ps ks) : KvAll T L (dPut ps k d) (putK ks k v) := by
  unfold dPut putK
  rw [kv_any h]
  split
  · exact kv_map hv h
  · exact kv_snoc hv h
theorem kv_merge : ∀ {more : KVs} {ms : List (Key × V)} {ps : KVs} {ks : List (Key × V)}, KvAll T L more ms → KvAll T L ps ks → KvAll T L (dMerge ps more) (mergeK ks ms)
  | [], ms, ps, ks, h, hp => by
    have : ms = [] := h
    subst this
    exact hp
  | p :: more, ms, ps, ks, h, hp => by
    obtain ⟨u, r, rfl, h1, h2⟩ := h
    show KvAll T L (dMerge (dPut ps p.1 p.2) more) (mergeK (putK ks p.1 u) r)
    exact kv_merge h2 (kv_put h1 hp)
end
def tK (F : Fm) (q : K1) : TE := fun σ H Q => ∃ env h A kvs, SR F env h A σ H ∧ q env h = some kvs ∧ ∀ p ks H', H p = none → Ex H H' → H' p = some (.dK ks) → KvAll (SqT F.G.K H') (SL F.G.K H') kvs ks → Q (.ref p) H'
abbrev SimK (X : Cx) (F : Fm) (e : Expr) (q : K1) : Prop := PE X e (tK F q)
def kNew : K1 := fun _ _ => some []
/-- the pairs of a display -/
def pairsQ : List (Q1 × Q1) → En → Hs → Option KVs
  | [], _, _ => some []
  | (a, b) :: r, env, h => (a env h).bind fun x => (dOf x).bind fun x => (keyD x).bind fun k => (b env h).bind fun y => (dOf y).bind fun d => (pairsQ r env h).bind fun ps => some ((k, d) :: ps)
def kDisp (qs : List (Q1 × Q1)) : K1 := fun env h => (pairsQ qs env h).bind fun ps => if ps.length ≤ 15 then some (dMerge [] ps) else none
def mSetK (i : Nat) (q : K1) : M1 := fun env h => (q env h).bind fun kvs => some (.nx, env.set i (.k kvs), h)
def qDGet (i : Nat) (q : Q1) : Q1 := fun env h => (q env h).bind fun y => match env[i]?, y with
  | some (.k kvs), .d y => (keyD y).bind fun k => (dGet kvs k).map .d
  | _, _ => none
def qDGet2 (i : Nat) (q r : Q1) : Q1 := fun env h => (q env h).bind fun y => (r env h).bind fun z => match env[i]?, y, z with
  | some (.k kvs), .d y, .d z => (keyD y).bind fun k => some (.d ((dGet kvs k).getD z))
  | _, _, _ => none
def qDIn (neg : Bool) (i : Nat) (q : Q1) : Q1 := fun env h => (q env h).bind fun y => match env[i]?, y with
  | some (.k kvs), .d y => (keyD y).bind fun k => some (.d (.bool (if neg then !(dGet kvs k).isSome else (dGet kvs k).isSome)))
  | _, _ => none
/-- d[y] = v -/
def mDPut (i : Nat) (q r : Q1) : M1 := fun env h => (r env h).bind fun v => (q env h).bind fun y => match env[i]?, y, v with
  | some (.k kvs), .d y, .d v => (keyD y).bind fun k => if kvs.length < 100000 then some (.nx, env.set i (.k (dPut kvs k v)), h) else none
  | _, _, _ => none
section
variable {F : Fm} {X : Cx} {tg a b c e o : Expr} {es rest : List Expr} {pos pos2 p p1 p2 apos : Pos} {ℓ ℓ₂ : Lv} {qa qb qc qo : Q1} {env : En} {h h' : Hs} {A A' : As} {σ : L2.St} {H H' : Hp} {ss : List Nat} {q : K1}
theorem key_rep {d : PyData} {k : Key} {u : V} (e : keyD d = some k) (r : RV F ℓ h A H (.d d) u) : u = kV k := by
  cases d with
  | int i => cases e; exact ri r
  | str s => cases e; exact rs r
  | _ => cases e
theorem dk_at {i : Nat} {kvs : KVs} (R : SR F env h A σ H) (e : env[i]? = some (.k kvs)) : ∃ ks, σ[i]? = some (some (.ref (A (.s i)))) ∧ H (A (.s i)) = some (.dK ks) ∧ KvAll (SqT F.G.K H) (SL F.G.K H) kvs ks := by
  obtain ⟨e1, ks, e2, r⟩ := R.sl i _ e
  refine ⟨ks, ?_, e2, r⟩
  cases hs : σ[i]? with
  | none => rw [hs] at e1; cases e1
  | some o => rw [hs] at e1; exact congrArg some e1
theorem kv_ex {ps : KVs} {ks : List (Key × V)} (e : Ex H H') (r : KvAll (SqT F.G.K H) (SL F.G.K H) ps ks) : KvAll (SqT F.G.K H') (SL F.G.K H') ps ks := KvAll.mono (Ex.pres e).sqT (Ex.pres e).sL r
theorem sk_new : SimK X F (.Dict [] [] pos) kNew := PEimp pe_dnewK fun σ H Q ⟨env, h, A, kvs, R, e, k⟩ p hp => by
  cases e
  exact k p [] _ hp (Ex.new hp) upd_same rfl
def trQ (F : Fm) (qs : List (Q1 × Q1)) : List (TE × TE) := qs.map fun p => (tQ F .mo p.1, tQ F .st p.2)
theorem pairs_go {σ : L2.St} : ∀ {qs : List (Q1 × Q1)} {ps : KVs} {H : Hp} {Q : List (V × V) → Hp → Prop}, SR F env h A σ H → pairsQ qs env h = some ps →
    (∀ (ks : List (Key × V)) H', Ex H H' → KvAll (SqT F.G.K H') (SL F.G.K H') ps ks → Q (ks.map fun kv => (kV kv.1, kv.2)) H') → tPairs (trQ F qs) σ H Q
  | [], ps, H, Q, R, e, k => by
    cases e
    exact k [] H (Ex.refl H) rfl
  | (a, b) :: r, ps, H, Q, R, e, k => by
    obtain ⟨x, ex, e⟩ := bind_some e
    obtain ⟨x', ex', e⟩ := bind_some e
    obtain ⟨y, ey, e⟩ := bind_some e
    obtain ⟨z, ez, e⟩ := bind_some e
    obtain ⟨z', ez', e⟩ := bind_some e
    obtain ⟨ps', ep, e⟩ := bind_some e
    cases e
    cases x with
    | d x0 =>
      cases ex'
      cases z with
      | d z0 =>
        cases ez'
        refine ⟨env, h, A, _, R, ex, fun v H1 e1 rv => ⟨env, h, A, _, R.ex e1, ez, fun u H2 e2 ru => pairs_go ((R.ex e1).ex e2) ep fun ks H3 e3 rk => ?_⟩⟩
        have hv : v = kV y := key_rep ey rv
        subst hv
        exact k ((y, u) :: ks) H3 ((e1.trans e2).trans e3) ⟨u, ks, rfl, Rep.mono (Ex.pres e3).sqT (Ex.pres e3).sL _ _ ru, rk⟩
      | _ => cases ez'
    | _ => cases ex'
theorem sk_disp {keys : List (Option Expr)} {values : List Expr} (qs : List (Q1 × Q1)) (hp : PPs X pos keys values (trQ F qs)) (hall : keys.all (·.isSome) = true := by rfl) (hl : keys.length = values.length := by rfl) (h0 : keys ≠ [] := by exact List.cons_ne_nil _ _)
    (h15 : keys.length ≤ 15 := by decide) : SimK X F (.Dict keys values pos) (kDisp qs) := PEimp (pe_disp hp hall hl h0 h15) fun σ H Q ⟨env, h, A, kvs, R, e, k⟩ p hp => by
  obtain ⟨ps, ep, e⟩ := bind_some e
  split at e
  · next hz =>
    cases e
    have e0 : Ex H (upd H p (.dK [])) := Ex.new hp
    refine pairs_go (R.ex e0) ep fun ks H2 e2 rk => ⟨e2 _ _ upd_same, ks, rfl, by rw [← kv_len rk]; exact hz, ?_⟩
    have P : Pres H2 (upd H2 p (.dK (mergeK [] ks))) := Pres.upd fun u eu => by
      rw [e2 _ _ upd_same] at eu
      cases eu
      exact ⟨fun vs z => (by cases z), fun b w z => (by cases z)⟩
    have e3 : Ex H (upd H2 p (.dK (mergeK [] ks))) := fun a o ea => by
      by_cases c : a = p
      · rw [c, hp] at ea; cases ea
      · rw [upd_ne c]
        exact e2 _ _ (e0 _ _ ea)
    exact k p _ _ hp e3 upd_same (KvAll.mono P.sqT P.sL (kv_merge rk (ps := []) (ks := []) rfl))
  · cases e
theorem ss_setK {i : Nat} {x : Str} {p2 : Pos} (hN : X.N.Nodup) (hi : X.N[i]? = some x) (hx : Loc X.env.scope x) (he : SimK X F e q) (hs : swapsWith e (some (.Name x p2)) pos.line X.env = pure false := by rfl) (hf : X.fn x = true ∨ X.env.scope.names.lookup x = some .local := by first | exact .inl rfl | exact .inr rfl | assumption) :
    SimS X F (.Assign [.Name x p2] e pos) (mSetK i q) := PSimp (ps_set hN hi hx he hs hf) fun D σ H ⟨env, h, A, r, env', h', R, e, k⟩ => by
  obtain ⟨kvs, ex, e⟩ := bind_some e
  cases e
  exact ⟨env, h, A, kvs, R, ex, fun p ks H1 hp e1 hv rs => k _ H1 _ ((R.ex e1).setNew ⟨(R.fresh hp).f0, (R.fresh hp).fp⟩ rfl ⟨rfl, ks, hv, rs⟩) (Ex.pres e1)⟩
theorem sq_dget (i : Nat) {x : Str} (hu : X.A.units + 1 < cLine) (hb : SimQ X F ℓ₂ b qb) (hN : X.N[i]? = some x := by rfl) (hv : Vis X.env.scope x := by first | exact Or.inl rfl | exact Or.inr (Or.inl rfl) | exact Or.inr (Or.inr rfl)) (hd : (x == ("__debug__" : Str)) = false := by decide)
    (hcd : (x == ("__classdict__" : Str)) = false := by decide) (hs : NoSl b := by intro _ _; rfl) : SimQ X F ℓ (.Subscript (.Name x p) b pos) (qDGet i qb) :=
  PEimp (pe_dget hu (pe_var hN hv hd hcd) hb hs) fun σ H Q ⟨env, h, A, z, R, e, k⟩ => by
    obtain ⟨y, ey, e⟩ := bind_some e
    cases hq : env[i]? with
    | none => rw [hq] at e; cases e
    | some s =>
      rw [hq] at e
      cases s with
      | k kvs =>
        cases y with
        | d y =>
          obtain ⟨kk, ek, e⟩ := bind_some e
          obtain ⟨d, e1, e2⟩ := Option.map_eq_some_iff.mp e
          subst e2
          obtain ⟨ks, g1, g2, r⟩ := dk_at R hq
          refine ⟨_, g1, env, h, A, _, R, ey, fun u H1 x1 ru => ?_⟩
          have hu' := key_rep ek ru
          subst hu'
          rcases kv_get (k := kk) (kv_ex x1 r) with ⟨z1, _⟩ | ⟨d', v, z1, z2, z3⟩
          · rw [z1] at e1; cases e1
          · rw [z1] at e1
            cases e1
            exact ⟨_, v, rfl, .inl ⟨ks, kk, .inl (x1 _ _ g2), rfl, z2.symm⟩, k _ H1 x1 (RD.of_st (ℓ := ℓ) z3)⟩
        | _ => cases e
      | _ => cases e
theorem din_go {neg : Bool} {i : Nat} {z : Val} (R : SR F env h A σ H) (e : qDIn neg i qb env h = some z) {Q : V → Hp → Prop} (k : ∀ w : Bool, z = .d (.bool w) → ∀ H', Ex H H' → Q (.bl w) H') :
    tQ F .mo qb σ H fun y H1 => tVar i σ H1 fun x H2 => ∃ a o, x = .ref a ∧ DGet H2 a y o ∧ Q (.bl (if neg then !o.isSome else o.isSome)) H2 := by
  obtain ⟨y, ey, e⟩ := bind_some e
  cases hq : env[i]? with
  | none => rw [hq] at e; cases e
  | some s =>
    rw [hq] at e
    cases s with
    | k kvs =>
      cases y with
      | d y =>
        obtain ⟨kk, ek, e⟩ := bind_some e
        cases e
        obtain ⟨ks, g1, g2, r⟩ := dk_at R hq
        refine ⟨env, h, A, _, R, ey, fun u H1 x1 ru => ⟨_, g1, ?_⟩⟩
        have hu' := key_rep ek ru
        subst hu'
        rcases kv_get (k := kk) (kv_ex x1 r) with ⟨z1, z2⟩ | ⟨d', v, z1, z2, z3⟩
        · refine ⟨_, none, rfl, .inl ⟨ks, kk, .inl (x1 _ _ g2), rfl, z2.symm⟩, k _ ?_ H1 x1⟩
          rw [z1]
          rfl
        · refine ⟨_, some v, rfl, .inl ⟨ks, kk, .inl (x1 _ _ g2), rfl, z2.symm⟩, k _ ?_ H1 x1⟩
          rw [z1]
          rfl
      | _ => cases e
    | _ => cases e
section
variable (i : Nat) {x : Str} (hu : X.A.units + 1 < cLine) (ha : SimQ X F .mo a qb) (hN : X.N[i]? = some x := by rfl) (hv : Vis X.env.scope x := by first | exact Or.inl rfl | exact Or.inr (Or.inl rfl) | exact Or.inr (Or.inr rfl)) (hd : (x == ("__debug__" : Str)) = false := by decide)
    (hcd : (x == ("__classdict__" : Str)) = false := by decide)
include hu ha hN hv hd hcd
theorem sq_din (hm : behindInMarks .In (.Name x p) = false := by rfl) : SimQ X F ℓ (.Compare a [.In] [.Name x p] pos) (qDIn false i qb) := PEimp (pe_cmp (pc_din hu ha (pe_var hN hv hd hcd)) hm) fun σ H Q ⟨env, h, A, z, R, e, k⟩ =>
  din_go R e fun w hz H' x1 => k _ H' x1 (by subst hz; exact vb)
theorem sq_dnotin (hm : behindInMarks .NotIn (.Name x p) = false := by rfl) : SimQ X F ℓ (.Compare a [.NotIn] [.Name x p] pos) (qDIn true i qb) := PEimp (pe_cmp (pc_dnotin hu ha (pe_var hN hv hd hcd)) hm) fun σ H Q ⟨env, h, A, z, R, e, k⟩ =>
  din_go R e fun w hz H' x1 => k _ H' x1 (by subst hz; exact vb)
end
end
end Sm

set_option Elab.async false
set_option linter.all false
set_option maxRecDepth 100000
set_option maxHeartbeats 4000000
namespace Sm
open PySem L2 Evl
section
variable {F : Fm} {X : Cx} {tg a b c e o : Expr} {es rest : List Expr} {pos pos2 p p1 p2 apos tpos : Pos} {ℓ ℓ₂ : Lv} {qa qb qc qo : Q1} {env : En} {h h' : Hs} {A A' : As} {σ : L2.St} {H H' : Hp} {ss : List Nat} {q : K1}
theorem din_b {neg : Bool} {i : Nat} {z : Val} (e : qDIn neg i qb env h = some z) : ∃ w, z = .d (.bool w) := by
  unfold qDIn at e
  obtain ⟨y, _, e⟩ := bind_some e
  split at e
  · obtain ⟨k, _, e⟩ := bind_some e
    cases e
    exact ⟨_, rfl⟩
  · cases e
section
variable (i : Nat) {x : Str} (hu : X.A.units + 1 < cLine) (ha : SimQ X F .mo a qb) (hN : X.N[i]? = some x := by rfl) (hv : Vis X.env.scope x := by first | exact Or.inl rfl | exact Or.inr (Or.inl rfl) | exact Or.inr (Or.inr rfl)) (hd : (x == ("__debug__" : Str)) = false := by decide)
    (hcd : (x == ("__classdict__" : Str)) = false := by decide)
include hu ha hN hv hd hcd
theorem st_din (hm : behindInMarks .In (.Name x p) = false := by rfl) : SimT X F (.Compare a [.In] [.Name x p] pos) (tV (qDIn false i qb)) := PTimp (pt_cmp (pc_din hu ha (pe_var hN hv hd hcd)) hm) fun σ H Q ⟨env, h, A, k, R, e, q⟩ => by
  unfold tV at e
  obtain ⟨z, ez, e⟩ := bind_some e
  exact din_go (Q := fun x H1 => ∃ c, x = .bl c ∧ Q c H1) R ez fun w hz H' x1 => ⟨w, rfl, by subst hz; cases e; exact q H' x1⟩
theorem st_dnotin (hm : behindInMarks .NotIn (.Name x p) = false := by rfl) : SimT X F (.Compare a [.NotIn] [.Name x p] pos) (tV (qDIn true i qb)) := PTimp (pt_cmp (pc_dnotin hu ha (pe_var hN hv hd hcd)) hm) fun σ H Q ⟨env, h, A, k, R, e, q⟩ => by
  unfold tV at e
  obtain ⟨z, ez, e⟩ := bind_some e
  exact din_go (Q := fun x H1 => ∃ c, x = .bl c ∧ Q c H1) R ez fun w hz H' x1 => ⟨w, rfl, by subst hz; cases e; exact q H' x1⟩
end
end
end Sm

set_option Elab.async false
set_option linter.all false
set_option maxRecDepth 100000
set_option maxHeartbeats 2000000
/-! more to read semantics with -/
namespace Sm
open PySem L2 Evl
section
variable {qa qb : Q1} {ta tb' : T1} {env : En} {h : Hs} {b : Bool}
theorem qAnd_t (ea : qa env h = some (.d (.bool true))) : qAnd qa qb env h = qb env h := by unfold qAnd; rw [ea]; rfl
theorem qAnd_f (ea : qa env h = some (.d (.bool false))) : qAnd qa qb env h = some (.d (.bool false)) := by unfold qAnd; rw [ea]; rfl
theorem qOr_t (ea : qa env h = some (.d (.bool true))) : qOr qa qb env h = some (.d (.bool true)) := by unfold qOr; rw [ea]; rfl
theorem qOr_f (ea : qa env h = some (.d (.bool false))) : qOr qa qb env h = qb env h := by unfold qOr; rw [ea]; rfl
theorem tV_b (e : qa env h = some (.d (.bool b))) : tV qa env h = some b := by unfold tV; rw [e]; rfl
theorem tNot_b (e : ta env h = some b) : tNotF ta env h = some (!b) := by unfold tNotF; rw [e]; rfl
theorem tOr_f (e : ta env h = some false) : tOrF ta tb' env h = tb' env h := by unfold tOrF; rw [e]; rfl
theorem tOr_t (e : ta env h = some true) : tOrF ta tb' env h = some true := by unfold tOrF; rw [e]; rfl
end
theorem stepc_of {vs : List Nat} {bn : B1} {tt : T1} {te : Q1} {env env1 : En} {h : Hs} {d y : PyData} {b : Bool} (hb : bn d (wipeE env vs) = some env1) (ht : tt env1 h = some b) (he : te env1 h = some (.d y)) : lcStep vs bn tt te env h d = some (if b = true then some y else none) := by
  unfold lcStep
  rw [hb, Option.bind_some, ht, Option.bind_some]
  cases b
  · rfl
  · rw [if_pos rfl, he]
    rfl
theorem wp.forE {it : IE} {vs : List Nat} {bn : B1} {A : M1} {env : En} {h h1 : Hs} {xs : List PyData} {Q : Flo → En → Hs → Prop} (I : Nat → En → Hs → Prop) (hi : it env h = some (xs, h1)) (h0 : I 0 (wipeE env vs) h1)
    (hs : ∀ j x e h, xs[j]? = some x → I j e h → ∃ e1, bn x e = some e1 ∧ wp A e1 h fun r e2 h2 => (r = .nx ∨ r = .ct) ∧ I (j + 1) (wipeE e2 vs) h2)
    (k : ∀ e h, I xs.length e h → Q .nx e h) : wp (mForE it vs bn A) env h Q := by
  obtain ⟨e', h', e1, i1⟩ := for_all (vs := vs) (body := fun d env h => (bn d env).bind fun env1 => A env1 h) I h0 (fun j x env h hx hI => by
    obtain ⟨e1, b1, r, e2, h2, e3, c, i2⟩ := hs j x env h hx hI
    exact ⟨r, e2, h2, by rw [b1]; exact e3, c, i2⟩)
  exact ⟨_, _, _, by unfold mForE; rw [hi, Option.bind_some]; exact e1, k _ _ i1⟩
theorem evF.f1 {a : E1} {g : Hs → Val → Option (List PyData)} {env : En} {h : Hs} {Q : List PyData → Hs → Prop} (k : evE a env h fun x h1 => ∃ z, g h1 x = some z ∧ Q z h1) : evF (ef1 g a) env h Q := by
  obtain ⟨x, h1, e, z, e2, k⟩ := k
  exact ⟨z, h1, by unfold ef1; rw [e, Option.bind_some, e2]; rfl, k⟩
theorem wp.hold {m : M1} {i : Nat} {env : En} {h : Hs} {xs : List PyData} {Q : Flo → En → Hs → Prop} (e : env[i]? = some (.l xs)) (k : wp m (env.set i (.v (.d (.list xs)))) h Q) : wp (mHold i m) env h Q := by
  obtain ⟨r, e1, h1, e2, k⟩ := k
  exact ⟨r, e1, h1, by unfold mHold; rw [e]; exact e2, k⟩
theorem lcGoE_map {α β : Type} {step : PyData → Hs → Option (Option PyData × Hs)} (f : α → PyData) (g : β → PyData) (π : β → α) (G : β → Prop) (P : Hs → Prop) : ∀ {as : List α} {h : Hs}, P h → (∀ a ∈ as, ∀ h, P h → ∃ b h', step (f a) h = some (some (g b), h') ∧ P h' ∧ π b = a ∧ G b) → ∃ (bs : List β) (h' : Hs), lcGoE step (as.map f) h = some (bs.map g, h') ∧ P h' ∧ bs.map π = as ∧ ∀ b ∈ bs, G b
  | [], h, hp, _ => ⟨[], h, rfl, hp, rfl, fun y hy => by simp at hy⟩
  | a :: as, h, hp, hs => by
    obtain ⟨b, h1, e1, i1, p1, q1⟩ := hs a (by simp) h hp
    obtain ⟨bs, h2, e2, i2, l2, q2⟩ := lcGoE_map f g π G P i1 fun z hz => hs z (List.mem_cons_of_mem _ hz)
    refine ⟨b :: bs, h2, ?_, i2, by simp [l2, p1], fun z hz => ?_⟩
    · rw [List.map_cons]
      unfold lcGoE
      rw [e1, Option.bind_some, e2]
      rfl
    · rcases List.mem_cons.mp hz with rfl | hz
      · exact q1
      · exact q2 z hz
theorem evF.lcm {α β : Type} {it : IE} {vs : List Nat} {bn : B1} {te : E1} {env : En} {h : Hs} {Q : List PyData → Hs → Prop} (f : α → PyData) (g : β → PyData) (π : β → α) (G : β → Prop) (P : Hs → Prop) {as : List α} {h1 : Hs} (hi : it env h = some (as.map f, h1)) (hp : P h1) (hl : as.length ≤ 1000000)
    (hs : ∀ a ∈ as, ∀ h, P h → ∃ env1, bn (f a) (wipeE env vs) = some env1 ∧ evE te env1 h fun y h' => ∃ b, y = .d (g b) ∧ P h' ∧ π b = a ∧ G b)
    (k : ∀ (bs : List β) (h' : Hs), bs.map π = as → (∀ b ∈ bs, G b) → P h' → Q (bs.map g) h') : evF (efLc it vs bn tTrue te) env h Q := by
  obtain ⟨bs, h2, e, p2, l2, r2⟩ := lcGoE_map (step := lcStepE vs bn tTrue te env) f g π G P hp (fun a ha h hp => by
    obtain ⟨env1, e1, y, h', e2, b, rfl, p, r⟩ := hs a ha h hp
    refine ⟨b, h', ?_, p, r⟩
    unfold lcStepE
    rw [e1, Option.bind_some]
    show ((te env1 h).bind _) = _
    rw [e2]
    rfl)
  have lb : bs.length = as.length := by have := congrArg List.length l2; rwa [List.length_map] at this
  refine ⟨bs.map g, h2, ?_, k bs h2 l2 r2 p2⟩
  unfold efLc
  rw [hi, Option.bind_some, e, Option.bind_some]
  exact if_pos (by rw [sizeLine_eq]; show (bs.map g).length ≤ _; rw [List.length_map]; omega)
theorem insS_len (x : Str) : ∀ xs : List Str, (insS x xs).length ≤ xs.length + 1
  | [] => by simp [insS]
  | y :: ys => by
    have := insS_len x ys
    unfold insS
    split
    · simp
    · split
      · simp
      · simp only [List.length_cons]; omega
theorem strU_len : ∀ xs : List Str, (strU xs).length ≤ xs.length
  | [] => by simp [strU]
  | x :: xs => by
    have := insS_len x (strU xs)
    have := strU_len xs
    rw [strU, List.length_cons]
    omega
theorem for_all_nx {A : M1} {env : En} {h : Hs} {i : Nat} {α : Type} {f : α → PyData} {xs : List α} {it : I1} (E : En → Prop) (h0 : E env) (hi : it env h = some (xs.map f)) (hs : ∀ e, E e → ∀ x ∈ xs, A (e.set i (.v (.d (f x)))) h = some (.nx, e.set i (.v (.d (f x))), h) ∧ E (e.set i (.v (.d (f x))))) {Q : Flo → En → Hs → Prop} (k : ∀ e, E e → Q .nx e h) (hb : ∀ e d, E e → bName i d e = some (e.set i (.v (.d d)))) :
    wp (mFor it [] (bName i) A) env h Q := by
  refine wp.for (fun _ e h' => E e ∧ h' = h) hi ⟨h0, rfl⟩ (fun j x e h' hx hI => ?_) fun e h' hI => by
    obtain ⟨a, rfl⟩ := hI
    exact k e a
  obtain ⟨a, rfl⟩ := hI
  obtain ⟨c, hc, rfl⟩ := List.mem_map.mp (List.mem_of_getElem? hx)
  obtain ⟨s1, s2⟩ := hs e a c hc
  exact ⟨_, hb e _ a, _, _, _, s1, .inl rfl, s2, rfl⟩
theorem at_last {α : Type} (xs : List α) (hn : xs ≠ []) : atI xs (-1) = some (xs.getLast hn) := by
  have hl := List.length_pos_iff.mpr hn
  have e : ixN xs.length (-1) = some (xs.length - 1) := by
    unfold ixN
    have h1 : ¬ ((0 : Int) ≤ -1) := by omega
    simp
    omega
  unfold atI
  rw [e, Option.bind_some, List.getLast_eq_getElem, List.getElem?_eq_getElem]
theorem strU_ne {ts : List Str} (h : ts ≠ []) : strU ts ≠ [] := by
  cases ts with
  | nil => exact absurd rfl h
  | cons t ts =>
    intro z
    have : t ∈ strU (t :: ts) := mem_strU.mpr (by simp)
    rw [z] at this
    cases this
theorem maxI_eq {A B : List Int} (hn : A ≠ []) (h : ∀ x, x ∈ A ↔ x ∈ B) : maxI A = maxI B := by
  obtain ⟨m, em⟩ := maxI_some hn
  have hb : B ≠ [] := by
    intro z
    subst z
    cases A with
    | nil => exact hn rfl
    | cons a l => exact absurd ((h a).mp (by simp)) (by simp)
  obtain ⟨n, en⟩ := maxI_some hb
  obtain ⟨a1, a2⟩ := maxI_spec em
  obtain ⟨b1, b2⟩ := maxI_spec en
  have := a2 n ((h n).mpr b1)
  have := b2 m ((h m).mp a1)
  rw [em, en]
  congr 1
  omega
theorem drop_min {α : Type} (l : List α) (c : Nat) : (l.drop (min c l.length)).take (l.length - min c l.length) = l.drop c := by
  by_cases h : c ≤ l.length
  · rw [Nat.min_eq_left h, List.take_of_length_le (by simp)]
  · rw [Nat.min_eq_right (by omega), List.drop_eq_nil_of_le (Nat.le_refl _), List.drop_eq_nil_of_le (by omega)]
    simp
theorem cutD_to {α : Type} (xs : List α) (k : Nat) : cutD xs none (some (k : Int)) = xs.take k := by
  unfold cutD
  rw [HT.sIx_nat]
  show xs.take (min k xs.length) = _
  exact take_min k xs
theorem cutD_from {α : Type} (xs : List α) (k : Nat) : cutD xs (some (k : Int)) none = xs.drop k := by
  unfold cutD
  rw [HT.sIx_nat]
  exact drop_min xs k
end Sm

set_option Elab.async false
set_option linter.all false
set_option maxRecDepth 100000
set_option maxHeartbeats 4000000
namespace Sm
open PySem L2 Evl
/-- a, b, c = x, y, z -/
def mPar3 (i j l : Nat) (m : PA1) : M1 := fun env h => (m env h).bind fun r => match r.1 with
  | [s, t, u] => some (.nx, ((env.set i s).set j t).set l u, r.2)
  | _ => none
section
variable {F : Fm} {X : Cx} {a b c : Expr} {pos : Pos} {env : En} {h h' : Hs} {A A' : As} {σ : L2.St} {H H' : Hp}
theorem ss_par3 {i j l : Nat} {x y z : Str} {m : PA1} {px py pz pt : Pos} {kt k2 pt2} (hc : X.calm = true) (hN : X.N.Nodup) (hi : X.N[i]? = some x) (hj : X.N[j]? = some y) (hl : X.N[l]? = some z) (hij : i ≠ j) (hil : i ≠ l) (hjl : j ≠ l)
    (hx : X.env.scope.names.lookup x = some .local) (hy : X.env.scope.names.lookup y = some .local) (hz : X.env.scope.names.lookup z = some .local) (ha : PA X [a, b, c] (tP F m))
    (hw : swappedStores [.Tuple [.Name x px, .Name y py, .Name z pz] kt pt] (.Tuple [a, b, c] k2 pt2) X.env = pure (some [x, y, z]))
    (hs : swapsWithSole [.Tuple [.Name x px, .Name y py, .Name z pz] kt pt] (.Tuple [a, b, c] k2 pt2) pos.line X.env = pure false := by rfl) :
    SimS X F (.Assign [.Tuple [.Name x px, .Name y py, .Name z pz] kt pt] (.Tuple [a, b, c] k2 pt2) pos) (mPar3 i j l m) := PSimp (ps_par3 hc hN hi hj hl hij hil hjl hx hy hz ha hw hs) fun D σ H ⟨env, h, A, r, env', h', R, e, k⟩ => by
  obtain ⟨⟨ss, h1⟩, ex, e⟩ := bind_some e
  simp only at e
  split at e
  · next s t u =>
    cases e
    refine ⟨env, h, A, _, _, R, ex, fun vs as H1 A1 R1 s1 nn S => ?_⟩
    obtain ⟨v, w, o, rfl⟩ : ∃ v w o, vs = [v, w, o] := by
      have := S.len
      match vs, this with
      | [v, w, o], _ => exact ⟨v, w, o, rfl⟩
    refine ⟨v, w, o, rfl, ?_⟩
    obtain ⟨A2, R2, p1, p2, p3⟩ := store1 (ss := [s, t, u]) (vs := [v, w, o]) (as := as) (done := []) (k := 0) (i := i) R1 rfl rfl (fun x z => by subst z; obtain ⟨v', h1, h2⟩ := S.val 0 x rfl; cases h1; exact h2)
      (fun xs z => by subst z; obtain ⟨p, us, h1, h2, h3, h4⟩ := S.lst 0 xs rfl; cases h1; exact ⟨p, us, rfl, h3, h4, (S.fr p h2).1⟩) (S.no 0 s rfl)
    obtain ⟨A3, R3, q1, q2, q3⟩ := store1 (ss := [s, t, u]) (vs := [v, w, o]) (as := as) (done := []) (k := 1) (i := j) R2 rfl rfl (fun x z => by subst z; obtain ⟨v', h1, h2⟩ := S.val 1 x rfl; cases h1; exact h2.mono (fun _ _ z => z) (fun _ _ z => z) (Nat.le_refl _) fun m _ => p3 m)
      (fun xs z => by
        subst z
        obtain ⟨p, us, h1, h2, h3, h4⟩ := S.lst 1 xs rfl
        cases h1
        refine ⟨p, us, rfl, h3, h4, ⟨(S.fr p h2).1.f0, fun q hq z => ?_⟩⟩
        rcases p2 q hq with ⟨z1, z2⟩ | ⟨ys, rfl, z1, _⟩
        · exact (S.fr p h2).1.fp q z2 (z1.symm.trans z)
        · rw [z] at z1
          have := S.nd 0 1 ys xs p rfl rfl (by rw [z1]; rfl) rfl
          cases this) (S.no 1 t rfl)
    obtain ⟨A4, R4, _, _, _⟩ := store1 (ss := [s, t, u]) (vs := [v, w, o]) (as := as) (done := []) (k := 2) (i := l) R3 rfl rfl (fun x z => by subst z; obtain ⟨v', h1, h2⟩ := S.val 2 x rfl; cases h1; exact h2.mono (fun _ _ z => z) (fun _ _ z => z) (Nat.le_refl _) fun m _ => (q3 m).trans (p3 m))
      (fun xs z => by
        subst z
        obtain ⟨p, us, h1, h2, h3, h4⟩ := S.lst 2 xs rfl
        cases h1
        refine ⟨p, us, rfl, h3, h4, ⟨(S.fr p h2).1.f0, fun q hq z => ?_⟩⟩
        rcases q2 q hq with ⟨z1, z2⟩ | ⟨ys, rfl, z1, _⟩
        · rcases p2 q z2 with ⟨z3, z4⟩ | ⟨ys, rfl, z3, _⟩
          · exact (S.fr p h2).1.fp q z4 (z3.symm.trans (z1.symm.trans z))
          · rw [← z1, z] at z3
            have := S.nd 0 2 ys xs p rfl rfl (by rw [z3]; rfl) rfl
            cases this
        · rw [z] at z1
          have := S.nd 1 2 ys xs p rfl rfl (by rw [z1]; rfl) rfl
          cases this) (S.no 2 u rfl)
    exact k _ H1 A4 R4 s1.pres
  · cases e
theorem wp.par3 {i j l : Nat} {p : PA1} {Q : Flo → En → Hs → Prop} (k : evP p env h fun ss h1 => ∃ s t u, ss = [s, t, u] ∧ Q .nx (((env.set i s).set j t).set l u) h1) : wp (mPar3 i j l p) env h Q := by
  obtain ⟨x, h1, e, s, t, u, rfl, k⟩ := k
  exact ⟨_, _, _, by unfold mPar3; rw [e]; rfl, k⟩
end
end Sm

set_option Elab.async false
set_option linter.all false
set_option maxRecDepth 100000
set_option maxHeartbeats 4000000
namespace Sm
open PySem L2 Evl
/-- an own list's item, the place told with effects -/
def eOwnIx (i : Nat) (m : E1) : E1 := fun env h => (m env h).bind fun y => match env[i]?, y.1 with
  | some (.l xs), .d (.int j) => (atI xs j).map fun d => (.d d, y.2)
  | _, _ => none
section
variable {F : Fm} {X : Cx} {b : Expr} {pos p : Pos} {env : En} {h h' : Hs} {A A' : As} {σ : L2.St} {H H' : Hp} {mb : E1} {ℓ ℓ₂ : Lv}
theorem se_ownIx (i : Nat) {x : Str} (hK : X.K = F.G.K) (hb : SimE X F ℓ₂ b mb) (hN : X.N[i]? = some x := by rfl) (hv : Vis X.env.scope x := by first | exact Or.inl rfl | exact Or.inr (Or.inl rfl) | exact Or.inr (Or.inr rfl)) (hd : (x == ("__debug__" : Str)) = false := by decide)
    (hcd : (x == ("__classdict__" : Str)) = false := by decide) (hs : PlainIx b := by intro _ _; rfl) : SimE X F ℓ (.Subscript (.Name x p) b pos) (eOwnIx i mb) :=
  PEimp (pe_ix ix_seq (pe_var hN hv hd hcd) hb hs) fun σ H Q ⟨env, h, A, z, h', R, e, k⟩ => by
    obtain ⟨⟨y, h1⟩, ey, e⟩ := bind_some e
    cases hq : env[i]? with
    | none => simp only [hq] at e; cases e
    | some s =>
      simp only [hq] at e
      cases s with
      | l xs =>
        cases y with
        | d y =>
          cases y with
          | int j =>
            obtain ⟨d, e1, e2⟩ := Option.map_eq_some_iff.mp (show (atI xs j).map _ = some (z, h') from e)
            cases e2
            obtain ⟨us, g1, g2, r⟩ := own_at R hq
            refine ⟨_, g1, env, h, A, _, _, R, ey, fun u H1 A1 R1 s1 ru => ?_⟩
            cases ri ru
            obtain ⟨us1, g3, g4, r1⟩ := own_at R1 hq
            rw [g1] at g3
            injection g3 with g3
            injection g3 with g3
            injection g3 with g3
            rw [← g3] at g4
            obtain ⟨w, w1, w2⟩ := at_rep r1 e1
            exact .inl ⟨_, us1, j, w, rfl, rfl, .inl (.inl g4), w1, k _ H1 A1 R1 s1 (RD.of_st (ℓ := ℓ) w2)⟩
          | _ => cases e
        | _ => cases e
      | _ => cases e
theorem evE.ownIx {i : Nat} {m : E1} {xs : List PyData} {Q : Val → Hs → Prop} (e : env[i]? = some (.l xs)) (k : evE m env h fun y h1 => ∃ j d, y = .d (.int j) ∧ atI xs j = some d ∧ Q (.d d) h1) : evE (eOwnIx i m) env h Q := by
  obtain ⟨y, h1, e1, j, d, rfl, e2, k⟩ := k
  exact ⟨_, h1, by unfold eOwnIx; rw [e1, Option.bind_some]; simp only [e, e2]; rfl, k⟩
end
end Sm

set_option Elab.async false
set_option linter.all false
set_option maxRecDepth 100000
set_option maxHeartbeats 4000000
namespace Sm
open PySem L2 Evl
/-- return (e, x), x an own list: it is locked with that -/
def mRetPL (i : Nat) (q : Q1) : M1 := fun env h => match env[i]? with
  | some (.l xs) => (q (env.set i (.d (.list xs))) h).bind fun x => (dOf x).bind fun d => some (.rt .st (.d (.tuple [d, .list xs])), env.set i (.d (.list xs)), h)
  | _ => none
section
variable {F : Fm} {X : Cx} {e : Expr} {pos p2 tpos : Pos} {q : Q1}
theorem ss_retPL (i : Nat) {x : Str} {kt : Nat} (he : SimQ X F .st e q) (hN : X.N[i]? = some x := by rfl) (hv : Vis X.env.scope x := by first | exact Or.inl rfl | exact Or.inr (Or.inl rfl) | exact Or.inr (Or.inr rfl)) (hd : (x == ("__debug__" : Str)) = false := by decide)
    (hcd : (x == ("__classdict__" : Str)) = false := by decide) (hs1 : starEach [e, .Name x p2] X.env = (false, eval e X.env) :: starEach [.Name x p2] X.env := by rfl) (hs2 : starEach [.Name x p2] X.env = (false, eval (.Name x p2) X.env) :: starEach [] X.env := by rfl) :
    SimS X F (.Return (some (.Tuple [e, .Name x p2] kt tpos)) pos) (mRetPL i q) := ⟨fun pins s σ H D I ⟨env, h, A, r, env', h', R, e, k⟩ => by
  unfold mRetPL at e
  split at e
  · next xs hy =>
    obtain ⟨z, ez, e⟩ := bind_some e
    obtain ⟨d, ed, e⟩ := bind_some e
    cases e
    cases z with
    | d d0 =>
      cases ed
      obtain ⟨g1, us, e2, rs⟩ := R.sl i _ hy
      obtain ⟨o, I2⟩ := froze I e2
      have P : Pres H (upd H (A (.s i)) (.frz o (.lst us))) := R.pres_at ⟨_, hy, rfl⟩
      have R2 := R.lockS (o := o) hy e2
      have hσ : σ[i]? = some (some (.ref (A (.s i)))) := by
        cases hs : σ[i]? with
        | none => rw [hs] at g1; cases g1
        | some o => rw [hs] at g1; exact congrArg some g1
      refine (ps_ret (pe_tup (pa_cons he (pa_cons (pe_var hN hv hd hcd) pa_nil hs2) hs1))).run pins s σ _ D I2 ?_
      refine ⟨_, h, A, _, R2, ez, fun v H3 x3 rv => ⟨_, hσ, ?_⟩⟩
      refine ⟨by show 2 ≤ sizeLine; rw [sizeLine_eq]; omega, fun p hp => k σ _ A _ ((R2.ex x3).ex (Ex.new hp)) (P.trans (Ex.pres (x3.trans (Ex.new hp)))) ?_⟩
      have ex := x3.trans (Ex.new (o := .tup [v, .ref (A (.s i))]) hp)
      show Rep _ _ (.tuple [d, .list xs]) _
      have rv' : RD F .st (upd H3 p (.tup [v, .ref (A (.s i))])) d v := RD.ex (Ex.new hp) rv
      have rl : RD F .st (upd H3 p (.tup [v, .ref (A (.s i))])) (.list xs) (.ref (A (.s i))) := by
        show Rep _ _ (.list xs) _
        simp only [Rep]
        exact ⟨_, us, rfl, .inl ⟨o, ex _ _ upd_same⟩, RepAll.mono (P.trans (Ex.pres ex)).sqT (P.trans (Ex.pres ex)).sL _ _ rs⟩
      rw [Rep]
      exact ⟨p, _, rfl, .inl (.inl upd_same), v, _, rfl, rv', _, _, rfl, rl, rfl⟩
    | _ => cases ed
  · cases e⟩
theorem wp.retPL {i : Nat} {env : En} {h : Hs} {xs : List PyData} {d : PyData} {Q : Flo → En → Hs → Prop} (e : env[i]? = some (.l xs)) (eq : q (env.set i (.d (.list xs))) h = some (.d d)) (k : Q (.rt .st (.d (.tuple [d, .list xs]))) (env.set i (.d (.list xs))) h) : wp (mRetPL i q) env h Q :=
  ⟨_, _, _, by unfold mRetPL; simp only [e, eq]; rfl, k⟩
end
end Sm

set_option Elab.async false
set_option linter.all false
set_option maxRecDepth 100000
set_option maxHeartbeats 4000000
namespace Sm
open PySem L2 Evl PyProof.Rows PySem.Froz
section
variable {P : Program} {w : World} {A : Around} {E : Value → Shared → Prop} {s : Shared}
/-- the values of a tuple gathered into a new list: the heap keeps its old cells and has not shrunk -/
theorem collect_tupK {Q : List Value → Shared → Prop} {a : Addr} {o : Obj} {its : Array Value} {n : Nat} (ho : s.heap.get? a = some o) (hcl : o.cls = .type "tuple") (hd : o.data = .seq its n) (hsz : its.size ≤ sizeLine)
    (hQ : ∀ h', (∀ b u, s.heap.get? b = some u → h'.get? b = some u) → s.heap.objs.size ≤ h'.objs.size → Q its.toList { s with heap := h' }) :
    wpAny (model P w) A (collect (.ref a)) Q E s := by
  unfold collect
  refine wpAny_bind (wpAny_runValue (codeAny_builtin F.entry_proto_collect ?_))
  rw [Around.under_plainId F.plain_proto_collect _]
  show wpAny _ A.in1 (newList [] >>= fun l => again (.builtin "list.__iadd__" ⟨[l, .ref a], []⟩)) _ _ s
  refine wpAny_bind (wpAny_newObj_type ?_)
  refine wpAny_pure ⟨plainId_quiet F.plain_list_iadd _, codeAny_builtin F.entry_list_iadd ?_⟩
  rw [Around.under_plainId F.plain_list_iadd _]
  show wpAny _ A.in1 (Builtin.List.listExtendWith (.ref s.heap.objs.size) (.ref a) (.ref s.heap.objs.size)) _ _ _
  have hS : (s.heap.push { cls := .type "list", data := .seq ([] : List Value).toArray }).get? s.heap.objs.size = some { cls := .type "list", data := .seq #[] 0 } := Heap.get?_push_size _ rfl
  have hS₂ := Heap.get?_update_self (Obj.mapSeq (· ++ its)) hS rfl
  refine wpAny_mono (wpAny_extend_seq (hsz := hsz) (A := A) (R := fun r s' => r = .ok (.ret (.ref s.heap.objs.size)) ∧ s' = { s with heap := (s.heap.push { cls := .type "list", data := .seq ([] : List Value).toArray }).update s.heap.objs.size (Obj.mapSeq (· ++ its)) })
    (s := { s with heap := s.heap.push { cls := .type "list", data := .seq ([] : List Value).toArray } }) _ a _ 0 (.inr rfl) hS (Heap.get?_push_of_some _ ho) hcl hd ⟨rfl, rfl⟩) (fun fin s' h => ?_) (fun e s' h => ?_)
  · have fin' : wpAny (model P w) A (match Value.ref s.heap.objs.size with
        | Value.ref a => do
          match (← load a).data with
            | Data.seq xs _ => pure xs.toList
            | _ => unsupported "internal:collect"
        | _ => unsupported "internal:collect") Q E { s with heap := (s.heap.push { cls := .type "list", data := .seq ([] : List Value).toArray }).update s.heap.objs.size (Obj.mapSeq (· ++ its)) } := by
      show wpAny _ A (load s.heap.objs.size >>= _) _ _ _
      refine wpAny_bind (wpAny_load hS₂ (wpAny_pure ?_))
      have e : ((#[] : Array Value) ++ its).toList = its.toList := by simp
      show Q ((#[] : Array Value) ++ its).toList _
      rw [e]
      refine hQ _ (fun b u hb => (Heap.get?_update_other _ _ (Nat.ne_of_gt (Heap.lt_size hb))).trans (Heap.get?_push_of_some _ hb)) ?_
      have q := Heap.lt_size hS₂
      exact Nat.le_of_lt q
    cases fin with
    | done f =>
      obtain ⟨e, rfl⟩ := h
      cases e
      exact fin'
    | again c' => exact ⟨h.1, codeAny_mono h.2 fun r s'' hr => by obtain ⟨rfl, rfl⟩ := hr; exact fin'⟩
  · exact absurd h.1 (by simp)
theorem sorted_tupS {a : Addr} {o : Obj} {its : Array Value} {n : Nat} {xs : List Str} {Q : Value → Shared → Prop} (ho : s.heap.get? a = some o) (hcl : o.cls = .type "tuple") (hd : o.data = .seq its n)
    (hi : StrsAre its.toList xs) (h64 : xs.length < 64)
    (hQ : ∀ s' p (out : Array Value) (c : Nat) (ns : List Str), (∀ b o, s.heap.get? b = some o → s'.heap.get? b = some o) → s'.gens = s.gens → s'.os = s.os → s.heap.objs.size ≤ p →
      s'.heap.get? p = some (seqObj "list" out c) → StrsAre out.toList ns → sortedS ns = true → ns.Perm xs → Q (.ref p) s') :
    wpAny (model P w) A (call (.builtin "sorted") [.ref a]) Q E s := by
  have hvl : its.toList.length = xs.length := hi.length
  refine Calls.call_function_entry kind_sorted plain_sorted entry_sorted (args_sorted1 _) ?_
  unfold Builtin.«sorted»
  refine wpAny_bind (m := checkCount "sorted" 1 1 _) (wpAny_pure ?_)
  refine wpAny_bind (collect_tupK (A := A.in1) ho hcl hd (by rw [← Array.length_toList, hvl, sizeLine_eq]; omega) fun h1 k1 z1 => ?_)
  refine wpAny_bind (wpAny_newList ?_ (by rw [hvl, sizeLine_eq]; omega))
  have hoL : (h1.push (seqObj "list" its.toList.toArray 0)).get? h1.objs.size = some (seqObj "list" its.toList.toArray 0) := Heap.get?_push_size _ rfl
  refine wpAny_bind (wpAny_holding (wpAny_call_entry slot_list_sort ⟨_, hoL, rfl⟩ entry_list_sort
    (list_sort_treeK strKind_oneLt (s := { s with heap := h1.push (seqObj "list" its.toList.toArray 0) }) hoL hi.keysOf (fun v₁ v₂ rest e => keyKind_strs (by rw [← e]; exact hi)) (by rw [hvl]; omega) fun st' hp hs => ⟨_, rfl, ?_⟩)
    (args_list_sort _)))
  obtain ⟨ys, q1, q2, q3⟩ := sorted_out_str hi hp hs
  obtain ⟨c, hc⟩ := sortedHeap_at (vs := its.toList) (out := (arrOf st').map (·.2)) hoL
  refine wpAny_pure ⟨_, rfl, hQ _ h1.objs.size _ c ys (fun b u e => ?_) rfl rfl z1 hc q1 q3 q2⟩
  have q := k1 b u e
  have hlt := Heap.lt_size q
  show (sortedHeap (h1.push (seqObj "list" its.toList.toArray 0)) h1.objs.size its.toList _).get? b = some u
  rw [sortedHeap_old (Nat.ne_of_lt hlt) (by rw [size_push']; exact Nat.lt_succ_of_lt hlt)]
  exact Heap.get?_push_of_some _ q
end
section
variable {X : Cx}
theorem cr_sortedTS : CallR X (.builtin "sorted") (fun vs H Q => ∃ (a : Addr) (xs : List Str), vs = [V.ref a] ∧ SqT X.K H a (xs.map V.str) ∧ xs.length < 64 ∧
  ∀ (ns : List Str) (p : Addr), sortedS ns = true → ns.Perm xs → H p = none → Q (.ref p) (upd H p (.lst (ns.map V.str)))) := by
  intro pins s σ H vs us Q I r h
  obtain ⟨a, xs, rfl, hq, h64, q⟩ := h
  rw [Vals.ref1 r]
  obtain ⟨its, rv, ⟨o, ho, hcl, n, hd⟩, hz⟩ := I.tuple hq
  refine sorted_tupS ho hcl hd (strsAre_of rv) h64 fun s' p out c ns k g o hp hg hi hs pm => ?_
  have hlen : (ns.map V.str).length ≤ sizeLine := by rw [List.length_map, pm.length_eq, sizeLine_eq]; omega
  have hn : H p = none := I.hok.fresh hp
  have J : Inv X pins σ (upd H p (.lst (ns.map V.str))) { s with heap := s'.heap, gens := s'.gens, drawn := s'.drawn, toks := s'.toks } :=
    I.call (ch := []) (Un.laid k hp hn) (I.hok.laid k hp ⟨hlen, out.toList, c, vals_of_strs hi, hg⟩) (by rw [g]; exact I.bare) (fun _ z => nomatch z)
  have e : s' = { s with heap := s'.heap, gens := s'.gens, drawn := s'.drawn, toks := s'.toks } := by
    cases s'
    cases s
    cases o
    rfl
  rw [e]
  exact ⟨.ref p, _, J, rfl, q ns p hs pm hn⟩
end
/-- sorted(x) of a tuple of texts that all differ -/
def gSortT : Hs → Val → Option (List PyData) := fun _ x => match x with
  | .d (.tuple ds) => (strsOf ds).bind fun ns => if ns.length < 64 ∧ ns.Nodup then some ((strU ns).map .str) else none
  | _ => none
theorem gSortT_inv {h : Hs} {x : Val} {z : List PyData} (e : gSortT h x = some z) : ∃ ns, x = .d (.tuple (ns.map .str)) ∧ ns.length < 64 ∧ ns.Nodup ∧ z = (strU ns).map .str := by
  unfold gSortT at e
  split at e
  · obtain ⟨ns, ep, e⟩ := bind_some e
    split at e
    · next hl => cases e; exact ⟨ns, by rw [strsOf_map ep], hl.1, hl.2, rfl⟩
    · cases e
  · cases e
section
variable {F : Fm} {X : Cx} {a : Expr} {pos p : Pos} {qa : Q1}
theorem sf_sortT (hK : X.K = F.G.K) (hm : X.mg "sorted" = none) (ha : SimQ X F .mo a qa) (hg : Gl X "sorted" := by rfl)
    (he : starEach [a] X.env = (false, eval a X.env) :: starEach [] X.env := by rfl) (hpl : (backTo pos (starEach [] X.env)).any (·.1) = false := by rfl) : SimF X F (.Call (.Name "sorted" p) [a] [] pos) (f1 gSortT qa) := by
  refine PEimp (pe_callB cr_sortedTS hg hm (by decide +kernel) (pa_cons ha pa_nil he) (by decide) (by decide) he hpl) fun σ H Q ⟨env, h, A, z, R, e, k⟩ => ?_
  obtain ⟨x, ex, e⟩ := bind_some e
  refine ⟨env, h, A, x, R, ex, fun v H1 e1 rv => ?_⟩
  obtain ⟨ns, rfl, hl, nd, rfl⟩ := gSortT_inv e
  obtain ⟨a, us, rfl, t, r⟩ := rt rv
  rw [rep_strs r] at t
  refine ⟨a, ns, rfl, by rw [hK]; exact t, hl, fun ys p' so pm hp => ?_⟩
  have ey : ys = strU ns := strs_uniq (sorted_asc so (pm.nodup_iff.mpr nd)) (asc_strU _) fun x => by rw [pm.mem_iff, mem_strU]
  subst ey
  exact k p' _ _ (fresh_back e1 hp) (e1.trans (Ex.new hp)) upd_same (RepAll.strs _)
end
end Sm

set_option Elab.async false
set_option linter.all false
set_option maxRecDepth 100000
set_option maxHeartbeats 2000000
/-! own errors as values: made, asked for their class, their place read -/
namespace Sx
open PySem L2 PyProof.Rows
/-- an error of the class C at a -/
def ErrAt (H : Hp) (C a : Addr) : Prop := H a = some (ExO (.ref C) a) ∨ ∃ d fs, H a = some (exo a C (some d)) ∧ H d = some (exd d fs)
theorem ErrAt.ex {H H' : Hp} {C a : Addr} (e : ∀ b o, H b = some o → H' b = some o) : ErrAt H C a → ErrAt H' C a
  | .inl h => .inl (e _ _ h)
  | .inr ⟨d, fs, h1, h2⟩ => .inr ⟨d, fs, e _ _ h1, e _ _ h2⟩
/-- what is told of an error that is being made, and then stands -/
def tMkV (C : Addr) (sp : Sp) (ta : TA) : TE := fun σ H Q => ta σ H fun vs H1 => vs.length ≤ 1000 ∧ ∀ a, H1 a = none → sp (.ref a :: (vs ++ [])) (upd H1 a (exo a C none)) (fun v H2 => v = .non ∧ Q (.ref a) H2) (fun _ _ _ => False)
section
variable {X : Cx} {e : Expr} {es : List Expr} {ta : TA} {te : TE} {p pos : Pos}
theorem pe_oexV {CX : CXT} {x : Str} {C fI : Addr} {k : Nat} {fd : FuncData} {ps : List Str} {sp : Sp} (T : OexC X.K C) (iC : PySem.W.findIn X.K (.ref C) "__init__" = some (some (.ref fI))) (tI : PySem.W.typeIn X.K (.ref fI) = some (.type "function"))
    (F1 : FnOk X.prog X.w X.K X.mg X.base CX k fI fd ps sp) (hr : Room (k + 1) X.A) (hb : Binds X.K fd ps []) (hx : Passes CX X (fun _ _ _ => False)) (hg : Gl X x) (hm : X.mg x = some (.ref C)) (ha : PA X (e :: es) ta)
    (hdb : (x == ("__debug__" : Str)) = false := by decide) (he : starEach (e :: es) X.env = (false, eval e X.env) :: starEach es X.env := by rfl) (hpl : (backTo pos (starEach es X.env)).any (·.1) = false := by rfl) :
    PE X (.Call (.Name x p) (e :: es) [] pos) (tMkV C sp ta) := by
  refine ⟨fun pins s σ H Q I h => ?_⟩
  obtain ⟨nm, qn, N, bs, bm, sn, sub, ab, col, dd, k0, k1, k2, k3, k5, hC, hbm⟩ := T.cls
  refine wpAny_Call_Name_kw (ld_glob I hg hm ?_ hdb)
  refine PySem.W.callWith_K (h₀ := X.base) I.ok.mod.kin T.kC (thn (ha.run pos pins s σ H _ I h) fun us s1 hh => ?_) he hpl
  obtain ⟨vs, H1, I1, r1, hz, q1⟩ := hh
  refine ⟨I1.kIn, ?_⟩
  show wpAny _ _ (call (.ref C) us) _ _ _
  obtain ⟨hp, g, dr, tk, os⟩ := s1
  have hsz := Nat.le_succ hp.objs.size
  have hn : H1 (hp.objs.size + 1) = none := I1.hok.fresh hsz
  have hq := q1 (hp.objs.size + 1) hn
  have kk : ∀ b o, hp.get? b = some o → ((hp.push (PySem.W.kdv_tup us)).push (PySem.HandSPX.excO C hp.objs.size)).get? b = some o := fun b o z => Heap.get?_push_of_some _ (Heap.get?_push_of_some _ z)
  have I2 : Inv X pins σ (upd H1 (hp.objs.size + 1) (exo (hp.objs.size + 1) C none)) ⟨(hp.push (PySem.W.kdv_tup us)).push (PySem.HandSPX.excO C hp.objs.size), g, dr, tk, os⟩ :=
    I1.laid (t' := tk) (a := hp.objs.size + 1) (h' := (hp.push (PySem.W.kdv_tup us)).push (PySem.HandSPX.excO C hp.objs.size)) kk hsz (exo_ok (t1 := hp.objs.size) (by heap_get))
  have r2 : Vals (V.ref (hp.objs.size + 1) :: (vs ++ [])) (Value.ref (hp.objs.size + 1) :: us) := .cons rfl (by rw [List.append_nil]; exact r1)
  have hl : (Value.ref (hp.objs.size + 1) :: us).length = ps.length := by
    rw [← Paired.length r2]
    exact F1.len _ _ _ _ hq
  have hus : us.length ≤ sizeLine := by
    rw [← Paired.length r1, sizeLine_eq]
    omega
  refine wpAny_call (PySem.HandSPX.call_own F.excBase_ValueError (fun Y => PySem.HandSPX.refsVE_contains Y bm hbm) (I1.kIn _ _ hC) (PySem.W.looks_findIn I1.kIn iC) (fun me => PySem.W.bind_fn I1.kIn me tI) hus
    (codeAny_mono (F1.run _ X.stack _ _ ⟨Value.ref (hp.objs.size + 1) :: us, []⟩ (Value.ref (hp.objs.size + 1) :: us) _ _ (fun _ _ _ => False) (hr.make C us []) (I2.env0.make C us []) (by have z := hb _ (Value.ref (hp.objs.size + 1) :: us) I2.kIn (by simpa using hl); rw [List.append_nil] at z; exact z) r2 hq) fun r s' hq' => ?_))
  cases r with
  | error er => exact hx pins σ _ _ er s' I2 hq'
  | ok fl =>
    cases fl with
    | ret u =>
      obtain ⟨v, H2, os2, bare2, un2, hok2, rv, ev, q2⟩ := hq'
      subst ev
      obtain ⟨h2, g2, d2, t2, os'⟩ := s'
      exact ⟨rv, .ref (hp.objs.size + 1), H2, I2.call' (ch := []) os2 un2 hok2 bare2 (fun b z => absurd z (by simp)), rfl, q2⟩
    | next => exact False.elim hq'
    | brk => exact False.elim hq'
    | cont => exact False.elim hq'
/-- isinstance(e, c), e an own error that stands -/
def rIsV (K : PySem.W.Frag) : List V → Hp → VK → Prop := fun xs H Q => ∃ (a D : Addr) (c : V) (u : Value) (b : Bool), xs = [.ref a, c] ∧ ErrAt H D a ∧ ExcC K D ∧ ClsV c u ∧ PySem.W.kitOne K (.ref D) u = some b ∧ Q (.bl b) H
theorem excC_kit {K : PySem.W.Frag} {D a : Addr} {ox : Obj} {od : Option Obj} (C : ExcC K D) : PySem.W.KitX K (.ref a) (.ref D) (fun h => PySem.W.InstAt h a ox D od) := by
  obtain ⟨cd, hc, _⟩ := PySem.W.any_some C.hd
  exact PySem.W.kitx_exc (by rw [hc] <;> rfl) C.hg C.hk C.hs C.ha C.hn C.ht C.hm
theorem call_isV : CallR X (.builtin "isinstance") (rIsV X.K) := by
  intro pins s σ H xs us Q I r h
  obtain ⟨a, D, c, u, b, rfl, hE, C, hc, e, q⟩ := h
  obtain ⟨u1, u2, rfl, r1, r2⟩ := vals2 r
  have e2 := hc.eq r2
  subst e2
  obtain rfl : u1 = Value.ref a := r1
  have fin : ∀ {ox : Obj} {od : Option Obj}, PySem.W.InstAt s.heap a ox D od → wpAny (model X.prog X.w) X.A (call (.builtin "isinstance") [.ref a, u2]) (EP X pins σ Q) X.xe s := fun J =>
    PySem.W.kia_one (excC_kit C) I.kIn J e (fun z => nomatch z) fun tk => ⟨.bl b, H, I.tok tk, rfl, q⟩
  rcases hE with hE | ⟨d, fs, h1, h2⟩
  · have ho := I.hok a _ hE
    obtain ⟨⟨oe, vs, g1, ⟨g2, g3⟩, g4, _⟩, _, _⟩ := ho
    refine fin (ox := oe) (od := none) ⟨g1, g2, ?_, ?_⟩
    · unfold PySem.W.notCls
      rw [g4] <;> rfl
    · rw [g3]
      exact True.intro
  · obtain ⟨t1, g1⟩ := exo_at I.hok h1
    obtain ⟨mA, hns, _⟩ := exd_at I.hok h2
    obtain ⟨od, ho, _⟩ := lookIn_ns hns
    exact fin (od := some od) ⟨g1, rfl, rfl, ho⟩
/-- e.f, e an own error that stands, f in its dict -/
def tXfV (K : PySem.W.Frag) (f : Str) (te : TE) : TE := fun σ H Q => te σ H fun x H1 => ∃ (a C d : Addr) (fs : List (Str × V)) (v : V), x = .ref a ∧ XfC K C ∧ PySem.W.findIn K (.ref C) f = some none ∧ H1 a = some (exo a C (some d)) ∧ H1 d = some (exd d fs) ∧ fs.lookup f = some v ∧ Q v H1
theorem pe_xfV {n : Str} (he : PE X e te) (hb : attributeBase e n X.env (eval e X.env) = eval e X.env := by rfl) : PE X (.Attribute e n pos) (tXfV X.K n te) := by
  refine ⟨fun pins s σ H Q I h => ?_⟩
  refine attr_of hb (thn (he.run pins s σ H _ I h) fun u s1 hh => ?_)
  obtain ⟨x, H1, I1, rx, a, C, d, fs, v, ex, T, hno, e1, e2, l, q⟩ := hh
  subst ex
  obtain rfl : u = Value.ref a := rx
  obtain ⟨t1, g1⟩ := exo_at I1.hok e1
  obtain ⟨mA, hns, hr⟩ := exd_at I1.hok e2
  obtain ⟨od, ho, hl⟩ := lookIn_ns hns
  obtain ⟨u, hu, ru⟩ := RelO.some_of (v := v) (o := mA n) (by rw [← l]; exact hr n)
  exact HandSPX.exc_get I1.kIn (od := some od) ⟨g1, rfl, rfl, ho⟩ T.ga T.gg T.exC (PySem.W.findObj_own T.hdC hno rfl (by rw [hl, hu])) (handed_of ru) ⟨v, H1, I1.tok _, ru, q⟩
end
/-! ### readings in a frame of one's own choice -/
end Sx

set_option Elab.async false
set_option linter.all false
set_option maxRecDepth 100000
set_option maxHeartbeats 2000000
/-! a comprehension over two sources, the second one a value -/
namespace Sm
open PySem L2 Evl
section
variable {F : Fm} {X : Cx} {env : En} {h : Hs} {A : As} {H H' : Hp} {pos : Pos}
variable {tg iter elt tg1 iter1 : Expr} {ifs ifs1 : List Expr} {ss ss1 : List Nat} {scope : Scope} {own : List (Str × Nat)} {it it1 : I1} {bn b1 : B1} {tt t1 : T1} {te : Q1}
theorem lc2_readT {σ : L2.St} {H : Hp} {Q : VK} {vs vs1 : List Nat} (hv : ∀ i, i ∈ ss → i ∈ vs) (hv1 : ∀ i, i ∈ ss1 → i ∈ vs1) (hbo : OwnNo bn) (hbo1 : OwnNo b1) (hq : tF F (fLc2 it vs bn tt vs1 it1 b1 t1 te) σ H Q) :
    tLc2 (tI F OkP .fs it) (tGt F ss bn) (tT F tt) (tI F OkS .fs it1) (tGt F ss1 b1) (tT F t1) (tQ F .st te) vs vs1 σ H Q := by
  obtain ⟨env, h, A, ys, R, e, k⟩ := hq
  obtain ⟨xs, ex, e⟩ := bind_some e
  obtain ⟨zs, ez, e⟩ := bind_some e
  split at e
  · next hl =>
    cases e
    refine ⟨env, h, A, xs, R, ex, fun J H1 e1 Y D hD => ?_⟩
    refine ⟨fun i m Hc => m = xs.length - i ∧ i ≤ xs.length ∧ Ex H1 Hc ∧ ∃ acc us, catGo (lcOut vs bn tt vs1 it1 b1 t1 te env h) (xs.take i) = some acc ∧ Hc D = some (.lst us) ∧ RDs F .st Hc acc us,
      ⟨xs.length, by simp, Nat.zero_le _, Ex.new hD, [], [], rfl, upd_same, .nil⟩, ?_⟩
    rintro i m Hc ⟨rfl, hi, z, acc, us, ea, hu, ru⟩
    by_cases hlt : i < xs.length
    · refine .inr ⟨Y.go Hc i z hlt, fun H' => i + 1 ≤ xs.length ∧ Ex H1 H' ∧ ∃ acc us, catGo (lcOut vs bn tt vs1 it1 b1 t1 te env h) (xs.take (i + 1)) = some acc ∧ H' D = some (.lst us) ∧ RDs F .st H' acc us,
        fun H' ⟨h1, h2, h3⟩ => ⟨xs.length - (i + 1), by omega, rfl, h1, h2, h3⟩, fun x Hn hy => ?_⟩
      obtain ⟨zn, rx⟩ := Y.yl Hc i x Hn _ z (List.getElem?_eq_getElem hlt) hy
      have esp : xs = xs.take i ++ xs[i] :: xs.drop (i + 1) := by rw [← List.drop_eq_getElem_cons hlt, List.take_append_drop]
      have es : catGo (lcOut vs bn tt vs1 it1 b1 t1 te env h) (xs.take i ++ xs[i] :: xs.drop (i + 1)) = some ys := by rw [← esp]; exact ez
      obtain ⟨a', b', ha', hb', hab⟩ := catGo_app es
      rw [ea] at ha'; cases ha'
      obtain ⟨o, eo, hb'⟩ := bind_some hb'
      obtain ⟨r2, q2, q3⟩ := bind_some hb'
      cases q3
      have et : catGo (lcOut vs bn tt vs1 it1 b1 t1 te env h) (xs.take (i + 1)) = some (acc ++ o) := by
        rw [List.take_add_one, List.getElem?_eq_getElem hlt]
        exact catGo_snoc eo ea
      obtain ⟨env1, eb, eo⟩ := bind_some eo
      obtain ⟨c, ec, eo⟩ := bind_some eo
      have S0 : SR F (wipeE env vs) h A (L2.wipe σ vs) Hn := ((R.ex e1).ex (z.trans zn)).wipe vs
      refine ⟨_, h, A, xs[i], env1, S0, rx, eb, fun σ2 H2 x2 R2 l2 s2 => ⟨?_, env1, h, A, c, R2, ec, fun H3 x3 => ?_⟩⟩
      · rw [wipe_eq (σ := L2.wipe σ vs) l2 s2 hv]
        exact wipe_eq (ss := vs) (wipe_len _ _) (fun i hi => wipe_not hi) fun _ z => z
      · have zt : Ex Hc H3 := (zn.trans x2).trans x3
        cases c with
        | false =>
          cases eo
          exact ⟨hlt, z.trans zt, acc, us, by rw [et]; simp, zt D _ hu, RDs.ex zt ru⟩
        | true =>
          rw [if_pos rfl] at eo
          obtain ⟨ws, ew, eo⟩ := bind_some eo
          have S3 := R2.ex x3
          refine ⟨env1, h, A, ws, S3, ew, fun J1 H4 x4 Y1 => ?_⟩
          have z4 : Ex Hc H4 := zt.trans x4
          -- what stands but for D
          have f0 : Fresh F env h A D := (R.ex e1).fresh hD
          have lv1 : ∀ q, live env1 h q → live env h q := fun q hq => by
            cases q with
            | s i =>
              obtain ⟨s, e, m⟩ := hq
              exact ⟨s, wipe_mut (hbo _ _ _ _ _ eb e m) m, m⟩
            | o n => exact hq
            | f n j => exact hq
          have fD : Fresh F env1 h A D := ⟨f0.f0, fun q hq => f0.fp q (lv1 q hq)⟩
          have S4 : SR F env1 h A σ2 H4 := S3.ex x4
          refine ⟨fun j m Hd => m = ws.length - j ∧ j ≤ ws.length ∧ (∀ a o, H4 a = some o → a ≠ D → Hd a = some o) ∧ Pres H4 Hd ∧ ∃ bcc ts, lcGo (lcStep vs1 b1 t1 te env1 h) (ws.take j) = some bcc ∧ Hd D = some (.lst (us ++ ts)) ∧ RDs F .st Hd bcc ts,
            ⟨ws.length, by simp, Nat.zero_le _, fun a o q _ => q, Pres.refl _, [], [], rfl, by rw [List.append_nil]; exact z4 D _ hu, .nil⟩, ?_⟩
          rintro j m Hd ⟨rfl, hj, kd, Pd, bcc, ts, eb1, hD1, rts⟩
          have okd : OkS F H4 Hd := ⟨Pd, _, _, _, _, S4.off fD kd Pd⟩
          by_cases hjl : j < ws.length
          · refine .inr ⟨Y1.go Hd j okd hjl, fun H' => j + 1 ≤ ws.length ∧ (∀ a o, H4 a = some o → a ≠ D → H' a = some o) ∧ Pres H4 H' ∧ ∃ bcc ts, lcGo (lcStep vs1 b1 t1 te env1 h) (ws.take (j + 1)) = some bcc ∧ H' D = some (.lst (us ++ ts)) ∧ RDs F .st H' bcc ts,
              fun H' ⟨h1, h2, h3, h4⟩ => ⟨ws.length - (j + 1), by omega, rfl, h1, h2, h3, h4⟩, fun x Hn hy => ?_⟩
            obtain ⟨zn', rx'⟩ := Y1.yl Hd j x Hn _ okd (List.getElem?_eq_getElem hjl) hy
            have kn : ∀ a o, H4 a = some o → a ≠ D → Hn a = some o := fun a o q n => zn' _ _ (kd a o q n)
            have Pn : Pres H4 Hn := Pd.trans (Ex.pres zn')
            have hDn : Hn D = some (.lst (us ++ ts)) := zn' _ _ hD1
            have rtn := RDs.ex zn' rts
            have esp1 : ws = ws.take j ++ ws[j] :: ws.drop (j + 1) := by rw [← List.drop_eq_getElem_cons hjl, List.take_append_drop]
            have es1 : lcGo (lcStep vs1 b1 t1 te env1 h) (ws.take j ++ ws[j] :: ws.drop (j + 1)) = some o := by rw [← esp1]; exact eo
            obtain ⟨a1, b2, ha1, hb2, hab1⟩ := lcGo_app es1
            rw [eb1] at ha1; cases ha1
            obtain ⟨o1, eo1, hb2⟩ := bind_some hb2
            obtain ⟨r3, q4, q5⟩ := bind_some hb2
            cases q5
            have et1 : lcGo (lcStep vs1 b1 t1 te env1 h) (ws.take (j + 1)) = some (bcc ++ o1.toList) := by
              rw [List.take_add_one, List.getElem?_eq_getElem hjl]
              exact lcGo_snoc eo1 eb1
            obtain ⟨env2, eb2, eo1⟩ := bind_some eo1
            obtain ⟨c2, ec2, eo1⟩ := bind_some eo1
            have Sd : SR F env1 h A σ2 Hn := S4.off fD kn Pn
            refine ⟨_, h, A, ws[j], env2, Sd.wipe vs1, rx', eb2, fun σ3 H5 x5 R5 l5 s5 => ⟨?_, env2, h, A, c2, R5, ec2, fun H6 x6 => ?_⟩⟩
            · rw [wipe_eq (σ := L2.wipe σ2 vs1) l5 s5 hv1]
              exact wipe_eq (ss := vs1) (wipe_len _ _) (fun i hi => wipe_not hi) fun _ z => z
            · have zu : Ex Hn H6 := x5.trans x6
              cases c2 with
              | false =>
                cases eo1
                exact ⟨hjl, fun a o q n => zu _ _ (kn a o q n), Pn.trans (Ex.pres zu), bcc, ts, by rw [et1]; simp, zu D _ hDn, RDs.ex zu rtn⟩
              | true =>
                obtain ⟨y, ey, eo1⟩ := bind_some eo1
                obtain ⟨y', ey', eo1⟩ := bind_some eo1
                cases eo1
                refine ⟨env2, h, A, y, R5.ex x6, ey, fun v H7 x7 rv => ⟨us ++ ts, (zu.trans x7) D _ hDn, ?_, hjl, fun a o q n => ?_, ?_, _, ts ++ [v], et1, by rw [upd_same, List.append_assoc], ?_⟩⟩
                · have l1 : acc.length = us.length := ru.len.symm
                  have l2 : bcc.length = ts.length := rts.len.symm
                  have : (acc ++ (bcc ++ ([y'] ++ r3) ++ r2)).length ≤ sizeLine := by
                    have e7 : o = bcc ++ ([y'] ++ r3) := by rw [hab1]; rfl
                    rw [← e7]
                    rw [hab] at hl
                    exact hl
                  simp only [List.length_append, List.length_cons, List.length_nil] at this ⊢
                  omega
                · rw [upd_ne n]
                  exact (zu.trans x7) _ _ (kn a o q n)
                · exact (Pn.trans (Ex.pres (zu.trans x7))).trans (Pres.upd fun u eu => by
                    rw [(zu.trans x7) D _ hDn] at eu; cases eu
                    exact ⟨fun _ q => (by cases q), fun _ _ q => (by cases q)⟩)
                · have P : Pres H7 (upd H7 D (.lst (us ++ ts ++ [v]))) := Pres.upd fun u eu => by
                    rw [(zu.trans x7) D _ hDn] at eu; cases eu
                    exact ⟨fun _ q => (by cases q), fun _ _ q => (by cases q)⟩
                  refine RepAll.append (RepAll.mono P.sqT P.sL _ _ (RDs.ex (zu.trans x7) rtn)) (.cons ?_ .nil)
                  cases y with
                  | d yy => cases ey'; exact Rep.mono P.sqT P.sL _ _ rv
                  | ref n => cases ey'
                  | fn n => cases ey'
          · have e0 : j = ws.length := by omega
            subst e0
            rw [List.take_length, eo] at eb1
            cases eb1
            refine .inl ⟨Y1.st Hd _ okd (Nat.le_refl _), hlt, fun a o q => ?_, _, us ++ ts, et, hD1, RepAll.append (RepAll.mono ((Ex.pres z4).trans Pd).sqT ((Ex.pres z4).trans Pd).sL _ _ ru) rts⟩
            exact kd a o ((z.trans z4) a o q) fun e => by rw [e, hD] at q; cases q
    · have e0 : i = xs.length := by omega
      subst e0
      rw [List.take_length, ez] at ea
      cases ea
      exact .inl ⟨Y.st Hc _ z (Nat.le_refl _), k D us Hc (fresh_back e1 hD) (e1.trans z) hu ru⟩
  · cases e
theorem sf_lc2T (hc : X.calm = true) (hN : X.N.Nodup) {vs1 : List Nat} (hi : SimI X F OkP .fs tg iter it) (ok : blkC X.N X.env.scope scope own = true) (hv1 : (vs1.all fun i => (own.map (·.2)).contains i) = true) (hv : (ss.all fun i => (own.map (·.2)).contains i) = true) (hv2 : (ss1.all fun i => vs1.contains i) = true) (hbo : OwnNo bn) (hbo1 : OwnNo b1)
    (hg : ∀ (s : Shared) (H : Hp) (C : Addr) (cl : List (Str × Addr)) (fp : List Addr), PG (X.blk s H scope (compEnvC scope cl C X.env) fp) tg (tGt F ss bn)) (ht : ∀ (s : Shared) (H : Hp) (C : Addr) (cl : List (Str × Addr)) (fp : List Addr), PTs (X.blk s H scope (compEnvC scope cl C X.env) fp) ifs (tT F tt))
    (hi1 : ∀ (s : Shared) (H : Hp) (C : Addr) (cl : List (Str × Addr)) (fp : List Addr), SimI (X.blk s H scope (compEnvC scope cl C X.env) fp) F OkS .fs tg1 iter1 it1)
    (hg1 : ∀ (s : Shared) (H : Hp) (C : Addr) (cl : List (Str × Addr)) (fp : List Addr), PG (X.blk s H scope (compEnvC scope cl C X.env) fp) tg1 (tGt F ss1 b1)) (ht1 : ∀ (s : Shared) (H : Hp) (C : Addr) (cl : List (Str × Addr)) (fp : List Addr), PTs (X.blk s H scope (compEnvC scope cl C X.env) fp) ifs1 (tT F t1))
    (he : ∀ (s : Shared) (H : Hp) (C : Addr) (cl : List (Str × Addr)) (fp : List Addr), SimQ (X.blk s H scope (compEnvC scope cl C X.env) fp) F .st elt te) (hs : ∀ x, foldedSetIterable iter X.env x = pure x := by intro _; rfl) (hs1 : ∀ env x, foldedSetIterable iter1 env x = pure x := by intro _ _; rfl) :
    SimF X F (.ListComp elt [⟨tg, iter, ifs, 0⟩, ⟨tg1, iter1, ifs1, 0⟩] scope pos) (fLc2 it (own.map (·.2)) bn tt vs1 it1 b1 t1 te) :=
  PEimp (pe_lc2 hc hN hi (blkOk_by ok) (fun i hi => by simpa using List.all_eq_true.mp hv1 i hi) hg ht hi1 hg1 ht1 he hs hs1) fun _ _ _ => lc2_readT (fun i hi => by simpa using List.all_eq_true.mp hv i hi) (fun i hi => by simpa using List.all_eq_true.mp hv2 i hi) hbo hbo1
end
/-! ### a frame of one's own choice -/
theorem SR.view {F : Fm} {env0 env : En} {h : Hs} {A : As} {σ0 σ : L2.St} {H : Hp} (R : SR F env0 h A σ0 H) (hl : σ.length = env.length) (hs : ∀ (i : Nat) (s : Sl), env[i]? = some s → s = .un ∨ ∃ x v, s = .v x ∧ σ[i]? = some (some v) ∧ RV F .mo h A H x v) : SR (Fm.cal F.G false h A H) env h A σ H := by
  have R0 : SR (Fm.cal F.G false h A H) [] h A [] H := R.start false
  have nl : ∀ p, live env h p → live [] h p := fun p hp => by
    cases p with
    | s i =>
      obtain ⟨s, e, m⟩ := hp
      rcases hs i s e with rfl | ⟨x, v, rfl, _⟩ <;> cases m
    | o n => exact hp
    | f n j => exact hp
  refine ⟨R0.fr, R0.tp, R0.fz, R0.dm, R0.le, R0.oo, R0.nw, fun i q => R0.ow i (nl (.s i) q), hl, fun i s e => ?_, R0.ob, fun p q hp hq e => R0.ij p q (nl p hp) (nl q hq) e, R0.ro⟩
  rcases hs i s e with rfl | ⟨x, v, rfl, ev, rv⟩
  · trivial
  · exact ⟨v, by rw [ev] <;> rfl, cal_fs rfl rv⟩
theorem pt_view {X : Cx} {e : Expr} {G : Glo} {t : T1} (a : ∀ F : Fm, F.G = G → SimT X F e t) : PT X e (fun σ H Q => ∃ F, F.G = G ∧ tT F t σ H Q) := ⟨fun pins s σ H Q I ⟨F, hG, q⟩ => (a F hG).run pins s σ H Q I q⟩
end Sm

set_option Elab.async false
set_option linter.all false
set_option maxRecDepth 100000
set_option maxHeartbeats 2000000
/-! own errors as values: what the head tells of them, and rules for them -/
namespace Sx
open PySem L2 PyProof.Rows Sm Evl
/-! ### the head -/
def veB : List Value := [.type "ValueError", .type "Exception", .type "BaseException", .type "object"]
def excCB (K : PySem.W.Frag) (D : Addr) : Bool := ovB (PySem.W.findIn K (.ref D) "__getattribute__") (some (some (.builtin "BaseException.__getattribute__"))) && (ovB (PySem.W.findIn K (.ref D) "__getattr__") (some none) &&
  (decide (PySem.W.subIn K (.ref D) (.type "BaseException") = some true) && (PySem.W.hasDictIn K D && (ovB (PySem.W.findIn K (.ref D) "__class__") (some (some (.builtin "object.__class__"))) &&
  (ovB (PySem.W.specialIn K (.builtin "object.__class__") "__get__") (some (some (.builtin "getset_descriptor.__get__"))) && (decide (PySem.W.takesIn K (.builtin "object.__class__") = some true) && decide (PySem.W.mroIn K D (.type "object") = some true)))))))
theorem excCB_ok {K : PySem.W.Frag} {D : Addr} (h : excCB K D = true) : ExcC K D := by
  unfold excCB ovB at h
  simp only [Bool.and_eq_true, decide_eq_true_eq] at h
  obtain ⟨h1, h2, h3, h4, h5, h6, h7, h8⟩ := h
  exact ⟨h1, h2, h3, h4, h5, h6, h7, h8⟩
/-- ns: the errors' names; par: what they all stand over; no: those without an __init__ of their own -/
def exsB (ns : List Str) (par : Str) (no : List Str) (K : PySem.W.Frag) : Bool :=
  (ns.all fun x => excCB K (He.ga K x) && (ovB (PySem.W.nsIn K mainGlobals x) (some (some (.ref (He.ga K x)))) && (decide (PySem.W.kitOne K (.ref (He.ga K x)) (.ref (He.ga K par)) = some true) && (decide (PySem.W.kitOne K (.ref (He.ga K x)) (.type "ValueError") = some true) &&
    ns.all fun y => decide (PySem.W.kitOne K (.ref (He.ga K x)) (.ref (He.ga K y)) = some (decide (x = y))))))) &&
  (ovB (PySem.W.nsIn K mainGlobals par) (some (some (.ref (He.ga K par)))) && no.all fun x => PySem.W.excIn K (He.ga K x) veB "ValueError.__new__" && PySem.W.keepIn K (.ref (He.ga K x)))
structure ErrX (K : PySem.W.Frag) (mg : Str → Option Value) (ns : List Str) (par : Str) (no : List Str) : Prop where
  exc : ∀ x ∈ ns, ExcC K (He.ga K x)
  mgx : ∀ x ∈ ns, mg x = some (.ref (He.ga K x))
  mgp : mg par = some (.ref (He.ga K par))
  kp : ∀ x ∈ ns, PySem.W.kitOne K (.ref (He.ga K x)) (.ref (He.ga K par)) = some true
  kv : ∀ x ∈ ns, PySem.W.kitOne K (.ref (He.ga K x)) (.type "ValueError") = some true
  kx : ∀ x ∈ ns, ∀ y ∈ ns, PySem.W.kitOne K (.ref (He.ga K x)) (.ref (He.ga K y)) = some (decide (x = y))
  new : ∀ x ∈ no, PySem.W.excIn K (He.ga K x) veB "ValueError.__new__" = true ∧ PySem.W.keepIn K (.ref (He.ga K x)) = true
theorem exsB_ok {ns : List Str} {par : Str} {no : List Str} {K : PySem.W.Frag} {h : Heap} {mg : Str → Option Value} (X : K.In h) (N : h.Ns mainGlobals mg) (e : exsB ns par no K = true) : ErrX K mg ns par no := by
  unfold exsB ovB at e
  simp only [Bool.and_eq_true, decide_eq_true_eq, List.all_eq_true] at e
  obtain ⟨e1, e2, e3⟩ := e
  exact ⟨fun x hx => excCB_ok (e1 x hx).1, fun x hx => PySem.W.mg_of X N (e1 x hx).2.1, PySem.W.mg_of X N e2, fun x hx => (e1 x hx).2.2.1, fun x hx => (e1 x hx).2.2.2.1, fun x hx y hy => (e1 x hx).2.2.2.2 y hy, e3⟩
/-! ### the head with one more test -/
def SaysM (fa : List He.Fa) (fn : List He.DefD) (cs : List (Str × PyData)) (P : Program) (es : List ErrD) (mx : PySem.W.Frag → Bool) (K : PySem.W.Frag) : Prop := SaysE fa fn cs P es K ∧ mx K = true
abbrev ObM : Type := ObE × Bool
def obsM (n : Nat) (fa : List He.Fa) (fn : List He.DefD) (cs : List (Str × PyData)) (P : Program) (es : List ErrD) (mx : PySem.W.Frag → Bool) (g : Addr → Option Obj) : ObM := (obsE n fa fn cs P es g, mx (partE n g))
def hookM (n : Nat) (fa : List He.Fa) (fn : List He.DefD) (cs : List (Str × PyData)) (P : Program) (es : List ErrD) (mx : PySem.W.Frag → Bool) : PySem.W.Hook where
  α := ObM
  obs := fun s => obsM n fa fn cs P es mx s.heap.get?
  val := fun _ => (((He.valD fn, true), (true, es.map ErrD.val)), true)
  says := fun _ h => ∃ K : PySem.W.Frag, K.In h ∧ SaysM fa fn cs P es mx K
  of := fun _ _ e => ⟨_, He.frG_in, ⟨⟨congrArg (fun z : ObM => z.1.1.1) e, congrArg (fun z : ObM => z.1.1.2) e⟩, congrArg (fun z : ObM => z.1.2.1) e, congrArg (fun z : ObM => z.1.2.2) e⟩, congrArg (fun z : ObM => z.2) e⟩
  keeps := fun _ _ _ ⟨K, hK, c⟩ k => ⟨K, PySem.W.Frag.In.keeps hK k, c⟩
theorem obsM_eq {n : Nat} {fa : List He.Fa} {fn : List He.DefD} {cs : List (Str × PyData)} {P : Program} {es : List ErrD} {mx : PySem.W.Frag → Bool} {g : Addr → Option Obj} {s : Shared} (h : ∀ a, g a = s.heap.get? a) : obsM n fa fn cs P es mx g = (hookM n fa fn cs P es mx).obs s := by
  have e : g = s.heap.get? := funext h
  rw [e] <;> rfl
/-! ### rules -/
/-- an error whose place is told -/
def PlcAt (H : Hp) (C a : Addr) (n : Int) : Prop := ∃ d, H a = some (exo a C (some d)) ∧ H d = some (exd d [(("place" : Str), V.int n)])
theorem PlcAt.ex {H H' : Hp} {C a : Addr} {n : Int} (e : ∀ b o, H b = some o → H' b = some o) : PlcAt H C a n → PlcAt H' C a n := fun ⟨d, h1, h2⟩ => ⟨d, e _ _ h1, e _ _ h2⟩
theorem PlcAt.err {H : Hp} {C a : Addr} {n : Int} : PlcAt H C a n → ErrAt H C a := fun ⟨d, h1, h2⟩ => .inr ⟨d, _, h1, h2⟩
section
variable {X : Cx} {p pos p1 p2 p3 : Pos} {j : Nat}
theorem pe_plc {x : Str} {C fI : Addr} {n : Int} {jc : Nat} {pc : Pos} (S : Sm.XC X x C fI 1) (hr : Room 2 X.A) (hn : n.natAbs.log2 < 1000) (hg : Gl X x := by rfl) (hdb : (x == ("__debug__" : Str)) = false := by decide)
    (hpl : (backTo pos (starEach [] X.env)).any (·.1) = false := by rfl) :
    PE X (.Call (.Name x p) [.Constant (.int n) jc pc] [] pos) (fun σ H Q => ∀ a H', Ex H H' → PlcAt H' C a n → Q (.ref a) H') := by
  obtain ⟨fd, F1, hb⟩ := S.fn
  refine PEimp (pe_oexV (pos := pos) (p := p) S.T S.iC S.tI F1 hr hb pass0 hg S.gC (pa_cons pe_int pa_nil) hdb (by rfl) hpl) fun σ H Q q => ?_
  refine ⟨(by decide : 1 ≤ 1000), fun a ha => ⟨a, n, rfl, upd_same, hn, fun d hd hda => ⟨rfl, q a _ ?_ ⟨d, upd_same, by rw [upd_ne hda, upd_same]⟩⟩⟩⟩
  intro b o hb
  have nb : b ≠ a := fun z => by rw [z, ha] at hb; cases hb
  have nd : b ≠ d := fun z => by
    rw [upd_ne hda] at hd
    rw [z, hd] at hb
    cases hb
  rw [upd_ne nb, upd_ne nd, upd_ne nb]
  exact hb
theorem pe_own1 {x : Str} {C : Addr} {s : Str} {jc : Nat} {pc : Pos} (q : PySem.W.excIn X.K C veB "ValueError.__new__" = true) (gC : X.mg x = some (.ref C)) (kC : PySem.W.keepIn X.K (.ref C) = true) (hg : Gl X x := by rfl) (hdb : (x == ("__debug__" : Str)) = false := by decide) :
    PE X (.Call (.Name x p) [.Constant (.str s) jc pc] [] pos) (fun σ H Q => ∀ a H', Ex H H' → H' a = some (ExO (.ref C) a) → Q (.ref a) H') :=
  PEimp (pe_exc1 F.excBase_ValueError q gC kC hg pe_str (by rfl) hdb) fun σ H Q k => fun a ha => k a _ (Ex.new ha) upd_same
/-- isinstance(e, x), e in slot i, an own error of ns -/
theorem pe_isx {ns no : List Str} {par x y : Str} {i : Nat} (E : ErrX X.K X.mg ns par no) (hx : x ∈ ns) (hN : X.N[i]? = some y) (hv : Vis X.env.scope y) (hm : X.mg "isinstance" = none) (hg : Gl X "isinstance" := by rfl) (hgx : Gl X x := by rfl) (hdb : (x == ("__debug__" : Str)) = false := by decide) (hd : (y == ("__debug__" : Str)) = false := by decide) (hcd : (y == ("__classdict__" : Str)) = false := by decide)
    (he : starEach [.Name y p1, .Name x p2] X.env = (false, eval (.Name y p1) X.env) :: starEach [.Name x p2] X.env := by rfl) (he2 : starEach [.Name x p2] X.env = (false, eval (.Name x p2) X.env) :: starEach [] X.env := by rfl) (hpl : (backTo pos (starEach [.Name x p2] X.env)).any (·.1) = false := by rfl) :
    PE X (.Call (.Name "isinstance" p) [.Name y p1, .Name x p2] [] pos) (fun σ H Q => ∃ a z, σ[i]? = some (some (.ref a)) ∧ z ∈ ns ∧ ErrAt H (He.ga X.K z) a ∧ Q (.bl (decide (z = x))) H) :=
  PEimp (pe_callB call_isV hg hm (by decide +kernel) (pa_cons (pe_var hN hv hd hcd) (pa_cons (pe_glob (v := .ref (He.ga X.K x)) hgx (E.mgx x hx) rfl hdb) pa_nil he2) he) (by decide) (by decide) he hpl) fun σ H Q ⟨a, z, h1, hz, hE, q⟩ =>
    ⟨_, h1, a, He.ga X.K z, _, _, _, rfl, hE, E.exc z hz, .own _, E.kx z hz x hx, q⟩
theorem pt_isp {ns no : List Str} {par y : Str} {i : Nat} (E : ErrX X.K X.mg ns par no) (hN : X.N[i]? = some y) (hv : Vis X.env.scope y) (hm : X.mg "isinstance" = none) (hg : Gl X "isinstance" := by rfl) (hgx : Gl X par := by rfl) (hdb : (par == ("__debug__" : Str)) = false := by decide) (hd : (y == ("__debug__" : Str)) = false := by decide) (hcd : (y == ("__classdict__" : Str)) = false := by decide)
    (he : starEach [.Name y p1, .Name par p2] X.env = (false, eval (.Name y p1) X.env) :: starEach [.Name par p2] X.env := by rfl) (he2 : starEach [.Name par p2] X.env = (false, eval (.Name par p2) X.env) :: starEach [] X.env := by rfl) (hpl : (backTo pos (starEach [.Name par p2] X.env)).any (·.1) = false := by rfl)
    (ht : ∀ whole, isTrue (.Call (.Name "isinstance" p) [.Name y p1, .Name par p2] [] pos) X.env whole = (do let v ← whole; standAt (Expr.Call (.Name "isinstance" p) [.Name y p1, .Name par p2] [] pos).pos; holding [v] (truthy v)) := by intro _; rfl) :
    PT X (.Call (.Name "isinstance" p) [.Name y p1, .Name par p2] [] pos) (fun σ H Q => ∃ a z, σ[i]? = some (some (.ref a)) ∧ z ∈ ns ∧ ErrAt H (He.ga X.K z) a ∧ Q true H) :=
  PTimp (pt_truth (pe_callB call_isV hg hm (by decide +kernel) (pa_cons (pe_var hN hv hd hcd) (pa_cons (pe_glob (v := .ref (He.ga X.K par)) hgx E.mgp rfl hdb) pa_nil he2) he) (by decide) (by decide) he hpl) ht) fun σ H Q ⟨a, z, h1, hz, hE, q⟩ =>
    ⟨_, h1, a, He.ga X.K z, _, _, _, rfl, hE, E.exc z hz, .own _, E.kp z hz, true, rfl, q⟩
theorem pt_isv {ns no : List Str} {par y : Str} {i : Nat} (E : ErrX X.K X.mg ns par no) (hN : X.N[i]? = some y) (hv : Vis X.env.scope y) (hm : X.mg "isinstance" = none) (hm2 : X.mg "ValueError" = none) (hg : Gl X "isinstance" := by rfl) (hgx : Gl X "ValueError" := by rfl) (hd : (y == ("__debug__" : Str)) = false := by decide) (hcd : (y == ("__classdict__" : Str)) = false := by decide)
    (he : starEach [.Name y p1, .Name "ValueError" p2] X.env = (false, eval (.Name y p1) X.env) :: starEach [.Name "ValueError" p2] X.env := by rfl) (he2 : starEach [.Name "ValueError" p2] X.env = (false, eval (.Name "ValueError" p2) X.env) :: starEach [] X.env := by rfl) (hpl : (backTo pos (starEach [.Name "ValueError" p2] X.env)).any (·.1) = false := by rfl)
    (ht : ∀ whole, isTrue (.Call (.Name "isinstance" p) [.Name y p1, .Name "ValueError" p2] [] pos) X.env whole = (do let v ← whole; standAt (Expr.Call (.Name "isinstance" p) [.Name y p1, .Name "ValueError" p2] [] pos).pos; holding [v] (truthy v)) := by intro _; rfl) :
    PT X (.Call (.Name "isinstance" p) [.Name y p1, .Name "ValueError" p2] [] pos) (fun σ H Q => ∃ a z, σ[i]? = some (some (.ref a)) ∧ z ∈ ns ∧ ErrAt H (He.ga X.K z) a ∧ Q true H) :=
  PTimp (pt_truth (pe_callB call_isV hg hm (by decide +kernel) (pa_cons (pe_var hN hv hd hcd) (pa_cons (pe_bltn (v := .ty "ValueError") hgx hm2 PyProof.Rows.Boot.«ValueError» rfl (by decide) (by decide)) pa_nil he2) he) (by decide) (by decide) he hpl) ht) fun σ H Q ⟨a, z, h1, hz, hE, q⟩ =>
    ⟨_, h1, a, He.ga X.K z, _, _, _, rfl, hE, E.exc z hz, .ty _, E.kv z hz, true, rfl, q⟩
end
end Sx

set_option Elab.async false
set_option linter.all false
set_option maxRecDepth 100000
set_option maxHeartbeats 4000000
/-! o.pop(k), k told with effects -/
namespace Sm
open PySem L2 Evl
section
variable {F : Fm} {X : Cx} {o i : Expr} {pos apos : Pos} {qo : Q1} {mi : E1}
def ePopE (qo : Q1) (mi : E1) : E1 := fun env h => (qo env h).bind fun o => (mi env h).bind fun r => match o, r.1 with
  | .ref n, .d (.int k) => match h[n]? with
    | some (.lst _) => if (decide (-(2 ^ 62) ≤ k) && decide (k < 2 ^ 62)) = true then match r.2[n]? with
      | some (.lst xs) => (ixN xs.length k).bind fun j => (xs[j]?).bind fun d => some (.d d, r.2.set n (.lst (xs.eraseIdx j)))
      | _ => none
      else none
    | _ => none
  | _, _ => none
theorem se_popE (hw : F.rw = true) (hK : X.K = F.G.K) (ho : SimQ X F .mo o qo) (hi : SimE X F .fs i mi)
    (hbase : attributeBase o "pop" X.env (eval o X.env) = eval o X.env := by rfl)
    (hfew : ((backTo pos (starEach [i] X.env)).all (fun x => !x.1) && (backToKw pos (keywordEach [] X.env)).all (fun x => x.1.isSome) && decide ([i].length + ([] : List Keyword).length + (if ([] : List Keyword).isEmpty then 0 else 1) < 30)) = true := by rfl)
    (hline : (apos.endLine == pos.line) = true := by rfl) (hs : starEach [i] X.env = (false, eval i X.env) :: starEach [] X.env := by rfl) (hplain : (backTo pos (starEach [] X.env)).any (·.1) = false := by rfl) :
    SimE X F .st (.Call (.Attribute o "pop" apos) [i] [] pos) (ePopE qo mi) :=
  PEimp (pe_bm PySem.F.plainAttrs_list PySem.F.slot_list_pop PySem.F.type_list_pop mt_popAt ho (pa_cons hi pa_nil hs) hbase hfew hline hs hplain) fun σ H Q ⟨env, h, A, z, h', R, e, k⟩ => by
    obtain ⟨x, ex, e⟩ := bind_some e
    obtain ⟨⟨y, h1⟩, ey, e⟩ := bind_some e
    refine ⟨env, h, A, x, R, ex, fun v H1 e1 rv => ?_⟩
    dsimp only at e
    split at e
    · next n kk _ =>
      split at e
      · next xs0 hn0 =>
        split at e
        · next hb =>
          simp only [Bool.and_eq_true, decide_eq_true_eq] at hb
          obtain ⟨hlt0, rfl⟩ := rv
          have R1 := R.ex e1
          split at e
          · next xs hn =>
            obtain ⟨j, ej, e⟩ := bind_some e
            obtain ⟨d, ed, e⟩ := bind_some e
            cases e
            obtain ⟨us0, hu0, _⟩ := R1.ob n _ hn0
            refine ⟨by rw [hK]; exact ty_list hu0, env, h, A, _, h1, R1, ey, fun w H2 A2 R2 s2 rw' => ?_⟩
            cases ri rw'
            have eo : A (.o n) = A2 (.o n) := (s2.oo n hlt0).symm
            obtain ⟨us, hu, rs⟩ := R2.ob n _ hn
            obtain ⟨u, hu2, ru⟩ := rs.get ed
            have hj : ixN us.length kk = some j := by rw [rs.len]; exact ej
            obtain ⟨hsq, hlt, _, _⟩ := ixN_seq hj
            refine ⟨A (.o n), us, kk, j, u, rfl, rfl, by rw [eo]; exact hu, by omega, by omega, hsq, hu2, ?_⟩
            rw [eo]
            have R3 := R2.putO (xs' := xs.eraseIdx j) hw hn (rs.eraseIdx j)
            have s3 := Step.putG (u' := .lst (us.eraseIdx j)) (ob' := .lst (xs.eraseIdx j)) R2 hn (fun _ _ z => by cases z)
            exact k u _ A2 R3 (((Step.ex e1).trans s2).trans s3) (RD.pres s3.pres (by simp) ru)
          · cases e
        · cases e
      · cases e
    · cases e
end
end Sm

set_option Elab.async false
set_option linter.all false
set_option maxRecDepth 100000
set_option maxHeartbeats 2000000
/-! min(x, y) of data that can be compared -/
namespace PySem.W
open PySem PySem.Spec PySem.Calls PyProof.Rows
section
variable {prog : Program} {w : World} {A : Around} {E : Value → Shared → Prop} {s : Shared}
theorem min2_walk {x y : Value} {Q : Value → Shared → Prop}
    (k : wpAny (model prog w) A.in1 (pyIter (.ref s.heap.objs.size)) (fun it s2 => ∃ I fp wr G n P St H bt, it = .ref I ∧ WalksS prog w A.in1 I fp wr G n P St ∧ St 0 s2 ∧ (∀ b ∈ fp, b < s2.heap.objs.size) ∧ 0 < n ∧
      (∀ b o, H.get? b = some o → b ∉ wr) ∧ (∀ b o, H.get? b = some o → s2.heap.get? b = some o) ∧ CmpIn prog w A.in1 .Lt H P bt ∧ ∀ v s', P (argBest bt (n - 1)) v → Moved wr G s2 s' → Q v s') E { s with heap := s.heap.push { cls := .type "tuple", data := .seq #[x, y] } }) :
    wpAny (model prog w) A (call (.builtin "min") [x, y]) Q E s := by
  have nm : (toString "min" ++ toString ".loop" : String) = "min.loop" := by decide
  refine call_function_tree F.kind_min F.plain_min F.entry_min (F.args_min2 x y) ?_
  show wpAny _ A.in1 (Builtin.Builtins.bindParams "min" ["key", "default"] 0 ⟨[], []⟩ >>= _) _ _ s
  refine wpAny_bind (wpAny_of_eq (a := ([none, none] : List (Option Value))) rfl ?_)
  show wpAny _ A.in1 (newTuple [x, y] >>= _) _ _ s
  refine wpAny_bind (wpAny_newObj_type (wpAny_bind (wpAny_mono k (fun it s2 z => ?_) fun _ _ e => e)))
  obtain ⟨I, fp, wr, G, n, P, St, H, bt, rfl, W, st0, lt, n0, nw, kp, cmp, fin⟩ := z
  have nf : s2.heap.objs.size ∉ fp := fun hm => Nat.lt_irrefl _ (lt _ hm)
  refine wpAny_bind (wpAny_newObj_type ?_)
  rw [nm]
  exact wpAny_pure ⟨plainId_quiet F.plain_min_loop _, codeAny_min_loop_firstH W H nw bt cmp s2.heap.objs.size nf (fresh_in kp) _ n0 (fun b o e => Heap.get?_push_of_some _ (kp b o e)) (W.frame 0 s2 _ s2.toks st0 (Nat.le_refl _) fun b _ o e => Heap.get?_push_of_some _ e) (Heap.get?_push_size _ rfl)
    fun v s' hP hm => fin v s' hP (Moved.drop_new (tk := s2.toks) hm (Nat.le_refl _))⟩
theorem min2_data {a b : Value} {x y : PyData} {as bs : List Addr} {Q : Value → Shared → Prop} (hh : A.handled = none) (ra : Reads s.heap a x as) (rb : Reads s.heap b y bs) (al : AlikeAll [x, y]) (hu : A.units + 1 + PyData.depthAll [x, y] < cLine)
    (k : ∀ (i : Nat) v h' tk cs, (#[a, b] : Array Value)[i]? = some v → Reads h' v (minD x [y]) cs → (∀ b o, s.heap.get? b = some o → h'.get? b = some o) → Q v { s with heap := h', toks := tk }) :
    wpAny (model prog w) A (call (.builtin "min") [a, b]) Q E s := by
  have kp : ∀ c o, s.heap.get? c = some o → (s.heap.push { cls := .type "tuple", data := .seq #[a, b] }).get? c = some o := fun c o e => Heap.get?_push_of_some _ e
  have hr : ReadsAll (s.heap.push { cls := .type "tuple", data := .seq #[a, b] }) (#[a, b] : Array Value).toList [x, y] (as ++ (bs ++ [])) := .cons (reads_keeps kp ra) (.cons (reads_keeps kp rb) .nil)
  have hl : (s.heap.push { cls := .type "tuple", data := .seq #[a, b] }).IsTuple s.heap.objs.size #[a, b] := ⟨_, Heap.get?_push_size _ rfl, rfl, 0, rfl⟩
  refine min2_walk (iter_tupleW (s := { s with heap := s.heap.push { cls := .type "tuple", data := .seq #[a, b] } }) (A := A.in1) hh hl fun s2 e W st lt nw hk => ?_)
  refine ⟨_, _, _, _, _, _, _, _, _, rfl, W, st, lt, Nat.zero_lt_succ _, nw, hk, cmpIn_lt (s := { s with heap := s.heap.push { cls := .type "tuple", data := .seq #[a, b] } }) (A := A.in1) hr al (by show A.units + 1 + _ < _; exact hu), fun v s' hP m => ?_⟩
  obtain ⟨h', tk, rfl, hk'⟩ := moved_old e rfl m
  obtain ⟨cs, r, _, _, _⟩ := readsAll_atA hr _ v hP
  have e2 := (argBest_fold dataLt PyData.none x [y] 1 (Nat.le_refl _)).2
  exact k _ v h' tk cs hP (reads_keeps hk' (by unfold minD; rw [show List.foldl _ x [y] = List.foldl _ x (List.take 1 [y]) from rfl, ← e2]; exact r)) fun c o z => hk' c o (kp c o z)
end
end PySem.W
namespace Sm
open PySem L2 Evl
def rMin2D (K : PySem.W.Frag) : List V → Hp → VK → Prop := fun xs H Q => ∃ v w x y, xs = [v, w] ∧ Dp K H v x ∧ Dp K H w y ∧ PySem.W.AlikeAll [x, y] ∧ PyData.depthAll [x, y] ≤ 60 ∧ ∀ (i : Nat) u, [x, y][i]? = some (PySem.W.minD x [y]) → [v, w][i]? = some u → Q u H
section
variable {F : Fm} {X : Cx} {a b : Expr} {p pos : Pos} {qa qb : Q1}
theorem cr_min2D (hc : X.calm = true) (hu : X.A.units + 64 < cLine) : CallR X (.builtin "min") (rMin2D X.K) := by
  intro pins s σ H vs us Q I r ⟨v, w, x, y, e, d1, d2, al, hd, q⟩
  subst e
  obtain ⟨u1, u2, rfl, r1, r2⟩ := vals2 r
  obtain ⟨as, ra⟩ := Dp.reads I x v u1 d1 r1
  obtain ⟨bs, rb⟩ := Dp.reads I y w u2 d2 r2
  refine PySem.W.min2_data (I.ok.hd hc) ra rb al (room60 hu hd) fun i z h' tk cs hv rd hk => ?_
  have hv : [u1, u2][i]? = some z := by simpa using hv
  obtain ⟨d, cs1, hd1, rd1⟩ := reads_get (.cons ra (.cons rb .nil)) hv
  have hm := minD_mem [y] x
  have ed : d = PySem.W.minD x [y] := PySem.W.alike_unique d _ z _ _ (al.1 d (List.mem_of_getElem? hd1) _ hm) (reads_keep hk rd1) rd
  subst ed
  obtain ⟨t, ht, rt⟩ := vals_at (xs := [v, w]) (.cons r1 (.cons r2 .nil)) hv
  exact ⟨t, H, I.kept hk, rt, q i t hd1 ht⟩
def gMin2X : Hs → Val → Val → Option Val := fun _ x y => match x, y with
  | .d x, .d y => if dataB [x, y] = true then some (.d (PySem.W.minD x [y])) else none
  | _, _ => none
theorem sq_min2X (hK : X.K = F.G.K) (hu : X.A.units + 64 < cLine) (hc : X.calm = true) (hm : X.mg "min" = none) (ha : SimQ X F .mo a qa) (hb : SimQ X F .mo b qb) (hg : Gl X "min" := by rfl)
    (he : starEach [a, b] X.env = (false, eval a X.env) :: starEach [b] X.env := by rfl) (he2 : starEach [b] X.env = (false, eval b X.env) :: starEach [] X.env := by rfl) (hpl : (backTo pos (starEach [b] X.env)).any (·.1) = false := by rfl) : SimQ X F .mo (.Call (.Name "min" p) [a, b] [] pos) (q2 gMin2X qa qb) :=
  sq_b2 (cr_min2D hc hu) (by
    intro env h A σ H x y v u z R rx ry e Q k
    unfold gMin2X at e
    split at e
    · next d1 d2 =>
      split at e
      · next hs =>
        cases e
        obtain ⟨h1, h2⟩ := dataB_of hs
        rw [hK]
        refine ⟨v, u, d1, d2, rfl, Rep.dp _ _ rx, Rep.dp _ _ ry, h1, h2, fun i w e1 e2 => k _ H (Ex.refl H) ?_⟩
        match i, e1, e2 with
        | 0, e1, e2 =>
          cases e2
          have e1 : some d1 = some (PySem.W.minD d1 [d2]) := e1
          rw [← Option.some.inj e1]
          exact rx
        | 1, e1, e2 =>
          cases e2
          have e1 : some d2 = some (PySem.W.minD d1 [d2]) := e1
          rw [← Option.some.inj e1]
          exact ry
        | i + 2, e1, e2 => simp at e1
      · cases e
    · cases e) hm (by decide +kernel) ha hb hg (by decide) (by decide) he he2 hpl
end
end Sm

set_option Elab.async false
set_option linter.all false
set_option maxRecDepth 100000
set_option maxHeartbeats 2000000
/-! slots of data whose lists are locked: functions that take and give lists as values -/
namespace Sm
open PySem L2 Evl
def qZ (i : Nat) : Q1 := fun env _ => match env[i]? with
  | some (.z d) => some (.d d)
  | _ => none
def mSetZ (i : Nat) (m : E1) : M1 := fun env h => (m env h).bind fun x => match x.1 with
  | .d d => some (.nx, env.set i (.z d), x.2)
  | _ => none
def mHoldZ (i : Nat) (m : M1) : M1 := fun env h => match env[i]? with
  | some (.l xs) => m (env.set i (.z (.list xs))) h
  | _ => m env h
def mAsgZ2 (i j : Nat) (q : Q1) : M1 := fun env h => (q env h).bind fun x => match x with
  | .d (.tuple [a, b]) => some (.nx, (env.set i (.z a)).set j (.z b), h)
  | _ => none
def zOf : Val → Sl
  | .d d => .z d
  | x => .v x
def startZ (k : Nat) (args : List Val) : En := args.map zOf ++ List.replicate k .un
def runZ (k : Nat) (m : M1) : List Val → Hs → Option Val := fun args h => (m (startZ k args) h).bind fun r => match r.1 with
  | .rt .st (.d x) => some (.d x)
  | _ => none
def spZ (G : Glo) (n : Nat) (f : List Val → Hs → Option Val) : Sp := fun vs H Q _ => ∃ F env h A σ args x, F.G = G ∧ SR F env h A σ H ∧ Paired (fun x v => RV F .st h A H x v) args vs ∧ args.length = n ∧ f args h = some x ∧ ∀ v H', Ex H H' → RV F .st h A H' x v → Q v H'
theorem join_at {σ : L2.St} {i : Nat} {v : V} (e : σ[i]?.join = some v) : σ[i]? = some (some v) := by
  cases hs : σ[i]? with
  | none => rw [hs] at e; cases e
  | some o => rw [hs] at e; exact congrArg some e
section
variable {F : Fm} {X : Cx} {e : Expr} {es : List Expr} {sts : List Stmt} {pos p p2 : Pos} {ℓ : Lv} {env : En} {h : Hs} {A : As} {σ : L2.St} {H : Hp} {m : E1} {mb : M1} {q : Q1}
theorem sq_z (i : Nat) {x : Str} (hN : X.N[i]? = some x := by rfl) (hv : Vis X.env.scope x := by first | exact Or.inl rfl | exact Or.inr (Or.inl rfl) | exact Or.inr (Or.inr rfl)) (hd : (x == ("__debug__" : Str)) = false := by decide)
    (hcd : (x == ("__classdict__" : Str)) = false := by decide) : SimQ X F ℓ (.Name x pos) (qZ i) :=
  PEimp (pe_var hN hv hd hcd) fun σ H Q ⟨env, h, A, x, R, e, k⟩ => by
    unfold qZ at e
    split at e
    · next d hy =>
      cases e
      obtain ⟨v, e1, r⟩ := R.sl i _ hy
      exact ⟨v, join_at e1, k v H (Ex.refl H) (RV.of_st (F := F) (x := .d d) (h := h) (A := A) r)⟩
    · cases e
theorem SR.setZ {i : Nat} {d : PyData} {v : V} (R : SR F env h A σ H) (r : Rep (SqT F.G.K H) (SL F.G.K H) d v) : SR F (env.set i (.z d)) h A (σ.set i (some v)) H :=
  R.setG rfl (by simp) (fun j hj => List.getElem?_set_ne (Ne.symm hj)) fun hi => ⟨v, by rw [List.getElem?_set_self (by rw [R.ln]; exact hi)]; rfl, r⟩
theorem SR.lockZ {i : Nat} {xs : List PyData} {vs : List V} {o : Obj} (R : SR F env h A σ H) (hi : env[i]? = some (.l xs)) (hv : H (A (.s i)) = some (.lst vs)) : SR F (env.set i (.z (.list xs))) h A σ (upd H (A (.s i)) (.frz o (.lst vs))) := by
  have P : Pres H (upd H (A (.s i)) (.frz o (.lst vs))) := R.pres_at ⟨_, hi, rfl⟩
  have R1 := R.lockS (o := o) hi hv
  obtain ⟨e1, vs', e2, r⟩ := R.sl i _ hi
  rw [hv] at e2; cases e2
  have z := R1.setG (i := i) (s' := .z (.list xs)) (σ' := σ) rfl rfl (fun _ _ => rfl) fun _ => ⟨_, e1, (show Rep _ _ (.list xs) _ from by
    simp only [Rep]
    exact ⟨_, vs, rfl, .inl ⟨o, upd_same⟩, RepAll.mono P.sqT P.sL _ _ r⟩)⟩
  rwa [List.set_set] at z
theorem ss_setZ {i : Nat} {x : Str} (hN : X.N.Nodup) (hi : X.N[i]? = some x) (hx : Loc X.env.scope x) (he : SimE X F .st e m) (hs : swapsWith e (some (.Name x p2)) pos.line X.env = pure false := by rfl) (hf : X.fn x = true ∨ X.env.scope.names.lookup x = some .local := by first | exact .inl rfl | exact .inr rfl | assumption) :
    SimS X F (.Assign [.Name x p2] e pos) (mSetZ i m) := PSimp (ps_set hN hi hx he hs hf) fun D σ H ⟨env, h, A, r, env', h', R, e, k⟩ => by
  obtain ⟨⟨x, h1⟩, ex, e⟩ := bind_some e
  refine ⟨env, h, A, x, h1, R, ex, fun v H1 A1 R1 s rv => ?_⟩
  cases x with
  | d d => cases e; exact k _ H1 A1 (R1.setZ rv) s.pres
  | ref n => cases e
  | fn n => cases e
theorem sb_holdZ (i : Nat) (h1 : SimB X F sts mb) : SimB X F sts (mHoldZ i mb) := ⟨fun pins s σ H D I ⟨env, h, A, r, env', h', R, e, k⟩ => by
  by_cases c : ∃ xs, env[i]? = some (.l xs)
  · obtain ⟨xs, hy⟩ := c
    obtain ⟨e1, us, e2, rs⟩ := R.sl i _ hy
    obtain ⟨o, I2⟩ := froze I e2
    have P : Pres H (upd H (A (.s i)) (.frz o (.lst us))) := R.pres_at ⟨_, hy, rfl⟩
    refine h1.run pins s σ _ D I2 ⟨_, h, A, r, env', h', R.lockZ hy e2, ?_, k.pre P⟩
    unfold mHoldZ at e
    rw [hy] at e
    exact e
  · refine h1.run pins s σ H D I ⟨env, h, A, r, env', h', R, ?_, k⟩
    unfold mHoldZ at e
    split at e
    · next xs hx => exact absurd ⟨xs, hx⟩ c
    · exact e⟩
theorem ss_asgZ2 {i j : Nat} {x y : Str} {k : Nat} {p3 : Pos} (hK : X.K = F.G.K) (hc : X.calm = true) (hN : X.N.Nodup) (hi : X.N[i]? = some x) (hj : X.N[j]? = some y) (hx : Loc X.env.scope x) (hy : Loc X.env.scope y) (he : SimQ X F .st e q)
    (hfx : X.fn x = true ∨ X.env.scope.names.lookup x = some .local := by first | exact .inl rfl | exact .inr rfl) (hfy : X.fn y = true ∨ X.env.scope.names.lookup y = some .local := by first | exact .inl rfl | exact .inr rfl)
    (hs : swapsWithSole [.Tuple [.Name x p, .Name y p2] k p3] e pos.line X.env = pure false := by rfl) (hw : swappedStores [.Tuple [.Name x p, .Name y p2] k p3] e X.env = pure none := by rfl)
    (h1 : (assignEach [.Tuple [.Name x p, .Name y p2] k p3] X.env).map (·.2) = [assign (.Tuple [.Name x p, .Name y p2] k p3) X.env] := by rfl) :
    SimS X F (.Assign [.Tuple [.Name x p, .Name y p2] k p3] e pos) (mAsgZ2 i j q) :=
  PSimp (ps_asg he (pg_tup hc (pgs_cons (pg_name hN hi hx hfx) (pgs_cons (pg_name hN hj hy hfy) pgs_nil))) hs hw h1) fun D σ H ⟨env, h, A, r, env', h', R, e, kk⟩ => by
    obtain ⟨z, ez, e⟩ := bind_some e
    split at e
    · next a b =>
      cases e
      refine ⟨env, h, A, _, R, ez, fun v H1 e1 rv => ?_⟩
      obtain ⟨t, us, rfl, ht, rs⟩ := rt rv
      obtain ⟨u1, r1, rfl, ra, rs⟩ := (show ∃ v r, us = v :: r ∧ _ ∧ _ from by simpa only [RepAll] using rs)
      obtain ⟨u2, r2, rfl, rb, rs⟩ := (show ∃ v r, r1 = v :: r ∧ _ ∧ _ from by simpa only [RepAll] using rs)
      obtain rfl : r2 = [] := by simpa only [RepAll] using rs
      refine ⟨t, _, rfl, by rw [hK]; exact ht, rfl, u1, _, rfl, u2, _, rfl, rfl, ?_⟩
      exact kk _ H1 A (((R.ex e1).setZ ra).setZ rb) (Ex.pres e1)
    · cases e
end
section
variable {F : Fm} {h : Hs} {A : As} {H : Hp}
theorem SR.argsZ {N : List Str} {args : List Val} {vs : List V} (R : SR F [] h A [] H) (r : Paired (fun x v => RV F .st h A H x v) args vs) (hl : args.length ≤ N.length) : SR F (startZ (N.length - args.length) args) h A (L2.start N vs) H := by
  have hlen := Paired.len r
  have nm : ∀ x : Val, isMut (zOf x) = false := fun x => by cases x <;> rfl
  have nl : ∀ p, live (startZ (N.length - args.length) args) h p → live [] h p := fun p hp => by
    cases p with
    | s i =>
      obtain ⟨s, e, m⟩ := hp
      unfold startZ at e
      by_cases hi : i < (args.map zOf).length
      · rw [List.getElem?_append_left hi, List.getElem?_map] at e
        obtain ⟨x, _, rfl⟩ := Option.map_eq_some_iff.mp e
        rw [nm] at m
        cases m
      · rw [List.getElem?_append_right (by omega)] at e
        have := List.eq_of_mem_replicate (List.mem_of_getElem? e)
        subst this
        cases m
    | o n => exact hp
    | f n j => exact hp
  refine ⟨R.fr, R.tp, R.fz, R.dm, R.le, R.oo, R.nw, fun i q => R.ow i (nl (.s i) q), ?_, fun i s e => ?_, R.ob, fun p q hp hq e => R.ij p q (nl p hp) (nl q hq) e, R.ro⟩
  · simp [startZ, L2.start, hlen]
  · unfold startZ at e
    by_cases hi : i < (args.map zOf).length
    · rw [List.getElem?_append_left hi, List.getElem?_map] at e
      obtain ⟨x, ex, rfl⟩ := Option.map_eq_some_iff.mp e
      obtain ⟨v, ev, rv⟩ := Paired.get r ex
      have es : (L2.start N vs)[i]?.join = some v := by
        unfold L2.start
        rw [List.getElem?_append_left (by simpa [← hlen] using hi), List.getElem?_map, ev]
        rfl
      cases x with
      | d d => exact ⟨v, es, rv⟩
      | ref n => exact ⟨v, es, rv⟩
      | fn n => exact ⟨v, es, rv⟩
    · rw [List.getElem?_append_right (by omega)] at e
      have := List.eq_of_mem_replicate (List.mem_of_getElem? e)
      subst this
      trivial
end
section
variable {P : Program} {w : World} {K : PySem.W.Frag} {mg : Str → Option Value} {base : Heap} {x qual : Str} {st : Stmt} {f : Addr} {fd : FuncData} {N ps : List Str} {k n : Nat} {G : Glo} {m : M1} {g : List Val → Hs → Option Val}
theorem fn_z (U : Fun K x qual st f fd) (S : FnScope N ps (defScope st)) (hl : ps.length ≤ N.length)
    (hb : ∀ (cdv : Value) (A : Around) (outer : List Env) (s : Shared) (H : Hp) (E : XK), Room k (A.deeper (PyProof.Rows.envOfC qual (defScope st) s.heap.objs.size f cdv)) → ∀ F : Fm, F.G = G → SimB (cxOf CX0 P w K mg base N qual (defScope st) f cdv A outer s H E).nox F (defBody st) m) :
    FnOk P w K mg base CX0 (k + 1) f fd ps (spZ G ps.length (runZ (N.length - ps.length) m)) := by
  refine U.ok S (fun vs H Q E h => ?_) (fun cdv A outer s H vs Q E hr h => ?_)
  · obtain ⟨F, env, h, A, σ, args, y, _, _, r, hn, _⟩ := h
    rw [← Paired.len r, hn]
  · obtain ⟨F, env, hh, As, σ, args, y, hG, R, r, hn, e, kk⟩ := h
    obtain ⟨⟨r1, env1, h1⟩, e1, e2⟩ := bind_some e
    have R0 : SR (Fm.cal G false hh As H) [] hh As [] H := by
      have := R.start false
      rw [hG] at this
      exact this
    have R1 := R0.argsZ (N := N) (Paired.imp (fun _ _ z => by subst hG; exact z) r) (by omega)
    rw [hn] at R1
    refine ⟨tS (Fm.cal G false hh As H) m, hb cdv A outer s H E hr _ rfl, _, hh, As, r1, env1, h1, R1, e1, ?_⟩
    split at e2
    · next d er =>
      cases e2
      dsimp only at er
      subst er
      intro σ' H' A' v R' _ rv
      refine kk v H' (cal_ex R') ?_
      subst hG
      exact rv
    · cases e2
variable {F : Fm} {X : Cx} {e : Expr} {es : List Expr} {p pos : Pos} {a : En → Hs → Option (List Val)}
theorem spZ_ar {vs : List V} {H : Hp} {Q : VK} {E : XK} (h : spZ G n (arity n g) vs H Q E) : spZ G n g vs H Q E := by
  obtain ⟨F, env, h, A, σ, args, y, hG, R, r, hn, e, kk⟩ := h
  exact ⟨F, env, h, A, σ, args, y, hG, R, r, hn, by simpa [arity, hn] using e, kk⟩
theorem sq_callZ (U : FnOk X.prog X.w X.K X.mg X.base CX0 k f fd ps (spZ G n g)) (hG : F.G = G) (hr : Room k X.A) (hm : X.mg x = some (.ref f)) (hk : PySem.W.keepIn X.K (.ref f) = true) (hb : Binds X.K fd ps []) (ha : SimA X F .st (e :: es) a)
    (hg : Gl X x := by rfl) (hdb : (x == ("__debug__" : Str)) = false := by decide) (he : starEach (e :: es) X.env = (false, eval e X.env) :: starEach es X.env := by rfl) (hpl : (backTo pos (starEach es X.env)).any (·.1) = false := by rfl) :
    SimQ X F .st (.Call (.Name x p) (e :: es) [] pos) (qCall (arity n g) a) :=
  PEimp (pe_call (U.imp fun _ _ _ _ => spZ_ar) hr hg hm hk hb .nil pass0 ha hdb he hpl) fun σ H Q ⟨env, h, A, z, R, e, k⟩ => by
    obtain ⟨xs, ex, e⟩ := bind_some e
    refine ⟨env, h, A, xs, R, ex, fun vs H1 e1 rs => ?_⟩
    show spZ G n (arity n g) (vs ++ []) H1 Q _
    rw [List.append_nil]
    exact ⟨F, env, h, A, σ, xs, z, hG, R.ex e1, rs, arity_n _ _ _ e, e, fun v H' e2 rv => k v H' (e1.trans e2) rv⟩
end
end Sm

set_option Elab.async false
set_option linter.all false
set_option maxRecDepth 100000
set_option maxHeartbeats 2000000
/-! own classes: attributes, methods, new instances -/
namespace PySem.W
open PySem PySem.Spec PySem.Calls PyProof.Rows
section
variable {prog : Program} {w : World} {A : Around} {E : Value → Shared → Prop} {s : Shared} {K : Frag} {x C : Addr} {ox : Obj} {od : Option Obj} {name : Str}
/-- an attribute of an instance, asked for as what is called -/
theorem method_fld {pl : Sem Bool} {Q : Value × List Value → Shared → Prop} (X : K.In s.heap) (I : InstAt s.heap x ox C od) (ga : findIn K (.ref C) "__getattribute__" = some (some (.builtin "object.__getattribute__"))) (gt : findIn K (.ref C) "__getattr__" = some none)
    (no : findIn K (.ref C) name = some none) (k : wpAny (model prog w) A (getAttr (.ref x) name) (fun v s' => Q (v, []) s') E s) : wpAny (model prog w) A (getMethod (.ref x) name pl) Q E s := by
  have cn := PySem.F.canon_object_ga
  unfold getMethod specialOf
  refine wpAny_bind (wpAny_bind (I.type.here ((looks_findIn X ga).here ?_)))
  dsimp only
  rw [cn, if_neg (by decide)]
  refine wpAny_bind (wpAny_bind (I.type.here ((looks_findIn X gt).here ?_)))
  refine wpAny_bind (wpAny_bind (I.type.here ((looks_findIn X no).here ?_)))
  exact wpAny_bind (wpAny_mono k (fun v s' q => wpAny_pure q) fun _ _ z => z)
end
end PySem.W
namespace L2
open PySem PySem.Spec PyProof.Rows
section
variable {X : Cx} {o e : Expr} {es : List Expr} {m : Str} {apos pos : Pos} {ta : TE} {t : TA} {k : Nat} {f : Addr} {fd : FuncData} {ps : List Str} {sp : Sp} {CX : CXT} {E : XK}
/-- o.m(e), m an attribute of the instance that holds a def -/
theorem pe_fldcall {pl : Sem Bool} (he : PE X o ta) (F : FnOk X.prog X.w X.K X.mg X.base CX k f fd ps sp) (hr : Room k X.A) (kp : PySem.W.keepIn X.K (.ref f) = true) (hb : Binds X.K fd ps []) (hx : Passes CX X E) (ha : PA X (e :: es) t)
    (hst : starEach (e :: es) X.env = (false, eval e X.env) :: starEach es X.env := by rfl) (hpl : (backTo pos (starEach es X.env)).any (·.1) = false := by rfl)
    (ht : eval (.Call (.Attribute o m apos) (e :: es) [] pos) X.env = (do
      let ov ← eval o X.env
      standAt apos.atName
      let (f, first) ← holding [ov] (getMethod ov m pl)
      callWith pos f first (backTo pos (starEach (e :: es) X.env)) (backToKw pos (keywordEach [] X.env))) := by rfl) :
    PE X (.Call (.Attribute o m apos) (e :: es) [] pos) (fun σ H Q => ta σ H fun x H1 => ∃ a C dx fs, x = .ref a ∧ H1 a = some (.ins C dx fs) ∧ Cls X.K C ∧ NoAttr X.K C m ∧ fs.lookup m = some (.ref f) ∧ t σ H1 fun vs H2 => sp (vs ++ []) H2 Q E) := by
  refine ⟨fun pins s σ H Q I h => ?_⟩
  refine PySem.W.methodCall_KW (pl := pl) (thn (he.run pins s σ H _ I h) fun u s1 hh => ?_) ht
  obtain ⟨x, H1, I1, rx, a, C, dx, fs, ex, ea, c, n, l, q⟩ := hh
  subst ex
  obtain rfl : u = Value.ref a := rx
  obtain ⟨mA, O, _, _, _, _⟩ := ins_get I1.hok ea
  obtain ⟨od, J, _⟩ := O.look
  refine PySem.W.method_fld I1.kIn J (PySem.W.plainGet_of (c.get m)).1 (PySem.W.plainGet_of (c.get m)).2 n (getattr_ok I1 ea c n l fun u2 s2 I2 ru => ?_)
  obtain rfl : u2 = Value.ref f := ru
  refine PySem.W.callWith_K (first := []) (h₀ := X.base) I.ok.mod.kin kp (thn (ha.run pos pins s2 σ H1 _ I2 q) fun us s3 hh3 => ?_) hst hpl
  obtain ⟨vs, H2, I3, r, q2⟩ := hh3
  refine ⟨I3.kIn, ?_⟩
  exact run_fn (us := us) (vs := vs) F hr hb .nil hx I3 r q2
end
end L2
namespace Sm
open PySem L2 Evl
/-! ### attributes -/
def fldAt (c j : Nat) (h : Hs) (x : Val) : Option Sl := match x with
  | .ref n => match h[n]? with
    | some (.ins c' fs) => if c' = c then fs[j]? else none
    | _ => none
  | _ => none
def slV : Sl → Option Val
  | .v y => some y
  | .l xs => some (.d (.list xs))
  | _ => none
def qFld (c j : Nat) (q : Q1) : Q1 := fun env h => (q env h).bind fun x => (fldAt c j h x).bind slV
def setFld (c j : Nat) (h : Hs) (x : Val) (s : Sl) : Option Hs := match x with
  | .ref n => match h[n]? with
    | some (.ins c' fs) => if c' = c then some (h.set n (.ins c (fs.set j s))) else none
    | _ => none
  | _ => none
def mFld (c j : Nat) (qo : Q1) (m : E1) : M1 := fun env h => (m env h).bind fun x => (qo env x.2).bind fun o => (setFld c j x.2 o (.v x.1)).bind fun h' => some (.nx, env, h')
def mFldL (c j : Nat) (qo : Q1) (m : EF) : M1 := fun env h => (m env h).bind fun x => (qo env x.2).bind fun o => (setFld c j x.2 o (.l x.1)).bind fun h' => some (.nx, env, h')
def mFldMv (c j i : Nat) (qo : Q1) : M1 := fun env h => match env[i]? with
  | some (.l xs) => (qo env h).bind fun o => (setFld c j h o (.l xs)).bind fun h' => some (.nx, env.set i .un, h')
  | _ => none
def mFldApp (c j : Nat) (qo q : Q1) : M1 := fun env h => (qo env h).bind fun o => match fldAt c j h o with
  | some (.l xs) => (q env h).bind fun y => (dOf y).bind fun d => if xs.length < sizeLine then (setFld c j h o (.l (xs ++ [d]))).bind fun h' => some (.nx, env, h') else none
  | _ => none
theorem fldAt_of {c j : Nat} {h : Hs} {x : Val} {s : Sl} (e : fldAt c j h x = some s) : ∃ n fs, x = .ref n ∧ h[n]? = some (.ins c fs) ∧ fs[j]? = some s := by
  unfold fldAt at e
  split at e
  · next n =>
    split at e
    · next c' fs hn =>
      split at e
      · next hc => subst hc; exact ⟨n, fs, rfl, hn, e⟩
      · cases e
    · cases e
  · cases e
theorem setFld_of {c j : Nat} {h h' : Hs} {x : Val} {s : Sl} (e : setFld c j h x s = some h') : ∃ n fs, x = .ref n ∧ h[n]? = some (.ins c fs) ∧ h' = h.set n (.ins c (fs.set j s)) := by
  unfold setFld at e
  split at e
  · next n =>
    split at e
    · next c' fs hn =>
      split at e
      · next hc => subst hc; cases e; exact ⟨n, fs, rfl, hn, rfl⟩
      · cases e
    · cases e
  · cases e
section
variable {F : Fm} {X : Cx} {o e : Expr} {es : List Expr} {f m : Str} {pos p p2 apos : Pos} {ℓ ℓ₁ : Lv} {env : En} {h : Hs} {A : As} {σ : L2.St} {H : Hp} {c j i : Nat} {qo q : Q1} {ma : E1} {mf : EF}
theorem SR.fld {n : Nat} {fs : List Sl} {s : Sl} (R : SR F env h A σ H) (hn : h[n]? = some (.ins c fs)) (hj : fs[j]? = some s) (hf : (F.G.nm c)[j]? = some f) :
    ∃ dx fs', H (A (.o n)) = some (.ins (F.G.cl c) dx fs') ∧ fs'.length < 1000 ∧ SlOf F.G (SL F.G.K H) h.length A H (A (.f n j)) s (fs'.lookup f) := by
  obtain ⟨dx, fs', e1, e2, e3, _, r⟩ := R.ob n _ hn
  exact ⟨dx, fs', e1, keys_len e2 e3, r j s f hj hf⟩
theorem sq_fld (hK : X.K = F.G.K) (T : Cls X.K (F.G.cl c)) (nA : NoAttr X.K (F.G.cl c) f) (hf : (F.G.nm c)[j]? = some f) (ho : SimQ X F ℓ₁ o qo) (hb : attributeBase o f X.env (eval o X.env) = eval o X.env := by rfl) : SimQ X F .mo (.Attribute o f pos) (qFld c j qo) :=
  PEimp (pe_fld ho hb) fun σ H Q ⟨env, h, A, z, R, e, k⟩ => by
    obtain ⟨x, ex, e⟩ := bind_some e
    obtain ⟨s, es, e⟩ := bind_some e
    obtain ⟨n, fs, rfl, hn, hj⟩ := fldAt_of es
    refine ⟨env, h, A, _, R, ex, fun v H1 e1 rv => ?_⟩
    obtain ⟨_, rfl⟩ := rv
    obtain ⟨dx, fs', g1, _, g2⟩ := (R.ex e1).fld hn hj hf
    cases s with
    | v y =>
      cases e
      obtain ⟨v, g3, rv⟩ := g2
      exact ⟨_, _, dx, fs', v, rfl, g1, T, nA, g3, k v H1 e1 (RV.of_st rv)⟩
    | l xs =>
      cases e
      obtain ⟨g3, us, g4, r⟩ := g2
      exact ⟨_, _, dx, fs', _, rfl, g1, T, nA, g3, k _ H1 e1 (vl (ℓ := .mo) (.inl (.inl g4)) (RDs.of_st (F := F) (ℓ := .mo) r))⟩
    | un => cases e
    | k kvs => cases e
    | z d => cases e
/-- o.f = e -/
theorem ss_fld (hK : X.K = F.G.K) (hw : F.rw = true) (T : Cls X.K (F.G.cl c)) (nA : NoAttr X.K (F.G.cl c) f) (hf : (F.G.nm c)[j]? = some f) (ho : SimQ X F ℓ₁ o qo) (he : SimE X F .st e ma) (hs : swapsWith e (some (.Attribute o f p)) pos.line X.env = pure false := by rfl) :
    SimS X F (.Assign [.Attribute o f p] e pos) (mFld c j qo ma) := PSimp (ps_fld ho he hs) fun D σ H ⟨env, h, A, r, env', h', R, e, k⟩ => by
  obtain ⟨⟨x, h1⟩, ex, e⟩ := bind_some e
  obtain ⟨z, ez, e⟩ := bind_some e
  obtain ⟨h2, eh, e⟩ := bind_some e
  cases e
  obtain ⟨n, fs, rfl, hn, rfl⟩ := setFld_of eh
  refine ⟨env, h, A, x, h1, R, ex, fun v H1 A1 R1 s1 rv => ⟨env, h1, A1, _, R1, ez, fun u H2 e2 ru => ?_⟩⟩
  obtain ⟨_, rfl⟩ := ru
  have R2 := R1.ex e2
  obtain ⟨dx, fs', g1, g2, g3, _, _⟩ := R2.ob n _ hn
  refine ⟨_, _, dx, fs', rfl, g1, T, nA, keys_len g2 g3, ?_⟩
  have R3 := R2.setF (p := A1 (.f n j)) (s' := .v x) (v := v) hw hn hf g1 (fun z => by cases z) ⟨v, rfl, (rv.ex e2).mono (fun _ _ z => z) (fun _ _ z => z) (Nat.le_refl _) fun m _ => As.put_ne (by intro q; cases q)⟩
  exact k σ _ _ R3 ((s1.pres.trans (Ex.pres e2)).trans (R2.pres_at (show live env h1 (.o n) from (List.getElem?_eq_some_iff.mp hn).1)))
/-- o.f = a new list -/
theorem ss_fldL (hK : X.K = F.G.K) (hw : F.rw = true) (T : Cls X.K (F.G.cl c)) (nA : NoAttr X.K (F.G.cl c) f) (hf : (F.G.nm c)[j]? = some f) (ho : SimQ X F ℓ₁ o qo) (he : SimEF X F e mf) (hs : swapsWith e (some (.Attribute o f p)) pos.line X.env = pure false := by rfl) :
    SimS X F (.Assign [.Attribute o f p] e pos) (mFldL c j qo mf) := PSimp (ps_fld ho he hs) fun D σ H ⟨env, h, A, r, env', h', R, e, k⟩ => by
  obtain ⟨⟨xs, h1⟩, ex, e⟩ := bind_some e
  obtain ⟨z, ez, e⟩ := bind_some e
  obtain ⟨h2, eh, e⟩ := bind_some e
  cases e
  obtain ⟨n, fs, rfl, hn, rfl⟩ := setFld_of eh
  refine ⟨env, h, A, xs, h1, R, ex, fun p us H1 A1 R1 s1 hp hv fr rs => ⟨env, h1, A1, _, R1, ez, fun u H2 e2 ru => ?_⟩⟩
  obtain ⟨_, rfl⟩ := ru
  have R2 := R1.ex e2
  obtain ⟨dx, fs', g1, g2, g3, _, _⟩ := R2.ob n _ hn
  refine ⟨_, _, dx, fs', rfl, g1, T, nA, keys_len g2 g3, ?_⟩
  have R3 := R2.setF (p := p) (s' := .l xs) (v := .ref p) hw hn hf g1 (fun _ => fr) ⟨rfl, us, e2 _ _ hv, RDs.ex e2 rs⟩
  exact k σ _ _ R3 ((s1.pres.trans (Ex.pres e2)).trans (R2.pres_at (show live env h1 (.o n) from (List.getElem?_eq_some_iff.mp hn).1)))
/-- o.f = x, x a list of the def's own: it moves -/
theorem ss_fldMv (i : Nat) {x : Str} {p3 : Pos} (hK : X.K = F.G.K) (hw : F.rw = true) (T : Cls X.K (F.G.cl c)) (nA : NoAttr X.K (F.G.cl c) f) (hf : (F.G.nm c)[j]? = some f) (ho : SimQ X F ℓ₁ o qo) (hN : X.N[i]? = some x := by rfl) (hv : Vis X.env.scope x := by first | exact Or.inl rfl | exact Or.inr (Or.inl rfl) | exact Or.inr (Or.inr rfl))
    (hd : (x == ("__debug__" : Str)) = false := by decide) (hcd : (x == ("__classdict__" : Str)) = false := by decide) (hs : swapsWith (.Name x p3) (some (.Attribute o f p)) pos.line X.env = pure false := by rfl) :
    SimS X F (.Assign [.Attribute o f p] (.Name x p3) pos) (mFldMv c j i qo) := PSimp (ps_fld ho (pe_var hN hv hd hcd) hs) fun D σ H ⟨env, h, A, r, env', h', R, e, k⟩ => by
  unfold mFldMv at e
  split at e
  · next xs hy =>
    obtain ⟨z, ez, e⟩ := bind_some e
    obtain ⟨h2, eh, e⟩ := bind_some e
    cases e
    obtain ⟨n, fs, rfl, hn, rfl⟩ := setFld_of eh
    obtain ⟨s1, us, hu, rs⟩ := slot_own R hy
    refine ⟨_, s1, env, h, A, _, R, ez, fun u H2 e2 ru => ?_⟩
    obtain ⟨_, rfl⟩ := ru
    have R2 := R.ex e2
    have hl : live env h (.s i) := ⟨_, hy, rfl⟩
    obtain ⟨dx, fs', g1, g2, g3, _, _⟩ := R2.ob n _ hn
    refine ⟨_, _, dx, fs', rfl, g1, T, nA, keys_len g2 g3, ?_⟩
    have R3 := R2.setUn (i := i)
    have fr : Fresh F (env.set i .un) h A (A (.s i)) := ⟨R.ow i ⟨_, hy, rfl⟩, fun q hq z => by
      rcases live_set hq with ⟨_, m, _⟩ | ⟨ne, hq⟩
      · cases m
      · exact ne (R.ij _ _ hq hl z)⟩
    have R4 := R3.setF (p := A (.s i)) (s' := .l xs) (v := .ref (A (.s i))) hw hn hf g1 (fun _ => fr) ⟨rfl, us, e2 _ _ hu, RDs.ex e2 rs⟩
    exact k σ _ _ R4 ((Ex.pres e2).trans (R2.pres_at (show live env h (.o n) from (List.getElem?_eq_some_iff.mp hn).1)))
  · cases e
/-- o.f.append(e) -/
theorem ss_fldApp {apos : Pos} (hK : X.K = F.G.K) (hw : F.rw = true) (T : Cls X.K (F.G.cl c)) (nA : NoAttr X.K (F.G.cl c) f) (hf : (F.G.nm c)[j]? = some f) (ho : SimQ X F ℓ₁ o qo) (he : SimQ X F .st e q) (hb : attributeBase o f X.env (eval o X.env) = eval o X.env := by rfl)
    (hbase : attributeBase (.Attribute o f p) "append" X.env (eval (.Attribute o f p) X.env) = eval (.Attribute o f p) X.env := by rfl)
    (hfew : ((backTo pos (starEach [e] X.env)).all (fun x => !x.1) && (backToKw pos (keywordEach [] X.env)).all (fun x => x.1.isSome) && decide ([e].length + ([] : List Keyword).length + (if ([] : List Keyword).isEmpty then 0 else 1) < 30)) = true := by rfl)
    (hline : (apos.endLine == pos.line) = true := by rfl) (hs : starEach [e] X.env = (false, eval e X.env) :: starEach [] X.env := by rfl) (hplain : (backTo pos (starEach [] X.env)).any (·.1) = false := by rfl)
    (hsw : swapsWith (.Call (.Attribute (.Attribute o f p) "append" apos) [e] [] pos) none p2.line X.env = pure false := by rfl) :
    SimS X F (.Expr (.Call (.Attribute (.Attribute o f p) "append" apos) [e] [] pos) p2) (mFldApp c j qo q) :=
  PSimp (ps_expr (pe_bm PySem.F.plainAttrs_list PySem.F.slot_list_append PySem.F.type_list_append mt_append (pe_fld ho hb) (pa_cons he pa_nil hs) hbase hfew hline hs hplain) hsw) fun D σ H ⟨env, h, A, r, env', h', R, e, k⟩ => by
    obtain ⟨z, ez, e⟩ := bind_some e
    split at e
    · next xs hx =>
      obtain ⟨y, ey, e⟩ := bind_some e
      obtain ⟨d, ed, e⟩ := bind_some e
      split at e
      · next hl =>
        obtain ⟨h2, eh, e⟩ := bind_some e
        cases e
        obtain ⟨n, fs, rfl, hn, hj⟩ := fldAt_of hx
        obtain ⟨n', fs2, en, hn2, rfl⟩ := setFld_of eh
        cases en
        rw [hn] at hn2
        cases hn2
        refine ⟨env, h, A, _, R, ez, fun v H1 e1 rv => ?_⟩
        obtain ⟨_, rfl⟩ := rv
        have R1 := R.ex e1
        obtain ⟨dx, fs', g1, _, g2⟩ := R1.fld hn hj hf
        obtain ⟨g3, us, g4, rs⟩ := g2
        refine ⟨_, _, dx, fs', _, rfl, g1, T, nA, g3, by rw [hK]; exact ty_list g4, env, h, A, y, R1, ey, fun v H2 e2 rv => ?_⟩
        have R2 := R1.ex e2
        refine ⟨_, us, v, rfl, rfl, e2 _ _ g4, by rw [rs.len]; exact hl, ?_⟩
        have hp : live env h (.f n j) := ⟨c, fs, _, hn, hj, rfl⟩
        have P : Pres H2 (upd H2 (A (.f n j)) (.lst (us ++ [v]))) := R2.pres_at hp
        have R3 := R2.putFl (s' := .l (xs ++ [d])) (o := .lst (us ++ [v])) hw hn hj rfl fun y0 hy0 => by
          obtain ⟨f3, us', f4, rs'⟩ := hy0
          have eus : us' = us := by
            rw [e2 _ _ g4] at f4
            cases f4
            rfl
          subst eus
          exact ⟨f3, _, upd_same, RepAll.mono P.sqT P.sL _ _ (rs'.append (.cons (RD.of_val ed rv) .nil))⟩
        exact k σ _ _ R3 (((Ex.pres e1).trans (Ex.pres e2)).trans P)
      · cases e
    · cases e
end
/-! ### methods -/
def isObj (c : Nat) (h : Hs) (x : Val) : Bool := match x with
  | .ref n => match h[n]? with
    | some (.ins c' _) => decide (c' = c)
    | _ => false
  | _ => false
theorem isObj_of {c : Nat} {h : Hs} {x : Val} (e : isObj c h x = true) : ∃ n fs, x = .ref n ∧ h[n]? = some (.ins c fs) := by
  unfold isObj at e
  split at e
  · next n =>
    split at e
    · next c' fs hn => exact ⟨n, fs, rfl, by rw [hn, of_decide_eq_true e]⟩
    · cases e
  · cases e
def qMeth (c : Nat) (g : List Val → Hs → Option Val) (qo : Q1) (a : En → Hs → Option (List Val)) : Q1 := fun env h => (qo env h).bind fun o => if isObj c h o = true then (a env h).bind fun xs => g (o :: xs) h else none
def fMeth (c : Nat) (g : List Val → Hs → Option (List PyData)) (qo : Q1) (a : En → Hs → Option (List Val)) : I1 := fun env h => (qo env h).bind fun o => if isObj c h o = true then (a env h).bind fun xs => g (o :: xs) h else none
def eMeth (c : Nat) (g : List Val → Hs → Option (Val × Hs)) (qo : Q1) (a : EA) : E1 := fun env h => (qo env h).bind fun o => if isObj c h o = true then (a env h).bind fun xs => g (o :: xs.1) xs.2 else none
def qFldCall (c j kf : Nat) (g : List Val → Hs → Option Val) (qo : Q1) (a : En → Hs → Option (List Val)) : Q1 := fun env h => (qo env h).bind fun o => match fldAt c j h o with
  | some (.v (.fn k)) => if k = kf then (a env h).bind fun xs => g xs h else none
  | _ => none
def eMake (c k : Nat) (g : List Val → Hs → Option (Val × Hs)) (a : EA) : E1 := fun env h => (a env h).bind fun x => (g (.ref x.2.length :: x.1) (x.2 ++ [.ins c (List.replicate k .un)])).bind fun r => match r.1 with
  | .d .none => some (.ref x.2.length, r.2)
  | _ => none
section
variable {F : Fm} {X : Cx} {o e : Expr} {es : List Expr} {f m : Str} {pos p apos : Pos} {ℓ ℓ₁ : Lv} {env : En} {h : Hs} {A : As} {σ : L2.St} {H : Hp} {c j k n kf : Nat} {qo : Q1} {a : En → Hs → Option (List Val)} {ar : EA} {G : Glo} {fA : Addr} {fd : FuncData} {ps : List Str} {g : List Val → Hs → Option Val} {gf : List Val → Hs → Option (List PyData)} {ge : List Val → Hs → Option (Val × Hs)}
theorem SR.at_obj {n : Nat} {fs : List Sl} (R : SR F env h A σ H) (hn : h[n]? = some (.ins c fs)) (hm : m ∉ F.G.nm c) : ∃ dx fs', H (A (.o n)) = some (.ins (F.G.cl c) dx fs') ∧ fs'.lookup m = none := by
  obtain ⟨dx, fs', e1, e2, e3, _, _⟩ := R.ob n _ hn
  refine ⟨dx, fs', e1, ?_⟩
  cases hl : fs'.lookup m with
  | none => rfl
  | some v =>
    have : m ∈ fs'.map (·.1) := by
      have key : ∀ l : List (Str × V), l.lookup m = some v → m ∈ l.map (·.1) := by
        intro l
        induction l with
        | nil => intro z; cases z
        | cons q l ih =>
          intro z
          obtain ⟨y, w⟩ := q
          rw [lookup_put] at z
          by_cases hy : m = y
          · rw [hy]; exact List.mem_cons_self
          · rw [if_neg hy] at z; exact List.mem_cons_of_mem _ (ih z)
      exact key fs' hl
    exact absurd (e3 m this) hm
theorem sq_meth (U : FnOk X.prog X.w X.K X.mg X.base CX0 k fA fd ps (spQ G (n + 1) g)) (hG : F.G = G) (hr : Room k X.A) (T : Cls X.K (F.G.cl c)) (M : Meth X.K (F.G.cl c) m fA) (hm : m ∉ F.G.nm c) (hb : Binds X.K fd ps []) (ho : SimQ X F ℓ₁ o qo) (ha : SimA X F .mo (e :: es) a)
    {pl : Sem Bool} (hst : starEach (e :: es) X.env = (false, eval e X.env) :: starEach es X.env := by rfl) (hpl : (backTo pos (starEach es X.env)).any (·.1) = false := by rfl)
    (ht : eval (.Call (.Attribute o m apos) (e :: es) [] pos) X.env = (do
      let ov ← eval o X.env
      standAt apos.atName
      let (f, first) ← holding [ov] (getMethod ov m pl)
      callWith pos f first (backTo pos (starEach (e :: es) X.env)) (backToKw pos (keywordEach [] X.env))) := by rfl) :
    SimQ X F .mo (.Call (.Attribute o m apos) (e :: es) [] pos) (qMeth c (arity (n + 1) g) qo a) :=
  PEimp (pe_meth ho T M (U.imp fun _ _ _ _ => spQ_ar) hr hb .nil pass0 ha hst hpl ht) fun σ H Q ⟨env, h, A, z, R, e, kk⟩ => by
    obtain ⟨x, ex, e⟩ := bind_some e
    split at e
    · next hi =>
      obtain ⟨xs, ea, e⟩ := bind_some e
      obtain ⟨n', fs, rfl, hn⟩ := isObj_of hi
      refine ⟨env, h, A, _, R, ex, fun v H1 e1 rv => ?_⟩
      have rv0 := rv
      obtain ⟨hlt, rfl⟩ := rv
      obtain ⟨dx, fs', g1, g2⟩ := (R.ex e1).at_obj hn hm
      refine ⟨_, dx, fs', rfl, g1, g2, env, h, A, xs, R.ex e1, ea, fun vs H2 e2 rs => ?_⟩
      dsimp only
      rw [List.append_nil]
      exact ⟨F, env, h, A, σ, .ref n' :: xs, z, hG, (R.ex e1).ex e2, .cons ⟨hlt, rfl⟩ rs, arity_n _ _ _ e, e, fun v H' e3 rv => kk v H' ((e1.trans e2).trans e3) rv⟩
    · cases e
theorem sf_meth (U : FnOk X.prog X.w X.K X.mg X.base CX0 k fA fd ps (spF G (n + 1) gf)) (hG : F.G = G) (hr : Room k X.A) (T : Cls X.K (F.G.cl c)) (M : Meth X.K (F.G.cl c) m fA) (hm : m ∉ F.G.nm c) (hb : Binds X.K fd ps []) (ho : SimQ X F ℓ₁ o qo) (ha : SimA X F .mo (e :: es) a)
    {pl : Sem Bool} (hst : starEach (e :: es) X.env = (false, eval e X.env) :: starEach es X.env := by rfl) (hpl : (backTo pos (starEach es X.env)).any (·.1) = false := by rfl)
    (ht : eval (.Call (.Attribute o m apos) (e :: es) [] pos) X.env = (do
      let ov ← eval o X.env
      standAt apos.atName
      let (f, first) ← holding [ov] (getMethod ov m pl)
      callWith pos f first (backTo pos (starEach (e :: es) X.env)) (backToKw pos (keywordEach [] X.env))) := by rfl) :
    SimF X F (.Call (.Attribute o m apos) (e :: es) [] pos) (fMeth c (arity (n + 1) gf) qo a) :=
  PEimp (pe_meth ho T M (U.imp fun _ _ _ _ => spF_ar) hr hb .nil pass0 ha hst hpl ht) fun σ H Q ⟨env, h, A, z, R, e, kk⟩ => by
    obtain ⟨x, ex, e⟩ := bind_some e
    split at e
    · next hi =>
      obtain ⟨xs, ea, e⟩ := bind_some e
      obtain ⟨n', fs, rfl, hn⟩ := isObj_of hi
      refine ⟨env, h, A, _, R, ex, fun v H1 e1 rv => ?_⟩
      obtain ⟨hlt, rfl⟩ := rv
      obtain ⟨dx, fs', g1, g2⟩ := (R.ex e1).at_obj hn hm
      refine ⟨_, dx, fs', rfl, g1, g2, env, h, A, xs, R.ex e1, ea, fun vs H2 e2 rs => ?_⟩
      dsimp only
      rw [List.append_nil]
      exact ⟨F, env, h, A, σ, .ref n' :: xs, z, hG, (R.ex e1).ex e2, .cons ⟨hlt, rfl⟩ rs, arity_n _ _ _ e, e, fun p us H' hp e3 hv rv => kk p us H' (fresh_back (e1.trans e2) hp) ((e1.trans e2).trans e3) hv rv⟩
    · cases e
theorem sq_meth0 (U : FnOk X.prog X.w X.K X.mg X.base CX0 k fA fd ps (spQ G 1 g)) (hG : F.G = G) (hr : Room k X.A) (T : Cls X.K (F.G.cl c)) (M : Meth X.K (F.G.cl c) m fA) (hm : m ∉ F.G.nm c) (hb : Binds X.K fd ps []) (ho : SimQ X F ℓ₁ o qo)
    {pl : Sem Bool} (ht : eval (.Call (.Attribute o m apos) [] [] pos) X.env = (do
      let ov ← eval o X.env
      standAt apos.atName
      let (f, first) ← holding [ov] (getMethod ov m pl)
      callWith pos f first (backTo pos (starEach [] X.env)) (backToKw pos (keywordEach [] X.env))) := by rfl) :
    SimQ X F .mo (.Call (.Attribute o m apos) [] [] pos) (qMeth c (arity 1 g) qo aNil) :=
  PEimp (pe_meth0 ho T M (U.imp fun _ _ _ _ => spQ_ar) hr hb .nil pass0 ht) fun σ H Q ⟨env, h, A, z, R, e, kk⟩ => by
    obtain ⟨x, ex, e⟩ := bind_some e
    split at e
    · next hi =>
      obtain ⟨xs, ea, e⟩ := bind_some e
      cases ea
      obtain ⟨n', fs, rfl, hn⟩ := isObj_of hi
      refine ⟨env, h, A, _, R, ex, fun v H1 e1 rv => ?_⟩
      obtain ⟨hlt, rfl⟩ := rv
      obtain ⟨dx, fs', g1, g2⟩ := (R.ex e1).at_obj hn hm
      exact ⟨_, dx, fs', rfl, g1, g2, F, env, h, A, σ, [.ref n'], z, hG, R.ex e1, .cons ⟨hlt, rfl⟩ .nil, arity_n _ _ _ e, e, fun v H' e3 rv => kk v H' (e1.trans e3) rv⟩
    · cases e
theorem se_meth (U : FnOk X.prog X.w X.K X.mg X.base CX0 k fA fd ps (spE G (n + 1) ge)) (hG : F.G = G) (hw : F.rw = true) (hr : Room k X.A) (T : Cls X.K (F.G.cl c)) (M : Meth X.K (F.G.cl c) m fA) (hm : m ∉ F.G.nm c) (hb : Binds X.K fd ps []) (ho : SimQ X F ℓ₁ o qo) (ha : SimEA X F (e :: es) ar)
    {pl : Sem Bool} (hst : starEach (e :: es) X.env = (false, eval e X.env) :: starEach es X.env := by rfl) (hpl : (backTo pos (starEach es X.env)).any (·.1) = false := by rfl)
    (ht : eval (.Call (.Attribute o m apos) (e :: es) [] pos) X.env = (do
      let ov ← eval o X.env
      standAt apos.atName
      let (f, first) ← holding [ov] (getMethod ov m pl)
      callWith pos f first (backTo pos (starEach (e :: es) X.env)) (backToKw pos (keywordEach [] X.env))) := by rfl) :
    SimE X F .st (.Call (.Attribute o m apos) (e :: es) [] pos) (eMeth c (arity (n + 1) ge) qo ar) :=
  PEimp (pe_meth ho T M (U.imp fun _ _ _ _ => spE_ar) hr hb .nil pass0 ha hst hpl ht) fun σ H Q ⟨env, h, A, z, h', R, e, kk⟩ => by
    obtain ⟨x, ex, e⟩ := bind_some e
    split at e
    · next hi =>
      obtain ⟨⟨xs, h1⟩, ea, e⟩ := bind_some e
      obtain ⟨n', fs, rfl, hn⟩ := isObj_of hi
      refine ⟨env, h, A, _, R, ex, fun v H1 e1 rv => ?_⟩
      obtain ⟨hlt, rfl⟩ := rv
      obtain ⟨dx, fs', g1, g2⟩ := (R.ex e1).at_obj hn hm
      refine ⟨_, dx, fs', rfl, g1, g2, env, h, A, xs, h1, R.ex e1, ea, fun vs H2 A2 R2 s2 rs => ?_⟩
      dsimp only
      rw [List.append_nil]
      exact ⟨F, env, h1, A2, σ, .ref n' :: xs, z, h', hG, hw, R2, .cons ⟨Nat.lt_of_lt_of_le hlt s2.le, by rw [s2.oo _ hlt]⟩ rs, arity_n _ _ _ e, e, fun v H' A' R' s3 rv => kk v H' A' R' (((Step.ex e1).trans s2).trans s3) rv⟩
    · cases e
theorem se_meth0 (U : FnOk X.prog X.w X.K X.mg X.base CX0 k fA fd ps (spE G 1 ge)) (hG : F.G = G) (hw : F.rw = true) (hr : Room k X.A) (T : Cls X.K (F.G.cl c)) (M : Meth X.K (F.G.cl c) m fA) (hm : m ∉ F.G.nm c) (hb : Binds X.K fd ps []) (ho : SimQ X F ℓ₁ o qo)
    {pl : Sem Bool} (ht : eval (.Call (.Attribute o m apos) [] [] pos) X.env = (do
      let ov ← eval o X.env
      standAt apos.atName
      let (f, first) ← holding [ov] (getMethod ov m pl)
      callWith pos f first (backTo pos (starEach [] X.env)) (backToKw pos (keywordEach [] X.env))) := by rfl) :
    SimE X F .st (.Call (.Attribute o m apos) [] [] pos) (eMeth c (arity 1 ge) qo eNil) :=
  PEimp (pe_meth0 ho T M (U.imp fun _ _ _ _ => spE_ar) hr hb .nil pass0 ht) fun σ H Q ⟨env, h, A, z, h', R, e, kk⟩ => by
    obtain ⟨x, ex, e⟩ := bind_some e
    split at e
    · next hi =>
      obtain ⟨⟨xs, h1⟩, ea, e⟩ := bind_some e
      cases ea
      obtain ⟨n', fs, rfl, hn⟩ := isObj_of hi
      refine ⟨env, h, A, _, R, ex, fun v H1 e1 rv => ?_⟩
      obtain ⟨hlt, rfl⟩ := rv
      obtain ⟨dx, fs', g1, g2⟩ := (R.ex e1).at_obj hn hm
      exact ⟨_, dx, fs', rfl, g1, g2, F, env, h, A, σ, [.ref n'], z, h', hG, hw, R.ex e1, .cons ⟨hlt, rfl⟩ .nil, arity_n _ _ _ e, e, fun v H' A' R' s3 rv => kk v H' A' R' ((Step.ex e1).trans s3) rv⟩
    · cases e
/-- o.f(e), f an attribute that holds a def -/
theorem sq_fldCall (U : FnOk X.prog X.w X.K X.mg X.base CX0 k fA fd ps (spQ G n g)) (hG : F.G = G) (hr : Room k X.A) (hfa : F.G.fa kf = fA) (kp : PySem.W.keepIn X.K (.ref fA) = true) (T : Cls X.K (F.G.cl c)) (nA : NoAttr X.K (F.G.cl c) f) (hf : (F.G.nm c)[j]? = some f) (hb : Binds X.K fd ps []) (ho : SimQ X F ℓ₁ o qo) (ha : SimA X F .mo (e :: es) a)
    {pl : Sem Bool} (hst : starEach (e :: es) X.env = (false, eval e X.env) :: starEach es X.env := by rfl) (hpl : (backTo pos (starEach es X.env)).any (·.1) = false := by rfl)
    (ht : eval (.Call (.Attribute o f apos) (e :: es) [] pos) X.env = (do
      let ov ← eval o X.env
      standAt apos.atName
      let (f, first) ← holding [ov] (getMethod ov f pl)
      callWith pos f first (backTo pos (starEach (e :: es) X.env)) (backToKw pos (keywordEach [] X.env))) := by rfl) :
    SimQ X F .mo (.Call (.Attribute o f apos) (e :: es) [] pos) (qFldCall c j kf (arity n g) qo a) :=
  PEimp (pe_fldcall ho (U.imp fun _ _ _ _ => spQ_ar) hr kp hb pass0 ha hst hpl ht) fun σ H Q ⟨env, h, A, z, R, e, kk⟩ => by
    obtain ⟨x, ex, e⟩ := bind_some e
    split at e
    · next k' hx =>
      split at e
      · next hk =>
        obtain ⟨xs, ea, e⟩ := bind_some e
        obtain ⟨n', fs, rfl, hn, hj⟩ := fldAt_of hx
        refine ⟨env, h, A, _, R, ex, fun v H1 e1 rv => ?_⟩
        obtain ⟨_, rfl⟩ := rv
        obtain ⟨dx, fs', g1, _, v, g2, g3⟩ := (R.ex e1).fld hn hj hf
        have g3 : v = .ref (F.G.fa k') := g3
        rw [g3, hk, hfa] at g2
        refine ⟨_, _, dx, fs', rfl, g1, T, nA, g2, env, h, A, xs, R.ex e1, ea, fun vs H2 e2 rs => ?_⟩
        dsimp only
        rw [List.append_nil]
        exact ⟨F, env, h, A, σ, xs, z, hG, (R.ex e1).ex e2, rs, arity_n _ _ _ e, e, fun v H' e3 rv => kk v H' ((e1.trans e2).trans e3) rv⟩
      · cases e
    · cases e
/-- C(e) -/
theorem se_make {x : Str} (U : FnOk X.prog X.w X.K X.mg X.base CX0 k fA fd ps (spE G (n + 1) ge)) (hG : F.G = G) (hw : F.rw = true) (hr : Room (k + 1) X.A) (M : Mk X.K (F.G.cl c) fA) (hm : X.mg x = some (.ref (F.G.cl c))) (hnm : (F.G.nm c).length = kf) (hb : Binds X.K fd ps []) (ha : SimEA X F (e :: es) ar)
    (hg : Gl X x := by rfl) (hdb : (x == ("__debug__" : Str)) = false := by decide) (he : starEach (e :: es) X.env = (false, eval e X.env) :: starEach es X.env := by rfl) (hpl : (backTo pos (starEach es X.env)).any (·.1) = false := by rfl) :
    SimE X F ℓ (.Call (.Name x p) (e :: es) [] pos) (eMake c kf (arity (n + 1) ge) ar) :=
  PEimp (pe_make M (U.imp fun _ _ _ _ => spE_ar) hr hg hm hb .nil pass0 ha hdb he hpl) fun σ H Q ⟨env, h, A, z, h', R, e, kk⟩ => by
    obtain ⟨⟨xs, h1⟩, ea, e⟩ := bind_some e
    obtain ⟨⟨y, h2⟩, eg, e⟩ := bind_some e
    split at e
    · next ey =>
      dsimp only at ey
      subst ey
      cases e
      refine ⟨env, h, A, xs, h1, R, ea, fun vs H1 A1 R1 s1 rs => fun a dx na ndx ne => ?_⟩
      have x1 : Ex H1 (upd (upd H1 dx (.own a)) a (.ins (F.G.cl c) dx [])) := fun b o hb => by
        rw [upd_ne (fun z => by rw [z, na] at hb; cases hb), upd_ne (fun z => by rw [z, ndx] at hb; cases hb)]
        exact hb
      have R2 := R1.ex x1
      have fr : Fresh F env h1 A1 a := ⟨(R1.fresh na).f0, (R1.fresh na).fp⟩
      have nmut : ∀ (j : Nat) (s : Sl), (List.replicate kf Sl.un)[j]? = some s → s = Sl.un := fun j s z => List.eq_of_mem_replicate (List.mem_of_getElem? z)
      have R3 := R2.alloc (o := .ins c (List.replicate kf .un)) fr (fun j ⟨c', fs, s, z1, z2, z3⟩ => by
        simp at z1
        obtain ⟨_, rfl⟩ := z1
        rw [nmut _ _ z2] at z3
        cases z3) ⟨dx, [], by rw [As.put_same]; exact upd_same, List.nodup_nil, fun g hg => by simp at hg, by rw [List.length_replicate, hnm], fun j s x z1 _ => by rw [nmut _ _ z1]; trivial⟩
      have s3 : Step h1 A1 H1 (h1 ++ [.ins c (List.replicate kf .un)]) (As.put A1 (.o h1.length) a) (upd (upd H1 dx (.own a)) a (.ins (F.G.cl c) dx [])) := by
        refine ⟨fun b o q _ => x1 b o q, fun b us q => x1 b _ q, fun b o u q => x1 b _ q, fun b o q => ⟨o, x1 b o q⟩, by simp, fun m hm => As.put_ne (by intro z; cases z; exact absurd hm (Nat.lt_irrefl _)), fun q hq => ?_⟩
        by_cases e : q = .o h1.length
        · exact .inr (by rw [e, As.put_same]; exact na)
        · rw [As.put_ne e]
          refine .inl ⟨q, ?_, rfl⟩
          cases q with
          | s i => exact hq
          | o n =>
            have hq : n < (h1 ++ [Ob.ins c (List.replicate kf .un)]).length := hq
            simp at hq
            have ne : n ≠ h1.length := fun z => e (by rw [z])
            show n < h1.length
            omega
          | f n j =>
            obtain ⟨c', fs, s, e1, e2, m⟩ := hq
            by_cases hn : n < h1.length
            · rw [List.getElem?_append_left hn] at e1; exact ⟨c', fs, s, e1, e2, m⟩
            · rw [List.getElem?_append_right (by omega)] at e1
              have e0 : n - h1.length = 0 := by
                have := (List.getElem?_eq_some_iff.mp e1).1
                simp at this; omega
              rw [e0] at e1
              simp at e1
              obtain ⟨_, rfl⟩ := e1
              rw [nmut _ _ e2] at m
              cases m
      rw [List.append_nil]
      have hlt : h1.length < (h1 ++ [Ob.ins c (List.replicate kf .un)]).length := by simp
      have rs3 : Paired (fun x v => RV F .fs (h1 ++ [.ins c (List.replicate kf .un)]) (As.put A1 (.o h1.length) a) (upd (upd H1 dx (.own a)) a (.ins (F.G.cl c) dx [])) x v) xs vs := Paired.imp (fun _ _ z => RV.step s3 (by simp) z) rs
      refine ⟨F, env, _, _, σ, .ref h1.length :: xs, _, _, hG, hw, R3, .cons ⟨hlt, by rw [As.put_same]⟩ rs3, arity_n _ _ _ eg, eg, fun v H' A' R' s4 rv => ⟨?_, ?_⟩⟩
      · exact rn rv
      · refine kk _ H' A' R' ((s1.trans s3).trans s4) ⟨Nat.lt_of_lt_of_le hlt s4.le, ?_⟩
        rw [s4.oo _ hlt, As.put_same]
    · cases e
end
end Sm

set_option Elab.async false
set_option linter.all false
set_option maxRecDepth 100000
set_option maxHeartbeats 2000000
/-! more of classes: attributes as targets, attributes' lists walked; own lists popped; own dicts written; defs as values -/
namespace L2
open PySem PySem.Spec PyProof.Rows
def gFld (K : PySem.W.Frag) (to : TE) (f : Str) : TG := fun y σ H Q => to σ H fun x H2 => ∃ a C dx fs, x = .ref a ∧ H2 a = some (.ins C dx fs) ∧ Cls K C ∧ NoAttr K C f ∧ fs.length < 1000 ∧ Q σ (upd H2 a (.ins C dx (putF f y fs)))
theorem pg_fld {X : Cx} {o : Expr} {f : Str} {pos : Pos} {to : TE} (ho : PE X o to) : PG X (.Attribute o f pos) (gFld X.K to f) := by
  refine ⟨fun pins s σ H v u Q I r h => ?_⟩
  rw [PySem.assign_Attribute]
  refine wpAny_bind (wpAny_holding (thn (ho.run pins s σ H _ I h) fun ov s2 ⟨x, H2, I2, rx, a, C, dx, fs, ex, ea, c, n, l, q2⟩ => ?_))
  subst ex
  obtain rfl : ov = Value.ref a := rx
  refine wpAny_bind (wpAny_standAt (wpAny_bind (wpAny_holding ?_)))
  exact setattr_ok I2 ea c n l r fun s3 I3 => wpAny_release ⟨σ, _, I3, q2⟩
open PySem.AutoSeq1 in
theorem extend_tup (l : Addr) (items : Array Value) (n : Nat) (b : Addr) (items2 : Array Value) (n2 : Nat) (d2 sl2) (hs0 : ¬(!items.isEmpty && Builtin.List.listTooLong (items.size + items2.size)) = true) (hs1 : items.size ≤ sizeLine) (hs2 : items.size + items2.size ≤ sizeLine + 1) :
    Meets (Builtin.«list.extend» ⟨[.ref l, .ref b], []⟩) (fun _ R s => s.heap.get? l = some { cls := .type "list", dict := none, data := .seq items n, slots := #[] } ∧ s.heap.get? b = some { cls := .type "tuple", dict := d2, data := .seq items2 n2, slots := sl2 } ∧ R (.ok (.ret Value.none)) { s with heap := s.heap.update l (Obj.mapSeq fun x => x ++ items2), toks := s.toks }) :=
  .of_wp fun prog w A R s h => by
    obtain ⟨hp, g, d, tk, os⟩ := s; obtain ⟨hl, hb, h⟩ := h; have f1 := AutoSeq1.idx_int; have f2 := AutoSeq1.sub_tuple_tuple; have f3 := AutoSeq1.sub_list_list; have f4 := AutoSeq1.sub_tuple_list; have f5 := AutoSeq1.sub_list_tuple;
    have hz' : (items ++ items2).size ≤ sizeLine + 1 := by rw [Array.size_append]; exact hs2
    wp_walk using (wpAny_updateSeq hl rfl (hz := hs1) (_hz' := hz')), wpAny_loadPart' hl, wpAny_loadPart' hb; exact ⟨_, rfl, h⟩
def rExtendT (K : PySem.W.Frag) : V → List V → Hp → VK → Prop := fun x vs H Q => ∃ l b xs zs, x = .ref l ∧ vs = [.ref b] ∧ H l = some (.lst xs) ∧ SqT K H b zs ∧ xs.length + zs.length ≤ sizeLine ∧ Q .non (upd H l (.lst (xs ++ zs)))
theorem mt_extendT {X : Cx} : MtR X "list.extend" (rExtendT X.K) := by
  intro pins s σ H x vs v us Q I rx rv h
  obtain ⟨l, b, xs, zs, rfl, rfl, hH, hB, hz, q⟩ := h
  cases rx
  obtain ⟨u, rfl, ru⟩ := rv.one
  cases ru
  obtain ⟨z, its, n, r, hl, e⟩ := I.lstM hH
  obtain ⟨its2, r2, ⟨o2, e2, c2, n2, d2⟩, _⟩ := I.tuple hB
  obtain ⟨cls2, dict2, data2, slots2⟩ := o2
  dsimp only at c2 d2
  subst c2 d2
  have l1 := r.length
  have l2 := r2.length
  have hsz : its.toArray.size + its2.toArray.size ≤ sizeLine := by rw [List.size_toArray, List.size_toArray]; omega
  have hlong : ¬ (!its.toArray.isEmpty && Builtin.List.listTooLong (its.toArray.size + its2.toArray.size)) = true := by
    rw [notLongL hsz, Bool.and_false]
    exact Bool.false_ne_true
  refine call_meets PySem.F.slot_list_extend ⟨_, e, rfl⟩ PySem.F.entry_list_extend (PySem.F.args_list_extend_2 _ _)
    (extend_tup l its.toArray n b its2.toArray n2 dict2 slots2 hlong (by rw [List.size_toArray]; omega) (by omega)) ⟨e, e2, ?_⟩
  refine ⟨.non, _, I.lset (its' := its ++ its2) hH e (by simp) (r.append r2) ?_, rfl, q⟩
  rw [List.length_append]
  omega
end L2
namespace Sm
open PySem L2 Evl
/-- o.a, o.b, o.c = e, [], [] -/
def mInit3 (c i j l : Nat) (qo q : Q1) : M1 := fun env h => (q env h).bind fun x => (qo env h).bind fun o => (setFld c i h o (.v x)).bind fun h1 => (qo env h1).bind fun o => (setFld c j h1 o (.l [])).bind fun h2 => (qo env h2).bind fun o => (setFld c l h2 o (.l [])).bind fun h3 => some (.nx, env, h3)
/-- an attribute's own list becomes a locked value -/
def mHoldF (c i j : Nat) (m : M1) : M1 := fun env h => match env[i]? with
  | some (.v x) => match fldAt c j h x with
    | some (.l xs) => (setFld c j h x (.v (.d (.list xs)))).bind fun h' => m env h'
    | _ => m env h
  | _ => m env h
/-- an attribute that is a value -/
def qFldS (c j : Nat) (q : Q1) : Q1 := fun env h => (q env h).bind fun x => match fldAt c j h x with
  | some (.v y) => some y
  | _ => none
/-- x = y.pop() -/
def mPopO (i j : Nat) : M1 := fun env h => match env[i]? with
  | some (.l xs) => match xs[xs.length - 1]? with
    | some d => some (.nx, (env.set i (.l xs.dropLast)).set j (.d d), h)
    | none => none
  | _ => none
/-- y.extend(a tuple) -/
def mExtQ (i : Nat) (q : Q1) : M1 := fun env h => match env[i]? with
  | some (.l xs) => (q env h).bind fun y => match y with
    | .d (.tuple ys) => if xs.length + ys.length ≤ sizeLine then some (.nx, env.set i (.l (xs ++ ys)), h) else none
    | _ => none
  | _ => none
/-- x, y = {}, a list -/
def mParKL (i j : Nat) (f : I1) : M1 := fun env h => (f env h).bind fun xs => some (.nx, (env.set i (.k [])).set j (.l xs), h)
def eCallQ (g : List Val → Hs → Option Val) (a : EA) : E1 := fun env h => (a env h).bind fun x => (g x.1 x.2).bind fun y => match y with
  | .d d => if nl d = true then some (.d d, x.2) else none
  | _ => none
section
variable {F : Fm} {X : Cx} {o e : Expr} {es : List Expr} {sts : List Stmt} {f m : Str} {pos p p2 apos : Pos} {ℓ ℓ₁ : Lv} {env : En} {h : Hs} {A : As} {σ : L2.St} {H : Hp} {c i j l : Nat} {qo q : Q1} {ma : E1} {mf : EF} {fi : I1} {mb : M1}
def numOf : Val → Nat
  | .ref n => n
  | _ => 0
theorem fld_step {s' : Sl} {v : V} {x : Val} {h' : Hs} {pp : Addr} {Q : L2.St → Hp → Prop} (hK : X.K = F.G.K) (hw : F.rw = true) (T : Cls X.K (F.G.cl c)) (nA : NoAttr X.K (F.G.cl c) f) (hf : (F.G.nm c)[j]? = some f) (R : SR F env h A σ H) (ex : qo env h = some x) (eh : setFld c j h x s' = some h')
    (fr : isMut s' = true → Fresh F env h A pp) (hs : ∀ H', Ex H H' → SlOf F.G (SL F.G.K H') h.length (As.put A (.f (numOf x) j) pp) H' pp s' (some v))
    (k : ∀ H', Pres H H' → SR F env h' (As.put A (.f (numOf x) j) pp) σ H' → (∀ a o, H a = some o → (∀ C dx fs, o ≠ .ins C dx fs) → H' a = some o) → Q σ H') : gFld X.K (tQ F ℓ₁ qo) f v σ H Q := by
  obtain ⟨n, fs, rfl, hn, rfl⟩ := setFld_of eh
  refine ⟨env, h, A, _, R, ex, fun u H1 e1 ru => ?_⟩
  obtain ⟨_, rfl⟩ := ru
  have R1 := R.ex e1
  obtain ⟨dx, fs', g1, g2, g3, _, _⟩ := R1.ob n _ hn
  refine ⟨_, _, dx, fs', rfl, g1, T, nA, keys_len g2 g3, ?_⟩
  refine k _ ((Ex.pres e1).trans (R1.pres_at (show live env h (.o n) from (List.getElem?_eq_some_iff.mp hn).1))) (R1.setF (p := pp) (s' := s') (v := v) hw hn hf g1 fr (hs _ e1)) fun a o ea no => ?_
  rw [upd_ne (fun z => by rw [z] at ea; have := e1 _ _ ea; rw [g1] at this; cases this; exact no _ _ _ rfl)]
  exact e1 _ _ ea

theorem sq_fldS (hK : X.K = F.G.K) (T : Cls X.K (F.G.cl c)) (nA : NoAttr X.K (F.G.cl c) f) (hf : (F.G.nm c)[j]? = some f) (ho : SimQ X F ℓ₁ o qo) (hb : attributeBase o f X.env (eval o X.env) = eval o X.env := by rfl) : SimQ X F ℓ (.Attribute o f pos) (qFldS c j qo) :=
  PEimp (pe_fld ho hb) fun σ H Q ⟨env, h, A, z, R, e, k⟩ => by
    obtain ⟨x, ex, e⟩ := bind_some e
    split at e
    · next y es =>
      cases e
      obtain ⟨n, fs, rfl, hn, hj⟩ := fldAt_of es
      refine ⟨env, h, A, _, R, ex, fun v H1 e1 rv => ?_⟩
      obtain ⟨_, rfl⟩ := rv
      obtain ⟨dx, fs', g1, _, g2⟩ := (R.ex e1).fld hn hj hf
      obtain ⟨v, g3, rv⟩ := g2
      exact ⟨_, _, dx, fs', v, rfl, g1, T, nA, g3, k v H1 e1 (RV.of_st rv)⟩
    · cases e
/-- where nothing is written, an attribute's list stays -/
theorem sq_fldF (hK : X.K = F.G.K) (hw : F.rw = false) (T : Cls X.K (F.G.cl c)) (nA : NoAttr X.K (F.G.cl c) f) (hf : (F.G.nm c)[j]? = some f) (ho : SimQ X F ℓ₁ o qo) (hb : attributeBase o f X.env (eval o X.env) = eval o X.env := by rfl) : SimQ X F .fs (.Attribute o f pos) (qFld c j qo) :=
  PEimp (pe_fld ho hb) fun σ H Q ⟨env, h, A, z, R, e, k⟩ => by
    obtain ⟨x, ex, e⟩ := bind_some e
    obtain ⟨s, es, e⟩ := bind_some e
    obtain ⟨n, fs, rfl, hn, hj⟩ := fldAt_of es
    refine ⟨env, h, A, _, R, ex, fun v H1 e1 rv => ?_⟩
    obtain ⟨_, rfl⟩ := rv
    obtain ⟨dx, fs', g1, _, g2⟩ := (R.ex e1).fld hn hj hf
    cases s with
    | v y =>
      cases e
      obtain ⟨v, g3, rv⟩ := g2
      exact ⟨_, _, dx, fs', v, rfl, g1, T, nA, g3, k v H1 e1 (RV.of_st rv)⟩
    | l xs =>
      cases e
      obtain ⟨g3, us, g4, r⟩ := g2
      have nW : ¬ F.W (A (.f n j)) := fun z => by have := z.1; rw [hw] at this; cases this
      obtain ⟨u0, e0⟩ := R.ro hw n j ⟨c, fs, _, hn, hj, rfl⟩
      have e1' := (R.ex e1).fr _ _ e0 nW
      rw [g4] at e1'
      cases e1'
      exact ⟨_, _, dx, fs', _, rfl, g1, T, nA, g3, k _ H1 e1 (vl (ℓ := .fs) (.inl ⟨.inl e0, nW⟩) (RDs.of_st (F := F) (ℓ := .fs) r))⟩
    | un => cases e
    | k kvs => cases e
    | z d => cases e
theorem sb_holdF (i : Nat) (hw : F.rw = true) (h1 : SimB X F sts mb) : SimB X F sts (mHoldF c i j mb) := ⟨fun pins s σ H D I ⟨env, h, A, r, env', h', R, e, k⟩ => by
  unfold mHoldF at e
  split at e
  · next x hx =>
    split at e
    · next xs hy =>
      obtain ⟨h2, eh, e⟩ := bind_some e
      obtain ⟨n, fs, rfl, hn, hj⟩ := fldAt_of hy
      obtain ⟨n', fs2, en, hn2, rfl⟩ := setFld_of eh
      cases en
      rw [hn] at hn2
      cases hn2
      have hjl : j < (F.G.nm c).length := by
        obtain ⟨_, _, _, _, _, e4, _⟩ := R.ob n _ hn
        have := (List.getElem?_eq_some_iff.mp hj).1
        omega
      obtain ⟨dx, fs', g1, _, g2⟩ := R.fld hn hj (List.getElem?_eq_getElem hjl)
      obtain ⟨g3, us, g4, rs⟩ := g2
      obtain ⟨o, I2⟩ := froze I g4
      have hp : live env h (.f n j) := ⟨c, fs, _, hn, hj, rfl⟩
      have P : Pres H (upd H (A (.f n j)) (.frz o (.lst us))) := R.pres_at hp
      have R3 := R.putFl (s' := .v (.d (.list xs))) (o := .frz o (.lst us)) hw hn hj rfl fun y0 hy0 => by
        obtain ⟨f3, us', f4, rs'⟩ := hy0
        have eus : us' = us := by
          rw [g4] at f4
          cases f4
          rfl
        subst eus
        refine ⟨_, f3, ?_⟩
        show Rep _ _ (.list xs) _
        simp only [Rep]
        exact ⟨_, us', rfl, .inl ⟨o, upd_same⟩, RepAll.mono P.sqT P.sL _ _ rs'⟩
      exact h1.run pins s σ _ D I2 ⟨_, _, A, r, env', h', R3, e, k.pre P⟩
    · exact h1.run pins s σ H D I ⟨env, h, A, r, env', h', R, e, k⟩
  · exact h1.run pins s σ H D I ⟨env, h, A, r, env', h', R, e, k⟩⟩
end
end Sm

set_option Elab.async false
set_option linter.all false
set_option maxRecDepth 100000
set_option maxHeartbeats 2000000
namespace Sm
open PySem L2 Evl
def iEnuS (a : Q1) : I1 := fun env h => (a env h).bind fun x => (seqOf x).bind fun xs => some (numD xs)
section
variable {F : Fm} {X : Cx} {o o1 o2 o3 e a b : Expr} {es elts : List Expr} {f f1 f2 f3 m : Str} {pos p p2 apos p1 p3 pl2 pl3 pt pt2 tpos : Pos} {ℓ ℓ₁ ℓ₂ ℓ₃ : Lv} {env : En} {h : Hs} {A : As} {σ : L2.St} {H : Hp} {c i j l kt k2 kk : Nat} {qo q qa : Q1} {ma : E1} {mf : EF} {fi : I1} {mb : M1}
theorem Fresh.fldd {x : Val} {s' : Sl} {h' : Hs} {pp p : Addr} (fr : Fresh F env h A p) (eh : setFld c j h x s' = some h') (ne : isMut s' = true → pp ≠ p) : Fresh F env h' (As.put A (.f (numOf x) j) pp) p := by
  obtain ⟨n, fs, rfl, hn, rfl⟩ := setFld_of eh
  refine ⟨fr.f0, fun q hq z => ?_⟩
  rcases live_setF hn hq with ⟨e, m⟩ | ⟨e, hq⟩
  · rw [e] at z
    exact ne m (by rw [← z]; exact As.put_same.symm)
  · have z : As.put A (.f n j) pp q = p := z
    rw [As.put_ne e] at z
    exact fr.fp q hq z
theorem ss_init3 (hK : X.K = F.G.K) (hw : F.rw = true) (hc : X.calm = true) (T : Cls X.K (F.G.cl c)) (n1 : NoAttr X.K (F.G.cl c) f1) (n2 : NoAttr X.K (F.G.cl c) f2) (n3 : NoAttr X.K (F.G.cl c) f3)
    (hi : (F.G.nm c)[i]? = some f1) (hj : (F.G.nm c)[j]? = some f2) (hl : (F.G.nm c)[l]? = some f3) (ho1 : SimQ X F ℓ₁ o1 qo) (ho2 : SimQ X F ℓ₂ o2 qo) (ho3 : SimQ X F ℓ₃ o3 qo) (he : SimQ X F .st e q)
    (s1 : starEach [e, .List [] pl2, .List [] pl3] X.env = (false, eval e X.env) :: starEach [.List [] pl2, .List [] pl3] X.env := by rfl)
    (s2 : starEach [.List [] pl2, .List [] pl3] X.env = (false, eval (.List [] pl2) X.env) :: starEach [.List [] pl3] X.env := by rfl)
    (s3 : starEach [.List [] pl3] X.env = (false, eval (.List [] pl3) X.env) :: starEach [] X.env := by rfl)
    (hs : swapsWithSole [.Tuple [.Attribute o1 f1 p1, .Attribute o2 f2 p2, .Attribute o3 f3 p3] kt pt] (.Tuple [e, .List [] pl2, .List [] pl3] k2 pt2) pos.line X.env = pure false := by rfl)
    (hw' : swappedStores [.Tuple [.Attribute o1 f1 p1, .Attribute o2 f2 p2, .Attribute o3 f3 p3] kt pt] (.Tuple [e, .List [] pl2, .List [] pl3] k2 pt2) X.env = pure none := by rfl)
    (h1 : (assignEach [.Tuple [.Attribute o1 f1 p1, .Attribute o2 f2 p2, .Attribute o3 f3 p3] kt pt] X.env).map (·.2) = [assign (.Tuple [.Attribute o1 f1 p1, .Attribute o2 f2 p2, .Attribute o3 f3 p3] kt pt) X.env] := by rfl)
    (hn : (assignEach [.Attribute o1 f1 p1, .Attribute o2 f2 p2, .Attribute o3 f3 p3] X.env).length = 3 := by rfl) (hst : (assignEach [.Attribute o1 f1 p1, .Attribute o2 f2 p2, .Attribute o3 f3 p3] X.env).findIdx? (·.1) = none := by rfl)
    (a1 : (assignEach [.Attribute o1 f1 p1, .Attribute o2 f2 p2, .Attribute o3 f3 p3] X.env).map (·.2) = assign (.Attribute o1 f1 p1) X.env :: (assignEach [.Attribute o2 f2 p2, .Attribute o3 f3 p3] X.env).map (·.2) := by rfl)
    (a2 : (assignEach [.Attribute o2 f2 p2, .Attribute o3 f3 p3] X.env).map (·.2) = assign (.Attribute o2 f2 p2) X.env :: (assignEach [.Attribute o3 f3 p3] X.env).map (·.2) := by rfl)
    (a3 : (assignEach [.Attribute o3 f3 p3] X.env).map (·.2) = assign (.Attribute o3 f3 p3) X.env :: (assignEach [] X.env).map (·.2) := by rfl) :
    SimS X F (.Assign [.Tuple [.Attribute o1 f1 p1, .Attribute o2 f2 p2, .Attribute o3 f3 p3] kt pt] (.Tuple [e, .List [] pl2, .List [] pl3] k2 pt2) pos) (mInit3 c i j l qo q) :=
  PSimp (ps_asg (pe_tup (pa_cons he (pa_cons (pe_lst pa_nil) (pa_cons (pe_lst pa_nil) pa_nil s3) s2) s1)) (pg_tup hc (pgs_cons (pg_fld ho1) (pgs_cons (pg_fld ho2) (pgs_cons (pg_fld ho3) pgs_nil a3) a2) a1) hn hst) hs hw' h1) fun D σ H ⟨env, h, A, r, env', h', R, e, kk⟩ => by
    obtain ⟨x, ex, e⟩ := bind_some e
    obtain ⟨y1, ey1, e⟩ := bind_some e
    obtain ⟨h1, eh1, e⟩ := bind_some e
    obtain ⟨y2, ey2, e⟩ := bind_some e
    obtain ⟨h2, eh2, e⟩ := bind_some e
    obtain ⟨y3, ey3, e⟩ := bind_some e
    obtain ⟨h3, eh3, e⟩ := bind_some e
    cases e
    refine ⟨env, h, A, x, R, ex, fun v H1 e1 rv => ⟨Nat.zero_le _, fun q2 hq2 => ⟨Nat.zero_le _, fun q3 hq3 => ⟨(show 3 ≤ sizeLine by decide), fun t ht => ?_⟩⟩⟩⟩
    have x2 := Ex.new (o := HO.lst []) hq2
    have x3 := Ex.new (o := HO.lst []) hq3
    have x4 := Ex.new (o := HO.tup [v, .ref q2, .ref q3]) ht
    have R1 := R.ex e1
    have R2 := R1.ex x2
    have R4 := (R2.ex x3).ex x4
    have fr2 : Fresh F env h A q2 := ⟨(R1.fresh hq2).f0, (R1.fresh hq2).fp⟩
    have fr3 : Fresh F env h A q3 := ⟨(R2.fresh hq3).f0, (R2.fresh hq3).fp⟩
    have ne : q2 ≠ q3 := fun z => by rw [← z] at hq3; rw [show upd H1 q2 (HO.lst []) q2 = _ from upd_same] at hq3; cases hq3
    have k2 := x4 _ _ (x3 _ _ (upd_same (H := H1) (a := q2) (o := HO.lst [])))
    have k3 := x4 _ _ (upd_same (H := upd H1 q2 (HO.lst [])) (a := q3) (o := HO.lst []))
    refine ⟨t, _, rfl, .inl (.inl upd_same), rfl, v, _, rfl, fld_step (pp := 0) (v := v) hK hw T n1 hi R4 ey1 eh1 (fun z => by cases z) (fun H' x5 => ⟨v, rfl, (rv.ex ((x2.trans x3).trans (x4.trans x5))).mono (fun _ _ z => z) (fun _ _ z => z) (Nat.le_refl _) fun m _ => As.put_ne (by intro q; cases q)⟩) fun H5 P5 R5 K5 => ?_⟩
    have fr2' := fr2.fldd (pp := 0) eh1 (fun z => by cases z)
    have fr3' := fr3.fldd (pp := 0) eh1 (fun z => by cases z)
    have k2 := K5 _ _ k2 (fun _ _ _ z => by cases z)
    have k3 := K5 _ _ k3 (fun _ _ _ z => by cases z)
    refine ⟨_, _, rfl, fld_step (pp := q2) (v := .ref q2) hK hw T n2 hj R5 ey2 eh2 (fun _ => fr2') (fun H' x5 => ⟨rfl, [], x5 _ _ k2, .nil⟩) fun H6 P6 R6 K6 => ?_⟩
    have fr3'' := fr3'.fldd (pp := q2) eh2 (fun _ => ne)
    have k3 := K6 _ _ k3 (fun _ _ _ z => by cases z)
    refine ⟨_, _, rfl, fld_step (pp := q3) (v := .ref q3) hK hw T n3 hl R6 ey3 eh3 (fun _ => fr3'') (fun H' x5 => ⟨rfl, [], x5 _ _ k3, .nil⟩) fun H7 P7 R7 _ => ⟨rfl, ?_⟩⟩
    exact kk σ _ _ R7 (((((Ex.pres (e1.trans (x2.trans (x3.trans x4)))).trans P5).trans P6).trans P7))
theorem si_enumS (hK : X.K = F.G.K) (hm : X.mg "enumerate" = none) (ha : SimQ X F .fs a qa) (hg : Gl X "enumerate" := by rfl) (hs : starEach [a] X.env = [(false, eval a X.env)] := by rfl) :
    SimI X F OkS .fs (.Tuple elts kk tpos) (.Call (.Name "enumerate" p) [a] [] pos) (iEnuS qa) :=
  PIimp (PIor (pi_enum hg hm (pa_cons ha pa_nil hs) hs) (pi_enumT hg hm (pa_cons ha pa_nil hs) hs)) fun σ H Q ⟨env, h, A, z, R, e, k⟩ => by
    obtain ⟨x, ex, e⟩ := bind_some e
    obtain ⟨xs, ey, e⟩ := bind_some e
    rw [hK]
    cases e
    unfold seqOf at ey
    split at ey
    · cases ey
      refine .inl ⟨env, h, A, _, R, ex, fun v H1 e1 rv => ?_⟩
      obtain ⟨a, us, rfl, q, r⟩ := rl rv
      exact ⟨a, us, rfl, LPof_sq (R.ex e1) q, k _ H1 e1 (ylds_enumL r.len fun Hc ⟨P, _, _, _, _, S⟩ => ⟨LPof_sq (ℓ := .fs) S (Pres.fL P _ _ q), RepAll.mono P.sqT (Pres.fL P) _ _ r⟩)⟩
    · cases ey
      refine .inr ⟨env, h, A, _, R, ex, fun v H1 e1 rv => ?_⟩
      obtain ⟨a, us, rfl, q, r⟩ := rt rv
      exact ⟨a, us, rfl, q, k _ H1 e1 (ylds_enumT r.len fun Hc ⟨P, _⟩ => ⟨P.sqT _ _ q, RepAll.mono P.sqT (Pres.fL P) _ _ r⟩)⟩
    · cases ey
theorem ss_popO {i j : Nat} {x y : Str} {pc : Pos} (hK : X.K = F.G.K) (hNd : X.N.Nodup) (hj : X.N[j]? = some x) (hx : Loc X.env.scope x) (hN : X.N[i]? = some y := by rfl) (hv : Vis X.env.scope y := by first | exact Or.inl rfl | exact Or.inr (Or.inl rfl) | exact Or.inr (Or.inr rfl)) (hd : (y == ("__debug__" : Str)) = false := by decide)
    (hcd : (y == ("__classdict__" : Str)) = false := by decide)
    (hbase : attributeBase (.Name y p) "pop" X.env (eval (.Name y p) X.env) = eval (.Name y p) X.env := by rfl) (hline : (apos.endLine == pc.line) = true := by rfl)
    (hs : swapsWith (.Call (.Attribute (.Name y p) "pop" apos) [] [] pc) (some (.Name x p2)) pos.line X.env = pure false := by rfl) (hf : X.fn x = true ∨ X.env.scope.names.lookup x = some .local := by first | exact .inl rfl | exact .inr rfl | assumption) :
    SimS X F (.Assign [.Name x p2] (.Call (.Attribute (.Name y p) "pop" apos) [] [] pc) pos) (mPopO i j) :=
  PSimp (ps_set hNd hj hx (pe_bm0 PySem.F.plainAttrs_list PySem.F.slot_list_pop PySem.F.type_list_pop mt_pop (pe_var hN hv hd hcd) hbase hline) hs hf) fun D σ H ⟨env, h, A, r, env', h', R, e, k⟩ => by
    unfold mPopO at e
    split at e
    · next xs hy =>
      split at e
      · next d hd =>
        cases e
        obtain ⟨s1, us, hu, rs⟩ := slot_own R hy
        obtain ⟨u, hu2, ru⟩ := rs.get hd
        have P : Pres H (upd H (A (.s i)) (.lst us.dropLast)) := R.pres_at ⟨_, hy, rfl⟩
        refine ⟨_, s1, by rw [hK]; exact ty_list hu, A (.s i), us, u, rfl, rfl, hu, by rw [rs.len]; exact hu2, ?_⟩
        have rd : RDs F .st H xs.dropLast us.dropLast := by
          rw [List.dropLast_eq_take, List.dropLast_eq_take, rs.len]
          exact RepAll.take _ rs
        have R2 := R.putL hy rd
        have R3 := R2.setV (i := j) (x := .d d) (v := u) (RD.of_st (F := F) (ℓ := .fs) (Rep.mono P.sqT P.sL _ _ ru))
        exact k _ _ A R3 P
      · cases e
    · cases e
theorem ss_dput {i : Nat} {x : Str} {ie value : Expr} {qk qv : Q1} {pos' : Pos} (hu : X.A.units + 1 < cLine) (hk : SimQ X F ℓ ie qk) (hvv : SimQ X F .st value qv) (hN : X.N[i]? = some x := by rfl) (hv : Vis X.env.scope x := by first | exact Or.inl rfl | exact Or.inr (Or.inl rfl) | exact Or.inr (Or.inr rfl)) (hd : (x == ("__debug__" : Str)) = false := by decide)
    (hcd : (x == ("__classdict__" : Str)) = false := by decide) (hs : swapsWith value (some (.Subscript (.Name x p) ie pos')) pos.line X.env = pure false := by rfl) :
    SimS X F (.Assign [.Subscript (.Name x p) ie pos'] value pos) (mDPut i qk qv) := PSimp (ps_dput hu (pe_var hN hv hd hcd) hk hvv hs) fun D σ H ⟨env, h, A, r, env', h', R, e, k⟩ => by
    obtain ⟨v, ev, e⟩ := bind_some e
    obtain ⟨y, ey, e⟩ := bind_some e
    cases hq : env[i]? with
    | none => rw [hq] at e; cases e
    | some s =>
      rw [hq] at e
      cases s with
      | k kvs =>
        cases y with
        | d y =>
          cases v with
          | d v =>
            obtain ⟨kk, ek, e⟩ := bind_some e
            split at e
            · next hl =>
              cases e
              obtain ⟨ks, g1, g2, r⟩ := dk_at R hq
              refine ⟨env, h, A, _, R, ev, fun u H1 x1 ru => ⟨_, g1, env, h, A, _, R.ex x1, ey, fun u2 H2 x2 ru2 => ?_⟩⟩
              have hu' := key_rep ek ru2
              subst hu'
              have R2 := (R.ex x1).ex x2
              have g3 := x2 _ _ (x1 _ _ g2)
              have P : Pres H2 (upd H2 (A (.s i)) (.dK (putK ks kk u))) := R2.pres_at ⟨_, hq, rfl⟩
              refine ⟨_, _, rfl, DPut.k g3 (by rw [← kv_len r]; exact Nat.lt_of_lt_of_le hl (by decide)), ?_⟩
              have rk := kv_ex x2 (kv_ex x1 r)
              have ru := (show Rep _ _ v u from Rep.mono (Ex.pres x2).sqT (Ex.pres x2).sL _ _ ru)
              have R3 := R2.putS (s' := .k (dPut kvs kk v)) (o := .dK (putK ks kk u)) hq rfl rfl ⟨by rw [g1]; rfl, _, upd_same, KvAll.mono P.sqT P.sL (kv_put ru rk)⟩
              exact k _ _ A R3 (((Ex.pres x1).trans (Ex.pres x2)).trans P)
            · cases e
          | _ => cases e
        | _ => cases e
      | _ => cases e
end
end Sm

set_option Elab.async false
set_option linter.all false
set_option maxRecDepth 100000
set_option maxHeartbeats 2000000
namespace Sm
open PySem L2 Evl
section
variable {F : Fm} {X : Cx} {o e a b : Expr} {es elts : List Expr} {f m : Str} {pos p p2 apos : Pos} {ℓ ℓ₁ ℓ₂ ℓ₃ : Lv} {env : En} {h : Hs} {A : As} {σ : L2.St} {H : Hp} {c i j l kt k2 kk : Nat} {qo q qa : Q1} {ma : E1} {mf : EF} {fi : I1} {mb : M1} {ar : EA}
/-- x, y = {}, a list -/
theorem ss_parKL {x y : Str} {px py pt pd : Pos} {kt k2 pt2} (hc : X.calm = true) (hN : X.N.Nodup) (hi : X.N[i]? = some x) (hj : X.N[j]? = some y) (hij : i ≠ j)
    (hx : X.env.scope.names.lookup x = some .local) (hy : X.env.scope.names.lookup y = some .local) (hb : SimF X F b fi)
    (hw : swappedStores [.Tuple [.Name x px, .Name y py] kt pt] (.Tuple [.Dict [] [] pd, b] k2 pt2) X.env = pure (some [x, y]))
    (hs : swapsWithSole [.Tuple [.Name x px, .Name y py] kt pt] (.Tuple [.Dict [] [] pd, b] k2 pt2) pos.line X.env = pure false := by rfl)
    (s1 : starEach [.Dict [] [] pd, b] X.env = (false, eval (.Dict [] [] pd) X.env) :: starEach [b] X.env := by rfl) (s2 : starEach [b] X.env = (false, eval b X.env) :: starEach [] X.env := by rfl) :
    SimS X F (.Assign [.Tuple [.Name x px, .Name y py] kt pt] (.Tuple [.Dict [] [] pd, b] k2 pt2) pos) (mParKL i j fi) :=
  PSimp (ps_par hc hN hi hj hij hx hy (pa_cons (sk_new (F := F)) (pa_cons hb pa_nil s2) s1) hw hs) fun D σ H ⟨env, h, A, r, env', h', R, e, k⟩ => by
    obtain ⟨xs, ex, e⟩ := bind_some e
    cases e
    refine ⟨env, h, A, [], R, rfl, fun q ks H1 hq e1 hv rk => ⟨env, h, A, xs, R.ex e1, ex, fun p us H2 hp e2 hv2 rs => ⟨_, _, rfl, ?_⟩⟩⟩
    have R1 := (R.ex e1).ex e2
    have fq : Fresh F env h A q := ⟨(R.fresh hq).f0, (R.fresh hq).fp⟩
    have fp : Fresh F env h A p := ⟨((R.ex e1).fresh hp).f0, ((R.ex e1).fresh hp).fp⟩
    have ne : q ≠ p := fun z => by rw [← z, hv] at hp; cases hp
    have R2 := R1.setNew (i := i) (s' := .k []) fq rfl ⟨rfl, ks, e2 _ _ hv, kv_ex e2 rk⟩
    have R3 := R2.setNew (i := j) (s' := .l xs) (p := p) ⟨fp.f0, fun q' hq' z => by
      rcases live_set hq' with ⟨e, _, _⟩ | ⟨e, hq'⟩
      · rw [e, As.put_same] at z
        exact ne z
      · rw [As.put_ne e] at z
        exact fp.fp q' hq' z⟩ rfl ⟨rfl, us, hv2, rs⟩
    exact k _ H2 _ R3 (Ex.pres (e1.trans e2))
/-- x.extend(a tuple) -/
theorem ss_extQ {x : Str} (hK : X.K = F.G.K) (ha : SimQ X F .st e q) (hN : X.N[i]? = some x := by rfl) (hv : Vis X.env.scope x := by first | exact Or.inl rfl | exact Or.inr (Or.inl rfl) | exact Or.inr (Or.inr rfl)) (hd : (x == ("__debug__" : Str)) = false := by decide)
    (hcd : (x == ("__classdict__" : Str)) = false := by decide)
    (hbase : attributeBase (.Name x p) "extend" X.env (eval (.Name x p) X.env) = eval (.Name x p) X.env := by rfl)
    (hfew : ((backTo pos (starEach [e] X.env)).all (fun x => !x.1) && (backToKw pos (keywordEach [] X.env)).all (fun x => x.1.isSome) && decide ([e].length + ([] : List Keyword).length + (if ([] : List Keyword).isEmpty then 0 else 1) < 30)) = true := by rfl)
    (hline : (apos.endLine == pos.line) = true := by rfl) (hs : starEach [e] X.env = (false, eval e X.env) :: starEach [] X.env := by rfl) (hplain : (backTo pos (starEach [] X.env)).any (·.1) = false := by rfl)
    (hsw : swapsWith (.Call (.Attribute (.Name x p) "extend" apos) [e] [] pos) none p2.line X.env = pure false := by rfl) :
    SimS X F (.Expr (.Call (.Attribute (.Name x p) "extend" apos) [e] [] pos) p2) (mExtQ i q) :=
  PSimp (ps_expr (pe_bm PySem.F.plainAttrs_list PySem.F.slot_list_extend PySem.F.type_list_extend mt_extendT (pe_var hN hv hd hcd) (pa_cons ha pa_nil hs) hbase hfew hline hs hplain) hsw) fun D σ H ⟨env, h, A, r, env', h', R, e, k⟩ => by
    unfold mExtQ at e
    split at e
    · next xs hy =>
      obtain ⟨y, ey, e⟩ := bind_some e
      split at e
      · next ys =>
        split at e
        · next hl =>
          cases e
          obtain ⟨s1, us, hu, _⟩ := slot_own R hy
          refine ⟨_, s1, by rw [hK]; exact ty_list hu, env, h, A, _, R, ey, fun v H1 e1 rv => ?_⟩
          obtain ⟨s2, ws, hw, rs⟩ := slot_own (R.ex e1) hy
          obtain ⟨t, zs, rfl, ht, rz⟩ := rt rv
          refine ⟨A (.s i), t, ws, zs, rfl, rfl, hw, by rw [hK]; exact ht, by rw [rs.len, rz.len]; exact hl, ?_⟩
          have R2 := (R.ex e1).putL hy (rs.append rz)
          exact k σ _ A R2 ((Ex.pres e1).trans ((R.ex e1).pres_at ⟨_, hy, rfl⟩))
        · cases e
      · cases e
    · cases e
/-- a def as a value -/
theorem sq_fnv {x : Str} {fA : Addr} (hm : X.mg x = some (.ref fA)) (hfa : F.G.fa kk = fA) (hg : Gl X x := by rfl) (hd : (x == ("__debug__" : Str)) = false := by decide) : SimQ X F ℓ (.Name x pos) (qC (.fn kk)) :=
  PEimp (pe_glob (v := .ref fA) hg hm rfl hd) fun σ H Q ⟨env, h, A, z, R, e, k⟩ => by
    cases e
    exact k _ H (Ex.refl H) (show _ = V.ref (F.G.fa kk) by rw [hfa])
variable {G : Glo} {x : Str} {fA : Addr} {fd : FuncData} {ps : List Str} {n k : Nat} {g : List Val → Hs → Option Val}
/-- a pure def, called with arguments that write -/
theorem se_callQ (U : FnOk X.prog X.w X.K X.mg X.base CX0 k fA fd ps (spQ G n g)) (hG : F.G = G) (hr : Room k X.A) (hm : X.mg x = some (.ref fA)) (hk : PySem.W.keepIn X.K (.ref fA) = true) (hb : Binds X.K fd ps []) (ha : SimEA X F (e :: es) ar)
    (hg : Gl X x := by rfl) (hdb : (x == ("__debug__" : Str)) = false := by decide) (he : starEach (e :: es) X.env = (false, eval e X.env) :: starEach es X.env := by rfl) (hpl : (backTo pos (starEach es X.env)).any (·.1) = false := by rfl) :
    SimE X F ℓ (.Call (.Name x p) (e :: es) [] pos) (eCallQ (arity n g) ar) :=
  PEimp (pe_call (U.imp fun _ _ _ _ => spQ_ar) hr hg hm hk hb .nil pass0 ha hdb he hpl) fun σ H Q ⟨env, h, A, z, h', R, e, kk⟩ => by
    obtain ⟨⟨xs, h1⟩, ea, e⟩ := bind_some e
    obtain ⟨y, ey, e⟩ := bind_some e
    split at e
    · next d =>
      split at e
      · next hn =>
        cases e
        refine ⟨env, h, A, xs, _, R, ea, fun vs H1 A1 R1 s1 rs => ?_⟩
        show spQ G n (arity n g) (vs ++ []) H1 Q _
        rw [List.append_nil]
        exact ⟨F, env, h1, A1, σ, xs, _, hG, R1, Paired.imp (fun _ _ z => RV.mo R1 z) rs, arity_n _ _ _ ey, ey, fun v H' e2 rv => kk v H' A1 (R1.ex e2) (s1.trans (Step.ex e2)) (Rep.nl d v hn rv)⟩
      · cases e
    · cases e
end
end Sm

set_option Elab.async false
set_option linter.all false
set_option maxRecDepth 100000
set_option maxHeartbeats 2000000
/-! a pure def that is told that nothing is written -/
namespace Sm
open PySem L2 Evl
section
variable {P : Program} {w : World} {K : PySem.W.Frag} {mg : Str → Option Value} {base : Heap} {x qual : Str} {st : Stmt} {f : Addr} {fd : FuncData} {N ps : List Str} {k n : Nat} {G : Glo} {m : M1} {g : List Val → Hs → Option Val}
theorem fn_qR (U : Fun K x qual st f fd) (S : FnScope N ps (defScope st)) (hl : ps.length ≤ N.length)
    (hb : ∀ (cdv : Value) (A : Around) (outer : List Env) (s : Shared) (H : Hp) (E : XK), Room k (A.deeper (PyProof.Rows.envOfC qual (defScope st) s.heap.objs.size f cdv)) → ∀ F : Fm, F.G = G → F.rw = false → SimB (cxOf CX0 P w K mg base N qual (defScope st) f cdv A outer s H E).nox F (defBody st) m) :
    FnOk P w K mg base CX0 (k + 1) f fd ps (spQ G ps.length (runQ (N.length - ps.length) m)) := by
  refine U.ok S (fun vs H Q E h => ?_) (fun cdv A outer s H vs Q E hr h => ?_)
  · obtain ⟨F, env, h, A, σ, args, y, _, _, r, hn, _⟩ := h
    rw [← Paired.len r, hn]
  · obtain ⟨F, env, hh, As, σ, args, y, hG, R, r, hn, e, kk⟩ := h
    obtain ⟨⟨r1, env1, h1⟩, e1, e2⟩ := bind_some e
    have R0 : SR (Fm.cal G false hh As H) [] hh As [] H := by
      have := R.start false
      rw [hG] at this
      exact this
    have R1 := R0.args (N := N) (Paired.imp (fun _ _ z => cal_fs hG z) r) (by omega)
    rw [hn] at R1
    refine ⟨tS (Fm.cal G false hh As H) m, hb cdv A outer s H E hr _ rfl rfl, _, hh, As, r1, env1, h1, R1, e1, ?_⟩
    cases r1 with
    | nx =>
      cases e2
      exact fun σ' H' A' R' _ => kk _ H' (cal_ex R') vn
    | bk => cases e2
    | ct => cases e2
    | rt ℓ y' =>
      intro σ' H' A' v R' _ rv
      have rv' := RV.mo R' rv
      cases y' with
      | d d => cases e2; refine kk v H' (cal_ex R') ?_; subst hG; exact rv'
      | ref n => cases e2
      | fn n => cases e2; refine kk v H' (cal_ex R') ?_; subst hG; exact rv'
    | ex _ _ => cases e2
    | rf xs =>
      intro σ' H' A' p us R' _ _ hv _ rs
      cases e2
      subst hG
      exact kk _ H' (cal_ex R') (vl (ℓ := .mo) (.inl (.inl hv)) (RDs.of_st (F := F) (ℓ := .mo) rs))
end
/-- x, y, z = e, l1, l2 (the latter two into slots of locked lists) -/
def mAsgVZZ (i j l : Nat) (m : E1) (q r : Q1) : M1 := fun env h => (m env h).bind fun x => (q env x.2).bind fun a => (r env x.2).bind fun b => match a, b with
  | .d a, .d b => some (.nx, ((env.set i (.v x.1)).set j (.z a)).set l (.z b), x.2)
  | _, _ => none
section
variable {F : Fm} {X : Cx} {e1 e2 e3 : Expr} {pos p1 p2 p3 pt pt2 : Pos} {kt k2 : Nat} {m : E1} {q r : Q1} {i j l : Nat} {x y z : Str}
theorem ss_asgVZZ (hK : X.K = F.G.K) (hc : X.calm = true) (hN : X.N.Nodup) (hi : X.N[i]? = some x) (hj : X.N[j]? = some y) (hl : X.N[l]? = some z) (hx : Loc X.env.scope x) (hy : Loc X.env.scope y) (hz : Loc X.env.scope z) (h1 : SimE X F .fs e1 m) (h2 : SimQ X F .st e2 q) (h3 : SimQ X F .st e3 r)
    (hfx : X.fn x = true ∨ X.env.scope.names.lookup x = some .local := by first | exact .inl rfl | exact .inr rfl) (hfy : X.fn y = true ∨ X.env.scope.names.lookup y = some .local := by first | exact .inl rfl | exact .inr rfl) (hfz : X.fn z = true ∨ X.env.scope.names.lookup z = some .local := by first | exact .inl rfl | exact .inr rfl)
    (s1 : starEach [e1, e2, e3] X.env = (false, eval e1 X.env) :: starEach [e2, e3] X.env := by rfl) (s2 : starEach [e2, e3] X.env = (false, eval e2 X.env) :: starEach [e3] X.env := by rfl) (s3 : starEach [e3] X.env = (false, eval e3 X.env) :: starEach [] X.env := by rfl)
    (hs : swapsWithSole [.Tuple [.Name x p1, .Name y p2, .Name z p3] kt pt] (.Tuple [e1, e2, e3] k2 pt2) pos.line X.env = pure false := by rfl) (hw : swappedStores [.Tuple [.Name x p1, .Name y p2, .Name z p3] kt pt] (.Tuple [e1, e2, e3] k2 pt2) X.env = pure none := by rfl)
    (ha : (assignEach [.Tuple [.Name x p1, .Name y p2, .Name z p3] kt pt] X.env).map (·.2) = [assign (.Tuple [.Name x p1, .Name y p2, .Name z p3] kt pt) X.env] := by rfl) :
    SimS X F (.Assign [.Tuple [.Name x p1, .Name y p2, .Name z p3] kt pt] (.Tuple [e1, e2, e3] k2 pt2) pos) (mAsgVZZ i j l m q r) :=
  PSimp (ps_asg (pe_tup (pa_cons h1 (pa_cons h2 (pa_cons h3 pa_nil s3) s2) s1)) (pg_tup hc (pgs_cons (pg_name hN hi hx hfx) (pgs_cons (pg_name hN hj hy hfy) (pgs_cons (pg_name hN hl hz hfz) pgs_nil)))) hs hw ha) fun D σ H ⟨env, h, A, r, env', h', R, e, kk⟩ => by
    obtain ⟨⟨v, h1⟩, e1, e⟩ := bind_some e
    obtain ⟨a, ea, e⟩ := bind_some e
    obtain ⟨b, eb, e⟩ := bind_some e
    cases a with
    | d a =>
      cases b with
      | d b =>
        cases e
        refine ⟨env, h, A, v, _, R, e1, fun u H1 A1 R1 s1 rv => ⟨env, _, A1, _, R1, ea, fun u2 H2 x2 ra => ⟨env, _, A1, _, R1.ex x2, eb, fun u3 H3 x3 rb => ⟨(show 3 ≤ sizeLine by decide), fun t ht => ?_⟩⟩⟩⟩
        have x4 := Ex.new (o := HO.tup [u, u2, u3]) ht
        have R4 := ((R1.ex x2).ex x3).ex x4
        refine ⟨t, _, rfl, .inl (.inl upd_same), rfl, u, _, rfl, u2, _, rfl, u3, _, rfl, rfl, ?_⟩
        have R5 := R4.setV (i := i) (x := v) (v := u) (rv.ex ((x2.trans x3).trans x4))
        have R6 := R5.setZ (i := j) (d := a) (v := u2) (Rep.mono (Ex.pres (x3.trans x4)).sqT (Ex.pres (x3.trans x4)).sL _ _ ra)
        have R7 := R6.setZ (i := l) (d := b) (v := u3) (Rep.mono (Ex.pres x4).sqT (Ex.pres x4).sL _ _ rb)
        exact kk _ _ A1 R7 (s1.pres.trans (Ex.pres ((x2.trans x3).trans x4)))
      | _ => cases e
    | _ => cases e
end
def clsBody : Stmt → List Stmt
  | .ClassDef _ _ _ b _ _ _ _ _ _ _ => b
  | _ => []
structure Dm (K : PySem.W.Frag) (x qual : Str) (st : Stmt) (ps : List Str) (f : Addr) (fd : FuncData) : Prop where
  fn : Fun K x qual st f fd
  bd : Binds K fd ps []
end Sm

set_option Elab.async false
set_option linter.all false
set_option maxRecDepth 100000
set_option maxHeartbeats 4000000
namespace K06
open PySem L2 Evl Sm
/-! what the defs compute -/
/-! Queue___init__ -/
def m_Queue___init__ : M1 := (mInit3 0 0 1 2 (qV 0) (qNl (qV 1)))
def r_Queue___init__ : List Val → Hs → Option (Val × Hs) := runE 0 m_Queue___init__
/-! _law_bars -/
def m__law_bars : M1 := (mRet .mo (qAnd (q2 gEq (q2 gIx (qV 0) (qC (.d (.int 0)))) (q2 gIx (qV 1) (qC (.d (.int 0))))) (q2 (gIn false) (qC (.d (.str "write"))) (qTup (aCons (q2 gIx (qV 0) (qC (.d (.int 1)))) (aCons (q2 gIx (qV 1) (qC (.d (.int 1)))) aNil))))))
def r__law_bars : List Val → Hs → Option Val := runQ 0 m__law_bars
/-! Queue__barring -/
def m_Queue__barring : M1 := (mRetF (fLc (iSeqX (qV 3)) [4, 5] (bTup 2 (bCons (bName 4) (bCons (bName 5) bNil))) (tAndF (tV (q2 gNe (qV 4) (qV 1))) (tV (qFldCall 0 0 0 (arity 2 r__law_bars) (qV 0) (aCons (qV 2) (aCons (qV 5) aNil))))) (qNl (qV 4))))
def r_Queue__barring : List Val → Hs → Option (List PyData) := runF 2 m_Queue__barring
/-! Queue__can_have -/
def m_Queue__can_have : M1 := (mRet .mo (qAnd (qNot (qF (fMeth 0 (arity 4 r_Queue__barring) (qV 0) (aCons (qV 1) (aCons (qV 2) (aCons (qFld 0 1 (qV 0)) aNil)))))) (qNot (qF (fMeth 0 (arity 4 r_Queue__barring) (qV 0) (aCons (qV 1) (aCons (qV 2) (aCons (qV 3) aNil))))))))
def r_Queue__can_have : List Val → Hs → Option Val := runQ 0 m_Queue__can_have
/-! Queue_ask -/
def m_Queue_ask : M1 := (mSeq (mIf (tV (q2 (gIn false) (qTup (aCons (qV 1) (aCons (qV 2) aNil))) (qFld 0 1 (qV 0)))) (mRet .mo (qC (.d (.bool true)))) mNx)
    (mSeq (mIf (tV (q2 (gIn false) (qTup (aCons (qV 1) (aCons (qV 2) aNil))) (qFld 0 2 (qV 0)))) (mRet .mo (qC (.d (.bool false)))) mNx)
    (mSeq (mIf (tV (qMeth 0 (arity 4 r_Queue__can_have) (qV 0) (aCons (qV 1) (aCons (qV 2) (aCons (qFld 0 2 (qV 0)) aNil))))) (mSeq (mFldApp 0 1 (qV 0) (qTup (aCons (qNl (qV 1)) (aCons (qNl (qV 2)) aNil))))
    (mRet .mo (qC (.d (.bool true))))) mNx)
    (mSeq (mFldApp 0 2 (qV 0) (qTup (aCons (qNl (qV 1)) (aCons (qNl (qV 2)) aNil))))
    (mRet .mo (qC (.d (.bool false))))))))
def r_Queue_ask : List Val → Hs → Option (Val × Hs) := runE 0 m_Queue_ask
/-! Queue__go_on -/
def b_Queue__go_on_1 : M1 := (mIf (tV (qMeth 0 (arity 4 r_Queue__can_have) (qV 0) (aCons (qV 2) (aCons (qV 3) (aCons (qV 1) aNil))))) (mFldApp 0 1 (qV 0) (qTup (aCons (qNl (qV 2)) (aCons (qNl (qV 3)) aNil)))) (mAppE 1 (eQ (qTup (aCons (qNl (qV 2)) (aCons (qNl (qV 3)) aNil))))))
def m_Queue__go_on : M1 := (mSeq (mSetO 1 (fLst aNil))
    (mHoldF 0 0 2 (mSeq (mFor (iSeqT (qFldS 0 2 (qV 0))) [2, 3] (bTup 2 (bCons (bName 2) (bCons (bName 3) bNil))) b_Queue__go_on_1)
    (mFldMv 0 2 1 (qV 0)))))
def r_Queue__go_on : List Val → Hs → Option (Val × Hs) := runE 3 m_Queue__go_on
/-! Queue_drop -/
def m_Queue_drop : M1 := (mSeq (mFldL 0 1 (qV 0) (eF (fLc (iSeqX (qFld 0 1 (qV 0))) [3] (bName 3) (tV (q2 gNe (qV 3) (qTup (aCons (qV 1) (aCons (qV 2) aNil))))) (qNl (qV 3)))))
    (mE (eMeth 0 (arity 1 r_Queue__go_on) (qV 0) eNil)))
def r_Queue_drop : List Val → Hs → Option (Val × Hs) := runE 1 m_Queue_drop
/-! Queue_leave -/
def m_Queue_leave : M1 := (mSeq (mFldL 0 2 (qV 0) (eF (fLc (iSeqX (qFld 0 2 (qV 0))) [3] (bName 3) (tV (q2 gNe (qV 3) (qTup (aCons (qV 1) (aCons (qV 2) aNil))))) (qNl (qV 3)))))
    (mE (eMeth 0 (arity 1 r_Queue__go_on) (qV 0) eNil)))
def r_Queue_leave : List Val → Hs → Option (Val × Hs) := runE 1 m_Queue_leave
/-! Queue_drop_all -/
def m_Queue_drop_all : M1 := (mSeq (mFldL 0 1 (qV 0) (eF (fLc (iSeqX (qFld 0 1 (qV 0))) [2] (bName 2) (tV (q2 gNe (q2 gIx (qV 2) (qC (.d (.int 0)))) (qV 1))) (qNl (qV 2)))))
    (mSeq (mFldL 0 2 (qV 0) (eF (fLc (iSeqX (qFld 0 2 (qV 0))) [2] (bName 2) (tV (q2 gNe (q2 gIx (qV 2) (qC (.d (.int 0)))) (qV 1))) (qNl (qV 2)))))
    (mE (eMeth 0 (arity 1 r_Queue__go_on) (qV 0) eNil))))
def r_Queue_drop_all : List Val → Hs → Option (Val × Hs) := runE 1 m_Queue_drop_all
/-! Queue_held -/
def m_Queue_held : M1 := (mRet .mo (q1 gTuple (qF (fLc (iSeqX (qFld 0 1 (qV 0))) [2, 3] (bTup 2 (bCons (bName 2) (bCons (bName 3) bNil))) (tV (q2 gEq (qV 2) (qV 1))) (qNl (qV 3))))))
def r_Queue_held : List Val → Hs → Option Val := runQ 2 m_Queue_held
/-! Queue_holders -/
def m_Queue_holders : M1 := (mRet .mo (q1 gTuple (qFld 0 1 (qV 0))))
def r_Queue_holders : List Val → Hs → Option Val := runQ 0 m_Queue_holders
/-! Queue_waiting -/
def m_Queue_waiting : M1 := (mRet .mo (q1 gTuple (qFld 0 2 (qV 0))))
def r_Queue_waiting : List Val → Hs → Option Val := runQ 0 m_Queue_waiting
/-! Queue_blockers -/
def b_Queue_blockers_1 : M1 := (mIf (tV (q2 gEq (qV 4) (qV 1))) (mExtE 2 (eF (f2 gCat (qF (fMeth 0 (arity 4 r_Queue__barring) (qV 0) (aCons (qV 1) (aCons (qV 5) (aCons (qFld 0 1 (qV 0)) aNil))))) (qF (fMeth 0 (arity 4 r_Queue__barring) (qV 0) (aCons (qV 1) (aCons (qV 5) (aCons (qF (fSl (qFld 0 2 (qV 0)) oNone (oSome (qV 3)))) aNil)))))))) mNx)
def m_Queue_blockers : M1 := (mSeq (mSetO 2 (fLst aNil))
    (mSeq (mFor (iEnuS (qFld 0 2 (qV 0))) [3, 4, 5] (bTup 2 (bCons (bName 3) (bCons (bTup 2 (bCons (bName 4) (bCons (bName 5) bNil))) bNil))) b_Queue_blockers_1)
    (mRet .mo (q1 gTuple (qF (f1 gSetS (qV 2)))))))
def r_Queue_blockers : List Val → Hs → Option Val := runQ 4 m_Queue_blockers
/-! Queue_is_round -/
def b_Queue_is_round_1 : M1 := (mSeq (mPopO 3 4)
    (mSeq (mIf (tV (q2 gEq (qV 4) (qV 1))) (mRet .mo (qC (.d (.bool true)))) mNx)
    (mIf (tV (qDIn true 2 (qV 4))) (mSeq (mDPut 2 (qV 4) (qC (.d (.bool true))))
    (mExtQ 3 (qNl (qMeth 0 (arity 2 r_Queue_blockers) (qV 0) (aCons (qV 4) aNil))))) mNx)))
def m_Queue_is_round : M1 := (mSeq (mParKL 2 3 (f1 gList (qMeth 0 (arity 2 r_Queue_blockers) (qV 0) (aCons (qV 1) aNil))))
    (mSeq (mWhile 1000 [4] (tV (qV 3)) b_Queue_is_round_1)
    (mRet .mo (qC (.d (.bool false))))))
def r_Queue_is_round : List Val → Hs → Option Val := runQ 3 m_Queue_is_round
/-! _law_mix -/
def m__law_mix : M1 := (mSeq (mSet 0 (q2 gMod (q1 gInt (q2 gAdd (q2 gMulX (qV 0) (qC (.d (.int 6364136223846793005)))) (qC (.d (.int 1442695040888963407))))) (qC (.d (.int 18446744073709551616)))))
    (mRet .mo (q2 gMod (q1 gInt (q2 gAdd (q2 gDiv (q2 gMulX (qV 0) (qV 0)) (qC (.d (.int 4294967296)))) (q2 gMulX (qV 0) (qC (.d (.int 69621)))))) (qC (.d (.int 18446744073709551557))))))
def r__law_mix : List Val → Hs → Option Val := runQ 0 m__law_mix
/-! _law_tape -/
def m__law_tape : M1 := (mRetE .st (eNew (eCons (eQ (qF (f1 gList (qF (fSl (qV 0) oNone (oSome (qC (.d (.int 80))))))))) (eCons (eQ (qC (.d (.int 0)))) (eCons (eQ (qC (.d (.int 0)))) (eCons (eQ (q2 gAdd (qC (.d (.int 1))) (q1 gLen (qV 0)))) eNil))))))
def r__law_tape : List Val → Hs → Option (Val × Hs) := runE 0 m__law_tape
/-! _law_take -/
def m__law_take : M1 := (mSeq (mIf (tV (q2 gLt (q2 gIx (qV 0) (qC (.d (.int 2)))) (qV 1))) (mIf (tV (q2 gLt (q2 gIx (qV 0) (qC (.d (.int 1)))) (q1 gLen (q2 gIx (qV 0) (qC (.d (.int 0))))))) (mSeq (mSet 2 (qNl (q2 gIx (q2 gIx (qV 0) (qC (.d (.int 0)))) (q2 gIx (qV 0) (qC (.d (.int 1)))))))
    (mSeq (mSet 2 (qIf (tV (q2 gGe (qV 2) (qC (.d (.int 0))))) (q2 gMulX (qC (.d (.int 2))) (qV 2)) (q2 gSub (q2 gMulX (q1 gNeg (qC (.d (.int 2)))) (qV 2)) (qC (.d (.int 1))))))
    (mSeq (mPut (qV 0) (qC (.d (.int 1))) (eQ (q2 gAdd (qNl (q2 gIx (qV 0) (qC (.d (.int 1))))) (qC (.d (.int 1))))))
    (mSeq (mPut (qV 0) (qC (.d (.int 3))) (eQ (qNl (qCall (arity 1 r__law_mix) (aCons (q2 gAdd (q2 gIx (qV 0) (qC (.d (.int 3)))) (qV 2)) aNil)))))
    (mPut (qV 0) (qC (.d (.int 2))) (eQ (qIf (tV (q2 gGe (qV 2) (q2 gPow (qC (.d (.int 10))) (qC (.d (.int 18)))))) (qNl (qV 2)) (qNl (qCall (arity 1 r__law_mix) (aCons (q2 gAdd (qCall (arity 1 r__law_mix) (aCons (qV 2) aNil)) (q2 gIx (qV 0) (qC (.d (.int 1))))) aNil)))))))))) (mSeq (mPut (qV 0) (qC (.d (.int 3))) (eQ (qNl (qCall (arity 1 r__law_mix) (aCons (q2 gAdd (q2 gIx (qV 0) (qC (.d (.int 3)))) (qC (.d (.int 1)))) aNil)))))
    (mPut (qV 0) (qC (.d (.int 2))) (eQ (qNl (q2 gIx (qV 0) (qC (.d (.int 3))))))))) mNx)
    (mSeq (mSet 3 (q2 gMod (q1 gInt (q2 gIx (qV 0) (qC (.d (.int 2))))) (qV 1)))
    (mSeq (mPut (qV 0) (qC (.d (.int 2))) (eQ (q2 gDiv (q2 gIx (qV 0) (qC (.d (.int 2)))) (qV 1))))
    (mRet .mo (qV 3)))))
def r__law_take : List Val → Hs → Option (Val × Hs) := runE 2 m__law_take
/-! _law_same -/
def m__law_same (rec__law_same : List Val → Hs → Option Val) : M1 := (mSeq (mIf (tOrF (tAndF (tV (q1 (gIsi PyData.isTuple) (qV 0))) (tV (q1 (gIsi PyData.isTuple) (qV 1)))) (tAndF (tV (q1 (gIsi PyData.isList) (qV 0))) (tV (q1 (gIsi PyData.isList) (qV 1))))) (mRet .mo (qAnd (q2 gEq (q1 gLen (qV 0)) (q1 gLen (qV 1))) (q1 gAll (qF (fLc (iRng (q1 gLen (qV 0))) [2] (bName 2) tTrue (qNl (qCall (arity 2 rec__law_same) (aCons (q2 gIx (qV 0) (qV 2)) (aCons (q2 gIx (qV 1) (qV 2)) aNil))))))))) mNx)
    (mSeq (mIf (tOrF (tV (q1 (gIsi PyData.isBool) (qV 0))) (tV (q1 (gIsi PyData.isBool) (qV 1)))) (mRet .mo (qAnd (q1 (gIsi PyData.isBool) (qV 0)) (qAnd (q1 (gIsi PyData.isBool) (qV 1)) (q2 gEq (qV 0) (qV 1))))) mNx)
    (mSeq (mIf (tOrF (tAndF (tV (q1 (gIsi PyData.isInt) (qV 0))) (tV (q1 (gIsi PyData.isInt) (qV 1)))) (tAndF (tV (q1 (gIsi PyData.isStr) (qV 0))) (tV (q1 (gIsi PyData.isStr) (qV 1))))) (mRet .mo (q2 gEq (qV 0) (qV 1))) mNx)
    (mRet .mo (qAnd (q1 gIsN (qV 0)) (q1 gIsN (qV 1)))))))
def g__law_same : Nat → List Val → Hs → Option Val
  | 0 => fun _ _ => none
  | n + 1 => runQ 1 (m__law_same (g__law_same n))
/-! _law_free -/
def m__law_free : M1 := (mRet .mo (qNot (q1 gAny (qF (fLc (iSeqX (qF (f2 gCat (qV 2) (qV 3)))) [4, 5] (bTup 2 (bCons (bName 4) (bCons (bName 5) bNil))) tTrue (qAnd (q2 gNe (qV 4) (qV 0)) (qNl (qCall (arity 2 r__law_bars) (aCons (qV 1) (aCons (qV 5) aNil))))))))))
def r__law_free : List Val → Hs → Option Val := runQ 2 m__law_free
/-! _law_given -/
def b__law_given_1 : M1 := (mIf (tV (qCall (arity 4 r__law_free) (aCons (qV 3) (aCons (qV 4) (aCons (qZ 0) (aCons (qZ 2) aNil)))))) (mSetZ 0 (eQ (qF (f2 gCat (qZ 0) (qF (fLst (aCons (qTup (aCons (qNl (qV 3)) (aCons (qNl (qV 4)) aNil))) aNil))))))) (mSetZ 2 (eQ (qF (f2 gCat (qZ 2) (qF (fLst (aCons (qTup (aCons (qNl (qV 3)) (aCons (qNl (qV 4)) aNil))) aNil))))))))
def m__law_given : M1 := (mSeq (mSetZ 2 (eQ (qF (fLst aNil))))
    (mSeq (mFor (iSeqT (qZ 1)) [3, 4] (bTup 2 (bCons (bName 3) (bCons (bName 4) bNil))) b__law_given_1)
    (mRet .st (qTup (aCons (qZ 0) (aCons (qZ 2) aNil))))))
def r__law_given : List Val → Hs → Option Val := runZ 3 m__law_given
/-! _law_blockers -/
def b__law_blockers_1 : M1 := (mIf (tV (q2 gEq (q2 gIx (q2 gIx (qV 2) (qV 4)) (qC (.d (.int 0)))) (qV 0))) (mExtE 3 (eF (fLc (iSeqX (qF (f2 gCat (qV 1) (qF (fSl (qV 2) oNone (oSome (qV 4))))))) [5, 6] (bTup 2 (bCons (bName 5) (bCons (bName 6) bNil))) (tAndF (tV (q2 gNe (qV 5) (qV 0))) (tV (qCall (arity 2 r__law_bars) (aCons (q2 gIx (q2 gIx (qV 2) (qV 4)) (qC (.d (.int 1)))) (aCons (qV 6) aNil))))) (qNl (qV 5))))) mNx)
def m__law_blockers : M1 := (mSeq (mSetO 3 (fLst aNil))
    (mSeq (mFor (iRng (q1 gLen (qV 2))) [4] (bName 4) b__law_blockers_1)
    (mRet .mo (q1 gTuple (qF (f1 gSetS (qV 3)))))))
def r__law_blockers : List Val → Hs → Option Val := runQ 4 m__law_blockers
/-! _law_round -/
def b__law_round_1 : M1 := (mSeq (mPopO 4 5)
    (mSeq (mIf (tV (q2 gEq (qV 5) (qV 0))) (mRet .mo (qC (.d (.bool true)))) mNx)
    (mIf (tV (q2 (gIn true) (qV 5) (qV 3))) (mSeq (mAppE 3 (eQ (qNl (qV 5))))
    (mExtE 4 (eF (f1 gList (qCall (arity 3 r__law_blockers) (aCons (qV 5) (aCons (qV 1) (aCons (qV 2) aNil)))))))) mNx)))
def m__law_round : M1 := (mSeq (mPar2 3 4 (pL (eF (fLst aNil)) (pL (eF (f1 gList (qCall (arity 3 r__law_blockers) (aCons (qV 0) (aCons (qV 1) (aCons (qV 2) aNil)))))) pNil)))
    (mSeq (mWhile 1000 [5] (tV (q2 gNe (qV 4) (qF (fLst aNil)))) b__law_round_1)
    (mRet .mo (qC (.d (.bool false))))))
def r__law_round : List Val → Hs → Option Val := runQ 3 m__law_round
/-! law -/
def b_law_1 : M1 := (mSeq (mSet 15 (qTup (aCons (qNl (q1 gTuple (qF (fLc (iSeqX (qZ 5)) [17, 3] (bTup 2 (bCons (bName 17) (bCons (bName 3) bNil))) (tV (q2 gEq (qV 17) (qV 14))) (qNl (qV 3)))))) (aCons (qNl (qCall (arity 3 r__law_blockers) (aCons (qV 14) (aCons (qZ 5) (aCons (qZ 6) aNil))))) (aCons (qNl (qCall (arity 3 r__law_round) (aCons (qV 14) (aCons (qZ 5) (aCons (qZ 6) aNil))))) aNil)))))
    (mIf (tNotF (tV (qCall (arity 2 (g__law_same 8)) (aCons (qTup (aCons (qMeth 0 (arity 2 r_Queue_held) (qV 2) (aCons (qV 14) aNil)) (aCons (qMeth 0 (arity 2 r_Queue_blockers) (qV 2) (aCons (qV 14) aNil)) (aCons (qMeth 0 (arity 2 r_Queue_is_round) (qV 2) (aCons (qV 14) aNil)) aNil)))) (aCons (qV 15) aNil))))) (mRet .mo (qC (.d (.bool false)))) mNx))
def b_law_2 : M1 := (mIf (tV (q1 gAny (qF (fLc (iSeqX (qZ 5)) [17, 3] (bTup 2 (bCons (bName 17) (bCons (bName 3) bNil))) tTrue (qAnd (q2 gNe (qV 17) (q2 gIx (q2 gIx (qZ 5) (qV 16)) (qC (.d (.int 0))))) (qNl (qCall (arity 2 r__law_bars) (aCons (q2 gIx (q2 gIx (qZ 5) (qV 16)) (qC (.d (.int 1)))) (aCons (qV 3) aNil))))))))) (mRet .mo (qC (.d (.bool false)))) mNx)
def b_law_3 : M1 := (mSeq (mAsgE (eTup (eCons (eCall (arity 2 r__law_take) (eCons (eQ (qVs 1)) (eCons (eQ (qC (.d (.int 5)))) eNil))) (eCons (eTup (eCons (eCall (arity 2 r__law_take) (eCons (eQ (qVs 1)) (eCons (eQ (qC (.d (.int 3)))) eNil))) (eCons (e2 gIx (eQ (qF (fLst (aCons (qC (.d (.str "read"))) (aCons (qC (.d (.str "write"))) aNil))))) (eCall (arity 2 r__law_take) (eCons (eQ (qVs 1)) (eCons (eQ (qC (.d (.int 2)))) eNil)))) eNil))) (eCons (eCall (arity 2 r__law_take) (eCons (eQ (qVs 1)) (eCons (eQ (qC (.d (.int 10)))) eNil))) eNil)))) (bTup 3 (bCons (bName 8) (bCons (bName 9) (bCons (bName 10) bNil)))))
    (mSeq (mIf (tV (q2 gLt (qV 10) (qC (.d (.int 5))))) (mSeq (mIf (tV (q2 (gIn true) (qTup (aCons (qV 8) (aCons (qV 9) aNil))) (qF (f2 gCat (qZ 5) (qZ 6))))) (mSeq (mSet 11 (qNl (qCall (arity 4 r__law_free) (aCons (qV 8) (aCons (qV 9) (aCons (qZ 5) (aCons (qZ 6) aNil)))))))
    (mAsgZ2 5 6 (qTup (aCons (qF (f2 gCat (qZ 5) (qF (fIf (tV (qV 11)) (fLst (aCons (qTup (aCons (qNl (qV 8)) (aCons (qNl (qV 9)) aNil))) aNil)) (fLst aNil))))) (aCons (qF (f2 gCat (qZ 6) (qF (fIf (tV (qV 11)) (fLst aNil) (fLst (aCons (qTup (aCons (qNl (qV 8)) (aCons (qNl (qV 9)) aNil))) aNil)))))) aNil))))) mNx)
    (mIfE (eNot (etV (eCallQ (arity 2 (g__law_same 8)) (eCons (eMeth 0 (arity 3 r_Queue_ask) (qV 2) (eCons (eQ (qVs 8)) (eCons (eQ (qVs 9)) eNil))) (eCons (eQ (q2 (gIn false) (qTup (aCons (qV 8) (aCons (qV 9) aNil))) (qZ 5))) eNil))))) (mRet .mo (qC (.d (.bool false)))) mNx)) (mIf (tV (q2 gLt (qV 10) (qC (.d (.int 8))))) (mSeq (mSetO 12 (fLc (iSeqX (qZ 5)) [13] (bName 13) (tV (q2 gEq (q2 gIx (qV 13) (qC (.d (.int 0)))) (qV 8))) (qNl (qV 13))))
    (mHold 12 (mSeq (mSetE 13 (eIf (eT (tV (q2 gNe (qV 12) (qF (fLst aNil))))) (e2 gIx (eQ (qVs 12)) (eCall (arity 2 r__law_take) (eCons (eQ (qVs 1)) (eCons (eQ (q1 gLen (qV 12))) eNil)))) (eQ (qTup (aCons (qVs 8) (aCons (qVs 9) aNil))))))
    (mSeq (mE (eMeth 0 (arity 3 r_Queue_drop) (qV 2) (eCons (eQ (qNl (q2 gIx (qV 13) (qC (.d (.int 0)))))) (eCons (eQ (qNl (q2 gIx (qV 13) (qC (.d (.int 1)))))) eNil))))
    (mAsgZ2 5 6 (qCall (arity 2 r__law_given) (aCons (qF (fLc (iSeqX (qZ 5)) [14] (bName 14) (tV (q2 gNe (qV 14) (qV 13))) (qNl (qV 14)))) (aCons (qZ 6) aNil)))))))) (mIf (tV (q2 gEq (qV 10) (qC (.d (.int 8))))) (mSeq (mSetO 12 (fLc (iSeqX (qZ 6)) [13] (bName 13) (tV (q2 gEq (q2 gIx (qV 13) (qC (.d (.int 0)))) (qV 8))) (qNl (qV 13))))
    (mHold 12 (mSeq (mSetE 13 (eIf (eT (tV (q2 gNe (qV 12) (qF (fLst aNil))))) (e2 gIx (eQ (qVs 12)) (eCall (arity 2 r__law_take) (eCons (eQ (qVs 1)) (eCons (eQ (q1 gLen (qV 12))) eNil)))) (eQ (qTup (aCons (qVs 8) (aCons (qVs 9) aNil))))))
    (mSeq (mE (eMeth 0 (arity 3 r_Queue_leave) (qV 2) (eCons (eQ (qNl (q2 gIx (qV 13) (qC (.d (.int 0)))))) (eCons (eQ (qNl (q2 gIx (qV 13) (qC (.d (.int 1)))))) eNil))))
    (mAsgZ2 5 6 (qCall (arity 2 r__law_given) (aCons (qZ 5) (aCons (qF (fLc (iSeqX (qZ 6)) [14] (bName 14) (tV (q2 gNe (qV 14) (qV 13))) (qNl (qV 14)))) aNil)))))))) (mSeq (mE (eMeth 0 (arity 2 r_Queue_drop_all) (qV 2) (eCons (eQ (qVs 8)) eNil)))
    (mAsgZ2 5 6 (qCall (arity 2 r__law_given) (aCons (qF (fLc (iSeqX (qZ 5)) [14] (bName 14) (tV (q2 gNe (q2 gIx (qV 14) (qC (.d (.int 0)))) (qV 8))) (qNl (qV 14)))) (aCons (qF (fLc (iSeqX (qZ 6)) [14] (bName 14) (tV (q2 gNe (q2 gIx (qV 14) (qC (.d (.int 0)))) (qV 8))) (qNl (qV 14)))) aNil))))))))
    (mSeq (mIf (tNotF (tV (qCall (arity 2 (g__law_same 8)) (aCons (qTup (aCons (qMeth 0 (arity 1 r_Queue_holders) (qV 2) aNil) (aCons (qMeth 0 (arity 1 r_Queue_waiting) (qV 2) aNil) aNil))) (aCons (qTup (aCons (q1 gTuple (qZ 5)) (aCons (q1 gTuple (qZ 6)) aNil))) aNil))))) (mRet .mo (qC (.d (.bool false)))) mNx)
    (mSeq (mFor (iRng (qC (.d (.int 5)))) [15] (bName 14) b_law_1)
    (mSeq (mFor (iRng (q1 gLen (qZ 5))) [] (bName 16) b_law_2)
    (mIf (tV (q1 gAny (qF (fLc (iRng (q1 gLen (qZ 6))) [16] (bName 16) tTrue (qNl (qCall (arity 4 r__law_free) (aCons (q2 gIx (q2 gIx (qZ 6) (qV 16)) (qC (.d (.int 0)))) (aCons (q2 gIx (q2 gIx (qZ 6) (qV 16)) (qC (.d (.int 1)))) (aCons (qZ 5) (aCons (qF (fSl (qZ 6) oNone (oSome (qV 16)))) aNil)))))))))) (mRet .mo (qC (.d (.bool false)))) mNx))))))
def b_law_4 : M1 := (mSeq (mAsgVZZ 2 5 6 (eMake 0 3 (arity 2 r_Queue___init__) (eCons (eQ (qC (.fn 0))) eNil)) (qF (fLst aNil)) (qF (fLst aNil)))
    (mFor (iRng (qC (.d (.int 30)))) [7, 8, 9, 10, 16] (bName 7) b_law_3))
def m_law : M1 := (mSeq (mSetE 1 (eCall (arity 1 r__law_tape) (eCons (eQ (qVs 0)) eNil)))
    (mSeq (mSetE 2 (eMake 0 3 (arity 2 r_Queue___init__) (eCons (eQ (qC (.fn 0))) eNil)))
    (mSeq (mSetOE 3 (efLst (eCons (eMeth 0 (arity 3 r_Queue_ask) (qV 2) (eCons (eQ (qC (.d (.int 0)))) (eCons (eQ (qTup (aCons (qC (.d (.int 7))) (aCons (qC (.d (.str "read"))) aNil)))) eNil))) (eCons (eMeth 0 (arity 3 r_Queue_ask) (qV 2) (eCons (eQ (qC (.d (.int 1)))) (eCons (eQ (qTup (aCons (qC (.d (.int 7))) (aCons (qC (.d (.str "read"))) aNil)))) eNil))) (eCons (eMeth 0 (arity 3 r_Queue_ask) (qV 2) (eCons (eQ (qC (.d (.int 2)))) (eCons (eQ (qTup (aCons (qC (.d (.int 7))) (aCons (qC (.d (.str "write"))) aNil)))) eNil))) (eCons (eMeth 0 (arity 3 r_Queue_ask) (qV 2) (eCons (eQ (qC (.d (.int 3)))) (eCons (eQ (qTup (aCons (qC (.d (.int 7))) (aCons (qC (.d (.str "read"))) aNil)))) eNil))) (eCons (eMeth 0 (arity 3 r_Queue_ask) (qV 2) (eCons (eQ (qC (.d (.int 0)))) (eCons (eQ (qTup (aCons (qC (.d (.int 7))) (aCons (qC (.d (.str "read"))) aNil)))) eNil))) eNil)))))))
    (mSeq (mIf (tOrF (tV (q2 gNe (qV 3) (qF (fLst (aCons (qC (.d (.bool true))) (aCons (qC (.d (.bool true))) (aCons (qC (.d (.bool false))) (aCons (qC (.d (.bool false))) (aCons (qC (.d (.bool true))) aNil))))))))) (tOrF (tV (q2 gNe (qMeth 0 (arity 1 r_Queue_waiting) (qV 2) aNil) (qTup (aCons (qTup (aCons (qC (.d (.int 2))) (aCons (qTup (aCons (qC (.d (.int 7))) (aCons (qC (.d (.str "write"))) aNil))) aNil))) (aCons (qTup (aCons (qC (.d (.int 3))) (aCons (qTup (aCons (qC (.d (.int 7))) (aCons (qC (.d (.str "read"))) aNil))) aNil))) aNil))))) (tOrF (tV (q2 gNe (qMeth 0 (arity 2 r_Queue_blockers) (qV 2) (aCons (qC (.d (.int 3))) aNil)) (qTup (aCons (qC (.d (.int 2))) aNil)))) (tV (q2 gNe (qMeth 0 (arity 2 r_Queue_blockers) (qV 2) (aCons (qC (.d (.int 2))) aNil)) (qTup (aCons (qC (.d (.int 0))) (aCons (qC (.d (.int 1))) aNil)))))))) (mRet .mo (qC (.d (.bool false)))) mNx)
    (mSeq (mE (eMeth 0 (arity 3 r_Queue_drop) (qV 2) (eCons (eQ (qC (.d (.int 0)))) (eCons (eQ (qTup (aCons (qC (.d (.int 7))) (aCons (qC (.d (.str "read"))) aNil)))) eNil))))
    (mSeq (mE (eMeth 0 (arity 3 r_Queue_drop) (qV 2) (eCons (eQ (qC (.d (.int 1)))) (eCons (eQ (qTup (aCons (qC (.d (.int 7))) (aCons (qC (.d (.str "read"))) aNil)))) eNil))))
    (mSeq (mIfE (eOr (eT (tV (q2 gNe (qMeth 0 (arity 1 r_Queue_holders) (qV 2) aNil) (qTup (aCons (qTup (aCons (qC (.d (.int 2))) (aCons (qTup (aCons (qC (.d (.int 7))) (aCons (qC (.d (.str "write"))) aNil))) aNil))) aNil))))) (eOr (etV (e2 (gIsB true) (eMeth 0 (arity 3 r_Queue_ask) (qV 2) (eCons (eQ (qC (.d (.int 2)))) (eCons (eQ (qTup (aCons (qC (.d (.int 7))) (aCons (qC (.d (.str "write"))) aNil)))) eNil))) (eQ (qC (.d (.bool true)))))) (eT (tV (q2 gNe (qMeth 0 (arity 2 r_Queue_held) (qV 2) (aCons (qC (.d (.int 3))) aNil)) (qTup aNil)))))) (mRet .mo (qC (.d (.bool false)))) mNx)
    (mSeq (mSetE 2 (eMake 0 3 (arity 2 r_Queue___init__) (eCons (eQ (qC (.fn 0))) eNil)))
    (mSeq (mIfE (etV (e2 gNe (eLock (efLst (eCons (eMeth 0 (arity 3 r_Queue_ask) (qV 2) (eCons (eQ (qC (.d (.int 0)))) (eCons (eQ (qTup (aCons (qC (.d (.int 1))) (aCons (qC (.d (.str "write"))) aNil)))) eNil))) (eCons (eMeth 0 (arity 3 r_Queue_ask) (qV 2) (eCons (eQ (qC (.d (.int 1)))) (eCons (eQ (qTup (aCons (qC (.d (.int 2))) (aCons (qC (.d (.str "write"))) aNil)))) eNil))) (eCons (eMeth 0 (arity 3 r_Queue_ask) (qV 2) (eCons (eQ (qC (.d (.int 0)))) (eCons (eQ (qTup (aCons (qC (.d (.int 2))) (aCons (qC (.d (.str "read"))) aNil)))) eNil))) eNil))))) (eQ (qF (fLst (aCons (qC (.d (.bool true))) (aCons (qC (.d (.bool true))) (aCons (qC (.d (.bool false))) aNil)))))))) (mRet .mo (qC (.d (.bool false)))) mNx)
    (mSeq (mIfE (eOr (eT (tV (q2 (gIsB true) (qMeth 0 (arity 2 r_Queue_is_round) (qV 2) (aCons (qC (.d (.int 0))) aNil)) (qC (.d (.bool false)))))) (eOr (etV (e2 (gIsB true) (eMeth 0 (arity 3 r_Queue_ask) (qV 2) (eCons (eQ (qC (.d (.int 1)))) (eCons (eQ (qTup (aCons (qC (.d (.int 1))) (aCons (qC (.d (.str "write"))) aNil)))) eNil))) (eQ (qC (.d (.bool false)))))) (eT (tV (q2 (gIsB true) (qMeth 0 (arity 2 r_Queue_is_round) (qV 2) (aCons (qC (.d (.int 1))) aNil)) (qC (.d (.bool true)))))))) (mRet .mo (qC (.d (.bool false)))) mNx)
    (mSeq (mFor (iRng (qC (.d (.int 3)))) [4, 5, 6, 7] (bName 4) b_law_4)
    (mRet .mo (qC (.d (.bool true)))))))))))))))
def r_law : List Val → Hs → Option (Val × Hs) := runE 17 m_law
end K06

set_option Elab.async false
set_option linter.all false
set_option maxRecDepth 100000
set_option maxHeartbeats 4000000
namespace K06
open PySem L2 Evl Sm
def top (i : Nat) : Stmt := PySem.Challenge.pw_treesheld_k06_whole_lines.main.body.getD i (.Pass ⟨0, 0, 0, 0⟩)
abbrev s_Queue___init__ : Stmt := (clsBody (top 1)).getD 0 (.Pass ⟨0, 0, 0, 0⟩)
abbrev s__law_bars : Stmt := top 7
abbrev s_Queue__barring : Stmt := (clsBody (top 1)).getD 1 (.Pass ⟨0, 0, 0, 0⟩)
abbrev s_Queue__can_have : Stmt := (clsBody (top 1)).getD 2 (.Pass ⟨0, 0, 0, 0⟩)
abbrev s_Queue_ask : Stmt := (clsBody (top 1)).getD 3 (.Pass ⟨0, 0, 0, 0⟩)
abbrev s_Queue__go_on : Stmt := (clsBody (top 1)).getD 4 (.Pass ⟨0, 0, 0, 0⟩)
abbrev s_Queue_drop : Stmt := (clsBody (top 1)).getD 5 (.Pass ⟨0, 0, 0, 0⟩)
abbrev s_Queue_leave : Stmt := (clsBody (top 1)).getD 6 (.Pass ⟨0, 0, 0, 0⟩)
abbrev s_Queue_drop_all : Stmt := (clsBody (top 1)).getD 7 (.Pass ⟨0, 0, 0, 0⟩)
abbrev s_Queue_held : Stmt := (clsBody (top 1)).getD 8 (.Pass ⟨0, 0, 0, 0⟩)
abbrev s_Queue_holders : Stmt := (clsBody (top 1)).getD 9 (.Pass ⟨0, 0, 0, 0⟩)
abbrev s_Queue_waiting : Stmt := (clsBody (top 1)).getD 10 (.Pass ⟨0, 0, 0, 0⟩)
abbrev s_Queue_blockers : Stmt := (clsBody (top 1)).getD 11 (.Pass ⟨0, 0, 0, 0⟩)
abbrev s_Queue_is_round : Stmt := (clsBody (top 1)).getD 12 (.Pass ⟨0, 0, 0, 0⟩)
abbrev s__law_mix : Stmt := top 3
abbrev s__law_tape : Stmt := top 4
abbrev s__law_take : Stmt := top 5
abbrev s__law_same : Stmt := top 6
abbrev s__law_free : Stmt := top 8
abbrev s__law_given : Stmt := top 9
abbrev s__law_blockers : Stmt := top 10
abbrev s__law_round : Stmt := top 11
abbrev s_law : Stmt := top 12
structure Dn (K : PySem.W.Frag) (mg : Str → Option Value) (x : Str) (st : Stmt) (ps : List Str) (f : Addr) (fd : FuncData) : Prop where
  fn : Fun K x x st f fd
  mg : mg x = some (.ref f)
  bd : Binds K fd ps []
structure Txt (K : PySem.W.Frag) (mg : Str → Option Value) (G : Glo) (f : Nat → Addr) (fd : Nat → FuncData) : Prop where
  gK : K = G.K
  nm0 : G.nm 0 = (["_conflicts", "_held", "_line"] : List Str)
  k0 : Cls K (G.cl 0)
  g0 : mg "Queue" = some (.ref (G.cl 0))
  a0_0 : NoAttr K (G.cl 0) "_conflicts"
  a0_1 : NoAttr K (G.cl 0) "_held"
  a0_2 : NoAttr K (G.cl 0) "_line"
  mk0 : Mk K (G.cl 0) (f 0)
  fn0 : G.fa 0 = f 1
  d0 : Dm K "__init__" "Queue.__init__" s_Queue___init__ ["self", "conflicts"] (f 0) (fd 0)
  d2 : Dm K "_barring" "Queue._barring" s_Queue__barring ["self", "who", "what", "rows"] (f 2) (fd 2)
  m2 : Meth K (G.cl 0) "_barring" (f 2)
  d3 : Dm K "_can_have" "Queue._can_have" s_Queue__can_have ["self", "who", "what", "ahead"] (f 3) (fd 3)
  m3 : Meth K (G.cl 0) "_can_have" (f 3)
  d4 : Dm K "ask" "Queue.ask" s_Queue_ask ["self", "who", "what"] (f 4) (fd 4)
  m4 : Meth K (G.cl 0) "ask" (f 4)
  d5 : Dm K "_go_on" "Queue._go_on" s_Queue__go_on ["self"] (f 5) (fd 5)
  m5 : Meth K (G.cl 0) "_go_on" (f 5)
  d6 : Dm K "drop" "Queue.drop" s_Queue_drop ["self", "who", "what"] (f 6) (fd 6)
  m6 : Meth K (G.cl 0) "drop" (f 6)
  d7 : Dm K "leave" "Queue.leave" s_Queue_leave ["self", "who", "what"] (f 7) (fd 7)
  m7 : Meth K (G.cl 0) "leave" (f 7)
  d8 : Dm K "drop_all" "Queue.drop_all" s_Queue_drop_all ["self", "who"] (f 8) (fd 8)
  m8 : Meth K (G.cl 0) "drop_all" (f 8)
  d9 : Dm K "held" "Queue.held" s_Queue_held ["self", "who"] (f 9) (fd 9)
  m9 : Meth K (G.cl 0) "held" (f 9)
  d10 : Dm K "holders" "Queue.holders" s_Queue_holders ["self"] (f 10) (fd 10)
  m10 : Meth K (G.cl 0) "holders" (f 10)
  d11 : Dm K "waiting" "Queue.waiting" s_Queue_waiting ["self"] (f 11) (fd 11)
  m11 : Meth K (G.cl 0) "waiting" (f 11)
  d12 : Dm K "blockers" "Queue.blockers" s_Queue_blockers ["self", "who"] (f 12) (fd 12)
  m12 : Meth K (G.cl 0) "blockers" (f 12)
  d13 : Dm K "is_round" "Queue.is_round" s_Queue_is_round ["self", "who"] (f 13) (fd 13)
  m13 : Meth K (G.cl 0) "is_round" (f 13)
  d1 : Dn K mg "_law_bars" s__law_bars ["what", "other"] (f 1) (fd 1)
  d14 : Dn K mg "_law_mix" s__law_mix ["number"] (f 14) (fd 14)
  d15 : Dn K mg "_law_tape" s__law_tape ["script"] (f 15) (fd 15)
  d16 : Dn K mg "_law_take" s__law_take ["tape", "many"] (f 16) (fd 16)
  d17 : Dn K mg "_law_same" s__law_same ["a", "b"] (f 17) (fd 17)
  d18 : Dn K mg "_law_free" s__law_free ["who", "what", "held", "line"] (f 18) (fd 18)
  d19 : Dn K mg "_law_given" s__law_given ["held", "line"] (f 19) (fd 19)
  d20 : Dn K mg "_law_blockers" s__law_blockers ["who", "held", "line"] (f 20) (fd 20)
  d21 : Dn K mg "_law_round" s__law_round ["who", "held", "line"] (f 21) (fd 21)
  d22 : Dn K mg "law" s_law ["script"] (f 22) (fd 22)
  z_all : mg "all" = none
  z_any : mg "any" = none
  z_bool : mg "bool" = none
  z_enumerate : mg "enumerate" = none
  z_int : mg "int" = none
  z_isinstance : mg "isinstance" = none
  z_len : mg "len" = none
  z_list : mg "list" = none
  z_range : mg "range" = none
  z_set : mg "set" = none
  z_sorted : mg "sorted" = none
  z_str : mg "str" = none
  z_tuple : mg "tuple" = none
section
variable {P : Program} {w : World} {K : PySem.W.Frag} {mg : Str → Option Value} {base : Heap} {G : Glo} {f : Nat → Addr} {fd : Nat → FuncData}
theorem sc_Queue___init__ : FnScope ["self", "conflicts"] ["self", "conflicts"] (defScope s_Queue___init__) := ⟨rfl, rfl, rfl, by decide +kernel, rfl, by decide +kernel, by decide +kernel⟩
theorem ok_Queue___init__ (T : Txt K mg G f fd) : FnOk P w K mg base CX0 1 (f 0) (fd 0) ["self", "conflicts"] (spE G 2 r_Queue___init__) :=
  fn_e T.d0.fn sc_Queue___init__ (by decide) fun cdv A outer s H E hr F hF hw => by
    have hK : K = F.G.K := by rw [hF]; exact T.gK
    have hu := hu4 hr
    have hu5 := hu65 hr
    have SC := sc_Queue___init__
    have hu1 : _ := Nat.lt_of_le_of_lt (Nat.add_le_add_left (by decide : 1 ≤ 64) _) hu
    have c0 : Cls K (F.G.cl 0) := by rw [hF]; exact T.k0
    have a0_0 : NoAttr K (F.G.cl 0) "_conflicts" := by rw [hF]; exact T.a0_0
    have n0_0 : (F.G.nm 0)[0]? = some ("_conflicts" : Str) := by rw [hF, T.nm0]; rfl
    have a0_1 : NoAttr K (F.G.cl 0) "_held" := by rw [hF]; exact T.a0_1
    have n0_1 : (F.G.nm 0)[1]? = some ("_held" : Str) := by rw [hF, T.nm0]; rfl
    have a0_2 : NoAttr K (F.G.cl 0) "_line" := by rw [hF]; exact T.a0_2
    have n0_2 : (F.G.nm 0)[2]? = some ("_line" : Str) := by rw [hF, T.nm0]; rfl
    exact (sb_one (ss_init3 hK hw rfl c0 a0_0 a0_1 a0_2 n0_0 n0_1 n0_2 (sq_v 0) (sq_v 0) (sq_v 0) (sq_nl (ℓ := .st) (sq_v 1))))
theorem sc__law_bars : FnScope ["what", "other"] ["what", "other"] (defScope s__law_bars) := ⟨rfl, rfl, rfl, by decide +kernel, rfl, by decide +kernel, by decide +kernel⟩
theorem ok__law_bars (T : Txt K mg G f fd) : FnOk P w K mg base CX0 1 (f 1) (fd 1) ["what", "other"] (spQ G 2 r__law_bars) :=
  fn_q T.d1.fn sc__law_bars (by decide) fun cdv A outer s H E hr F hF => by
    have hK : K = F.G.K := by rw [hF]; exact T.gK
    have hu := hu4 hr
    have hu5 := hu65 hr
    have SC := sc__law_bars
    have hu1 : _ := Nat.lt_of_le_of_lt (Nat.add_le_add_left (by decide : 1 ≤ 64) _) hu
    have c0 : Cls K (F.G.cl 0) := by rw [hF]; exact T.k0
    have a0_0 : NoAttr K (F.G.cl 0) "_conflicts" := by rw [hF]; exact T.a0_0
    have n0_0 : (F.G.nm 0)[0]? = some ("_conflicts" : Str) := by rw [hF, T.nm0]; rfl
    have a0_1 : NoAttr K (F.G.cl 0) "_held" := by rw [hF]; exact T.a0_1
    have n0_1 : (F.G.nm 0)[1]? = some ("_held" : Str) := by rw [hF, T.nm0]; rfl
    have a0_2 : NoAttr K (F.G.cl 0) "_line" := by rw [hF]; exact T.a0_2
    have n0_2 : (F.G.nm 0)[2]? = some ("_line" : Str) := by rw [hF, T.nm0]; rfl
    exact (sb_one (ss_ret (ℓ := .mo) (sq_and (sq_cmp (ℓ := .mo) (ℓ₁ := .mo) (ℓ₂ := .mo) (o_eq hK hu) (sq_sub hK (sq_v 0) (sq_int (ℓ := .mo))) (sq_sub hK (sq_v 1) (sq_int (ℓ := .mo))) (by rfl)) (sq_one (sq_cmp (ℓ := .mo) (ℓ₁ := .mo) (ℓ₂ := .mo) (o_in hK hu5) (sq_str (ℓ := .mo)) (sq_tup (sa_cons (sq_sub hK (sq_v 0) (sq_int (ℓ := .mo))) (sa_cons (sq_sub hK (sq_v 1) (sq_int (ℓ := .mo))) sa_nil))) (by rfl))))))
theorem sc_Queue__barring : FnScope ["self", "who", "what", "rows", "other", "told"] ["self", "who", "what", "rows"] (defScope s_Queue__barring) := ⟨rfl, rfl, rfl, by decide +kernel, rfl, by decide +kernel, by decide +kernel⟩
theorem ok_Queue__barring (T : Txt K mg G f fd) : FnOk P w K mg base CX0 2 (f 2) (fd 2) ["self", "who", "what", "rows"] (spF G 4 r_Queue__barring) :=
  fn_f T.d2.fn sc_Queue__barring (by decide) fun cdv A outer s H E hr F hF => by
    have hK : K = F.G.K := by rw [hF]; exact T.gK
    have hu := hu4 hr
    have hu5 := hu65 hr
    have SC := sc_Queue__barring
    have hu1 : _ := Nat.lt_of_le_of_lt (Nat.add_le_add_left (by decide : 1 ≤ 64) _) hu
    have c0 : Cls K (F.G.cl 0) := by rw [hF]; exact T.k0
    have a0_0 : NoAttr K (F.G.cl 0) "_conflicts" := by rw [hF]; exact T.a0_0
    have n0_0 : (F.G.nm 0)[0]? = some ("_conflicts" : Str) := by rw [hF, T.nm0]; rfl
    have a0_1 : NoAttr K (F.G.cl 0) "_held" := by rw [hF]; exact T.a0_1
    have n0_1 : (F.G.nm 0)[1]? = some ("_held" : Str) := by rw [hF, T.nm0]; rfl
    have a0_2 : NoAttr K (F.G.cl 0) "_line" := by rw [hF]; exact T.a0_2
    have n0_2 : (F.G.nm 0)[2]? = some ("_line" : Str) := by rw [hF, T.nm0]; rfl
    exact (sb_one (ss_retF (sf_lc (own := [("other", 4), ("told", 5)]) rfl SC.nd (si_seqX hK (sq_v 3)) (by kernel_rfl) (by decide) (fun _ _ _ _ _ => (sg_tup hK rfl (sgs_cons (sg_name (i := 4) SC.nd rfl (by first | exact Or.inl rfl | exact Or.inr rfl)) (sgs_cons (sg_name (i := 5) SC.nd rfl (by first | exact Or.inl rfl | exact Or.inr rfl)) sgs_nil)))) (fun _ _ _ _ _ => (sts_one (PW.pt (sw_and (st_cmp (ℓ₁ := .mo) (ℓ₂ := .mo) (o_ne hK hu) (sq_v 4) (sq_v 1) (by rfl) gNe_b) (sw_and1 (st_v hK (sq_fldCall (ok__law_bars T) hF (hr.mono (by decide)) (by rw [hF]; exact T.fn0) T.d1.fn.kp c0 a0_0 n0_0 T.d1.bd (sq_v 0) (sa_cons (sq_v 2) (sa_cons (sq_v 5) sa_nil))))))))) (fun _ _ _ _ _ => (sq_nl (ℓ := .st) (sq_v 4))))))
theorem sc_Queue__can_have : FnScope ["self", "who", "what", "ahead"] ["self", "who", "what", "ahead"] (defScope s_Queue__can_have) := ⟨rfl, rfl, rfl, by decide +kernel, rfl, by decide +kernel, by decide +kernel⟩
theorem ok_Queue__can_have (T : Txt K mg G f fd) : FnOk P w K mg base CX0 3 (f 3) (fd 3) ["self", "who", "what", "ahead"] (spQ G 4 r_Queue__can_have) :=
  fn_q T.d3.fn sc_Queue__can_have (by decide) fun cdv A outer s H E hr F hF => by
    have hK : K = F.G.K := by rw [hF]; exact T.gK
    have hu := hu4 hr
    have hu5 := hu65 hr
    have SC := sc_Queue__can_have
    have hu1 : _ := Nat.lt_of_le_of_lt (Nat.add_le_add_left (by decide : 1 ≤ 64) _) hu
    have c0 : Cls K (F.G.cl 0) := by rw [hF]; exact T.k0
    have a0_0 : NoAttr K (F.G.cl 0) "_conflicts" := by rw [hF]; exact T.a0_0
    have n0_0 : (F.G.nm 0)[0]? = some ("_conflicts" : Str) := by rw [hF, T.nm0]; rfl
    have a0_1 : NoAttr K (F.G.cl 0) "_held" := by rw [hF]; exact T.a0_1
    have n0_1 : (F.G.nm 0)[1]? = some ("_held" : Str) := by rw [hF, T.nm0]; rfl
    have a0_2 : NoAttr K (F.G.cl 0) "_line" := by rw [hF]; exact T.a0_2
    have n0_2 : (F.G.nm 0)[2]? = some ("_line" : Str) := by rw [hF, T.nm0]; rfl
    exact (sb_one (ss_ret (ℓ := .mo) (sq_and (sq_not (ℓ := .mo) hK (sq_f (sf_meth (ok_Queue__barring T) hF (hr.mono (by decide)) c0 (by rw [hF]; exact T.m2) (by rw [hF, T.nm0]; decide) T.d2.bd (sq_v 0) (sa_cons (sq_v 1) (sa_cons (sq_v 2) (sa_cons (sq_fld hK c0 a0_1 n0_1 (sq_v 0)) sa_nil)))))) (sq_one (sq_not (ℓ := .mo) hK (sq_f (sf_meth (ok_Queue__barring T) hF (hr.mono (by decide)) c0 (by rw [hF]; exact T.m2) (by rw [hF, T.nm0]; decide) T.d2.bd (sq_v 0) (sa_cons (sq_v 1) (sa_cons (sq_v 2) (sa_cons (sq_v 3) sa_nil))))))))))
theorem sc_Queue_ask : FnScope ["self", "who", "what"] ["self", "who", "what"] (defScope s_Queue_ask) := ⟨rfl, rfl, rfl, by decide +kernel, rfl, by decide +kernel, by decide +kernel⟩
theorem ok_Queue_ask (T : Txt K mg G f fd) : FnOk P w K mg base CX0 4 (f 4) (fd 4) ["self", "who", "what"] (spE G 3 r_Queue_ask) :=
  fn_e T.d4.fn sc_Queue_ask (by decide) fun cdv A outer s H E hr F hF hw => by
    have hK : K = F.G.K := by rw [hF]; exact T.gK
    have hu := hu4 hr
    have hu5 := hu65 hr
    have SC := sc_Queue_ask
    have hu1 : _ := Nat.lt_of_le_of_lt (Nat.add_le_add_left (by decide : 1 ≤ 64) _) hu
    have c0 : Cls K (F.G.cl 0) := by rw [hF]; exact T.k0
    have a0_0 : NoAttr K (F.G.cl 0) "_conflicts" := by rw [hF]; exact T.a0_0
    have n0_0 : (F.G.nm 0)[0]? = some ("_conflicts" : Str) := by rw [hF, T.nm0]; rfl
    have a0_1 : NoAttr K (F.G.cl 0) "_held" := by rw [hF]; exact T.a0_1
    have n0_1 : (F.G.nm 0)[1]? = some ("_held" : Str) := by rw [hF, T.nm0]; rfl
    have a0_2 : NoAttr K (F.G.cl 0) "_line" := by rw [hF]; exact T.a0_2
    have n0_2 : (F.G.nm 0)[2]? = some ("_line" : Str) := by rw [hF, T.nm0]; rfl
    exact (sb_cons (ss_if (st_cmp (ℓ₁ := .mo) (ℓ₂ := .mo) (o_in hK hu5) (sq_tup (sa_cons (sq_v 1) (sa_cons (sq_v 2) sa_nil))) (sq_fld hK c0 a0_1 n0_1 (sq_v 0)) (by rfl) gIn_b) (sb_one (ss_ret (ℓ := .mo) (sq_bl (ℓ := .mo)))) sb_nil)
    (sb_cons (ss_if (st_cmp (ℓ₁ := .mo) (ℓ₂ := .mo) (o_in hK hu5) (sq_tup (sa_cons (sq_v 1) (sa_cons (sq_v 2) sa_nil))) (sq_fld hK c0 a0_2 n0_2 (sq_v 0)) (by rfl) gIn_b) (sb_one (ss_ret (ℓ := .mo) (sq_bl (ℓ := .mo)))) sb_nil)
    (sb_cons (ss_if (st_v hK (sq_meth (ok_Queue__can_have T) hF (hr.mono (by decide)) c0 (by rw [hF]; exact T.m3) (by rw [hF, T.nm0]; decide) T.d3.bd (sq_v 0) (sa_cons (sq_v 1) (sa_cons (sq_v 2) (sa_cons (sq_fld hK c0 a0_2 n0_2 (sq_v 0)) sa_nil))))) (sb_cons (ss_fldApp hK hw c0 a0_1 n0_1 (sq_v 0) (sq_tup (sa_cons (sq_nl (ℓ := .st) (sq_v 1)) (sa_cons (sq_nl (ℓ := .st) (sq_v 2)) sa_nil))))
    (sb_one (ss_ret (ℓ := .mo) (sq_bl (ℓ := .mo))))) sb_nil)
    (sb_cons (ss_fldApp hK hw c0 a0_2 n0_2 (sq_v 0) (sq_tup (sa_cons (sq_nl (ℓ := .st) (sq_v 1)) (sa_cons (sq_nl (ℓ := .st) (sq_v 2)) sa_nil))))
    (sb_one (ss_ret (ℓ := .mo) (sq_bl (ℓ := .mo))))))))
theorem sc_Queue__go_on : FnScope ["self", "left", "who", "what"] ["self"] (defScope s_Queue__go_on) := ⟨rfl, rfl, rfl, by decide +kernel, rfl, by decide +kernel, by decide +kernel⟩
theorem ok_Queue__go_on (T : Txt K mg G f fd) : FnOk P w K mg base CX0 4 (f 5) (fd 5) ["self"] (spE G 1 r_Queue__go_on) :=
  fn_e T.d5.fn sc_Queue__go_on (by decide) fun cdv A outer s H E hr F hF hw => by
    have hK : K = F.G.K := by rw [hF]; exact T.gK
    have hu := hu4 hr
    have hu5 := hu65 hr
    have SC := sc_Queue__go_on
    have hu1 : _ := Nat.lt_of_le_of_lt (Nat.add_le_add_left (by decide : 1 ≤ 64) _) hu
    have c0 : Cls K (F.G.cl 0) := by rw [hF]; exact T.k0
    have a0_0 : NoAttr K (F.G.cl 0) "_conflicts" := by rw [hF]; exact T.a0_0
    have n0_0 : (F.G.nm 0)[0]? = some ("_conflicts" : Str) := by rw [hF, T.nm0]; rfl
    have a0_1 : NoAttr K (F.G.cl 0) "_held" := by rw [hF]; exact T.a0_1
    have n0_1 : (F.G.nm 0)[1]? = some ("_held" : Str) := by rw [hF, T.nm0]; rfl
    have a0_2 : NoAttr K (F.G.cl 0) "_line" := by rw [hF]; exact T.a0_2
    have n0_2 : (F.G.nm 0)[2]? = some ("_line" : Str) := by rw [hF, T.nm0]; rfl
    exact (sb_cons (ss_setO (i := 1) SC.nd rfl (by first | exact Or.inl rfl | exact Or.inr rfl) (sf_lst sa_nil))
    (sb_holdF (c := 0) (j := 2) 0 hw (sb_cons (ss_for [2, 3] PassesOwn.never rfl (si_seqT hK (sq_fldS (ℓ := .fs) hK c0 a0_2 n0_2 (sq_v 0))) (sg_tup hK rfl (sgs_cons (sg_name (i := 2) SC.nd rfl (by first | exact Or.inl rfl | exact Or.inr rfl)) (sgs_cons (sg_name (i := 3) SC.nd rfl (by first | exact Or.inl rfl | exact Or.inr rfl)) sgs_nil))) (sb_one (ss_if (st_v hK (sq_meth (ok_Queue__can_have T) hF (hr.mono (by decide)) c0 (by rw [hF]; exact T.m3) (by rw [hF, T.nm0]; decide) T.d3.bd (sq_v 0) (sa_cons (sq_v 2) (sa_cons (sq_v 3) (sa_cons (sq_v 1) sa_nil))))) (sb_one (ss_fldApp hK hw c0 a0_1 n0_1 (sq_v 0) (sq_tup (sa_cons (sq_nl (ℓ := .st) (sq_v 2)) (sa_cons (sq_nl (ℓ := .st) (sq_v 3)) sa_nil))))) (sb_one (ss_app (i := 1) hK (se_q (sq_tup (sa_cons (sq_nl (ℓ := .st) (sq_v 2)) (sa_cons (sq_nl (ℓ := .st) (sq_v 3)) sa_nil)))))))))
    (sb_one (ss_fldMv 1 hK hw c0 a0_2 n0_2 (sq_v 0))))))
theorem sc_Queue_drop : FnScope ["self", "who", "what", "row"] ["self", "who", "what"] (defScope s_Queue_drop) := ⟨rfl, rfl, rfl, by decide +kernel, rfl, by decide +kernel, by decide +kernel⟩
theorem ok_Queue_drop (T : Txt K mg G f fd) : FnOk P w K mg base CX0 5 (f 6) (fd 6) ["self", "who", "what"] (spE G 3 r_Queue_drop) :=
  fn_e T.d6.fn sc_Queue_drop (by decide) fun cdv A outer s H E hr F hF hw => by
    have hK : K = F.G.K := by rw [hF]; exact T.gK
    have hu := hu4 hr
    have hu5 := hu65 hr
    have SC := sc_Queue_drop
    have hu1 : _ := Nat.lt_of_le_of_lt (Nat.add_le_add_left (by decide : 1 ≤ 64) _) hu
    have c0 : Cls K (F.G.cl 0) := by rw [hF]; exact T.k0
    have a0_0 : NoAttr K (F.G.cl 0) "_conflicts" := by rw [hF]; exact T.a0_0
    have n0_0 : (F.G.nm 0)[0]? = some ("_conflicts" : Str) := by rw [hF, T.nm0]; rfl
    have a0_1 : NoAttr K (F.G.cl 0) "_held" := by rw [hF]; exact T.a0_1
    have n0_1 : (F.G.nm 0)[1]? = some ("_held" : Str) := by rw [hF, T.nm0]; rfl
    have a0_2 : NoAttr K (F.G.cl 0) "_line" := by rw [hF]; exact T.a0_2
    have n0_2 : (F.G.nm 0)[2]? = some ("_line" : Str) := by rw [hF, T.nm0]; rfl
    exact (sb_cons (ss_fldL hK hw c0 a0_1 n0_1 (sq_v 0) (sef_f (sf_lc (own := [("row", 3)]) rfl SC.nd (si_seqX hK (sq_fld hK c0 a0_1 n0_1 (sq_v 0))) (by kernel_rfl) (by decide) (fun _ _ _ _ _ => (sg_name (i := 3) SC.nd rfl (by first | exact Or.inl rfl | exact Or.inr rfl))) (fun _ _ _ _ _ => (sts_one (st_cmp (ℓ₁ := .mo) (ℓ₂ := .mo) (o_ne hK hu) (sq_v 3) (sq_tup (sa_cons (sq_v 1) (sa_cons (sq_v 2) sa_nil))) (by rfl) gNe_b))) (fun _ _ _ _ _ => (sq_nl (ℓ := .st) (sq_v 3))))))
    (sb_one (ss_exprE (se_meth0 (ok_Queue__go_on T) hF hw (hr.mono (by decide)) c0 (by rw [hF]; exact T.m5) (by rw [hF, T.nm0]; decide) T.d5.bd (sq_v 0)))))
theorem sc_Queue_leave : FnScope ["self", "who", "what", "row"] ["self", "who", "what"] (defScope s_Queue_leave) := ⟨rfl, rfl, rfl, by decide +kernel, rfl, by decide +kernel, by decide +kernel⟩
theorem ok_Queue_leave (T : Txt K mg G f fd) : FnOk P w K mg base CX0 5 (f 7) (fd 7) ["self", "who", "what"] (spE G 3 r_Queue_leave) :=
  fn_e T.d7.fn sc_Queue_leave (by decide) fun cdv A outer s H E hr F hF hw => by
    have hK : K = F.G.K := by rw [hF]; exact T.gK
    have hu := hu4 hr
    have hu5 := hu65 hr
    have SC := sc_Queue_leave
    have hu1 : _ := Nat.lt_of_le_of_lt (Nat.add_le_add_left (by decide : 1 ≤ 64) _) hu
    have c0 : Cls K (F.G.cl 0) := by rw [hF]; exact T.k0
    have a0_0 : NoAttr K (F.G.cl 0) "_conflicts" := by rw [hF]; exact T.a0_0
    have n0_0 : (F.G.nm 0)[0]? = some ("_conflicts" : Str) := by rw [hF, T.nm0]; rfl
    have a0_1 : NoAttr K (F.G.cl 0) "_held" := by rw [hF]; exact T.a0_1
    have n0_1 : (F.G.nm 0)[1]? = some ("_held" : Str) := by rw [hF, T.nm0]; rfl
    have a0_2 : NoAttr K (F.G.cl 0) "_line" := by rw [hF]; exact T.a0_2
    have n0_2 : (F.G.nm 0)[2]? = some ("_line" : Str) := by rw [hF, T.nm0]; rfl
    exact (sb_cons (ss_fldL hK hw c0 a0_2 n0_2 (sq_v 0) (sef_f (sf_lc (own := [("row", 3)]) rfl SC.nd (si_seqX hK (sq_fld hK c0 a0_2 n0_2 (sq_v 0))) (by kernel_rfl) (by decide) (fun _ _ _ _ _ => (sg_name (i := 3) SC.nd rfl (by first | exact Or.inl rfl | exact Or.inr rfl))) (fun _ _ _ _ _ => (sts_one (st_cmp (ℓ₁ := .mo) (ℓ₂ := .mo) (o_ne hK hu) (sq_v 3) (sq_tup (sa_cons (sq_v 1) (sa_cons (sq_v 2) sa_nil))) (by rfl) gNe_b))) (fun _ _ _ _ _ => (sq_nl (ℓ := .st) (sq_v 3))))))
    (sb_one (ss_exprE (se_meth0 (ok_Queue__go_on T) hF hw (hr.mono (by decide)) c0 (by rw [hF]; exact T.m5) (by rw [hF, T.nm0]; decide) T.d5.bd (sq_v 0)))))
theorem sc_Queue_drop_all : FnScope ["self", "who", "row"] ["self", "who"] (defScope s_Queue_drop_all) := ⟨rfl, rfl, rfl, by decide +kernel, rfl, by decide +kernel, by decide +kernel⟩
theorem ok_Queue_drop_all (T : Txt K mg G f fd) : FnOk P w K mg base CX0 5 (f 8) (fd 8) ["self", "who"] (spE G 2 r_Queue_drop_all) :=
  fn_e T.d8.fn sc_Queue_drop_all (by decide) fun cdv A outer s H E hr F hF hw => by
    have hK : K = F.G.K := by rw [hF]; exact T.gK
    have hu := hu4 hr
    have hu5 := hu65 hr
    have SC := sc_Queue_drop_all
    have hu1 : _ := Nat.lt_of_le_of_lt (Nat.add_le_add_left (by decide : 1 ≤ 64) _) hu
    have c0 : Cls K (F.G.cl 0) := by rw [hF]; exact T.k0
    have a0_0 : NoAttr K (F.G.cl 0) "_conflicts" := by rw [hF]; exact T.a0_0
    have n0_0 : (F.G.nm 0)[0]? = some ("_conflicts" : Str) := by rw [hF, T.nm0]; rfl
    have a0_1 : NoAttr K (F.G.cl 0) "_held" := by rw [hF]; exact T.a0_1
    have n0_1 : (F.G.nm 0)[1]? = some ("_held" : Str) := by rw [hF, T.nm0]; rfl
    have a0_2 : NoAttr K (F.G.cl 0) "_line" := by rw [hF]; exact T.a0_2
    have n0_2 : (F.G.nm 0)[2]? = some ("_line" : Str) := by rw [hF, T.nm0]; rfl
    exact (sb_cons (ss_fldL hK hw c0 a0_1 n0_1 (sq_v 0) (sef_f (sf_lc (own := [("row", 2)]) rfl SC.nd (si_seqX hK (sq_fld hK c0 a0_1 n0_1 (sq_v 0))) (by kernel_rfl) (by decide) (fun _ _ _ _ _ => (sg_name (i := 2) SC.nd rfl (by first | exact Or.inl rfl | exact Or.inr rfl))) (fun _ _ _ _ _ => (sts_one (st_cmp (ℓ₁ := .mo) (ℓ₂ := .mo) (o_ne hK hu) (sq_sub hK (sq_v 2) (sq_int (ℓ := .mo))) (sq_v 1) (by rfl) gNe_b))) (fun _ _ _ _ _ => (sq_nl (ℓ := .st) (sq_v 2))))))
    (sb_cons (ss_fldL hK hw c0 a0_2 n0_2 (sq_v 0) (sef_f (sf_lc (own := [("row", 2)]) rfl SC.nd (si_seqX hK (sq_fld hK c0 a0_2 n0_2 (sq_v 0))) (by kernel_rfl) (by decide) (fun _ _ _ _ _ => (sg_name (i := 2) SC.nd rfl (by first | exact Or.inl rfl | exact Or.inr rfl))) (fun _ _ _ _ _ => (sts_one (st_cmp (ℓ₁ := .mo) (ℓ₂ := .mo) (o_ne hK hu) (sq_sub hK (sq_v 2) (sq_int (ℓ := .mo))) (sq_v 1) (by rfl) gNe_b))) (fun _ _ _ _ _ => (sq_nl (ℓ := .st) (sq_v 2))))))
    (sb_one (ss_exprE (se_meth0 (ok_Queue__go_on T) hF hw (hr.mono (by decide)) c0 (by rw [hF]; exact T.m5) (by rw [hF, T.nm0]; decide) T.d5.bd (sq_v 0))))))
theorem sc_Queue_held : FnScope ["self", "who", "other", "what"] ["self", "who"] (defScope s_Queue_held) := ⟨rfl, rfl, rfl, by decide +kernel, rfl, by decide +kernel, by decide +kernel⟩
theorem ok_Queue_held (T : Txt K mg G f fd) : FnOk P w K mg base CX0 1 (f 9) (fd 9) ["self", "who"] (spQ G 2 r_Queue_held) :=
  fn_q T.d9.fn sc_Queue_held (by decide) fun cdv A outer s H E hr F hF => by
    have hK : K = F.G.K := by rw [hF]; exact T.gK
    have hu := hu4 hr
    have hu5 := hu65 hr
    have SC := sc_Queue_held
    have hu1 : _ := Nat.lt_of_le_of_lt (Nat.add_le_add_left (by decide : 1 ≤ 64) _) hu
    have c0 : Cls K (F.G.cl 0) := by rw [hF]; exact T.k0
    have a0_0 : NoAttr K (F.G.cl 0) "_conflicts" := by rw [hF]; exact T.a0_0
    have n0_0 : (F.G.nm 0)[0]? = some ("_conflicts" : Str) := by rw [hF, T.nm0]; rfl
    have a0_1 : NoAttr K (F.G.cl 0) "_held" := by rw [hF]; exact T.a0_1
    have n0_1 : (F.G.nm 0)[1]? = some ("_held" : Str) := by rw [hF, T.nm0]; rfl
    have a0_2 : NoAttr K (F.G.cl 0) "_line" := by rw [hF]; exact T.a0_2
    have n0_2 : (F.G.nm 0)[2]? = some ("_line" : Str) := by rw [hF, T.nm0]; rfl
    exact (sb_one (ss_ret (ℓ := .mo) (sq_totup hK T.z_tuple (sq_f (sf_lc (own := [("other", 2), ("what", 3)]) rfl SC.nd (si_seqX hK (sq_fld hK c0 a0_1 n0_1 (sq_v 0))) (by kernel_rfl) (by decide) (fun _ _ _ _ _ => (sg_tup hK rfl (sgs_cons (sg_name (i := 2) SC.nd rfl (by first | exact Or.inl rfl | exact Or.inr rfl)) (sgs_cons (sg_name (i := 3) SC.nd rfl (by first | exact Or.inl rfl | exact Or.inr rfl)) sgs_nil)))) (fun _ _ _ _ _ => (sts_one (st_cmp (ℓ₁ := .mo) (ℓ₂ := .mo) (o_eq hK hu) (sq_v 2) (sq_v 1) (by rfl) gEq_b))) (fun _ _ _ _ _ => (sq_nl (ℓ := .st) (sq_v 3))))))))
theorem sc_Queue_holders : FnScope ["self"] ["self"] (defScope s_Queue_holders) := ⟨rfl, rfl, rfl, by decide +kernel, rfl, by decide +kernel, by decide +kernel⟩
theorem ok_Queue_holders (T : Txt K mg G f fd) : FnOk P w K mg base CX0 1 (f 10) (fd 10) ["self"] (spQ G 1 r_Queue_holders) :=
  fn_q T.d10.fn sc_Queue_holders (by decide) fun cdv A outer s H E hr F hF => by
    have hK : K = F.G.K := by rw [hF]; exact T.gK
    have hu := hu4 hr
    have hu5 := hu65 hr
    have SC := sc_Queue_holders
    have hu1 : _ := Nat.lt_of_le_of_lt (Nat.add_le_add_left (by decide : 1 ≤ 64) _) hu
    have c0 : Cls K (F.G.cl 0) := by rw [hF]; exact T.k0
    have a0_0 : NoAttr K (F.G.cl 0) "_conflicts" := by rw [hF]; exact T.a0_0
    have n0_0 : (F.G.nm 0)[0]? = some ("_conflicts" : Str) := by rw [hF, T.nm0]; rfl
    have a0_1 : NoAttr K (F.G.cl 0) "_held" := by rw [hF]; exact T.a0_1
    have n0_1 : (F.G.nm 0)[1]? = some ("_held" : Str) := by rw [hF, T.nm0]; rfl
    have a0_2 : NoAttr K (F.G.cl 0) "_line" := by rw [hF]; exact T.a0_2
    have n0_2 : (F.G.nm 0)[2]? = some ("_line" : Str) := by rw [hF, T.nm0]; rfl
    exact (sb_one (ss_ret (ℓ := .mo) (sq_totup hK T.z_tuple (sq_fld hK c0 a0_1 n0_1 (sq_v 0)))))
theorem sc_Queue_waiting : FnScope ["self"] ["self"] (defScope s_Queue_waiting) := ⟨rfl, rfl, rfl, by decide +kernel, rfl, by decide +kernel, by decide +kernel⟩
theorem ok_Queue_waiting (T : Txt K mg G f fd) : FnOk P w K mg base CX0 1 (f 11) (fd 11) ["self"] (spQ G 1 r_Queue_waiting) :=
  fn_q T.d11.fn sc_Queue_waiting (by decide) fun cdv A outer s H E hr F hF => by
    have hK : K = F.G.K := by rw [hF]; exact T.gK
    have hu := hu4 hr
    have hu5 := hu65 hr
    have SC := sc_Queue_waiting
    have hu1 : _ := Nat.lt_of_le_of_lt (Nat.add_le_add_left (by decide : 1 ≤ 64) _) hu
    have c0 : Cls K (F.G.cl 0) := by rw [hF]; exact T.k0
    have a0_0 : NoAttr K (F.G.cl 0) "_conflicts" := by rw [hF]; exact T.a0_0
    have n0_0 : (F.G.nm 0)[0]? = some ("_conflicts" : Str) := by rw [hF, T.nm0]; rfl
    have a0_1 : NoAttr K (F.G.cl 0) "_held" := by rw [hF]; exact T.a0_1
    have n0_1 : (F.G.nm 0)[1]? = some ("_held" : Str) := by rw [hF, T.nm0]; rfl
    have a0_2 : NoAttr K (F.G.cl 0) "_line" := by rw [hF]; exact T.a0_2
    have n0_2 : (F.G.nm 0)[2]? = some ("_line" : Str) := by rw [hF, T.nm0]; rfl
    exact (sb_one (ss_ret (ℓ := .mo) (sq_totup hK T.z_tuple (sq_fld hK c0 a0_2 n0_2 (sq_v 0)))))
theorem sc_Queue_blockers : FnScope ["self", "who", "found", "k", "other", "what"] ["self", "who"] (defScope s_Queue_blockers) := ⟨rfl, rfl, rfl, by decide +kernel, rfl, by decide +kernel, by decide +kernel⟩
theorem ok_Queue_blockers (T : Txt K mg G f fd) : FnOk P w K mg base CX0 3 (f 12) (fd 12) ["self", "who"] (spQ G 2 r_Queue_blockers) :=
  fn_qR T.d12.fn sc_Queue_blockers (by decide) fun cdv A outer s H E hr F hF hwR => by
    have hK : K = F.G.K := by rw [hF]; exact T.gK
    have hu := hu4 hr
    have hu5 := hu65 hr
    have SC := sc_Queue_blockers
    have hu1 : _ := Nat.lt_of_le_of_lt (Nat.add_le_add_left (by decide : 1 ≤ 64) _) hu
    have c0 : Cls K (F.G.cl 0) := by rw [hF]; exact T.k0
    have a0_0 : NoAttr K (F.G.cl 0) "_conflicts" := by rw [hF]; exact T.a0_0
    have n0_0 : (F.G.nm 0)[0]? = some ("_conflicts" : Str) := by rw [hF, T.nm0]; rfl
    have a0_1 : NoAttr K (F.G.cl 0) "_held" := by rw [hF]; exact T.a0_1
    have n0_1 : (F.G.nm 0)[1]? = some ("_held" : Str) := by rw [hF, T.nm0]; rfl
    have a0_2 : NoAttr K (F.G.cl 0) "_line" := by rw [hF]; exact T.a0_2
    have n0_2 : (F.G.nm 0)[2]? = some ("_line" : Str) := by rw [hF, T.nm0]; rfl
    exact (sb_cons (ss_setO (i := 2) SC.nd rfl (by first | exact Or.inl rfl | exact Or.inr rfl) (sf_lst sa_nil))
    (sb_cons (ss_for [3, 4, 5] PassesOwn.never rfl (si_enumS hK T.z_enumerate (sq_fldF hK hwR c0 a0_2 n0_2 (sq_v 0))) (sg_tup hK rfl (sgs_cons (sg_name (i := 3) SC.nd rfl (by first | exact Or.inl rfl | exact Or.inr rfl)) (sgs_cons (sg_tup hK rfl (sgs_cons (sg_name (i := 4) SC.nd rfl (by first | exact Or.inl rfl | exact Or.inr rfl)) (sgs_cons (sg_name (i := 5) SC.nd rfl (by first | exact Or.inl rfl | exact Or.inr rfl)) sgs_nil))) sgs_nil))) (sb_one (ss_if (st_cmp (ℓ₁ := .mo) (ℓ₂ := .mo) (o_eq hK hu) (sq_v 4) (sq_v 1) (by rfl) gEq_b) (sb_one (ss_ext (i := 2) hK (sef_f (sf_cat hK (sq_f (sf_meth (ok_Queue__barring T) hF (hr.mono (by decide)) c0 (by rw [hF]; exact T.m2) (by rw [hF, T.nm0]; decide) T.d2.bd (sq_v 0) (sa_cons (sq_v 1) (sa_cons (sq_v 5) (sa_cons (sq_fld hK c0 a0_1 n0_1 (sq_v 0)) sa_nil))))) (sq_f (sf_meth (ok_Queue__barring T) hF (hr.mono (by decide)) c0 (by rw [hF]; exact T.m2) (by rw [hF, T.nm0]; decide) T.d2.bd (sq_v 0) (sa_cons (sq_v 1) (sa_cons (sq_v 5) (sa_cons (sq_f (sf_slice hK (sq_fld hK c0 a0_2 n0_2 (sq_v 0)) so_none (so_some (sq_v 3)))) sa_nil))))))))) sb_nil)))
    (sb_one (ss_ret (ℓ := .mo) (sq_totup hK T.z_tuple (sq_f (sf_sset hK rfl T.z_sorted T.z_set (sq_v 2))))))))
theorem sc_Queue_is_round : FnScope ["self", "who", "met", "here", "other"] ["self", "who"] (defScope s_Queue_is_round) := ⟨rfl, rfl, rfl, by decide +kernel, rfl, by decide +kernel, by decide +kernel⟩
theorem ok_Queue_is_round (T : Txt K mg G f fd) : FnOk P w K mg base CX0 4 (f 13) (fd 13) ["self", "who"] (spQ G 2 r_Queue_is_round) :=
  fn_q T.d13.fn sc_Queue_is_round (by decide) fun cdv A outer s H E hr F hF => by
    have hK : K = F.G.K := by rw [hF]; exact T.gK
    have hu := hu4 hr
    have hu5 := hu65 hr
    have SC := sc_Queue_is_round
    have hu1 : _ := Nat.lt_of_le_of_lt (Nat.add_le_add_left (by decide : 1 ≤ 64) _) hu
    have c0 : Cls K (F.G.cl 0) := by rw [hF]; exact T.k0
    have a0_0 : NoAttr K (F.G.cl 0) "_conflicts" := by rw [hF]; exact T.a0_0
    have n0_0 : (F.G.nm 0)[0]? = some ("_conflicts" : Str) := by rw [hF, T.nm0]; rfl
    have a0_1 : NoAttr K (F.G.cl 0) "_held" := by rw [hF]; exact T.a0_1
    have n0_1 : (F.G.nm 0)[1]? = some ("_held" : Str) := by rw [hF, T.nm0]; rfl
    have a0_2 : NoAttr K (F.G.cl 0) "_line" := by rw [hF]; exact T.a0_2
    have n0_2 : (F.G.nm 0)[2]? = some ("_line" : Str) := by rw [hF, T.nm0]; rfl
    exact (sb_cons (ss_parKL (i := 2) (j := 3) rfl SC.nd rfl rfl (by decide) rfl rfl (sf_tolist hK T.z_list (sq_meth (ok_Queue_blockers T) hF (hr.mono (by decide)) c0 (by rw [hF]; exact T.m12) (by rw [hF, T.nm0]; decide) T.d12.bd (sq_v 0) (sa_cons (sq_v 1) sa_nil))) (by rfl))
    (sb_cons (ss_while 1000 [4] PassesOwn.never (st_v hK (sq_v 3)) (sb_cons (ss_popO (i := 3) (j := 4) hK SC.nd rfl (by first | exact Or.inl rfl | exact Or.inr rfl))
    (sb_cons (ss_if (st_cmp (ℓ₁ := .mo) (ℓ₂ := .mo) (o_eq hK hu) (sq_v 4) (sq_v 1) (by rfl) gEq_b) (sb_one (ss_ret (ℓ := .mo) (sq_bl (ℓ := .mo)))) sb_nil)
    (sb_one (ss_if (st_dnotin 2 (Nat.lt_of_le_of_lt (Nat.add_le_add_left (by decide : 1 ≤ 64) _) hu) (sq_v 4)) (sb_cons (ss_dput (i := 2) hu1 (sq_v 4) (sq_bl (ℓ := .st)))
    (sb_one (ss_extQ (i := 3) hK (sq_nl (ℓ := .st) (sq_meth (ok_Queue_blockers T) hF (hr.mono (by decide)) c0 (by rw [hF]; exact T.m12) (by rw [hF, T.nm0]; decide) T.d12.bd (sq_v 0) (sa_cons (sq_v 4) sa_nil)))))) sb_nil)))))
    (sb_one (ss_ret (ℓ := .mo) (sq_bl (ℓ := .mo))))))
theorem sc__law_mix : FnScope ["number"] ["number"] (defScope s__law_mix) := ⟨rfl, rfl, rfl, by decide +kernel, rfl, by decide +kernel, by decide +kernel⟩
theorem ok__law_mix (T : Txt K mg G f fd) : FnOk P w K mg base CX0 1 (f 14) (fd 14) ["number"] (spQ G 1 r__law_mix) :=
  fn_q T.d14.fn sc__law_mix (by decide) fun cdv A outer s H E hr F hF => by
    have hK : K = F.G.K := by rw [hF]; exact T.gK
    have hu := hu4 hr
    have hu5 := hu65 hr
    have SC := sc__law_mix
    have hu1 : _ := Nat.lt_of_le_of_lt (Nat.add_le_add_left (by decide : 1 ≤ 64) _) hu
    have c0 : Cls K (F.G.cl 0) := by rw [hF]; exact T.k0
    have a0_0 : NoAttr K (F.G.cl 0) "_conflicts" := by rw [hF]; exact T.a0_0
    have n0_0 : (F.G.nm 0)[0]? = some ("_conflicts" : Str) := by rw [hF, T.nm0]; rfl
    have a0_1 : NoAttr K (F.G.cl 0) "_held" := by rw [hF]; exact T.a0_1
    have n0_1 : (F.G.nm 0)[1]? = some ("_held" : Str) := by rw [hF, T.nm0]; rfl
    have a0_2 : NoAttr K (F.G.cl 0) "_line" := by rw [hF]; exact T.a0_2
    have n0_2 : (F.G.nm 0)[2]? = some ("_line" : Str) := by rw [hF, T.nm0]; rfl
    exact (sb_cons (ss_set (i := 0) SC.nd rfl (by first | exact Or.inl rfl | exact Or.inr rfl) (sq_bin (ℓ := .fs) (ℓ₁ := .mo) (ℓ₂ := .mo) o_mod (sq_toint (ℓ := .mo) T.z_int (sq_bin (ℓ := .mo) (ℓ₁ := .mo) (ℓ₂ := .mo) (o_add hK) (sq_bin (ℓ := .mo) (ℓ₁ := .mo) (ℓ₂ := .mo) (o_mulX hK) (sq_v 0) (sq_int (ℓ := .mo))) (sq_int (ℓ := .mo)))) (sq_int (ℓ := .mo))))
    (sb_one (ss_ret (ℓ := .mo) (sq_bin (ℓ := .mo) (ℓ₁ := .mo) (ℓ₂ := .mo) o_mod (sq_toint (ℓ := .mo) T.z_int (sq_bin (ℓ := .mo) (ℓ₁ := .mo) (ℓ₂ := .mo) (o_add hK) (sq_bin (ℓ := .mo) (ℓ₁ := .mo) (ℓ₂ := .mo) o_div (sq_bin (ℓ := .mo) (ℓ₁ := .mo) (ℓ₂ := .mo) (o_mulX hK) (sq_v 0) (sq_v 0)) (sq_int (ℓ := .mo))) (sq_bin (ℓ := .mo) (ℓ₁ := .mo) (ℓ₂ := .mo) (o_mulX hK) (sq_v 0) (sq_int (ℓ := .mo))))) (sq_int (ℓ := .mo))))))
theorem sc__law_tape : FnScope ["script"] ["script"] (defScope s__law_tape) := ⟨rfl, rfl, rfl, by decide +kernel, rfl, by decide +kernel, by decide +kernel⟩
theorem ok__law_tape (T : Txt K mg G f fd) : FnOk P w K mg base CX0 1 (f 15) (fd 15) ["script"] (spE G 1 r__law_tape) :=
  fn_e T.d15.fn sc__law_tape (by decide) fun cdv A outer s H E hr F hF hw => by
    have hK : K = F.G.K := by rw [hF]; exact T.gK
    have hu := hu4 hr
    have hu5 := hu65 hr
    have SC := sc__law_tape
    have hu1 : _ := Nat.lt_of_le_of_lt (Nat.add_le_add_left (by decide : 1 ≤ 64) _) hu
    have c0 : Cls K (F.G.cl 0) := by rw [hF]; exact T.k0
    have a0_0 : NoAttr K (F.G.cl 0) "_conflicts" := by rw [hF]; exact T.a0_0
    have n0_0 : (F.G.nm 0)[0]? = some ("_conflicts" : Str) := by rw [hF, T.nm0]; rfl
    have a0_1 : NoAttr K (F.G.cl 0) "_held" := by rw [hF]; exact T.a0_1
    have n0_1 : (F.G.nm 0)[1]? = some ("_held" : Str) := by rw [hF, T.nm0]; rfl
    have a0_2 : NoAttr K (F.G.cl 0) "_line" := by rw [hF]; exact T.a0_2
    have n0_2 : (F.G.nm 0)[2]? = some ("_line" : Str) := by rw [hF, T.nm0]; rfl
    exact (sb_one (ss_retE (ℓ := .st) (se_new hw (sas_cons (se_q (sq_lock (sf_tolist hK T.z_list (sq_f (sf_slice hK (sq_v 0) so_none (so_some (sq_int (ℓ := .mo)))))))) (sas_cons (se_q (sq_int (ℓ := .st))) (sas_cons (se_q (sq_int (ℓ := .st))) (sas_cons (se_q (sq_bin (ℓ := .st) (ℓ₁ := .st) (ℓ₂ := .st) (o_add hK) (sq_int (ℓ := .st)) (sq_len (ℓ := .st) hK T.z_len (sq_v 0)))) sas_nil)))))))
theorem sc__law_take : FnScope ["tape", "many", "cell", "digit"] ["tape", "many"] (defScope s__law_take) := ⟨rfl, rfl, rfl, by decide +kernel, rfl, by decide +kernel, by decide +kernel⟩
theorem ok__law_take (T : Txt K mg G f fd) : FnOk P w K mg base CX0 2 (f 16) (fd 16) ["tape", "many"] (spE G 2 r__law_take) :=
  fn_e T.d16.fn sc__law_take (by decide) fun cdv A outer s H E hr F hF hw => by
    have hK : K = F.G.K := by rw [hF]; exact T.gK
    have hu := hu4 hr
    have hu5 := hu65 hr
    have SC := sc__law_take
    have hu1 : _ := Nat.lt_of_le_of_lt (Nat.add_le_add_left (by decide : 1 ≤ 64) _) hu
    have c0 : Cls K (F.G.cl 0) := by rw [hF]; exact T.k0
    have a0_0 : NoAttr K (F.G.cl 0) "_conflicts" := by rw [hF]; exact T.a0_0
    have n0_0 : (F.G.nm 0)[0]? = some ("_conflicts" : Str) := by rw [hF, T.nm0]; rfl
    have a0_1 : NoAttr K (F.G.cl 0) "_held" := by rw [hF]; exact T.a0_1
    have n0_1 : (F.G.nm 0)[1]? = some ("_held" : Str) := by rw [hF, T.nm0]; rfl
    have a0_2 : NoAttr K (F.G.cl 0) "_line" := by rw [hF]; exact T.a0_2
    have n0_2 : (F.G.nm 0)[2]? = some ("_line" : Str) := by rw [hF, T.nm0]; rfl
    exact (sb_cons (ss_if (st_cmp (ℓ₁ := .mo) (ℓ₂ := .mo) o_lt (sq_sub hK (sq_v 0) (sq_int (ℓ := .mo))) (sq_v 1) (by rfl) gB0_b) (sb_one (ss_if (st_cmp (ℓ₁ := .mo) (ℓ₂ := .mo) o_lt (sq_sub hK (sq_v 0) (sq_int (ℓ := .mo))) (sq_len (ℓ := .mo) hK T.z_len (sq_sub hK (sq_v 0) (sq_int (ℓ := .mo)))) (by rfl) gB0_b) (sb_cons (ss_set (i := 2) SC.nd rfl (by first | exact Or.inl rfl | exact Or.inr rfl) (sq_nl (ℓ := .fs) (sq_sub hK (sq_sub hK (sq_v 0) (sq_int (ℓ := .mo))) (sq_sub hK (sq_v 0) (sq_int (ℓ := .mo))))))
    (sb_cons (ss_set (i := 2) SC.nd rfl (by first | exact Or.inl rfl | exact Or.inr rfl) (sq_if (st_cmp (ℓ₁ := .mo) (ℓ₂ := .mo) o_ge (sq_v 2) (sq_int (ℓ := .mo)) (by rfl) gB0_b) (sq_bin (ℓ := .fs) (ℓ₁ := .fs) (ℓ₂ := .mo) (o_mulX hK) (sq_int (ℓ := .fs)) (sq_v 2)) (sq_bin (ℓ := .fs) (ℓ₁ := .mo) (ℓ₂ := .mo) o_sub (sq_bin (ℓ := .mo) (ℓ₁ := .mo) (ℓ₂ := .mo) (o_mulX hK) (sq_neg (ℓ := .mo) (sq_int (ℓ := .mo))) (sq_v 2)) (sq_int (ℓ := .mo)))))
    (sb_cons (ss_put hw (se_q (sq_bin (ℓ := .st) (ℓ₁ := .st) (ℓ₂ := .st) (o_add hK) (sq_nl (ℓ := .st) (sq_sub hK (sq_v 0) (sq_int (ℓ := .mo)))) (sq_int (ℓ := .st)))) (sq_v 0) (sq_int (ℓ := .mo)))
    (sb_cons (ss_put hw (se_q (sq_nl (ℓ := .st) (sq_call (ok__law_mix T) hF (hr.mono (by decide)) T.d14.mg T.d14.fn.kp T.d14.bd (sa_cons (sq_bin (ℓ := .mo) (ℓ₁ := .mo) (ℓ₂ := .mo) (o_add hK) (sq_sub hK (sq_v 0) (sq_int (ℓ := .mo))) (sq_v 2)) sa_nil)))) (sq_v 0) (sq_int (ℓ := .mo)))
    (sb_one (ss_put hw (se_q (sq_if (st_cmp (ℓ₁ := .mo) (ℓ₂ := .mo) o_ge (sq_v 2) (sq_bin (ℓ := .mo) (ℓ₁ := .mo) (ℓ₂ := .mo) o_pow (sq_int (ℓ := .mo)) (sq_int (ℓ := .mo))) (by rfl) gB0_b) (sq_nl (ℓ := .st) (sq_v 2)) (sq_nl (ℓ := .st) (sq_call (ok__law_mix T) hF (hr.mono (by decide)) T.d14.mg T.d14.fn.kp T.d14.bd (sa_cons (sq_bin (ℓ := .mo) (ℓ₁ := .mo) (ℓ₂ := .mo) (o_add hK) (sq_call (ok__law_mix T) hF (hr.mono (by decide)) T.d14.mg T.d14.fn.kp T.d14.bd (sa_cons (sq_v 2) sa_nil)) (sq_sub hK (sq_v 0) (sq_int (ℓ := .mo)))) sa_nil))))) (sq_v 0) (sq_int (ℓ := .mo)))))))) (sb_cons (ss_put hw (se_q (sq_nl (ℓ := .st) (sq_call (ok__law_mix T) hF (hr.mono (by decide)) T.d14.mg T.d14.fn.kp T.d14.bd (sa_cons (sq_bin (ℓ := .mo) (ℓ₁ := .mo) (ℓ₂ := .mo) (o_add hK) (sq_sub hK (sq_v 0) (sq_int (ℓ := .mo))) (sq_int (ℓ := .mo))) sa_nil)))) (sq_v 0) (sq_int (ℓ := .mo)))
    (sb_one (ss_put hw (se_q (sq_nl (ℓ := .st) (sq_sub hK (sq_v 0) (sq_int (ℓ := .mo))))) (sq_v 0) (sq_int (ℓ := .mo))))))) sb_nil)
    (sb_cons (ss_set (i := 3) SC.nd rfl (by first | exact Or.inl rfl | exact Or.inr rfl) (sq_bin (ℓ := .fs) (ℓ₁ := .mo) (ℓ₂ := .mo) o_mod (sq_toint (ℓ := .mo) T.z_int (sq_sub hK (sq_v 0) (sq_int (ℓ := .mo)))) (sq_v 1)))
    (sb_cons (ss_put hw (se_q (sq_bin (ℓ := .st) (ℓ₁ := .mo) (ℓ₂ := .mo) o_div (sq_sub hK (sq_v 0) (sq_int (ℓ := .mo))) (sq_v 1))) (sq_v 0) (sq_int (ℓ := .mo)))
    (sb_one (ss_ret (ℓ := .mo) (sq_v 3))))))
theorem sc__law_same : FnScope ["a", "b", "k"] ["a", "b"] (defScope s__law_same) := ⟨rfl, rfl, rfl, by decide +kernel, rfl, by decide +kernel, by decide +kernel⟩
theorem okg__law_same (T : Txt K mg G f fd) : ∀ n, FnOk P w K mg base CX0 (1 + n) (f 17) (fd 17) ["a", "b"] (spQ G 2 (g__law_same n))
  | 0 => fn_q (m := fun _ _ => none) T.d17.fn sc__law_same (by decide) fun cdv A outer s H E hr F hF => ⟨fun pins s σ H D I ⟨_, _, _, _, _, _, _, e, _⟩ => by cases e⟩
  | n + 1 => fn_q T.d17.fn sc__law_same (by decide) fun cdv A outer s H E hr F hF => by
    have ih := okg__law_same T n
    have hr : Room (1 + n) _ := hr
    have hK : K = F.G.K := by rw [hF]; exact T.gK
    have hu := hu4 hr
    have hu5 := hu65 hr
    have SC := sc__law_same
    have hu1 : _ := Nat.lt_of_le_of_lt (Nat.add_le_add_left (by decide : 1 ≤ 64) _) hu
    have c0 : Cls K (F.G.cl 0) := by rw [hF]; exact T.k0
    have a0_0 : NoAttr K (F.G.cl 0) "_conflicts" := by rw [hF]; exact T.a0_0
    have n0_0 : (F.G.nm 0)[0]? = some ("_conflicts" : Str) := by rw [hF, T.nm0]; rfl
    have a0_1 : NoAttr K (F.G.cl 0) "_held" := by rw [hF]; exact T.a0_1
    have n0_1 : (F.G.nm 0)[1]? = some ("_held" : Str) := by rw [hF, T.nm0]; rfl
    have a0_2 : NoAttr K (F.G.cl 0) "_line" := by rw [hF]; exact T.a0_2
    have n0_2 : (F.G.nm 0)[2]? = some ("_line" : Str) := by rw [hF, T.nm0]; rfl
    exact (sb_cons (ss_if (PW.pt (sw_or (PW.pt (sw_and (st_v hK (sq_isi (ℓ := .mo) isi_tuple hK T.z_isinstance T.z_tuple (by decide +kernel) (sq_v 0))) (sw_and1 (st_v hK (sq_isi (ℓ := .mo) isi_tuple hK T.z_isinstance T.z_tuple (by decide +kernel) (sq_v 1)))))) (sw_or1 (PW.pt (sw_and (st_v hK (sq_isi (ℓ := .mo) isi_list hK T.z_isinstance T.z_list (by decide +kernel) (sq_v 0))) (sw_and1 (st_v hK (sq_isi (ℓ := .mo) isi_list hK T.z_isinstance T.z_list (by decide +kernel) (sq_v 1))))))))) (sb_one (ss_ret (ℓ := .mo) (sq_and (sq_cmp (ℓ := .mo) (ℓ₁ := .mo) (ℓ₂ := .mo) (o_eq hK hu) (sq_len (ℓ := .mo) hK T.z_len (sq_v 0)) (sq_len (ℓ := .mo) hK T.z_len (sq_v 1)) (by rfl)) (sq_one (sq_all (ℓ := .mo) hK rfl T.z_all (sq_f (sf_lc (own := [("k", 2)]) rfl SC.nd (si_rng T.z_range (sq_len (ℓ := .mo) hK T.z_len (sq_v 0))) (by kernel_rfl) (by decide) (fun _ _ _ _ _ => (sg_name (i := 2) SC.nd rfl (by first | exact Or.inl rfl | exact Or.inr rfl))) (fun _ _ _ _ _ => sts_nil) (fun _ _ _ _ _ => (sq_nl (ℓ := .st) (sq_call ih hF (hr.mono (by omega)) T.d17.mg T.d17.fn.kp T.d17.bd (sa_cons (sq_sub hK (sq_v 0) (sq_v 2)) (sa_cons (sq_sub hK (sq_v 1) (sq_v 2)) sa_nil)))))))))))) sb_nil)
    (sb_cons (ss_if (PW.pt (sw_or (st_v hK (sq_isi (ℓ := .mo) isi_bool hK T.z_isinstance T.z_bool (by decide +kernel) (sq_v 0))) (sw_or1 (st_v hK (sq_isi (ℓ := .mo) isi_bool hK T.z_isinstance T.z_bool (by decide +kernel) (sq_v 1)))))) (sb_one (ss_ret (ℓ := .mo) (sq_and (sq_isi (ℓ := .mo) isi_bool hK T.z_isinstance T.z_bool (by decide +kernel) (sq_v 0)) (sq_and (sq_isi (ℓ := .mo) isi_bool hK T.z_isinstance T.z_bool (by decide +kernel) (sq_v 1)) (sq_one (sq_cmp (ℓ := .mo) (ℓ₁ := .mo) (ℓ₂ := .mo) (o_eq hK hu) (sq_v 0) (sq_v 1) (by rfl))))))) sb_nil)
    (sb_cons (ss_if (PW.pt (sw_or (PW.pt (sw_and (st_v hK (sq_isi (ℓ := .mo) isi_int hK T.z_isinstance T.z_int (by decide +kernel) (sq_v 0))) (sw_and1 (st_v hK (sq_isi (ℓ := .mo) isi_int hK T.z_isinstance T.z_int (by decide +kernel) (sq_v 1)))))) (sw_or1 (PW.pt (sw_and (st_v hK (sq_isi (ℓ := .mo) isi_str hK T.z_isinstance T.z_str (by decide +kernel) (sq_v 0))) (sw_and1 (st_v hK (sq_isi (ℓ := .mo) isi_str hK T.z_isinstance T.z_str (by decide +kernel) (sq_v 1))))))))) (sb_one (ss_ret (ℓ := .mo) (sq_cmp (ℓ := .mo) (ℓ₁ := .mo) (ℓ₂ := .mo) (o_eq hK hu) (sq_v 0) (sq_v 1) (by rfl)))) sb_nil)
    (sb_one (ss_ret (ℓ := .mo) (sq_and (sq_isN (ℓ := .mo) (sq_v 0)) (sq_one (sq_isN (ℓ := .mo) (sq_v 1)))))))))
theorem ok__law_same (T : Txt K mg G f fd) : FnOk P w K mg base CX0 9 (f 17) (fd 17) ["a", "b"] (spQ G 2 (g__law_same 8)) := okg__law_same T 8
theorem sc__law_free : FnScope ["who", "what", "held", "line", "other", "told"] ["who", "what", "held", "line"] (defScope s__law_free) := ⟨rfl, rfl, rfl, by decide +kernel, rfl, by decide +kernel, by decide +kernel⟩
theorem ok__law_free (T : Txt K mg G f fd) : FnOk P w K mg base CX0 2 (f 18) (fd 18) ["who", "what", "held", "line"] (spQ G 4 r__law_free) :=
  fn_q T.d18.fn sc__law_free (by decide) fun cdv A outer s H E hr F hF => by
    have hK : K = F.G.K := by rw [hF]; exact T.gK
    have hu := hu4 hr
    have hu5 := hu65 hr
    have SC := sc__law_free
    have hu1 : _ := Nat.lt_of_le_of_lt (Nat.add_le_add_left (by decide : 1 ≤ 64) _) hu
    have c0 : Cls K (F.G.cl 0) := by rw [hF]; exact T.k0
    have a0_0 : NoAttr K (F.G.cl 0) "_conflicts" := by rw [hF]; exact T.a0_0
    have n0_0 : (F.G.nm 0)[0]? = some ("_conflicts" : Str) := by rw [hF, T.nm0]; rfl
    have a0_1 : NoAttr K (F.G.cl 0) "_held" := by rw [hF]; exact T.a0_1
    have n0_1 : (F.G.nm 0)[1]? = some ("_held" : Str) := by rw [hF, T.nm0]; rfl
    have a0_2 : NoAttr K (F.G.cl 0) "_line" := by rw [hF]; exact T.a0_2
    have n0_2 : (F.G.nm 0)[2]? = some ("_line" : Str) := by rw [hF, T.nm0]; rfl
    exact (sb_one (ss_ret (ℓ := .mo) (sq_not (ℓ := .mo) hK (sq_any (ℓ := .mo) hK rfl T.z_any (sq_f (sf_lc (own := [("other", 4), ("told", 5)]) rfl SC.nd (si_seqX hK (sq_f (sf_cat hK (sq_v 2) (sq_v 3)))) (by kernel_rfl) (by decide) (fun _ _ _ _ _ => (sg_tup hK rfl (sgs_cons (sg_name (i := 4) SC.nd rfl (by first | exact Or.inl rfl | exact Or.inr rfl)) (sgs_cons (sg_name (i := 5) SC.nd rfl (by first | exact Or.inl rfl | exact Or.inr rfl)) sgs_nil)))) (fun _ _ _ _ _ => sts_nil) (fun _ _ _ _ _ => (sq_and (sq_cmp (ℓ := .st) (ℓ₁ := .mo) (ℓ₂ := .mo) (o_ne hK hu) (sq_v 4) (sq_v 0) (by rfl)) (sq_one (sq_nl (ℓ := .st) (sq_call (ok__law_bars T) hF (hr.mono (by decide)) T.d1.mg T.d1.fn.kp T.d1.bd (sa_cons (sq_v 1) (sa_cons (sq_v 5) sa_nil)))))))))))))
theorem sc__law_given : FnScope ["held", "line", "left", "who", "what"] ["held", "line"] (defScope s__law_given) := ⟨rfl, rfl, rfl, by decide +kernel, rfl, by decide +kernel, by decide +kernel⟩
theorem ok__law_given (T : Txt K mg G f fd) : FnOk P w K mg base CX0 3 (f 19) (fd 19) ["held", "line"] (spZ G 2 r__law_given) :=
  fn_z T.d19.fn sc__law_given (by decide) fun cdv A outer s H E hr F hF => by
    have hK : K = F.G.K := by rw [hF]; exact T.gK
    have hu := hu4 hr
    have hu5 := hu65 hr
    have SC := sc__law_given
    have hu1 : _ := Nat.lt_of_le_of_lt (Nat.add_le_add_left (by decide : 1 ≤ 64) _) hu
    have c0 : Cls K (F.G.cl 0) := by rw [hF]; exact T.k0
    have a0_0 : NoAttr K (F.G.cl 0) "_conflicts" := by rw [hF]; exact T.a0_0
    have n0_0 : (F.G.nm 0)[0]? = some ("_conflicts" : Str) := by rw [hF, T.nm0]; rfl
    have a0_1 : NoAttr K (F.G.cl 0) "_held" := by rw [hF]; exact T.a0_1
    have n0_1 : (F.G.nm 0)[1]? = some ("_held" : Str) := by rw [hF, T.nm0]; rfl
    have a0_2 : NoAttr K (F.G.cl 0) "_line" := by rw [hF]; exact T.a0_2
    have n0_2 : (F.G.nm 0)[2]? = some ("_line" : Str) := by rw [hF, T.nm0]; rfl
    exact (sb_cons (ss_setZ (i := 2) SC.nd rfl (by first | exact Or.inl rfl | exact Or.inr rfl) (se_q (sq_lock (sf_lst sa_nil))))
    (sb_cons (ss_for [3, 4] PassesOwn.never rfl (si_seqT hK (sq_z (ℓ := .fs) 1)) (sg_tup hK rfl (sgs_cons (sg_name (i := 3) SC.nd rfl (by first | exact Or.inl rfl | exact Or.inr rfl)) (sgs_cons (sg_name (i := 4) SC.nd rfl (by first | exact Or.inl rfl | exact Or.inr rfl)) sgs_nil))) (sb_one (ss_if (st_v hK (sq_call (ok__law_free T) hF (hr.mono (by decide)) T.d18.mg T.d18.fn.kp T.d18.bd (sa_cons (sq_v 3) (sa_cons (sq_v 4) (sa_cons (sq_z (ℓ := .mo) 0) (sa_cons (sq_z (ℓ := .mo) 2) sa_nil)))))) (sb_one (ss_setZ (i := 0) SC.nd rfl (by first | exact Or.inl rfl | exact Or.inr rfl) (se_q (sq_lock (sf_cat hK (sq_z (ℓ := .mo) 0) (sq_f (sf_lst (sa_cons (sq_tup (sa_cons (sq_nl (ℓ := .st) (sq_v 3)) (sa_cons (sq_nl (ℓ := .st) (sq_v 4)) sa_nil))) sa_nil)))))))) (sb_one (ss_setZ (i := 2) SC.nd rfl (by first | exact Or.inl rfl | exact Or.inr rfl) (se_q (sq_lock (sf_cat hK (sq_z (ℓ := .mo) 2) (sq_f (sf_lst (sa_cons (sq_tup (sa_cons (sq_nl (ℓ := .st) (sq_v 3)) (sa_cons (sq_nl (ℓ := .st) (sq_v 4)) sa_nil))) sa_nil)))))))))))
    (sb_one (ss_ret (ℓ := .st) (sq_tup (sa_cons (sq_z (ℓ := .st) 0) (sa_cons (sq_z (ℓ := .st) 2) sa_nil)))))))
theorem sc__law_blockers : FnScope ["who", "held", "line", "found", "k", "other", "told"] ["who", "held", "line"] (defScope s__law_blockers) := ⟨rfl, rfl, rfl, by decide +kernel, rfl, by decide +kernel, by decide +kernel⟩
theorem ok__law_blockers (T : Txt K mg G f fd) : FnOk P w K mg base CX0 2 (f 20) (fd 20) ["who", "held", "line"] (spQ G 3 r__law_blockers) :=
  fn_q T.d20.fn sc__law_blockers (by decide) fun cdv A outer s H E hr F hF => by
    have hK : K = F.G.K := by rw [hF]; exact T.gK
    have hu := hu4 hr
    have hu5 := hu65 hr
    have SC := sc__law_blockers
    have hu1 : _ := Nat.lt_of_le_of_lt (Nat.add_le_add_left (by decide : 1 ≤ 64) _) hu
    have c0 : Cls K (F.G.cl 0) := by rw [hF]; exact T.k0
    have a0_0 : NoAttr K (F.G.cl 0) "_conflicts" := by rw [hF]; exact T.a0_0
    have n0_0 : (F.G.nm 0)[0]? = some ("_conflicts" : Str) := by rw [hF, T.nm0]; rfl
    have a0_1 : NoAttr K (F.G.cl 0) "_held" := by rw [hF]; exact T.a0_1
    have n0_1 : (F.G.nm 0)[1]? = some ("_held" : Str) := by rw [hF, T.nm0]; rfl
    have a0_2 : NoAttr K (F.G.cl 0) "_line" := by rw [hF]; exact T.a0_2
    have n0_2 : (F.G.nm 0)[2]? = some ("_line" : Str) := by rw [hF, T.nm0]; rfl
    exact (sb_cons (ss_setO (i := 3) SC.nd rfl (by first | exact Or.inl rfl | exact Or.inr rfl) (sf_lst sa_nil))
    (sb_cons (ss_for [4] PassesOwn.never rfl (si_rng T.z_range (sq_len (ℓ := .mo) hK T.z_len (sq_v 2))) (sg_name (i := 4) SC.nd rfl (by first | exact Or.inl rfl | exact Or.inr rfl)) (sb_one (ss_if (st_cmp (ℓ₁ := .mo) (ℓ₂ := .mo) (o_eq hK hu) (sq_sub hK (sq_sub hK (sq_v 2) (sq_v 4)) (sq_int (ℓ := .mo))) (sq_v 0) (by rfl) gEq_b) (sb_one (ss_ext (i := 3) hK (sef_f (sf_lc (own := [("other", 5), ("told", 6)]) rfl SC.nd (si_seqX hK (sq_f (sf_cat hK (sq_v 1) (sq_f (sf_slice hK (sq_v 2) so_none (so_some (sq_v 4))))))) (by kernel_rfl) (by decide) (fun _ _ _ _ _ => (sg_tup hK rfl (sgs_cons (sg_name (i := 5) SC.nd rfl (by first | exact Or.inl rfl | exact Or.inr rfl)) (sgs_cons (sg_name (i := 6) SC.nd rfl (by first | exact Or.inl rfl | exact Or.inr rfl)) sgs_nil)))) (fun _ _ _ _ _ => (sts_one (PW.pt (sw_and (st_cmp (ℓ₁ := .mo) (ℓ₂ := .mo) (o_ne hK hu) (sq_v 5) (sq_v 0) (by rfl) gNe_b) (sw_and1 (st_v hK (sq_call (ok__law_bars T) hF (hr.mono (by decide)) T.d1.mg T.d1.fn.kp T.d1.bd (sa_cons (sq_sub hK (sq_sub hK (sq_v 2) (sq_v 4)) (sq_int (ℓ := .mo))) (sa_cons (sq_v 6) sa_nil))))))))) (fun _ _ _ _ _ => (sq_nl (ℓ := .st) (sq_v 5))))))) sb_nil)))
    (sb_one (ss_ret (ℓ := .mo) (sq_totup hK T.z_tuple (sq_f (sf_sset hK rfl T.z_sorted T.z_set (sq_v 3))))))))
theorem sc__law_round : FnScope ["who", "held", "line", "met", "here", "other"] ["who", "held", "line"] (defScope s__law_round) := ⟨rfl, rfl, rfl, by decide +kernel, rfl, by decide +kernel, by decide +kernel⟩
theorem ok__law_round (T : Txt K mg G f fd) : FnOk P w K mg base CX0 3 (f 21) (fd 21) ["who", "held", "line"] (spQ G 3 r__law_round) :=
  fn_q T.d21.fn sc__law_round (by decide) fun cdv A outer s H E hr F hF => by
    have hK : K = F.G.K := by rw [hF]; exact T.gK
    have hu := hu4 hr
    have hu5 := hu65 hr
    have SC := sc__law_round
    have hu1 : _ := Nat.lt_of_le_of_lt (Nat.add_le_add_left (by decide : 1 ≤ 64) _) hu
    have c0 : Cls K (F.G.cl 0) := by rw [hF]; exact T.k0
    have a0_0 : NoAttr K (F.G.cl 0) "_conflicts" := by rw [hF]; exact T.a0_0
    have n0_0 : (F.G.nm 0)[0]? = some ("_conflicts" : Str) := by rw [hF, T.nm0]; rfl
    have a0_1 : NoAttr K (F.G.cl 0) "_held" := by rw [hF]; exact T.a0_1
    have n0_1 : (F.G.nm 0)[1]? = some ("_held" : Str) := by rw [hF, T.nm0]; rfl
    have a0_2 : NoAttr K (F.G.cl 0) "_line" := by rw [hF]; exact T.a0_2
    have n0_2 : (F.G.nm 0)[2]? = some ("_line" : Str) := by rw [hF, T.nm0]; rfl
    exact (sb_cons (ss_par2 (i := 3) (j := 4) rfl SC.nd rfl rfl (by decide) rfl rfl (sp_l (sef_f (sf_lst sa_nil)) (sp_l (sef_f (sf_tolist hK T.z_list (sq_call (ok__law_blockers T) hF (hr.mono (by decide)) T.d20.mg T.d20.fn.kp T.d20.bd (sa_cons (sq_v 0) (sa_cons (sq_v 1) (sa_cons (sq_v 2) sa_nil)))))) sp_nil)) (by rfl))
    (sb_cons (ss_while 1000 [5] PassesOwn.never (st_cmp (ℓ₁ := .mo) (ℓ₂ := .mo) (o_ne hK hu) (sq_v 4) (sq_f (sf_lst sa_nil)) (by rfl) gNe_b) (sb_cons (ss_popO (i := 4) (j := 5) hK SC.nd rfl (by first | exact Or.inl rfl | exact Or.inr rfl))
    (sb_cons (ss_if (st_cmp (ℓ₁ := .mo) (ℓ₂ := .mo) (o_eq hK hu) (sq_v 5) (sq_v 0) (by rfl) gEq_b) (sb_one (ss_ret (ℓ := .mo) (sq_bl (ℓ := .mo)))) sb_nil)
    (sb_one (ss_if (st_cmp (ℓ₁ := .mo) (ℓ₂ := .mo) (o_notin hK hu5) (sq_v 5) (sq_v 3) (by rfl) gIn_b) (sb_cons (ss_app (i := 3) hK (se_q (sq_nl (ℓ := .st) (sq_v 5))))
    (sb_one (ss_ext (i := 4) hK (sef_f (sf_tolist hK T.z_list (sq_call (ok__law_blockers T) hF (hr.mono (by decide)) T.d20.mg T.d20.fn.kp T.d20.bd (sa_cons (sq_v 5) (sa_cons (sq_v 1) (sa_cons (sq_v 2) sa_nil))))))))) sb_nil)))))
    (sb_one (ss_ret (ℓ := .mo) (sq_bl (ℓ := .mo))))))
theorem sc_law : FnScope ["script", "tape", "queue", "told", "turn", "held", "line", "step", "who", "what", "pick", "free", "mine", "row", "one", "due", "k", "other"] ["script"] (defScope s_law) := ⟨rfl, rfl, rfl, by decide +kernel, rfl, by decide +kernel, by decide +kernel⟩
theorem ok_law (T : Txt K mg G f fd) : FnOk P w K mg base CX0 10 (f 22) (fd 22) ["script"] (spE G 1 r_law) :=
  fn_e T.d22.fn sc_law (by decide) fun cdv A outer s H E hr F hF hw => by
    have hK : K = F.G.K := by rw [hF]; exact T.gK
    have hu := hu4 hr
    have hu5 := hu65 hr
    have SC := sc_law
    have hu1 : _ := Nat.lt_of_le_of_lt (Nat.add_le_add_left (by decide : 1 ≤ 64) _) hu
    have c0 : Cls K (F.G.cl 0) := by rw [hF]; exact T.k0
    have a0_0 : NoAttr K (F.G.cl 0) "_conflicts" := by rw [hF]; exact T.a0_0
    have n0_0 : (F.G.nm 0)[0]? = some ("_conflicts" : Str) := by rw [hF, T.nm0]; rfl
    have a0_1 : NoAttr K (F.G.cl 0) "_held" := by rw [hF]; exact T.a0_1
    have n0_1 : (F.G.nm 0)[1]? = some ("_held" : Str) := by rw [hF, T.nm0]; rfl
    have a0_2 : NoAttr K (F.G.cl 0) "_line" := by rw [hF]; exact T.a0_2
    have n0_2 : (F.G.nm 0)[2]? = some ("_line" : Str) := by rw [hF, T.nm0]; rfl
    exact (sb_cons (ss_setE (i := 1) SC.nd rfl (by first | exact Or.inl rfl | exact Or.inr rfl) (se_fs (se_call (ok__law_tape T) hF hw (hr.mono (by decide)) T.d15.mg T.d15.fn.kp T.d15.bd (sea_cons (se_q (sq_vs 0)) sea_nil))))
    (sb_cons (ss_setE (i := 2) SC.nd rfl (by first | exact Or.inl rfl | exact Or.inr rfl) (se_make (ℓ := .fs) (c := 0) (ok_Queue___init__ T) hF hw (hr.mono (by decide)) (by rw [hF]; exact T.mk0) (by rw [hF]; exact T.g0) (by rw [hF, T.nm0]; rfl) T.d0.bd (sea_cons (se_q (sq_fnv (ℓ := .fs) (kk := 0) T.d1.mg (by rw [hF]; exact T.fn0))) sea_nil)))
    (sb_cons (ss_setOE (i := 3) SC.nd rfl (by first | exact Or.inl rfl | exact Or.inr rfl) (sef_lst (sea_cons (se_fs (se_meth (ok_Queue_ask T) hF hw (hr.mono (by decide)) c0 (by rw [hF]; exact T.m4) (by rw [hF, T.nm0]; decide) T.d4.bd (sq_v 2) (sea_cons (se_q (sq_int (ℓ := .fs))) (sea_cons (se_q (sq_tup (sa_cons (sq_int (ℓ := .fs)) (sa_cons (sq_str (ℓ := .fs)) sa_nil)))) sea_nil)))) (sea_cons (se_fs (se_meth (ok_Queue_ask T) hF hw (hr.mono (by decide)) c0 (by rw [hF]; exact T.m4) (by rw [hF, T.nm0]; decide) T.d4.bd (sq_v 2) (sea_cons (se_q (sq_int (ℓ := .fs))) (sea_cons (se_q (sq_tup (sa_cons (sq_int (ℓ := .fs)) (sa_cons (sq_str (ℓ := .fs)) sa_nil)))) sea_nil)))) (sea_cons (se_fs (se_meth (ok_Queue_ask T) hF hw (hr.mono (by decide)) c0 (by rw [hF]; exact T.m4) (by rw [hF, T.nm0]; decide) T.d4.bd (sq_v 2) (sea_cons (se_q (sq_int (ℓ := .fs))) (sea_cons (se_q (sq_tup (sa_cons (sq_int (ℓ := .fs)) (sa_cons (sq_str (ℓ := .fs)) sa_nil)))) sea_nil)))) (sea_cons (se_fs (se_meth (ok_Queue_ask T) hF hw (hr.mono (by decide)) c0 (by rw [hF]; exact T.m4) (by rw [hF, T.nm0]; decide) T.d4.bd (sq_v 2) (sea_cons (se_q (sq_int (ℓ := .fs))) (sea_cons (se_q (sq_tup (sa_cons (sq_int (ℓ := .fs)) (sa_cons (sq_str (ℓ := .fs)) sa_nil)))) sea_nil)))) (sea_cons (se_fs (se_meth (ok_Queue_ask T) hF hw (hr.mono (by decide)) c0 (by rw [hF]; exact T.m4) (by rw [hF, T.nm0]; decide) T.d4.bd (sq_v 2) (sea_cons (se_q (sq_int (ℓ := .fs))) (sea_cons (se_q (sq_tup (sa_cons (sq_int (ℓ := .fs)) (sa_cons (sq_str (ℓ := .fs)) sa_nil)))) sea_nil)))) sea_nil)))))))
    (sb_cons (ss_if (PW.pt (sw_or (st_cmp (ℓ₁ := .mo) (ℓ₂ := .mo) (o_ne hK hu) (sq_v 3) (sq_f (sf_lst (sa_cons (sq_bl (ℓ := .st)) (sa_cons (sq_bl (ℓ := .st)) (sa_cons (sq_bl (ℓ := .st)) (sa_cons (sq_bl (ℓ := .st)) (sa_cons (sq_bl (ℓ := .st)) sa_nil))))))) (by rfl) gNe_b) (sw_or (st_cmp (ℓ₁ := .mo) (ℓ₂ := .mo) (o_ne hK hu) (sq_meth0 (ok_Queue_waiting T) hF (hr.mono (by decide)) c0 (by rw [hF]; exact T.m11) (by rw [hF, T.nm0]; decide) T.d11.bd (sq_v 2)) (sq_tup (sa_cons (sq_tup (sa_cons (sq_int (ℓ := .mo)) (sa_cons (sq_tup (sa_cons (sq_int (ℓ := .mo)) (sa_cons (sq_str (ℓ := .mo)) sa_nil))) sa_nil))) (sa_cons (sq_tup (sa_cons (sq_int (ℓ := .mo)) (sa_cons (sq_tup (sa_cons (sq_int (ℓ := .mo)) (sa_cons (sq_str (ℓ := .mo)) sa_nil))) sa_nil))) sa_nil))) (by rfl) gNe_b) (sw_or (st_cmp (ℓ₁ := .mo) (ℓ₂ := .mo) (o_ne hK hu) (sq_meth (ok_Queue_blockers T) hF (hr.mono (by decide)) c0 (by rw [hF]; exact T.m12) (by rw [hF, T.nm0]; decide) T.d12.bd (sq_v 2) (sa_cons (sq_int (ℓ := .mo)) sa_nil)) (sq_tup (sa_cons (sq_int (ℓ := .mo)) sa_nil)) (by rfl) gNe_b) (sw_or1 (st_cmp (ℓ₁ := .mo) (ℓ₂ := .mo) (o_ne hK hu) (sq_meth (ok_Queue_blockers T) hF (hr.mono (by decide)) c0 (by rw [hF]; exact T.m12) (by rw [hF, T.nm0]; decide) T.d12.bd (sq_v 2) (sa_cons (sq_int (ℓ := .mo)) sa_nil)) (sq_tup (sa_cons (sq_int (ℓ := .mo)) (sa_cons (sq_int (ℓ := .mo)) sa_nil))) (by rfl) gNe_b)))))) (sb_one (ss_ret (ℓ := .mo) (sq_bl (ℓ := .mo)))) sb_nil)
    (sb_cons (ss_exprE (se_meth (ok_Queue_drop T) hF hw (hr.mono (by decide)) c0 (by rw [hF]; exact T.m6) (by rw [hF, T.nm0]; decide) T.d6.bd (sq_v 2) (sea_cons (se_q (sq_int (ℓ := .fs))) (sea_cons (se_q (sq_tup (sa_cons (sq_int (ℓ := .fs)) (sa_cons (sq_str (ℓ := .fs)) sa_nil)))) sea_nil))))
    (sb_cons (ss_exprE (se_meth (ok_Queue_drop T) hF hw (hr.mono (by decide)) c0 (by rw [hF]; exact T.m6) (by rw [hF, T.nm0]; decide) T.d6.bd (sq_v 2) (sea_cons (se_q (sq_int (ℓ := .fs))) (sea_cons (se_q (sq_tup (sa_cons (sq_int (ℓ := .fs)) (sa_cons (sq_str (ℓ := .fs)) sa_nil)))) sea_nil))))
    (sb_cons (ss_ifE (PW.pt (swe_or (ste_t (st_cmp (ℓ₁ := .mo) (ℓ₂ := .mo) (o_ne hK hu) (sq_meth0 (ok_Queue_holders T) hF (hr.mono (by decide)) c0 (by rw [hF]; exact T.m10) (by rw [hF, T.nm0]; decide) T.d10.bd (sq_v 2)) (sq_tup (sa_cons (sq_tup (sa_cons (sq_int (ℓ := .mo)) (sa_cons (sq_tup (sa_cons (sq_int (ℓ := .mo)) (sa_cons (sq_str (ℓ := .mo)) sa_nil))) sa_nil))) sa_nil)) (by rfl) gNe_b)) (swe_or (ste_cmp o_noB (se_fs (se_meth (ok_Queue_ask T) hF hw (hr.mono (by decide)) c0 (by rw [hF]; exact T.m4) (by rw [hF, T.nm0]; decide) T.d4.bd (sq_v 2) (sea_cons (se_q (sq_int (ℓ := .fs))) (sea_cons (se_q (sq_tup (sa_cons (sq_int (ℓ := .fs)) (sa_cons (sq_str (ℓ := .fs)) sa_nil)))) sea_nil)))) (se_q (sq_bl (ℓ := .fs))) (by rfl) gIsB_b) (swe_o1 (ste_t (st_cmp (ℓ₁ := .mo) (ℓ₂ := .mo) (o_ne hK hu) (sq_meth (ok_Queue_held T) hF (hr.mono (by decide)) c0 (by rw [hF]; exact T.m9) (by rw [hF, T.nm0]; decide) T.d9.bd (sq_v 2) (sa_cons (sq_int (ℓ := .mo)) sa_nil)) (sq_tup sa_nil) (by rfl) gNe_b)))))) (sb_one (ss_ret (ℓ := .mo) (sq_bl (ℓ := .mo)))) sb_nil)
    (sb_cons (ss_setE (i := 2) SC.nd rfl (by first | exact Or.inl rfl | exact Or.inr rfl) (se_make (ℓ := .fs) (c := 0) (ok_Queue___init__ T) hF hw (hr.mono (by decide)) (by rw [hF]; exact T.mk0) (by rw [hF]; exact T.g0) (by rw [hF, T.nm0]; rfl) T.d0.bd (sea_cons (se_q (sq_fnv (ℓ := .fs) (kk := 0) T.d1.mg (by rw [hF]; exact T.fn0))) sea_nil)))
    (sb_cons (ss_ifE (ste_cmp (BinS.fs (o_ne hK hu)) (se_fs (se_lock (sef_lst (sea_cons (se_fs (se_meth (ok_Queue_ask T) hF hw (hr.mono (by decide)) c0 (by rw [hF]; exact T.m4) (by rw [hF, T.nm0]; decide) T.d4.bd (sq_v 2) (sea_cons (se_q (sq_int (ℓ := .fs))) (sea_cons (se_q (sq_tup (sa_cons (sq_int (ℓ := .fs)) (sa_cons (sq_str (ℓ := .fs)) sa_nil)))) sea_nil)))) (sea_cons (se_fs (se_meth (ok_Queue_ask T) hF hw (hr.mono (by decide)) c0 (by rw [hF]; exact T.m4) (by rw [hF, T.nm0]; decide) T.d4.bd (sq_v 2) (sea_cons (se_q (sq_int (ℓ := .fs))) (sea_cons (se_q (sq_tup (sa_cons (sq_int (ℓ := .fs)) (sa_cons (sq_str (ℓ := .fs)) sa_nil)))) sea_nil)))) (sea_cons (se_fs (se_meth (ok_Queue_ask T) hF hw (hr.mono (by decide)) c0 (by rw [hF]; exact T.m4) (by rw [hF, T.nm0]; decide) T.d4.bd (sq_v 2) (sea_cons (se_q (sq_int (ℓ := .fs))) (sea_cons (se_q (sq_tup (sa_cons (sq_int (ℓ := .fs)) (sa_cons (sq_str (ℓ := .fs)) sa_nil)))) sea_nil)))) sea_nil)))))) (se_q (sq_st (ℓ := .fs) (sq_lock (sf_lst (sa_cons (sq_bl (ℓ := .st)) (sa_cons (sq_bl (ℓ := .st)) (sa_cons (sq_bl (ℓ := .st)) sa_nil))))))) (by rfl) gNe_b) (sb_one (ss_ret (ℓ := .mo) (sq_bl (ℓ := .mo)))) sb_nil)
    (sb_cons (ss_ifE (PW.pt (swe_or (ste_t (st_cmp (ℓ₁ := .mo) (ℓ₂ := .mo) o_noB (sq_meth (ok_Queue_is_round T) hF (hr.mono (by decide)) c0 (by rw [hF]; exact T.m13) (by rw [hF, T.nm0]; decide) T.d13.bd (sq_v 2) (sa_cons (sq_int (ℓ := .mo)) sa_nil)) (sq_bl (ℓ := .mo)) (by rfl) gIsB_b)) (swe_or (ste_cmp o_noB (se_fs (se_meth (ok_Queue_ask T) hF hw (hr.mono (by decide)) c0 (by rw [hF]; exact T.m4) (by rw [hF, T.nm0]; decide) T.d4.bd (sq_v 2) (sea_cons (se_q (sq_int (ℓ := .fs))) (sea_cons (se_q (sq_tup (sa_cons (sq_int (ℓ := .fs)) (sa_cons (sq_str (ℓ := .fs)) sa_nil)))) sea_nil)))) (se_q (sq_bl (ℓ := .fs))) (by rfl) gIsB_b) (swe_o1 (ste_t (st_cmp (ℓ₁ := .mo) (ℓ₂ := .mo) o_noB (sq_meth (ok_Queue_is_round T) hF (hr.mono (by decide)) c0 (by rw [hF]; exact T.m13) (by rw [hF, T.nm0]; decide) T.d13.bd (sq_v 2) (sa_cons (sq_int (ℓ := .mo)) sa_nil)) (sq_bl (ℓ := .mo)) (by rfl) gIsB_b)))))) (sb_one (ss_ret (ℓ := .mo) (sq_bl (ℓ := .mo)))) sb_nil)
    (sb_cons (ss_for [4, 5, 6, 7] PassesOwn.never rfl (si_rng T.z_range (sq_int (ℓ := .mo))) (sg_name (i := 4) SC.nd rfl (by first | exact Or.inl rfl | exact Or.inr rfl)) (sb_cons (ss_asgVZZ (i := 2) (j := 5) (l := 6) hK rfl SC.nd rfl rfl rfl (by first | exact Or.inl rfl | exact Or.inr rfl) (by first | exact Or.inl rfl | exact Or.inr rfl) (by first | exact Or.inl rfl | exact Or.inr rfl) (se_make (ℓ := .fs) (c := 0) (ok_Queue___init__ T) hF hw (hr.mono (by decide)) (by rw [hF]; exact T.mk0) (by rw [hF]; exact T.g0) (by rw [hF, T.nm0]; rfl) T.d0.bd (sea_cons (se_q (sq_fnv (ℓ := .fs) (kk := 0) T.d1.mg (by rw [hF]; exact T.fn0))) sea_nil)) (sq_lock (sf_lst sa_nil)) (sq_lock (sf_lst sa_nil)))
    (sb_one (ss_for [7, 8, 9, 10, 16] PassesOwn.never rfl (si_rng T.z_range (sq_int (ℓ := .mo))) (sg_name (i := 7) SC.nd rfl (by first | exact Or.inl rfl | exact Or.inr rfl)) (sb_cons (ss_asgE (se_tup (sea_cons (se_fs (se_call (ok__law_take T) hF hw (hr.mono (by decide)) T.d16.mg T.d16.fn.kp T.d16.bd (sea_cons (se_q (sq_vs 1)) (sea_cons (se_q (sq_int (ℓ := .fs))) sea_nil)))) (sea_cons (se_tup (sea_cons (se_fs (se_call (ok__law_take T) hF hw (hr.mono (by decide)) T.d16.mg T.d16.fn.kp T.d16.bd (sea_cons (se_q (sq_vs 1)) (sea_cons (se_q (sq_int (ℓ := .fs))) sea_nil)))) (sea_cons (se_sub hK (se_q (sq_st (ℓ := .fs) (sq_lock (sf_lst (sa_cons (sq_str (ℓ := .st)) (sa_cons (sq_str (ℓ := .st)) sa_nil)))))) (se_fs (se_call (ok__law_take T) hF hw (hr.mono (by decide)) T.d16.mg T.d16.fn.kp T.d16.bd (sea_cons (se_q (sq_vs 1)) (sea_cons (se_q (sq_int (ℓ := .fs))) sea_nil))))) sea_nil))) (sea_cons (se_fs (se_call (ok__law_take T) hF hw (hr.mono (by decide)) T.d16.mg T.d16.fn.kp T.d16.bd (sea_cons (se_q (sq_vs 1)) (sea_cons (se_q (sq_int (ℓ := .fs))) sea_nil)))) sea_nil)))) (sg_tup hK rfl (sgs_cons (sg_name (i := 8) SC.nd rfl (by first | exact Or.inl rfl | exact Or.inr rfl)) (sgs_cons (sg_name (i := 9) SC.nd rfl (by first | exact Or.inl rfl | exact Or.inr rfl)) (sgs_cons (sg_name (i := 10) SC.nd rfl (by first | exact Or.inl rfl | exact Or.inr rfl)) sgs_nil)))))
    (sb_cons (ss_if (st_cmp (ℓ₁ := .mo) (ℓ₂ := .mo) o_lt (sq_v 10) (sq_int (ℓ := .mo)) (by rfl) gB0_b) (sb_cons (ss_if (st_cmp (ℓ₁ := .mo) (ℓ₂ := .mo) (o_notin hK hu5) (sq_tup (sa_cons (sq_v 8) (sa_cons (sq_v 9) sa_nil))) (sq_f (sf_cat hK (sq_z (ℓ := .mo) 5) (sq_z (ℓ := .mo) 6))) (by rfl) gIn_b) (sb_cons (ss_set (i := 11) SC.nd rfl (by first | exact Or.inl rfl | exact Or.inr rfl) (sq_nl (ℓ := .fs) (sq_call (ok__law_free T) hF (hr.mono (by decide)) T.d18.mg T.d18.fn.kp T.d18.bd (sa_cons (sq_v 8) (sa_cons (sq_v 9) (sa_cons (sq_z (ℓ := .mo) 5) (sa_cons (sq_z (ℓ := .mo) 6) sa_nil)))))))
    (sb_one (ss_asgZ2 (i := 5) (j := 6) hK rfl SC.nd rfl rfl (by first | exact Or.inl rfl | exact Or.inr rfl) (by first | exact Or.inl rfl | exact Or.inr rfl) (sq_tup (sa_cons (sq_lock (sf_cat hK (sq_z (ℓ := .mo) 5) (sq_f (sf_if (st_v hK (sq_v 11)) (sf_lst (sa_cons (sq_tup (sa_cons (sq_nl (ℓ := .st) (sq_v 8)) (sa_cons (sq_nl (ℓ := .st) (sq_v 9)) sa_nil))) sa_nil)) (sf_lst sa_nil))))) (sa_cons (sq_lock (sf_cat hK (sq_z (ℓ := .mo) 6) (sq_f (sf_if (st_v hK (sq_v 11)) (sf_lst sa_nil) (sf_lst (sa_cons (sq_tup (sa_cons (sq_nl (ℓ := .st) (sq_v 8)) (sa_cons (sq_nl (ℓ := .st) (sq_v 9)) sa_nil))) sa_nil)))))) sa_nil)))))) sb_nil)
    (sb_one (ss_ifE (ste_not (ste_v hK (se_callQ (ℓ := .fs) (ok__law_same T) hF (hr.mono (by decide)) T.d17.mg T.d17.fn.kp T.d17.bd (sea_cons (se_fs (se_meth (ok_Queue_ask T) hF hw (hr.mono (by decide)) c0 (by rw [hF]; exact T.m4) (by rw [hF, T.nm0]; decide) T.d4.bd (sq_v 2) (sea_cons (se_q (sq_vs 8)) (sea_cons (se_q (sq_vs 9)) sea_nil)))) (sea_cons (se_q (sq_cmp (ℓ := .fs) (ℓ₁ := .mo) (ℓ₂ := .mo) (o_in hK hu5) (sq_tup (sa_cons (sq_v 8) (sa_cons (sq_v 9) sa_nil))) (sq_z (ℓ := .mo) 5) (by rfl))) sea_nil))))) (sb_one (ss_ret (ℓ := .mo) (sq_bl (ℓ := .mo)))) sb_nil))) (sb_one (ss_if (st_cmp (ℓ₁ := .mo) (ℓ₂ := .mo) o_lt (sq_v 10) (sq_int (ℓ := .mo)) (by rfl) gB0_b) (sb_cons (ss_setLc (i := 12) (own := [("row", 13)]) SC.nd rfl rfl rfl (si_seqX hK (sq_z (ℓ := .mo) 5)) (by kernel_rfl) (by decide) (fun _ _ _ _ _ => (sg_name (i := 13) SC.nd rfl (by first | exact Or.inl rfl | exact Or.inr rfl))) (fun _ _ _ _ _ => (sts_one (st_cmp (ℓ₁ := .mo) (ℓ₂ := .mo) (o_eq hK hu) (sq_sub hK (sq_v 13) (sq_int (ℓ := .mo))) (sq_v 8) (by rfl) gEq_b))) (fun _ _ _ _ _ => (sq_nl (ℓ := .st) (sq_v 13))))
    (sb_hold 12 (sb_cons (ss_setE (i := 13) SC.nd rfl (by first | exact Or.inl rfl | exact Or.inr rfl) (se_if (ste_t (st_cmp (ℓ₁ := .mo) (ℓ₂ := .mo) (o_ne hK hu) (sq_v 12) (sq_f (sf_lst sa_nil)) (by rfl) gNe_b)) (se_sub hK (se_q (sq_vs 12)) (se_fs (se_call (ok__law_take T) hF hw (hr.mono (by decide)) T.d16.mg T.d16.fn.kp T.d16.bd (sea_cons (se_q (sq_vs 1)) (sea_cons (se_q (sq_len (ℓ := .fs) hK T.z_len (sq_v 12))) sea_nil))))) (se_q (sq_tup (sa_cons (sq_vs 8) (sa_cons (sq_vs 9) sa_nil))))))
    (sb_cons (ss_exprE (se_meth (ok_Queue_drop T) hF hw (hr.mono (by decide)) c0 (by rw [hF]; exact T.m6) (by rw [hF, T.nm0]; decide) T.d6.bd (sq_v 2) (sea_cons (se_q (sq_nl (ℓ := .fs) (sq_sub hK (sq_v 13) (sq_int (ℓ := .mo))))) (sea_cons (se_q (sq_nl (ℓ := .fs) (sq_sub hK (sq_v 13) (sq_int (ℓ := .mo))))) sea_nil))))
    (sb_one (ss_asgZ2 (i := 5) (j := 6) hK rfl SC.nd rfl rfl (by first | exact Or.inl rfl | exact Or.inr rfl) (by first | exact Or.inl rfl | exact Or.inr rfl) (sq_callZ (ok__law_given T) hF (hr.mono (by decide)) T.d19.mg T.d19.fn.kp T.d19.bd (sa_cons (sq_lock (sf_lc (own := [("one", 14)]) rfl SC.nd (si_seqX hK (sq_z (ℓ := .mo) 5)) (by kernel_rfl) (by decide) (fun _ _ _ _ _ => (sg_name (i := 14) SC.nd rfl (by first | exact Or.inl rfl | exact Or.inr rfl))) (fun _ _ _ _ _ => (sts_one (st_cmp (ℓ₁ := .mo) (ℓ₂ := .mo) (o_ne hK hu) (sq_v 14) (sq_v 13) (by rfl) gNe_b))) (fun _ _ _ _ _ => (sq_nl (ℓ := .st) (sq_v 14))))) (sa_cons (sq_z (ℓ := .st) 6) sa_nil))))))))) (sb_one (ss_if (st_cmp (ℓ₁ := .mo) (ℓ₂ := .mo) (o_eq hK hu) (sq_v 10) (sq_int (ℓ := .mo)) (by rfl) gEq_b) (sb_cons (ss_setLc (i := 12) (own := [("row", 13)]) SC.nd rfl rfl rfl (si_seqX hK (sq_z (ℓ := .mo) 6)) (by kernel_rfl) (by decide) (fun _ _ _ _ _ => (sg_name (i := 13) SC.nd rfl (by first | exact Or.inl rfl | exact Or.inr rfl))) (fun _ _ _ _ _ => (sts_one (st_cmp (ℓ₁ := .mo) (ℓ₂ := .mo) (o_eq hK hu) (sq_sub hK (sq_v 13) (sq_int (ℓ := .mo))) (sq_v 8) (by rfl) gEq_b))) (fun _ _ _ _ _ => (sq_nl (ℓ := .st) (sq_v 13))))
    (sb_hold 12 (sb_cons (ss_setE (i := 13) SC.nd rfl (by first | exact Or.inl rfl | exact Or.inr rfl) (se_if (ste_t (st_cmp (ℓ₁ := .mo) (ℓ₂ := .mo) (o_ne hK hu) (sq_v 12) (sq_f (sf_lst sa_nil)) (by rfl) gNe_b)) (se_sub hK (se_q (sq_vs 12)) (se_fs (se_call (ok__law_take T) hF hw (hr.mono (by decide)) T.d16.mg T.d16.fn.kp T.d16.bd (sea_cons (se_q (sq_vs 1)) (sea_cons (se_q (sq_len (ℓ := .fs) hK T.z_len (sq_v 12))) sea_nil))))) (se_q (sq_tup (sa_cons (sq_vs 8) (sa_cons (sq_vs 9) sa_nil))))))
    (sb_cons (ss_exprE (se_meth (ok_Queue_leave T) hF hw (hr.mono (by decide)) c0 (by rw [hF]; exact T.m7) (by rw [hF, T.nm0]; decide) T.d7.bd (sq_v 2) (sea_cons (se_q (sq_nl (ℓ := .fs) (sq_sub hK (sq_v 13) (sq_int (ℓ := .mo))))) (sea_cons (se_q (sq_nl (ℓ := .fs) (sq_sub hK (sq_v 13) (sq_int (ℓ := .mo))))) sea_nil))))
    (sb_one (ss_asgZ2 (i := 5) (j := 6) hK rfl SC.nd rfl rfl (by first | exact Or.inl rfl | exact Or.inr rfl) (by first | exact Or.inl rfl | exact Or.inr rfl) (sq_callZ (ok__law_given T) hF (hr.mono (by decide)) T.d19.mg T.d19.fn.kp T.d19.bd (sa_cons (sq_z (ℓ := .st) 5) (sa_cons (sq_lock (sf_lc (own := [("one", 14)]) rfl SC.nd (si_seqX hK (sq_z (ℓ := .mo) 6)) (by kernel_rfl) (by decide) (fun _ _ _ _ _ => (sg_name (i := 14) SC.nd rfl (by first | exact Or.inl rfl | exact Or.inr rfl))) (fun _ _ _ _ _ => (sts_one (st_cmp (ℓ₁ := .mo) (ℓ₂ := .mo) (o_ne hK hu) (sq_v 14) (sq_v 13) (by rfl) gNe_b))) (fun _ _ _ _ _ => (sq_nl (ℓ := .st) (sq_v 14))))) sa_nil))))))))) (sb_cons (ss_exprE (se_meth (ok_Queue_drop_all T) hF hw (hr.mono (by decide)) c0 (by rw [hF]; exact T.m8) (by rw [hF, T.nm0]; decide) T.d8.bd (sq_v 2) (sea_cons (se_q (sq_vs 8)) sea_nil)))
    (sb_one (ss_asgZ2 (i := 5) (j := 6) hK rfl SC.nd rfl rfl (by first | exact Or.inl rfl | exact Or.inr rfl) (by first | exact Or.inl rfl | exact Or.inr rfl) (sq_callZ (ok__law_given T) hF (hr.mono (by decide)) T.d19.mg T.d19.fn.kp T.d19.bd (sa_cons (sq_lock (sf_lc (own := [("one", 14)]) rfl SC.nd (si_seqX hK (sq_z (ℓ := .mo) 5)) (by kernel_rfl) (by decide) (fun _ _ _ _ _ => (sg_name (i := 14) SC.nd rfl (by first | exact Or.inl rfl | exact Or.inr rfl))) (fun _ _ _ _ _ => (sts_one (st_cmp (ℓ₁ := .mo) (ℓ₂ := .mo) (o_ne hK hu) (sq_sub hK (sq_v 14) (sq_int (ℓ := .mo))) (sq_v 8) (by rfl) gNe_b))) (fun _ _ _ _ _ => (sq_nl (ℓ := .st) (sq_v 14))))) (sa_cons (sq_lock (sf_lc (own := [("one", 14)]) rfl SC.nd (si_seqX hK (sq_z (ℓ := .mo) 6)) (by kernel_rfl) (by decide) (fun _ _ _ _ _ => (sg_name (i := 14) SC.nd rfl (by first | exact Or.inl rfl | exact Or.inr rfl))) (fun _ _ _ _ _ => (sts_one (st_cmp (ℓ₁ := .mo) (ℓ₂ := .mo) (o_ne hK hu) (sq_sub hK (sq_v 14) (sq_int (ℓ := .mo))) (sq_v 8) (by rfl) gNe_b))) (fun _ _ _ _ _ => (sq_nl (ℓ := .st) (sq_v 14))))) sa_nil)))))))))))
    (sb_cons (ss_if (st_not (st_v hK (sq_call (ok__law_same T) hF (hr.mono (by decide)) T.d17.mg T.d17.fn.kp T.d17.bd (sa_cons (sq_tup (sa_cons (sq_meth0 (ok_Queue_holders T) hF (hr.mono (by decide)) c0 (by rw [hF]; exact T.m10) (by rw [hF, T.nm0]; decide) T.d10.bd (sq_v 2)) (sa_cons (sq_meth0 (ok_Queue_waiting T) hF (hr.mono (by decide)) c0 (by rw [hF]; exact T.m11) (by rw [hF, T.nm0]; decide) T.d11.bd (sq_v 2)) sa_nil))) (sa_cons (sq_tup (sa_cons (sq_totup hK T.z_tuple (sq_z (ℓ := .mo) 5)) (sa_cons (sq_totup hK T.z_tuple (sq_z (ℓ := .mo) 6)) sa_nil))) sa_nil))))) (sb_one (ss_ret (ℓ := .mo) (sq_bl (ℓ := .mo)))) sb_nil)
    (sb_cons (ss_for [15] PassesOwn.never rfl (si_rng T.z_range (sq_int (ℓ := .mo))) (sg_name (i := 14) SC.nd rfl (by first | exact Or.inl rfl | exact Or.inr rfl)) (sb_cons (ss_set (i := 15) SC.nd rfl (by first | exact Or.inl rfl | exact Or.inr rfl) (sq_tup (sa_cons (sq_nl (ℓ := .fs) (sq_totup hK T.z_tuple (sq_f (sf_lc (own := [("other", 17), ("told", 3)]) rfl SC.nd (si_seqX hK (sq_z (ℓ := .mo) 5)) (by kernel_rfl) (by decide) (fun _ _ _ _ _ => (sg_tup hK rfl (sgs_cons (sg_name (i := 17) SC.nd rfl (by first | exact Or.inl rfl | exact Or.inr rfl)) (sgs_cons (sg_name (i := 3) SC.nd rfl (by first | exact Or.inl rfl | exact Or.inr rfl)) sgs_nil)))) (fun _ _ _ _ _ => (sts_one (st_cmp (ℓ₁ := .mo) (ℓ₂ := .mo) (o_eq hK hu) (sq_v 17) (sq_v 14) (by rfl) gEq_b))) (fun _ _ _ _ _ => (sq_nl (ℓ := .st) (sq_v 3))))))) (sa_cons (sq_nl (ℓ := .fs) (sq_call (ok__law_blockers T) hF (hr.mono (by decide)) T.d20.mg T.d20.fn.kp T.d20.bd (sa_cons (sq_v 14) (sa_cons (sq_z (ℓ := .mo) 5) (sa_cons (sq_z (ℓ := .mo) 6) sa_nil))))) (sa_cons (sq_nl (ℓ := .fs) (sq_call (ok__law_round T) hF (hr.mono (by decide)) T.d21.mg T.d21.fn.kp T.d21.bd (sa_cons (sq_v 14) (sa_cons (sq_z (ℓ := .mo) 5) (sa_cons (sq_z (ℓ := .mo) 6) sa_nil))))) sa_nil)))))
    (sb_one (ss_if (st_not (st_v hK (sq_call (ok__law_same T) hF (hr.mono (by decide)) T.d17.mg T.d17.fn.kp T.d17.bd (sa_cons (sq_tup (sa_cons (sq_meth (ok_Queue_held T) hF (hr.mono (by decide)) c0 (by rw [hF]; exact T.m9) (by rw [hF, T.nm0]; decide) T.d9.bd (sq_v 2) (sa_cons (sq_v 14) sa_nil)) (sa_cons (sq_meth (ok_Queue_blockers T) hF (hr.mono (by decide)) c0 (by rw [hF]; exact T.m12) (by rw [hF, T.nm0]; decide) T.d12.bd (sq_v 2) (sa_cons (sq_v 14) sa_nil)) (sa_cons (sq_meth (ok_Queue_is_round T) hF (hr.mono (by decide)) c0 (by rw [hF]; exact T.m13) (by rw [hF, T.nm0]; decide) T.d13.bd (sq_v 2) (sa_cons (sq_v 14) sa_nil)) sa_nil)))) (sa_cons (sq_v 15) sa_nil))))) (sb_one (ss_ret (ℓ := .mo) (sq_bl (ℓ := .mo)))) sb_nil))))
    (sb_cons (ss_for [] PassesOwn.never rfl (si_rng T.z_range (sq_len (ℓ := .mo) hK T.z_len (sq_z (ℓ := .mo) 5))) (sg_name (i := 16) SC.nd rfl (by first | exact Or.inl rfl | exact Or.inr rfl)) (sb_one (ss_if (st_v hK (sq_any (ℓ := .mo) hK rfl T.z_any (sq_f (sf_lc (own := [("other", 17), ("told", 3)]) rfl SC.nd (si_seqX hK (sq_z (ℓ := .mo) 5)) (by kernel_rfl) (by decide) (fun _ _ _ _ _ => (sg_tup hK rfl (sgs_cons (sg_name (i := 17) SC.nd rfl (by first | exact Or.inl rfl | exact Or.inr rfl)) (sgs_cons (sg_name (i := 3) SC.nd rfl (by first | exact Or.inl rfl | exact Or.inr rfl)) sgs_nil)))) (fun _ _ _ _ _ => sts_nil) (fun _ _ _ _ _ => (sq_and (sq_cmp (ℓ := .st) (ℓ₁ := .mo) (ℓ₂ := .mo) (o_ne hK hu) (sq_v 17) (sq_sub hK (sq_sub hK (sq_z (ℓ := .mo) 5) (sq_v 16)) (sq_int (ℓ := .mo))) (by rfl)) (sq_one (sq_nl (ℓ := .st) (sq_call (ok__law_bars T) hF (hr.mono (by decide)) T.d1.mg T.d1.fn.kp T.d1.bd (sa_cons (sq_sub hK (sq_sub hK (sq_z (ℓ := .mo) 5) (sq_v 16)) (sq_int (ℓ := .mo))) (sa_cons (sq_v 3) sa_nil))))))))))) (sb_one (ss_ret (ℓ := .mo) (sq_bl (ℓ := .mo)))) sb_nil)))
    (sb_one (ss_if (st_v hK (sq_any (ℓ := .mo) hK rfl T.z_any (sq_f (sf_lc (own := [("k", 16)]) rfl SC.nd (si_rng T.z_range (sq_len (ℓ := .mo) hK T.z_len (sq_z (ℓ := .mo) 6))) (by kernel_rfl) (by decide) (fun _ _ _ _ _ => (sg_name (i := 16) SC.nd rfl (by first | exact Or.inl rfl | exact Or.inr rfl))) (fun _ _ _ _ _ => sts_nil) (fun _ _ _ _ _ => (sq_nl (ℓ := .st) (sq_call (ok__law_free T) hF (hr.mono (by decide)) T.d18.mg T.d18.fn.kp T.d18.bd (sa_cons (sq_sub hK (sq_sub hK (sq_z (ℓ := .mo) 6) (sq_v 16)) (sq_int (ℓ := .mo))) (sa_cons (sq_sub hK (sq_sub hK (sq_z (ℓ := .mo) 6) (sq_v 16)) (sq_int (ℓ := .mo))) (sa_cons (sq_z (ℓ := .mo) 5) (sa_cons (sq_f (sf_slice hK (sq_z (ℓ := .mo) 6) so_none (so_some (sq_v 16)))) sa_nil))))))))))) (sb_one (ss_ret (ℓ := .mo) (sq_bl (ℓ := .mo)))) sb_nil)))))))))))
    (sb_one (ss_ret (ℓ := .mo) (sq_bl (ℓ := .mo)))))))))))))))
end
end K06

set_option Elab.async false
set_option linter.all false
set_option maxRecDepth 100000
set_option maxHeartbeats 0
namespace K06
open PySem PySem.Spec PyProof.Rows L2 Evl Sm
def dn : List He.DefD := [⟨("Queue", some "__init__"), "__init__", "Queue.__init__", defArgs s_Queue___init__, defBody s_Queue___init__, defScope s_Queue___init__, [], []⟩, ⟨("_law_bars", none), "_law_bars", "_law_bars", defArgs s__law_bars, defBody s__law_bars, defScope s__law_bars, [], []⟩, ⟨("Queue", some "_barring"), "_barring", "Queue._barring", defArgs s_Queue__barring, defBody s_Queue__barring, defScope s_Queue__barring, [], []⟩, ⟨("Queue", some "_can_have"), "_can_have", "Queue._can_have", defArgs s_Queue__can_have, defBody s_Queue__can_have, defScope s_Queue__can_have, [], []⟩, ⟨("Queue", some "ask"), "ask", "Queue.ask", defArgs s_Queue_ask, defBody s_Queue_ask, defScope s_Queue_ask, [], []⟩, ⟨("Queue", some "_go_on"), "_go_on", "Queue._go_on", defArgs s_Queue__go_on, defBody s_Queue__go_on, defScope s_Queue__go_on, [], []⟩, ⟨("Queue", some "drop"), "drop", "Queue.drop", defArgs s_Queue_drop, defBody s_Queue_drop, defScope s_Queue_drop, [], []⟩, ⟨("Queue", some "leave"), "leave", "Queue.leave", defArgs s_Queue_leave, defBody s_Queue_leave, defScope s_Queue_leave, [], []⟩, ⟨("Queue", some "drop_all"), "drop_all", "Queue.drop_all", defArgs s_Queue_drop_all, defBody s_Queue_drop_all, defScope s_Queue_drop_all, [], []⟩, ⟨("Queue", some "held"), "held", "Queue.held", defArgs s_Queue_held, defBody s_Queue_held, defScope s_Queue_held, [], []⟩, ⟨("Queue", some "holders"), "holders", "Queue.holders", defArgs s_Queue_holders, defBody s_Queue_holders, defScope s_Queue_holders, [], []⟩, ⟨("Queue", some "waiting"), "waiting", "Queue.waiting", defArgs s_Queue_waiting, defBody s_Queue_waiting, defScope s_Queue_waiting, [], []⟩, ⟨("Queue", some "blockers"), "blockers", "Queue.blockers", defArgs s_Queue_blockers, defBody s_Queue_blockers, defScope s_Queue_blockers, [], []⟩, ⟨("Queue", some "is_round"), "is_round", "Queue.is_round", defArgs s_Queue_is_round, defBody s_Queue_is_round, defScope s_Queue_is_round, [], []⟩, ⟨("_law_mix", none), "_law_mix", "_law_mix", defArgs s__law_mix, defBody s__law_mix, defScope s__law_mix, [], []⟩, ⟨("_law_tape", none), "_law_tape", "_law_tape", defArgs s__law_tape, defBody s__law_tape, defScope s__law_tape, [], []⟩, ⟨("_law_take", none), "_law_take", "_law_take", defArgs s__law_take, defBody s__law_take, defScope s__law_take, [], []⟩, ⟨("_law_same", none), "_law_same", "_law_same", defArgs s__law_same, defBody s__law_same, defScope s__law_same, [], []⟩, ⟨("_law_free", none), "_law_free", "_law_free", defArgs s__law_free, defBody s__law_free, defScope s__law_free, [], []⟩, ⟨("_law_given", none), "_law_given", "_law_given", defArgs s__law_given, defBody s__law_given, defScope s__law_given, [], []⟩, ⟨("_law_blockers", none), "_law_blockers", "_law_blockers", defArgs s__law_blockers, defBody s__law_blockers, defScope s__law_blockers, [], []⟩, ⟨("_law_round", none), "_law_round", "_law_round", defArgs s__law_round, defBody s__law_round, defScope s__law_round, [], []⟩, ⟨("law", none), "law", "law", defArgs s_law, defBody s_law, defScope s_law, [], []⟩]
def fa : List He.Fa := [.glo "Queue", .glo "_law_bars", .glo "Queue", .glo "Queue", .glo "Queue", .glo "Queue", .glo "Queue", .glo "Queue", .glo "Queue", .glo "Queue", .glo "Queue", .glo "Queue", .glo "Queue", .glo "Queue", .glo "_law_mix", .glo "_law_tape", .glo "_law_take", .glo "_law_same", .glo "_law_free", .glo "_law_given", .glo "_law_blockers", .glo "_law_round", .glo "law", .free "all", .free "any", .free "bool", .free "enumerate", .free "int", .free "isinstance", .free "len", .free "list", .free "range", .free "set", .free "sorted", .free "str", .free "tuple", .cls "Queue", .glo "Queue", .noat "Queue" "_conflicts", .noat "Queue" "_held", .noat "Queue" "_line", .mkr "Queue", .meth "Queue" "_barring", .meth "Queue" "_can_have", .meth "Queue" "ask", .meth "Queue" "_go_on", .meth "Queue" "drop", .meth "Queue" "leave", .meth "Queue" "drop_all", .meth "Queue" "held", .meth "Queue" "holders", .meth "Queue" "waiting", .meth "Queue" "blockers", .meth "Queue" "is_round"]
abbrev R : PySem.W.OpenRow := PySem.W.OpenLaw.row PySem.Challenge.rw_treesheld_k06_whole_lines
def cs : List (Str × PyData) := []
abbrev hk : PySem.W.Hook := hookX 77 fa dn cs
def ob (s : PySem.W.SharedT) : He.AlD × Bool := obsX 77 fa dn cs (HandSHeadRun.getT s)
theorem ob_eq (s : PySem.W.SharedT) : ob s = hk.obs s.abs := obsX_eq (HandSHeadRun.getT_eq s)
def ls0 : List Str := ["_law_mix", "_law_tape", "_law_take", "_law_same", "_law_bars", "_law_free", "_law_given", "_law_blockers", "_law_round", "Queue"]
abbrev ls : List Str := ls0
theorem run (w : World) : HandSHeadRun.RunEq R (PySem.W.view R.prog [12]) hk ob 100000 ls w := by
  intro os
  kernel_rfl
theorem txt {K : PySem.W.Frag} {h : Heap} {mg : Str → Option Value} {G : Glo} (gK : K = G.K) (hc0 : G.cl 0 = He.ga K "Queue") (hn0 : G.nm 0 = (["_conflicts", "_held", "_line"] : List Str)) (hfa0 : G.fa 0 = He.ga K "_law_bars") (X : K.In h) (N : h.Ns mainGlobals mg) (c : SaysX fa dn cs K) : ∃ f fd, Txt K mg G f fd ∧ f 22 = He.ga K "law" := by
  obtain ⟨fd0, F0⟩ := c.1.def_ 0
  obtain ⟨fd1, F1⟩ := c.1.def_ 1
  obtain ⟨fd2, F2⟩ := c.1.def_ 2
  obtain ⟨fd3, F3⟩ := c.1.def_ 3
  obtain ⟨fd4, F4⟩ := c.1.def_ 4
  obtain ⟨fd5, F5⟩ := c.1.def_ 5
  obtain ⟨fd6, F6⟩ := c.1.def_ 6
  obtain ⟨fd7, F7⟩ := c.1.def_ 7
  obtain ⟨fd8, F8⟩ := c.1.def_ 8
  obtain ⟨fd9, F9⟩ := c.1.def_ 9
  obtain ⟨fd10, F10⟩ := c.1.def_ 10
  obtain ⟨fd11, F11⟩ := c.1.def_ 11
  obtain ⟨fd12, F12⟩ := c.1.def_ 12
  obtain ⟨fd13, F13⟩ := c.1.def_ 13
  obtain ⟨fd14, F14⟩ := c.1.def_ 14
  obtain ⟨fd15, F15⟩ := c.1.def_ 15
  obtain ⟨fd16, F16⟩ := c.1.def_ 16
  obtain ⟨fd17, F17⟩ := c.1.def_ 17
  obtain ⟨fd18, F18⟩ := c.1.def_ 18
  obtain ⟨fd19, F19⟩ := c.1.def_ 19
  obtain ⟨fd20, F20⟩ := c.1.def_ 20
  obtain ⟨fd21, F21⟩ := c.1.def_ 21
  obtain ⟨fd22, F22⟩ := c.1.def_ 22
  refine ⟨fun i => ([He.ma K (He.ga K "Queue") "__init__", He.ga K "_law_bars", He.ma K (He.ga K "Queue") "_barring", He.ma K (He.ga K "Queue") "_can_have", He.ma K (He.ga K "Queue") "ask", He.ma K (He.ga K "Queue") "_go_on", He.ma K (He.ga K "Queue") "drop", He.ma K (He.ga K "Queue") "leave", He.ma K (He.ga K "Queue") "drop_all", He.ma K (He.ga K "Queue") "held", He.ma K (He.ga K "Queue") "holders", He.ma K (He.ga K "Queue") "waiting", He.ma K (He.ga K "Queue") "blockers", He.ma K (He.ga K "Queue") "is_round", He.ga K "_law_mix", He.ga K "_law_tape", He.ga K "_law_take", He.ga K "_law_same", He.ga K "_law_free", He.ga K "_law_given", He.ga K "_law_blockers", He.ga K "_law_round", He.ga K "law"] : List Addr).getD i 0, fun i => ([fd0, fd1, fd2, fd3, fd4, fd5, fd6, fd7, fd8, fd9, fd10, fd11, fd12, fd13, fd14, fd15, fd16, fd17, fd18, fd19, fd20, fd21, fd22] : List FuncData).getD i fd0, ⟨gK, hn0, by rw [hc0]; exact He.cls_ok (c.1.fact 36), by rw [hc0]; exact He.glo_ok X N (c.1.fact 37), by rw [hc0]; exact He.noat_ok (c.1.fact 38), by rw [hc0]; exact He.noat_ok (c.1.fact 39), by rw [hc0]; exact He.noat_ok (c.1.fact 40), by rw [hc0]; exact He.mkr_ok (c.1.fact 41), hfa0, ⟨Fun.ofD F0, FunD.bindsN F0 fun _ _ _ _ _ _ us hl => match us, hl with | [_, _], _ => rfl⟩, ⟨Fun.ofD F2, FunD.bindsN F2 fun _ _ _ _ _ _ us hl => match us, hl with | [_, _, _, _], _ => rfl⟩, by rw [hc0]; exact He.meth_ok (c.1.fact 42), ⟨Fun.ofD F3, FunD.bindsN F3 fun _ _ _ _ _ _ us hl => match us, hl with | [_, _, _, _], _ => rfl⟩, by rw [hc0]; exact He.meth_ok (c.1.fact 43), ⟨Fun.ofD F4, FunD.bindsN F4 fun _ _ _ _ _ _ us hl => match us, hl with | [_, _, _], _ => rfl⟩, by rw [hc0]; exact He.meth_ok (c.1.fact 44), ⟨Fun.ofD F5, FunD.bindsN F5 fun _ _ _ _ _ _ us hl => match us, hl with | [_], _ => rfl⟩, by rw [hc0]; exact He.meth_ok (c.1.fact 45), ⟨Fun.ofD F6, FunD.bindsN F6 fun _ _ _ _ _ _ us hl => match us, hl with | [_, _, _], _ => rfl⟩, by rw [hc0]; exact He.meth_ok (c.1.fact 46), ⟨Fun.ofD F7, FunD.bindsN F7 fun _ _ _ _ _ _ us hl => match us, hl with | [_, _, _], _ => rfl⟩, by rw [hc0]; exact He.meth_ok (c.1.fact 47), ⟨Fun.ofD F8, FunD.bindsN F8 fun _ _ _ _ _ _ us hl => match us, hl with | [_, _], _ => rfl⟩, by rw [hc0]; exact He.meth_ok (c.1.fact 48), ⟨Fun.ofD F9, FunD.bindsN F9 fun _ _ _ _ _ _ us hl => match us, hl with | [_, _], _ => rfl⟩, by rw [hc0]; exact He.meth_ok (c.1.fact 49), ⟨Fun.ofD F10, FunD.bindsN F10 fun _ _ _ _ _ _ us hl => match us, hl with | [_], _ => rfl⟩, by rw [hc0]; exact He.meth_ok (c.1.fact 50), ⟨Fun.ofD F11, FunD.bindsN F11 fun _ _ _ _ _ _ us hl => match us, hl with | [_], _ => rfl⟩, by rw [hc0]; exact He.meth_ok (c.1.fact 51), ⟨Fun.ofD F12, FunD.bindsN F12 fun _ _ _ _ _ _ us hl => match us, hl with | [_, _], _ => rfl⟩, by rw [hc0]; exact He.meth_ok (c.1.fact 52), ⟨Fun.ofD F13, FunD.bindsN F13 fun _ _ _ _ _ _ us hl => match us, hl with | [_, _], _ => rfl⟩, by rw [hc0]; exact He.meth_ok (c.1.fact 53), ⟨Fun.ofD F1, He.glo_ok X N (c.1.fact 1), FunD.bindsN F1 fun _ _ _ _ _ _ us hl => match us, hl with | [_, _], _ => rfl⟩, ⟨Fun.ofD F14, He.glo_ok X N (c.1.fact 14), FunD.bindsN F14 fun _ _ _ _ _ _ us hl => match us, hl with | [_], _ => rfl⟩, ⟨Fun.ofD F15, He.glo_ok X N (c.1.fact 15), FunD.bindsN F15 fun _ _ _ _ _ _ us hl => match us, hl with | [_], _ => rfl⟩, ⟨Fun.ofD F16, He.glo_ok X N (c.1.fact 16), FunD.bindsN F16 fun _ _ _ _ _ _ us hl => match us, hl with | [_, _], _ => rfl⟩, ⟨Fun.ofD F17, He.glo_ok X N (c.1.fact 17), FunD.bindsN F17 fun _ _ _ _ _ _ us hl => match us, hl with | [_, _], _ => rfl⟩, ⟨Fun.ofD F18, He.glo_ok X N (c.1.fact 18), FunD.bindsN F18 fun _ _ _ _ _ _ us hl => match us, hl with | [_, _, _, _], _ => rfl⟩, ⟨Fun.ofD F19, He.glo_ok X N (c.1.fact 19), FunD.bindsN F19 fun _ _ _ _ _ _ us hl => match us, hl with | [_, _], _ => rfl⟩, ⟨Fun.ofD F20, He.glo_ok X N (c.1.fact 20), FunD.bindsN F20 fun _ _ _ _ _ _ us hl => match us, hl with | [_, _, _], _ => rfl⟩, ⟨Fun.ofD F21, He.glo_ok X N (c.1.fact 21), FunD.bindsN F21 fun _ _ _ _ _ _ us hl => match us, hl with | [_, _, _], _ => rfl⟩, ⟨Fun.ofD F22, He.glo_ok X N (c.1.fact 22), FunD.bindsN F22 fun _ _ _ _ _ _ us hl => match us, hl with | [_], _ => rfl⟩, He.free_ok X N (c.1.fact 23), He.free_ok X N (c.1.fact 24), He.free_ok X N (c.1.fact 25), He.free_ok X N (c.1.fact 26), He.free_ok X N (c.1.fact 27), He.free_ok X N (c.1.fact 28), He.free_ok X N (c.1.fact 29), He.free_ok X N (c.1.fact 30), He.free_ok X N (c.1.fact 31), He.free_ok X N (c.1.fact 32), He.free_ok X N (c.1.fact 33), He.free_ok X N (c.1.fact 34), He.free_ok X N (c.1.fact 35)⟩, rfl⟩
end K06

set_option Elab.async false
set_option linter.all false
set_option maxRecDepth 100000
set_option maxHeartbeats 4000000
namespace K06
open PySem L2 Evl Sm
/-! the tape -/
def tp (cs : List Int) (p : Nat) (v q : Int) : Ob := .lst [.list (cs.map .int), .int p, .int v, .int q]
def Tp (o : Ob) : Prop := ∃ cs p v q, o = tp cs p v q
theorem tape_ (ns : List Int) : ∃ o, r__law_tape [.d (.list (ns.map PyData.int))] [] = some (.ref 0, [o]) ∧ Tp o := by
  refine ⟨tp (ns.take 80) 0 0 (1 + ns.length), ?_, _, _, _, _, rfl⟩
  have e : List.take (min 80 ns.length) (List.map PyData.int ns) = List.take 80 (List.map PyData.int ns) := by
    have := take_min 80 (ns.map PyData.int)
    rw [List.length_map] at this
    rw [this]
  have e2 : nlAll (List.take 80 (List.map PyData.int ns)) = true := by
    rw [← List.map_take]
    exact nlAll_ints _
  simp [qV, qVs, qC, Sm.q1, Sm.q2, qNl, qIf, aNil, aCons, dOf, dsOf, qTup, fLst, qF, gTru, tV, tAndF, tOrF, tNotF, qT, qAnd, qOr, qNot, gI, gI0, gB0, cMul, cDiv, cPow, gNeg, gAdd, eqI, neI, lstAt, ixAt, lenAt, oPut, newOb, gLen, gInt, gTuple, Sm.f1, Sm.f2, gList, gIsi, gIx, gIsN, gNoN, gIsB, iRng, iRngB, seqOf, iSeqN, iSeq, bName, bNil, bCons, bTup, wipeE, tTrue, mNx, mSeq, mRet, mRetF, mRetN, mRetO, mIf, mSet, mSetO, mBk, mCt, mPre, mLock, mAsg, mFor, startE, resD, runQ, runF, qCall, fCall, arity, eQ, eF, eT, eNil, eCons, Sm.e1, Sm.e2, eTup, efLst, eLock, eIf, etV, eCall, efCall, enl, eNot, eAnd, eOr, resE, runE, runEF, mE, mSetE, mSetOE, mRetE, mRetFE, mIfE, mAsgE, oNone, oSome, gSl, qSl, fSl, gAll, gAny, qChain, gIn, pNil, pV, pL, mPar2, gCat, ef2, mAppE, mExtE, mPut, eNew, ePop, oPop, iE, iRngE, iSeqE, mForE, gRev, gRevL, iEnu, mHold, gTupR, nl, nlAll, ixN, PyData.isInt, PyData.isBool, PyData.isStr, PyData.isTuple, PyData.isList, PyData.isDict, dsOf, r__law_tape, m__law_tape, cutD, HT.sIx, e, e2, nlAll_ints, sizeLine_eq, tp]
def mx1 (n : Int) : Int := (n * 6364136223846793005 + 1442695040888963407) % 18446744073709551616
def mix (n : Int) : Int := (mx1 n * mx1 n / 4294967296 + mx1 n * 69621) % 18446744073709551557
theorem mx1_b (n : Int) : 0 ≤ mx1 n ∧ mx1 n < 18446744073709551616 := ⟨Int.emod_nonneg _ (by decide), Int.emod_lt_of_pos _ (by decide)⟩
theorem lg32 : Nat.log2 4294967296 < 9000 := by decide +kernel
theorem mix_ (n : Int) (h : Hs) : r__law_mix [.d (.int n)] h = some (.d (.int (mix n))) := by
  obtain ⟨a, b⟩ := mx1_b n
  have c : (mx1 n).natAbs < 18446744073709551616 := by omega
  unfold mx1 at c
  simp [qV, qVs, qC, Sm.q1, Sm.q2, qNl, qIf, aNil, aCons, dOf, dsOf, qTup, fLst, qF, gTru, tV, tAndF, tOrF, tNotF, qT, qAnd, qOr, qNot, gI, gI0, gB0, cMul, cDiv, cPow, gNeg, gAdd, eqI, neI, lstAt, ixAt, lenAt, oPut, newOb, gLen, gInt, gTuple, Sm.f1, Sm.f2, gList, gIsi, gIx, gIsN, gNoN, gIsB, iRng, iRngB, seqOf, iSeqN, iSeq, bName, bNil, bCons, bTup, wipeE, tTrue, mNx, mSeq, mRet, mRetF, mRetN, mRetO, mIf, mSet, mSetO, mBk, mCt, mPre, mLock, mAsg, mFor, startE, resD, runQ, runF, qCall, fCall, arity, eQ, eF, eT, eNil, eCons, Sm.e1, Sm.e2, eTup, efLst, eLock, eIf, etV, eCall, efCall, enl, eNot, eAnd, eOr, resE, runE, runEF, mE, mSetE, mSetOE, mRetE, mRetFE, mIfE, mAsgE, oNone, oSome, gSl, qSl, fSl, gAll, gAny, qChain, gIn, pNil, pV, pL, mPar2, gCat, ef2, mAppE, mExtE, mPut, eNew, ePop, oPop, iE, iRngE, iSeqE, mForE, gRev, gRevL, iEnu, mHold, gTupR, nl, nlAll, ixN, PyData.isInt, PyData.isBool, PyData.isStr, PyData.isTuple, PyData.isList, PyData.isDict, gMulX, gMul, r__law_mix, m__law_mix, mix, mx1, c, lg32]
def cel (c : Int) : Int := if 0 ≤ c then 2 * c else -2 * c - 1
theorem take1_ (cs : List Int) (p : Nat) (v q : Int) (E : Hs) (many : Int) (hm : 0 < many) (hm2 : many.natAbs.log2 < 9000) : ∃ d p' v' q', r__law_take [.ref 0, .d (.int many)] (tp cs p v q :: E) = some (.d (.int d), tp cs p' v' q' :: E) ∧ 0 ≤ d ∧ d < many := by
  have f : ∀ n h, r__law_mix [.d (.int n)] h = some (.d (.int (mix n))) := mix_
  by_cases h1 : v < many
  · by_cases h2 : p < cs.length
    · have e0 : atI (cs.map PyData.int) (p : Int) = some (.int cs[p]) := atN (by rw [List.getElem?_map, List.getElem?_eq_getElem h2]; rfl)
      have h2' : (p : Int) < cs.length := by omega
      generalize cs[p] = c at e0
      by_cases h4 : 1000000000000000000 ≤ cel c
      · refine ⟨cel c % many, p + 1, cel c / many, mix (q + cel c), ?_, Int.emod_nonneg _ (by omega), Int.emod_lt_of_pos _ hm⟩
        by_cases h3 : 0 ≤ c
        · unfold cel at h4 ⊢
          rw [if_pos h3] at h4 ⊢
          simp [qV, qVs, qC, Sm.q1, Sm.q2, qNl, qIf, aNil, aCons, dOf, dsOf, qTup, fLst, qF, gTru, tV, tAndF, tOrF, tNotF, qT, qAnd, qOr, qNot, gI, gI0, gB0, cMul, cDiv, cPow, gNeg, gAdd, eqI, neI, lstAt, ixAt, lenAt, oPut, newOb, gLen, gInt, gTuple, Sm.f1, Sm.f2, gList, gIsi, gIx, gIsN, gNoN, gIsB, iRng, iRngB, seqOf, iSeqN, iSeq, bName, bNil, bCons, bTup, wipeE, tTrue, mNx, mSeq, mRet, mRetF, mRetN, mRetO, mIf, mSet, mSetO, mBk, mCt, mPre, mLock, mAsg, mFor, startE, resD, runQ, runF, qCall, fCall, arity, eQ, eF, eT, eNil, eCons, Sm.e1, Sm.e2, eTup, efLst, eLock, eIf, etV, eCall, efCall, enl, eNot, eAnd, eOr, resE, runE, runEF, mE, mSetE, mSetOE, mRetE, mRetFE, mIfE, mAsgE, oNone, oSome, gSl, qSl, fSl, gAll, gAny, qChain, gIn, pNil, pV, pL, mPar2, gCat, ef2, mAppE, mExtE, mPut, eNew, ePop, oPop, iE, iRngE, iSeqE, mForE, gRev, gRevL, iEnu, mHold, gTupR, nl, nlAll, ixN, PyData.isInt, PyData.isBool, PyData.isStr, PyData.isTuple, PyData.isList, PyData.isDict, gMulX, gMul, r__law_take, m__law_take, tp, h1, h2', h3, h4, e0, f, hm, hm2, nl]
        · unfold cel at h4 ⊢
          rw [if_neg h3] at h4 ⊢
          simp [qV, qVs, qC, Sm.q1, Sm.q2, qNl, qIf, aNil, aCons, dOf, dsOf, qTup, fLst, qF, gTru, tV, tAndF, tOrF, tNotF, qT, qAnd, qOr, qNot, gI, gI0, gB0, cMul, cDiv, cPow, gNeg, gAdd, eqI, neI, lstAt, ixAt, lenAt, oPut, newOb, gLen, gInt, gTuple, Sm.f1, Sm.f2, gList, gIsi, gIx, gIsN, gNoN, gIsB, iRng, iRngB, seqOf, iSeqN, iSeq, bName, bNil, bCons, bTup, wipeE, tTrue, mNx, mSeq, mRet, mRetF, mRetN, mRetO, mIf, mSet, mSetO, mBk, mCt, mPre, mLock, mAsg, mFor, startE, resD, runQ, runF, qCall, fCall, arity, eQ, eF, eT, eNil, eCons, Sm.e1, Sm.e2, eTup, efLst, eLock, eIf, etV, eCall, efCall, enl, eNot, eAnd, eOr, resE, runE, runEF, mE, mSetE, mSetOE, mRetE, mRetFE, mIfE, mAsgE, oNone, oSome, gSl, qSl, fSl, gAll, gAny, qChain, gIn, pNil, pV, pL, mPar2, gCat, ef2, mAppE, mExtE, mPut, eNew, ePop, oPop, iE, iRngE, iSeqE, mForE, gRev, gRevL, iEnu, mHold, gTupR, nl, nlAll, ixN, PyData.isInt, PyData.isBool, PyData.isStr, PyData.isTuple, PyData.isList, PyData.isDict, gMulX, gMul, r__law_take, m__law_take, tp, h1, h2', h3, h4, e0, f, hm, hm2, nl]
      · refine ⟨mix (mix (cel c) + (p + 1)) % many, p + 1, mix (mix (cel c) + (p + 1)) / many, mix (q + cel c), ?_, Int.emod_nonneg _ (by omega), Int.emod_lt_of_pos _ hm⟩
        by_cases h3 : 0 ≤ c
        · unfold cel at h4 ⊢
          rw [if_pos h3] at h4 ⊢
          simp [qV, qVs, qC, Sm.q1, Sm.q2, qNl, qIf, aNil, aCons, dOf, dsOf, qTup, fLst, qF, gTru, tV, tAndF, tOrF, tNotF, qT, qAnd, qOr, qNot, gI, gI0, gB0, cMul, cDiv, cPow, gNeg, gAdd, eqI, neI, lstAt, ixAt, lenAt, oPut, newOb, gLen, gInt, gTuple, Sm.f1, Sm.f2, gList, gIsi, gIx, gIsN, gNoN, gIsB, iRng, iRngB, seqOf, iSeqN, iSeq, bName, bNil, bCons, bTup, wipeE, tTrue, mNx, mSeq, mRet, mRetF, mRetN, mRetO, mIf, mSet, mSetO, mBk, mCt, mPre, mLock, mAsg, mFor, startE, resD, runQ, runF, qCall, fCall, arity, eQ, eF, eT, eNil, eCons, Sm.e1, Sm.e2, eTup, efLst, eLock, eIf, etV, eCall, efCall, enl, eNot, eAnd, eOr, resE, runE, runEF, mE, mSetE, mSetOE, mRetE, mRetFE, mIfE, mAsgE, oNone, oSome, gSl, qSl, fSl, gAll, gAny, qChain, gIn, pNil, pV, pL, mPar2, gCat, ef2, mAppE, mExtE, mPut, eNew, ePop, oPop, iE, iRngE, iSeqE, mForE, gRev, gRevL, iEnu, mHold, gTupR, nl, nlAll, ixN, PyData.isInt, PyData.isBool, PyData.isStr, PyData.isTuple, PyData.isList, PyData.isDict, gMulX, gMul, r__law_take, m__law_take, tp, h1, h2', h3, h4, e0, f, hm, hm2, nl]
        · unfold cel at h4 ⊢
          rw [if_neg h3] at h4 ⊢
          simp [qV, qVs, qC, Sm.q1, Sm.q2, qNl, qIf, aNil, aCons, dOf, dsOf, qTup, fLst, qF, gTru, tV, tAndF, tOrF, tNotF, qT, qAnd, qOr, qNot, gI, gI0, gB0, cMul, cDiv, cPow, gNeg, gAdd, eqI, neI, lstAt, ixAt, lenAt, oPut, newOb, gLen, gInt, gTuple, Sm.f1, Sm.f2, gList, gIsi, gIx, gIsN, gNoN, gIsB, iRng, iRngB, seqOf, iSeqN, iSeq, bName, bNil, bCons, bTup, wipeE, tTrue, mNx, mSeq, mRet, mRetF, mRetN, mRetO, mIf, mSet, mSetO, mBk, mCt, mPre, mLock, mAsg, mFor, startE, resD, runQ, runF, qCall, fCall, arity, eQ, eF, eT, eNil, eCons, Sm.e1, Sm.e2, eTup, efLst, eLock, eIf, etV, eCall, efCall, enl, eNot, eAnd, eOr, resE, runE, runEF, mE, mSetE, mSetOE, mRetE, mRetFE, mIfE, mAsgE, oNone, oSome, gSl, qSl, fSl, gAll, gAny, qChain, gIn, pNil, pV, pL, mPar2, gCat, ef2, mAppE, mExtE, mPut, eNew, ePop, oPop, iE, iRngE, iSeqE, mForE, gRev, gRevL, iEnu, mHold, gTupR, nl, nlAll, ixN, PyData.isInt, PyData.isBool, PyData.isStr, PyData.isTuple, PyData.isList, PyData.isDict, gMulX, gMul, r__law_take, m__law_take, tp, h1, h2', h3, h4, e0, f, hm, hm2, nl]
    · have h2' : ¬ (p : Int) < cs.length := by omega
      refine ⟨mix (q + 1) % many, p, mix (q + 1) / many, mix (q + 1), ?_, Int.emod_nonneg _ (by omega), Int.emod_lt_of_pos _ hm⟩
      simp [qV, qVs, qC, Sm.q1, Sm.q2, qNl, qIf, aNil, aCons, dOf, dsOf, qTup, fLst, qF, gTru, tV, tAndF, tOrF, tNotF, qT, qAnd, qOr, qNot, gI, gI0, gB0, cMul, cDiv, cPow, gNeg, gAdd, eqI, neI, lstAt, ixAt, lenAt, oPut, newOb, gLen, gInt, gTuple, Sm.f1, Sm.f2, gList, gIsi, gIx, gIsN, gNoN, gIsB, iRng, iRngB, seqOf, iSeqN, iSeq, bName, bNil, bCons, bTup, wipeE, tTrue, mNx, mSeq, mRet, mRetF, mRetN, mRetO, mIf, mSet, mSetO, mBk, mCt, mPre, mLock, mAsg, mFor, startE, resD, runQ, runF, qCall, fCall, arity, eQ, eF, eT, eNil, eCons, Sm.e1, Sm.e2, eTup, efLst, eLock, eIf, etV, eCall, efCall, enl, eNot, eAnd, eOr, resE, runE, runEF, mE, mSetE, mSetOE, mRetE, mRetFE, mIfE, mAsgE, oNone, oSome, gSl, qSl, fSl, gAll, gAny, qChain, gIn, pNil, pV, pL, mPar2, gCat, ef2, mAppE, mExtE, mPut, eNew, ePop, oPop, iE, iRngE, iSeqE, mForE, gRev, gRevL, iEnu, mHold, gTupR, nl, nlAll, ixN, PyData.isInt, PyData.isBool, PyData.isStr, PyData.isTuple, PyData.isList, PyData.isDict, gMulX, gMul, r__law_take, m__law_take, tp, h1, h2', f, hm, hm2, nl]
  · refine ⟨v % many, p, v / many, q, ?_, Int.emod_nonneg _ (by omega), Int.emod_lt_of_pos _ hm⟩
    simp [qV, qVs, qC, Sm.q1, Sm.q2, qNl, qIf, aNil, aCons, dOf, dsOf, qTup, fLst, qF, gTru, tV, tAndF, tOrF, tNotF, qT, qAnd, qOr, qNot, gI, gI0, gB0, cMul, cDiv, cPow, gNeg, gAdd, eqI, neI, lstAt, ixAt, lenAt, oPut, newOb, gLen, gInt, gTuple, Sm.f1, Sm.f2, gList, gIsi, gIx, gIsN, gNoN, gIsB, iRng, iRngB, seqOf, iSeqN, iSeq, bName, bNil, bCons, bTup, wipeE, tTrue, mNx, mSeq, mRet, mRetF, mRetN, mRetO, mIf, mSet, mSetO, mBk, mCt, mPre, mLock, mAsg, mFor, startE, resD, runQ, runF, qCall, fCall, arity, eQ, eF, eT, eNil, eCons, Sm.e1, Sm.e2, eTup, efLst, eLock, eIf, etV, eCall, efCall, enl, eNot, eAnd, eOr, resE, runE, runEF, mE, mSetE, mSetOE, mRetE, mRetFE, mIfE, mAsgE, oNone, oSome, gSl, qSl, fSl, gAll, gAny, qChain, gIn, pNil, pV, pL, mPar2, gCat, ef2, mAppE, mExtE, mPut, eNew, ePop, oPop, iE, iRngE, iSeqE, mForE, gRev, gRevL, iEnu, mHold, gTupR, nl, nlAll, ixN, PyData.isInt, PyData.isBool, PyData.isStr, PyData.isTuple, PyData.isList, PyData.isDict, r__law_take, m__law_take, tp, h1, hm, hm2]
theorem log9 {m : Int} (h0 : 0 < m) (h1 : m ≤ 1000000) : m.natAbs.log2 < 9000 := by
  have := log_small (n := m.natAbs) (by omega)
  omega
theorem take_ {T : Ob} {E : Hs} (hT : Tp T) (many : Int) (hm : 0 < many) (hm2 : many ≤ 1000000) : ∃ (d : Nat) (T' : Ob), r__law_take [.ref 0, .d (.int many)] (T :: E) = some (.d (.int d), T' :: E) ∧ (d : Int) < many ∧ Tp T' := by
  obtain ⟨cs, p, v, q, rfl⟩ := hT
  obtain ⟨d, p', v', q', e, h1, h2⟩ := take1_ cs p v q E many hm (log9 hm hm2)
  obtain ⟨d, rfl⟩ := Int.eq_ofNat_of_zero_le h1
  exact ⟨d, _, e, h2, _, _, _, _, rfl⟩
section
variable {env : En} {T : Ob} {E : Hs} {j : Nat} {q : Q1} {Q : Val → Hs → Prop}
abbrev dr (j : Nat) (q : Q1) : E1 := eCall (arity 2 r__law_take) (eCons (eQ (qVs j)) (eCons (eQ q) eNil))
theorem dr_ (hj : env[j]? = some (.v (.ref 0))) {m : Int} (e : q env (T :: E) = some (.d (.int m))) (hT : Tp T) (m0 : 0 < m) (m1 : m ≤ 1000000) (k : ∀ (d : Nat) T', (d : Int) < m → Tp T' → Q (.d (.int d)) (T' :: E)) : evE (dr j q) env (T :: E) Q := by
  obtain ⟨d, T', e2, hd, hT'⟩ := take_ (E := E) hT m m0 m1
  exact evE.call (evA.cons (evE.pq (x := .ref 0) (by unfold qVs; rw [hj]) (evA.cons (evE.pq (x := .d (.int m)) e (evA.nil ⟨_, _, e2, k d T' hd hT'⟩)))))
end
end K06

set_option Elab.async false
set_option linter.all false
set_option maxRecDepth 100000
set_option maxHeartbeats 1000000
namespace K06
open PySem L2 Evl Sm
/-! ### values that the law finds alike -/
def pln : Nat → PyData → Bool
  | 0, _ => false
  | n + 1, .tuple ds => decide (ds.length ≤ 1000000) && ds.all (pln n)
  | n + 1, .list ds => decide (ds.length ≤ 1000000) && ds.all (pln n)
  | _ + 1, .str s => SeqAt.shaped (.str s)
  | _ + 1, .dict _ => false
  | _ + 1, _ => true
theorem pln_ints (n : Nat) (ns : List Int) : (iL ns).all (pln (n + 1)) = true := by
  rw [List.all_eq_true]
  intro d hd
  obtain ⟨i, _, rfl⟩ := List.mem_map.mp hd
  rfl
theorem eq_str {s : Str} (hs : SeqAt.shaped (.str s) = true) (h : Hs) : gEq h (.d (.str s)) (.d (.str s)) = some (.d (.bool true)) := by
  show (if (SeqAt.shaped (.str s) && SeqAt.shaped (.str s)) = true then some (Val.d (.bool (s == s))) else none) = _
  rw [hs]
  simp
theorem eq_bool (b : Bool) (h : Hs) : gEq h (.d (.bool b)) (.d (.bool b)) = some (.d (.bool true)) := by cases b <;> rfl
theorem same_all {n : Nat} {ds : List PyData} (hl : ds.length ≤ 1000000) (ih : ∀ d ∈ ds, ∀ h, g__law_same n [.d d, .d d] h = some (.d (.bool true))) {x : Val} (hx : x = .d (.tuple ds) ∨ x = .d (.list ds)) (h : Hs) :
    q1 gAll (qF (fLc (iRng (q1 gLen (qV 0))) [2] (bName 2) tTrue (qNl (qCall (arity 2 (g__law_same n)) (aCons (q2 gIx (qV 0) (qV 2)) (aCons (q2 gIx (qV 1) (qV 2)) aNil)))))) [.v x, .v x, .un] h = some (.d (.bool true)) := by
  have hr : iRng (q1 gLen (qV 0)) [.v x, .v x, .un] h = some ((List.range ds.length).map fun k : Nat => PyData.int k) := by
    rcases hx with rfl | rfl
    · exact iRng_of (n := ds.length) rfl (by omega) (by omega)
    · exact iRng_of (n := ds.length) rfl (by omega) (by omega)
  have hz : (List.range ds.length).length ≤ sizeLine := by rw [List.length_range, sizeLine_eq]; omega
  have := all_lc (f := fun k : Nat => PyData.int k) (p := fun _ => true) (vs := [2]) (bn := bName 2) (tt := tTrue) (te := qNl (qCall (arity 2 (g__law_same n)) (aCons (q2 gIx (qV 0) (qV 2)) (aCons (q2 gIx (qV 1) (qV 2)) aNil)))) hr (fun k hk => step_of (env1 := [.v x, .v x, .v (.d (.int k))]) rfl rfl (by
    have hk := List.mem_range.mp hk
    have e := atN (List.getElem?_eq_getElem hk)
    have i := ih ds[k] (List.getElem_mem hk) h
    rcases hx with rfl | rfl <;> simp [qV, qVs, qC, Sm.q1, Sm.q2, qNl, qIf, aNil, aCons, dOf, dsOf, qTup, fLst, qF, gTru, tV, tAndF, tOrF, tNotF, qT, qAnd, qOr, qNot, gI, gI0, gB0, cMul, cDiv, cPow, gNeg, gAdd, eqI, neI, lstAt, ixAt, lenAt, oPut, newOb, gLen, gInt, gTuple, Sm.f1, Sm.f2, gList, gIsi, gIx, gIsN, gNoN, gIsB, iRng, iRngB, seqOf, iSeqN, iSeq, bName, bNil, bCons, bTup, wipeE, tTrue, mNx, mSeq, mRet, mRetF, mRetN, mRetO, mIf, mSet, mSetO, mBk, mCt, mPre, mLock, mAsg, mFor, startE, resD, runQ, runF, qCall, fCall, arity, eQ, eF, eT, eNil, eCons, Sm.e1, Sm.e2, eTup, efLst, eLock, eIf, etV, eCall, efCall, enl, eNot, eAnd, eOr, resE, runE, runEF, mE, mSetE, mSetOE, mRetE, mRetFE, mIfE, mAsgE, oNone, oSome, gSl, qSl, fSl, gAll, gAny, qChain, gIn, pNil, pV, pL, mPar2, gCat, ef2, mAppE, mExtE, mPut, eNew, ePop, oPop, iE, iRngE, iSeqE, mForE, gRev, gRevL, iEnu, mHold, gTupR, nl, nlAll, ixN, PyData.isInt, PyData.isBool, PyData.isStr, PyData.isTuple, PyData.isList, PyData.isDict, e, i, nl])) hz
  rw [this]
  simp
theorem same_ : ∀ (n : Nat) (d : PyData), pln n d = true → ∀ h : Hs, g__law_same n [.d d, .d d] h = some (.d (.bool true)) := by
  intro n
  induction n with
  | zero => intro d hd; cases hd
  | succ n ih =>
    intro d hd h
    show runQ 1 (m__law_same (g__law_same n)) [.d d, .d d] h = _
    cases d with
    | none => simp [m__law_same, qV, qVs, qC, Sm.q1, Sm.q2, qNl, qIf, aNil, aCons, dOf, dsOf, qTup, fLst, qF, gTru, tV, tAndF, tOrF, tNotF, qT, qAnd, qOr, qNot, gI, gI0, gB0, cMul, cDiv, cPow, gNeg, gAdd, eqI, neI, lstAt, ixAt, lenAt, oPut, newOb, gLen, gInt, gTuple, Sm.f1, Sm.f2, gList, gIsi, gIx, gIsN, gNoN, gIsB, iRng, iRngB, seqOf, iSeqN, iSeq, bName, bNil, bCons, bTup, wipeE, tTrue, mNx, mSeq, mRet, mRetF, mRetN, mRetO, mIf, mSet, mSetO, mBk, mCt, mPre, mLock, mAsg, mFor, startE, resD, runQ, runF, qCall, fCall, arity, eQ, eF, eT, eNil, eCons, Sm.e1, Sm.e2, eTup, efLst, eLock, eIf, etV, eCall, efCall, enl, eNot, eAnd, eOr, resE, runE, runEF, mE, mSetE, mSetOE, mRetE, mRetFE, mIfE, mAsgE, oNone, oSome, gSl, qSl, fSl, gAll, gAny, qChain, gIn, pNil, pV, pL, mPar2, gCat, ef2, mAppE, mExtE, mPut, eNew, ePop, oPop, iE, iRngE, iSeqE, mForE, gRev, gRevL, iEnu, mHold, gTupR, nl, nlAll, ixN, PyData.isInt, PyData.isBool, PyData.isStr, PyData.isTuple, PyData.isList, PyData.isDict]
    | bool b => 
      have := eq_bool b h
      simp [m__law_same, qV, qVs, qC, Sm.q1, Sm.q2, qNl, qIf, aNil, aCons, dOf, dsOf, qTup, fLst, qF, gTru, tV, tAndF, tOrF, tNotF, qT, qAnd, qOr, qNot, gI, gI0, gB0, cMul, cDiv, cPow, gNeg, gAdd, eqI, neI, lstAt, ixAt, lenAt, oPut, newOb, gLen, gInt, gTuple, Sm.f1, Sm.f2, gList, gIsi, gIx, gIsN, gNoN, gIsB, iRng, iRngB, seqOf, iSeqN, iSeq, bName, bNil, bCons, bTup, wipeE, tTrue, mNx, mSeq, mRet, mRetF, mRetN, mRetO, mIf, mSet, mSetO, mBk, mCt, mPre, mLock, mAsg, mFor, startE, resD, runQ, runF, qCall, fCall, arity, eQ, eF, eT, eNil, eCons, Sm.e1, Sm.e2, eTup, efLst, eLock, eIf, etV, eCall, efCall, enl, eNot, eAnd, eOr, resE, runE, runEF, mE, mSetE, mSetOE, mRetE, mRetFE, mIfE, mAsgE, oNone, oSome, gSl, qSl, fSl, gAll, gAny, qChain, gIn, pNil, pV, pL, mPar2, gCat, ef2, mAppE, mExtE, mPut, eNew, ePop, oPop, iE, iRngE, iSeqE, mForE, gRev, gRevL, iEnu, mHold, gTupR, nl, nlAll, ixN, PyData.isInt, PyData.isBool, PyData.isStr, PyData.isTuple, PyData.isList, PyData.isDict, this]
    | int i => simp [m__law_same, qV, qVs, qC, Sm.q1, Sm.q2, qNl, qIf, aNil, aCons, dOf, dsOf, qTup, fLst, qF, gTru, tV, tAndF, tOrF, tNotF, qT, qAnd, qOr, qNot, gI, gI0, gB0, cMul, cDiv, cPow, gNeg, gAdd, eqI, neI, lstAt, ixAt, lenAt, oPut, newOb, gLen, gInt, gTuple, Sm.f1, Sm.f2, gList, gIsi, gIx, gIsN, gNoN, gIsB, iRng, iRngB, seqOf, iSeqN, iSeq, bName, bNil, bCons, bTup, wipeE, tTrue, mNx, mSeq, mRet, mRetF, mRetN, mRetO, mIf, mSet, mSetO, mBk, mCt, mPre, mLock, mAsg, mFor, startE, resD, runQ, runF, qCall, fCall, arity, eQ, eF, eT, eNil, eCons, Sm.e1, Sm.e2, eTup, efLst, eLock, eIf, etV, eCall, efCall, enl, eNot, eAnd, eOr, resE, runE, runEF, mE, mSetE, mSetOE, mRetE, mRetFE, mIfE, mAsgE, oNone, oSome, gSl, qSl, fSl, gAll, gAny, qChain, gIn, pNil, pV, pL, mPar2, gCat, ef2, mAppE, mExtE, mPut, eNew, ePop, oPop, iE, iRngE, iSeqE, mForE, gRev, gRevL, iEnu, mHold, gTupR, nl, nlAll, ixN, PyData.isInt, PyData.isBool, PyData.isStr, PyData.isTuple, PyData.isList, PyData.isDict, eqI]
    | str s =>
      have hd : SeqAt.shaped (.str s) = true := hd
      simp [m__law_same, qV, qVs, qC, Sm.q1, Sm.q2, qNl, qIf, aNil, aCons, dOf, dsOf, qTup, fLst, qF, gTru, tV, tAndF, tOrF, tNotF, qT, qAnd, qOr, qNot, gI, gI0, gB0, cMul, cDiv, cPow, gNeg, gAdd, eqI, neI, lstAt, ixAt, lenAt, oPut, newOb, gLen, gInt, gTuple, Sm.f1, Sm.f2, gList, gIsi, gIx, gIsN, gNoN, gIsB, iRng, iRngB, seqOf, iSeqN, iSeq, bName, bNil, bCons, bTup, wipeE, tTrue, mNx, mSeq, mRet, mRetF, mRetN, mRetO, mIf, mSet, mSetO, mBk, mCt, mPre, mLock, mAsg, mFor, startE, resD, runQ, runF, qCall, fCall, arity, eQ, eF, eT, eNil, eCons, Sm.e1, Sm.e2, eTup, efLst, eLock, eIf, etV, eCall, efCall, enl, eNot, eAnd, eOr, resE, runE, runEF, mE, mSetE, mSetOE, mRetE, mRetFE, mIfE, mAsgE, oNone, oSome, gSl, qSl, fSl, gAll, gAny, qChain, gIn, pNil, pV, pL, mPar2, gCat, ef2, mAppE, mExtE, mPut, eNew, ePop, oPop, iE, iRngE, iSeqE, mForE, gRev, gRevL, iEnu, mHold, gTupR, nl, nlAll, ixN, PyData.isInt, PyData.isBool, PyData.isStr, PyData.isTuple, PyData.isList, PyData.isDict, eq_str hd h]
    | dict _ => cases hd
    | tuple ds =>
      have hd : (decide (ds.length ≤ 1000000) && ds.all (pln n)) = true := hd
      rw [Bool.and_eq_true, decide_eq_true_eq, List.all_eq_true] at hd
      have a := same_all hd.1 (fun d h1 h2 => ih d (hd.2 d h1) h2) (.inl rfl) h
      show (m__law_same _ [.v (.d (.tuple ds)), .v (.d (.tuple ds)), .un] h).bind _ = _
      unfold m__law_same
      rw [seq_rt (ℓ := .mo) (x := .d (.bool true)) (env1 := [.v (.d (.tuple ds)), .v (.d (.tuple ds)), .un]) (h1 := h) (if_t (by simp [qV, qVs, qC, Sm.q1, Sm.q2, qNl, qIf, aNil, aCons, dOf, dsOf, qTup, fLst, qF, gTru, tV, tAndF, tOrF, tNotF, qT, qAnd, qOr, qNot, gI, gI0, gB0, cMul, cDiv, cPow, gNeg, gAdd, eqI, neI, lstAt, ixAt, lenAt, oPut, newOb, gLen, gInt, gTuple, Sm.f1, Sm.f2, gList, gIsi, gIx, gIsN, gNoN, gIsB, iRng, iRngB, seqOf, iSeqN, iSeq, bName, bNil, bCons, bTup, wipeE, tTrue, mNx, mSeq, mRet, mRetF, mRetN, mRetO, mIf, mSet, mSetO, mBk, mCt, mPre, mLock, mAsg, mFor, startE, resD, runQ, runF, qCall, fCall, arity, eQ, eF, eT, eNil, eCons, Sm.e1, Sm.e2, eTup, efLst, eLock, eIf, etV, eCall, efCall, enl, eNot, eAnd, eOr, resE, runE, runEF, mE, mSetE, mSetOE, mRetE, mRetFE, mIfE, mAsgE, oNone, oSome, gSl, qSl, fSl, gAll, gAny, qChain, gIn, pNil, pV, pL, mPar2, gCat, ef2, mAppE, mExtE, mPut, eNew, ePop, oPop, iE, iRngE, iSeqE, mForE, gRev, gRevL, iEnu, mHold, gTupR, nl, nlAll, ixN, PyData.isInt, PyData.isBool, PyData.isStr, PyData.isTuple, PyData.isList, PyData.isDict]) (ret_q (by
        unfold qAnd
        rw [q2_of (x := .d (.int ds.length)) (y := .d (.int ds.length)) (z := some (.d (.bool true))) rfl rfl (by rw [eqI]; simp), Option.bind_some]
        exact a)))]
      rfl
    | list ds =>
      have hd : (decide (ds.length ≤ 1000000) && ds.all (pln n)) = true := hd
      rw [Bool.and_eq_true, decide_eq_true_eq, List.all_eq_true] at hd
      have a := same_all hd.1 (fun d h1 h2 => ih d (hd.2 d h1) h2) (.inr rfl) h
      show (m__law_same _ [.v (.d (.list ds)), .v (.d (.list ds)), .un] h).bind _ = _
      unfold m__law_same
      rw [seq_rt (ℓ := .mo) (x := .d (.bool true)) (env1 := [.v (.d (.list ds)), .v (.d (.list ds)), .un]) (h1 := h) (if_t (by simp [qV, qVs, qC, Sm.q1, Sm.q2, qNl, qIf, aNil, aCons, dOf, dsOf, qTup, fLst, qF, gTru, tV, tAndF, tOrF, tNotF, qT, qAnd, qOr, qNot, gI, gI0, gB0, cMul, cDiv, cPow, gNeg, gAdd, eqI, neI, lstAt, ixAt, lenAt, oPut, newOb, gLen, gInt, gTuple, Sm.f1, Sm.f2, gList, gIsi, gIx, gIsN, gNoN, gIsB, iRng, iRngB, seqOf, iSeqN, iSeq, bName, bNil, bCons, bTup, wipeE, tTrue, mNx, mSeq, mRet, mRetF, mRetN, mRetO, mIf, mSet, mSetO, mBk, mCt, mPre, mLock, mAsg, mFor, startE, resD, runQ, runF, qCall, fCall, arity, eQ, eF, eT, eNil, eCons, Sm.e1, Sm.e2, eTup, efLst, eLock, eIf, etV, eCall, efCall, enl, eNot, eAnd, eOr, resE, runE, runEF, mE, mSetE, mSetOE, mRetE, mRetFE, mIfE, mAsgE, oNone, oSome, gSl, qSl, fSl, gAll, gAny, qChain, gIn, pNil, pV, pL, mPar2, gCat, ef2, mAppE, mExtE, mPut, eNew, ePop, oPop, iE, iRngE, iSeqE, mForE, gRev, gRevL, iEnu, mHold, gTupR, nl, nlAll, ixN, PyData.isInt, PyData.isBool, PyData.isStr, PyData.isTuple, PyData.isList, PyData.isDict]) (ret_q (by
        unfold qAnd
        rw [q2_of (x := .d (.int ds.length)) (y := .d (.int ds.length)) (z := some (.d (.bool true))) rfl rfl (by rw [eqI]; simp), Option.bind_some]
        exact a)))]
      rfl
theorem same_t {n : Nat} {d : PyData} {qa qb : Q1} {env : En} {h : Hs} (ea : qa env h = some (.d d)) (eb : qb env h = some (.d d)) (hp : pln n d = true) : tNotF (tV (qCall (arity 2 (g__law_same n)) (aCons qa (aCons qb aNil)))) env h = some false := by
  have := same_ n d hp h
  simp [tNotF, tV, qCall, aCons, aNil, ea, eb, arity, this, gTru]
end K06

set_option Elab.async false
set_option linter.all false
set_option maxRecDepth 100000
set_option maxHeartbeats 1000000
namespace K06
open PySem L2 Evl Sm
/-! ### rows -/
structure Rw where
  w : Int
  a : Int
  m : Bool
  deriving DecidableEq
def mS (b : Bool) : Str := if b = true then "write" else "read"
abbrev wT (a : Int) (m : Bool) : PyData := .tuple [.int a, .str (mS m)]
abbrev wD (r : Rw) : PyData := wT r.a r.m
abbrev rD (r : Rw) : PyData := .tuple [.int r.w, wD r]
abbrev rL (R : List Rw) : List PyData := R.map rD
theorem mS_sh (b : Bool) : SeqAt.shaped (.str (mS b)) = true := by cases b <;> decide +kernel
theorem mS_eq (b c : Bool) : (mS b == mS c) = decide (b = c) := by cases b <;> cases c <;> decide +kernel
theorem mS_lay (b : Bool) : PyData.canLay0 (.str (mS b)) = true ∧ PyData.depth (.str (mS b)) ≤ 1 := by
  cases b <;> decide +kernel
theorem wlay (a : Int) (m : Bool) : PyData.canLay0 (wT a m) = true ∧ PyData.depth (wT a m) ≤ 2 := by
  obtain ⟨x, y⟩ := mS_lay m
  have z : PyData.depth (.int a) ≤ 1 := Nat.le_of_ble_eq_true rfl
  refine ⟨?_, ?_⟩
  · show (true && (PyData.canLay0 (.str (mS m)) && true)) = true
    rw [x]
    rfl
  · rw [PyData.depth, PyData.depthAll, PyData.depthAll, PyData.depthAll]
    omega
theorem rlay (r : Rw) : PyData.canLay0 (rD r) = true ∧ PyData.depth (rD r) ≤ 3 := by
  obtain ⟨x, y⟩ := wlay r.a r.m
  have z : PyData.depth (.int r.w) ≤ 1 := Nat.le_of_ble_eq_true rfl
  refine ⟨?_, ?_⟩
  · show (true && (PyData.canLay0 (wT r.a r.m) && true)) = true
    rw [x]
    rfl
  · rw [PyData.depth, PyData.depthAll, PyData.depthAll, PyData.depthAll]
    have : PyData.depth (wD r) ≤ 2 := y
    omega
theorem lay_all (R : List Rw) : PyData.canLayAll0 (rL R) = true ∧ PyData.depthAll (rL R) ≤ 3 := by
  induction R with
  | nil => exact ⟨rfl, by decide⟩
  | cons r R ih =>
    obtain ⟨a, b⟩ := rlay r
    rw [rL, List.map_cons, PyData.canLayAll0, PyData.depthAll, a, ih.1]
    refine ⟨rfl, ?_⟩
    have := ih.2
    exact Nat.max_le.mpr ⟨b, this⟩
theorem rD_sh (r : Rw) : SeqAt.shaped (rD r) = true := by
  obtain ⟨a, b⟩ := rlay r
  unfold SeqAt.shaped
  rw [a, decide_eq_true (by omega)]
  rfl
theorem wT_sh (a : Int) (m : Bool) : SeqAt.shaped (wT a m) = true := by
  obtain ⟨a, b⟩ := wlay a m
  unfold SeqAt.shaped
  rw [a, decide_eq_true (by omega)]
  rfl
theorem rL_sh (R : List Rw) : SeqAt.shaped (.list (rL R)) = true := by
  obtain ⟨a, b⟩ := lay_all R
  unfold SeqAt.shaped
  rw [show PyData.canLay0 (.list (rL R)) = true from a, PyData.depth, decide_eq_true (by omega)]
  rfl
theorem rT_sh (R : List Rw) : SeqAt.shaped (.tuple (rL R)) = true := by
  obtain ⟨a, b⟩ := lay_all R
  unfold SeqAt.shaped
  rw [show PyData.canLay0 (.tuple (rL R)) = true from a, PyData.depth, decide_eq_true (by omega)]
  rfl
theorem eqv_r (r s : Rw) : PyData.eqv (rD r) (rD s) = decide (r = s) := by
  obtain ⟨w, a, m⟩ := r
  obtain ⟨w', a', m'⟩ := s
  show ((w == w') && (((a == a') && ((mS m == mS m') && true)) && true)) = _
  rw [mS_eq]
  by_cases h1 : w = w' <;> by_cases h2 : a = a' <;> by_cases h3 : m = m' <;> simp [h1, h2, h3]
theorem eq_r (r s : Rw) (h : Hs) : gEq h (.d (rD r)) (.d (rD s)) = some (.d (.bool (decide (r = s)))) := by
  show (if (SeqAt.shaped (rD r) && SeqAt.shaped (rD s)) = true then some (Val.d (.bool (PyData.eqv (rD r) (rD s)))) else none) = _
  rw [rD_sh, rD_sh, eqv_r]
  rfl
theorem ne_r (r s : Rw) (h : Hs) : gNe h (.d (rD r)) (.d (rD s)) = some (.d (.bool (!decide (r = s)))) := by
  show (if (SeqAt.shaped (rD r) && SeqAt.shaped (rD s)) = true then some (Val.d (.bool (!PyData.eqv (rD r) (rD s)))) else none) = _
  rw [rD_sh, rD_sh, eqv_r]
  rfl
theorem any_r (r : Rw) (R : List Rw) : ((rL R).any fun z => PyData.eqv z (rD r)) = decide (r ∈ R) := by
  induction R with
  | nil => rfl
  | cons s R ih =>
    rw [rL, List.map_cons, List.any_cons, eqv_r, ih]
    by_cases h1 : r = s
    · subst h1; simp
    · have h2 : ¬ s = r := fun z => h1 z.symm
      simp [h1, h2]
theorem in_r (r : Rw) (R : List Rw) (h : Hs) : gIn false h (.d (rD r)) (.d (.list (rL R))) = some (.d (.bool (decide (r ∈ R)))) := by
  show (if (SeqAt.shaped (rD r) && SeqAt.shaped (.list (rL R))) = true then some (Val.d (.bool ((rL R).any fun z => PyData.eqv z (rD r)))) else none) = _
  rw [rD_sh, rL_sh, any_r]
  rfl
theorem notin_r (r : Rw) (R : List Rw) (h : Hs) : gIn true h (.d (rD r)) (.d (.list (rL R))) = some (.d (.bool (!decide (r ∈ R)))) := by
  show (if (SeqAt.shaped (rD r) && SeqAt.shaped (.list (rL R))) = true then some (Val.d (.bool (!(rL R).any fun z => PyData.eqv z (rD r)))) else none) = _
  rw [rD_sh, rL_sh, any_r]
  rfl
theorem nl_r (r : Rw) : nl (rD r) = true := rfl
theorem nl_rL (R : List Rw) : nlAll (rL R) = true := by
  induction R with
  | nil => rfl
  | cons s R ih =>
    rw [rL, List.map_cons, nlAll, ih]
    rfl
theorem at_rL {R : List Rw} {k : Nat} {r : Rw} (e : R[k]? = some r) : atI (rL R) (k : Int) = some (rD r) := atN (by rw [rL, List.getElem?_map, e]; rfl)
theorem sl2 : 2 ≤ sizeLine := by decide
theorem len_sl {n : Nat} (h : n ≤ 1000) : n ≤ sizeLine := by rw [sizeLine_eq]; omega
/-! ### what bars what -/
def bars (a : Int) (m : Bool) (s : Rw) : Bool := decide (a = s.a) && (m || s.m)
def hits (r s : Rw) : Bool := !decide (s.w = r.w) && bars r.a r.m s
theorem wr_in (m m' : Bool) (h : Hs) : gIn false h (.d (.str "write")) (.d (.tuple [.str (mS m), .str (mS m')])) = some (.d (.bool (m || m'))) := by
  cases m <;> cases m' <;> kernel_rfl
theorem bars_ (a : Int) (m : Bool) (s : Rw) (h : Hs) : r__law_bars [.d (wT a m), .d (wD s)] h = some (.d (.bool (bars a m s))) := by
  have w := fun h => wr_in m s.m h
  refine runQ_wp (wp.ret (ℓ := .mo) ?_ ⟨_, rfl⟩)
  have e0 : Sm.q2 gEq (Sm.q2 gIx (qV 0) (qC (.d (.int 0)))) (Sm.q2 gIx (qV 1) (qC (.d (.int 0)))) (startE 0 [.d (wT a m), .d (wD s)]) h = some (.d (.bool (decide (a = s.a)))) := by
    simp [qV, qVs, qC, Sm.q1, Sm.q2, qNl, qIf, aNil, aCons, dOf, dsOf, qTup, fLst, qF, gTru, tV, tAndF, tOrF, tNotF, qT, qAnd, qOr, qNot, gI, gI0, gB0, cMul, cDiv, cPow, gNeg, gAdd, eqI, neI, lstAt, ixAt, lenAt, oPut, newOb, gLen, gInt, gTuple, Sm.f1, Sm.f2, gList, gIsi, gIx, gIsN, gNoN, gIsB, iRng, iRngB, seqOf, iSeqN, iSeq, bName, bNil, bCons, bTup, wipeE, tTrue, mNx, mSeq, mRet, mRetF, mRetN, mRetO, mIf, mSet, mSetO, mBk, mCt, mPre, mLock, mAsg, mFor, startE, resD, runQ, runF, qCall, fCall, arity, eQ, eF, eT, eNil, eCons, Sm.e1, Sm.e2, eTup, efLst, eLock, eIf, etV, eCall, efCall, enl, eNot, eAnd, eOr, resE, runE, runEF, mE, mSetE, mSetOE, mRetE, mRetFE, mIfE, mAsgE, oNone, oSome, gSl, qSl, fSl, gAll, gAny, qChain, gIn, pNil, pV, pL, mPar2, gCat, ef2, mAppE, mExtE, mPut, eNew, ePop, oPop, iE, iRngE, iSeqE, mForE, gRev, gRevL, iEnu, mHold, gTupR, nl, nlAll, ixN, PyData.isInt, PyData.isBool, PyData.isStr, PyData.isTuple, PyData.isList, PyData.isDict]
  have e1 : Sm.q2 (gIn false) (qC (.d (.str "write"))) (qTup (aCons (Sm.q2 gIx (qV 0) (qC (.d (.int 1)))) (aCons (Sm.q2 gIx (qV 1) (qC (.d (.int 1)))) aNil))) (startE 0 [.d (wT a m), .d (wD s)]) h = some (.d (.bool (m || s.m))) := by
    refine q2_of (x := .d (.str "write")) (y := .d (.tuple [.str (mS m), .str (mS s.m)])) rfl ?_ (w h)
    simp [qV, qVs, qC, Sm.q1, Sm.q2, qNl, qIf, aNil, aCons, dOf, dsOf, qTup, fLst, qF, gTru, tV, tAndF, tOrF, tNotF, qT, qAnd, qOr, qNot, gI, gI0, gB0, cMul, cDiv, cPow, gNeg, gAdd, eqI, neI, lstAt, ixAt, lenAt, oPut, newOb, gLen, gInt, gTuple, Sm.f1, Sm.f2, gList, gIsi, gIx, gIsN, gNoN, gIsB, iRng, iRngB, seqOf, iSeqN, iSeq, bName, bNil, bCons, bTup, wipeE, tTrue, mNx, mSeq, mRet, mRetF, mRetN, mRetO, mIf, mSet, mSetO, mBk, mCt, mPre, mLock, mAsg, mFor, startE, resD, runQ, runF, qCall, fCall, arity, eQ, eF, eT, eNil, eCons, Sm.e1, Sm.e2, eTup, efLst, eLock, eIf, etV, eCall, efCall, enl, eNot, eAnd, eOr, resE, runE, runEF, mE, mSetE, mSetOE, mRetE, mRetFE, mIfE, mAsgE, oNone, oSome, gSl, qSl, fSl, gAll, gAny, qChain, pNil, pV, pL, mPar2, gCat, ef2, mAppE, mExtE, mPut, eNew, ePop, oPop, iE, iRngE, iSeqE, mForE, gRev, gRevL, iEnu, mHold, gTupR, nl, nlAll, ixN, PyData.isInt, PyData.isBool, PyData.isStr, PyData.isTuple, PyData.isList, PyData.isDict, fIf, iSeqX, iSeqT, gMulX, gMul, eNewF, gMax2, gMin2, gMaxL, gMinL, gSetN, gTupR2, maxI, minI, fLc, lcStep, lcGo, lcGoE, lcStepE, efLc, forGo, intsOf, intOf, boolsOf, gSetS, sl2]
  unfold bars
  by_cases e : a = s.a
  · rw [qAnd_t (by rw [e0, decide_eq_true e]), e1, decide_eq_true e]
    rfl
  · rw [qAnd_f (by rw [e0, decide_eq_false e]), decide_eq_false e]
    rfl
end K06

set_option Elab.async false
set_option linter.all false
set_option maxRecDepth 100000
set_option maxHeartbeats 1000000
namespace K06
open PySem L2 Evl Sm
/-! ### who bars -/
def barr (r : Rw) (R : List Rw) : List Int := (R.filter (hits r)).map (·.w)
def HasF (h : Hs) (n : Nat) : Prop := ∃ fs, h[n]? = some (.ins 0 (.v (.fn 0) :: fs))
def HasH (h : Hs) (n : Nat) (H : List Rw) : Prop := ∃ fs, h[n]? = some (.ins 0 (.v (.fn 0) :: .l (rL H) :: fs))
theorem HasH.f {h : Hs} {n : Nat} {H : List Rw} (x : HasH h n H) : HasF h n := let ⟨fs, e⟩ := x; ⟨_, e⟩
section
variable {h : Hs} {n : Nat} {env : En} {qo q : Q1}
theorem fldCall_ {a : En → Hs → Option (List Val)} {xs : List Val} {g : List Val → Hs → Option Val} {x : Val} (hf : HasF h n) (eo : qo env h = some (.ref n)) (ea : a env h = some xs) (e : g xs h = some x) : qFldCall 0 0 0 g qo a env h = some x := by
  obtain ⟨fs, hn⟩ := hf
  have e0 : fldAt 0 0 h (.ref n) = some (.v (.fn 0)) := by simp [fldAt, hn]
  unfold qFldCall
  rw [eo, Option.bind_some]
  simp only [e0, if_true, ea, Option.bind_some, e]
theorem barring_ (hf : HasF h n) (r : Rw) (R : List Rw) (hR : R.length ≤ 1000) : r_Queue__barring [.ref n, .d (.int r.w), .d (wD r), .d (.list (rL R))] h = some ((barr r R).map .int) := by
  refine runF_wp (wp.retF ?_ rfl)
  unfold barr
  rw [List.map_map]
  refine fLc_filter (f := rD) (p := hits r) (g := fun s => .int s.w) (by simp [qV, qVs, qC, Sm.q1, Sm.q2, qNl, qIf, aNil, aCons, dOf, dsOf, qTup, fLst, qF, gTru, tV, tAndF, tOrF, tNotF, qT, qAnd, qOr, qNot, gI, gI0, gB0, cMul, cDiv, cPow, gNeg, gAdd, eqI, neI, lstAt, ixAt, lenAt, oPut, newOb, gLen, gInt, gTuple, Sm.f1, Sm.f2, gList, gIsi, gIx, gIsN, gNoN, gIsB, iRng, iRngB, seqOf, iSeqN, iSeq, bName, bNil, bCons, bTup, wipeE, tTrue, mNx, mSeq, mRet, mRetF, mRetN, mRetO, mIf, mSet, mSetO, mBk, mCt, mPre, mLock, mAsg, mFor, startE, resD, runQ, runF, qCall, fCall, arity, eQ, eF, eT, eNil, eCons, Sm.e1, Sm.e2, eTup, efLst, eLock, eIf, etV, eCall, efCall, enl, eNot, eAnd, eOr, resE, runE, runEF, mE, mSetE, mSetOE, mRetE, mRetFE, mIfE, mAsgE, oNone, oSome, gSl, qSl, fSl, gAll, gAny, qChain, pNil, pV, pL, mPar2, gCat, ef2, mAppE, mExtE, mPut, eNew, ePop, oPop, iE, iRngE, iSeqE, mForE, gRev, gRevL, iEnu, mHold, gTupR, nl, nlAll, ixN, PyData.isInt, PyData.isBool, PyData.isStr, PyData.isTuple, PyData.isList, PyData.isDict, fIf, iSeqX, iSeqT, gMulX, gMul, eNewF, gMax2, gMin2, gMaxL, gMinL, gSetN, gTupR2, maxI, minI, fLc, lcStep, lcGo, lcGoE, lcStepE, efLc, forGo, intsOf, intOf, boolsOf, gSetS, startE, nl_rL]) (fun s hs => ?_) (len_sl hR)
  refine stepc_of (env1 := [.v (.ref n), .v (.d (.int r.w)), .v (.d (wD r)), .v (.d (.list (rL R))), .v (.d (.int s.w)), .v (.d (wD s))]) (by simp [qV, qVs, qC, Sm.q1, Sm.q2, qNl, qIf, aNil, aCons, dOf, dsOf, qTup, fLst, qF, gTru, tV, tAndF, tOrF, tNotF, qT, qAnd, qOr, qNot, gI, gI0, gB0, cMul, cDiv, cPow, gNeg, gAdd, eqI, neI, lstAt, ixAt, lenAt, oPut, newOb, gLen, gInt, gTuple, Sm.f1, Sm.f2, gList, gIsi, gIx, gIsN, gNoN, gIsB, iRng, iRngB, seqOf, iSeqN, iSeq, bName, bNil, bCons, bTup, wipeE, tTrue, mNx, mSeq, mRet, mRetF, mRetN, mRetO, mIf, mSet, mSetO, mBk, mCt, mPre, mLock, mAsg, mFor, startE, resD, runQ, runF, qCall, fCall, arity, eQ, eF, eT, eNil, eCons, Sm.e1, Sm.e2, eTup, efLst, eLock, eIf, etV, eCall, efCall, enl, eNot, eAnd, eOr, resE, runE, runEF, mE, mSetE, mSetOE, mRetE, mRetFE, mIfE, mAsgE, oNone, oSome, gSl, qSl, fSl, gAll, gAny, qChain, gIn, pNil, pV, pL, mPar2, gCat, ef2, mAppE, mExtE, mPut, eNew, ePop, oPop, iE, iRngE, iSeqE, mForE, gRev, gRevL, iEnu, mHold, gTupR, nl, nlAll, ixN, PyData.isInt, PyData.isBool, PyData.isStr, PyData.isTuple, PyData.isList, PyData.isDict]) (b := hits r s) ?_ (by simp [qV, qVs, qC, Sm.q1, Sm.q2, qNl, qIf, aNil, aCons, dOf, dsOf, qTup, fLst, qF, gTru, tV, tAndF, tOrF, tNotF, qT, qAnd, qOr, qNot, gI, gI0, gB0, cMul, cDiv, cPow, gNeg, gAdd, eqI, neI, lstAt, ixAt, lenAt, oPut, newOb, gLen, gInt, gTuple, Sm.f1, Sm.f2, gList, gIsi, gIx, gIsN, gNoN, gIsB, iRng, iRngB, seqOf, iSeqN, iSeq, bName, bNil, bCons, bTup, wipeE, tTrue, mNx, mSeq, mRet, mRetF, mRetN, mRetO, mIf, mSet, mSetO, mBk, mCt, mPre, mLock, mAsg, mFor, startE, resD, runQ, runF, qCall, fCall, arity, eQ, eF, eT, eNil, eCons, Sm.e1, Sm.e2, eTup, efLst, eLock, eIf, etV, eCall, efCall, enl, eNot, eAnd, eOr, resE, runE, runEF, mE, mSetE, mSetOE, mRetE, mRetFE, mIfE, mAsgE, oNone, oSome, gSl, qSl, fSl, gAll, gAny, qChain, gIn, pNil, pV, pL, mPar2, gCat, ef2, mAppE, mExtE, mPut, eNew, ePop, oPop, iE, iRngE, iSeqE, mForE, gRev, gRevL, iEnu, mHold, gTupR, nl, nlAll, ixN, PyData.isInt, PyData.isBool, PyData.isStr, PyData.isTuple, PyData.isList, PyData.isDict])
  unfold hits tAndF
  by_cases c : s.w = r.w
  · simp [qV, qVs, qC, Sm.q1, Sm.q2, qNl, qIf, aNil, aCons, dOf, dsOf, qTup, fLst, qF, gTru, tV, tAndF, tOrF, tNotF, qT, qAnd, qOr, qNot, gI, gI0, gB0, cMul, cDiv, cPow, gNeg, gAdd, eqI, neI, lstAt, ixAt, lenAt, oPut, newOb, gLen, gInt, gTuple, Sm.f1, Sm.f2, gList, gIsi, gIx, gIsN, gNoN, gIsB, iRng, iRngB, seqOf, iSeqN, iSeq, bName, bNil, bCons, bTup, wipeE, tTrue, mNx, mSeq, mRet, mRetF, mRetN, mRetO, mIf, mSet, mSetO, mBk, mCt, mPre, mLock, mAsg, mFor, startE, resD, runQ, runF, qCall, fCall, arity, eQ, eF, eT, eNil, eCons, Sm.e1, Sm.e2, eTup, efLst, eLock, eIf, etV, eCall, efCall, enl, eNot, eAnd, eOr, resE, runE, runEF, mE, mSetE, mSetOE, mRetE, mRetFE, mIfE, mAsgE, oNone, oSome, gSl, qSl, fSl, gAll, gAny, qChain, gIn, pNil, pV, pL, mPar2, gCat, ef2, mAppE, mExtE, mPut, eNew, ePop, oPop, iE, iRngE, iSeqE, mForE, gRev, gRevL, iEnu, mHold, gTupR, nl, nlAll, ixN, PyData.isInt, PyData.isBool, PyData.isStr, PyData.isTuple, PyData.isList, PyData.isDict, c]
  · have := fldCall_ (g := arity 2 r__law_bars) (a := aCons (qV 2) (aCons (qV 5) aNil)) (qo := qV 0) (env := [.v (.ref n), .v (.d (.int r.w)), .v (.d (wD r)), .v (.d (.list (rL R))), .v (.d (.int s.w)), .v (.d (wD s))]) (xs := [.d (wD r), .d (wD s)]) hf rfl rfl (bars_ r.a r.m s h)
    simp [qV, qVs, qC, Sm.q1, Sm.q2, qNl, qIf, aNil, aCons, dOf, dsOf, qTup, fLst, qF, gTru, tV, tAndF, tOrF, tNotF, qT, qAnd, qOr, qNot, gI, gI0, gB0, cMul, cDiv, cPow, gNeg, gAdd, eqI, neI, lstAt, ixAt, lenAt, oPut, newOb, gLen, gInt, gTuple, Sm.f1, Sm.f2, gList, gIsi, gIx, gIsN, gNoN, gIsB, iRng, iRngB, seqOf, iSeqN, iSeq, bName, bNil, bCons, bTup, wipeE, tTrue, mNx, mSeq, mRet, mRetF, mRetN, mRetO, mIf, mSet, mSetO, mBk, mCt, mPre, mLock, mAsg, mFor, startE, resD, runQ, runF, qCall, fCall, arity, eQ, eF, eT, eNil, eCons, Sm.e1, Sm.e2, eTup, efLst, eLock, eIf, etV, eCall, efCall, enl, eNot, eAnd, eOr, resE, runE, runEF, mE, mSetE, mSetOE, mRetE, mRetFE, mIfE, mAsgE, oNone, oSome, gSl, qSl, fSl, gAll, gAny, qChain, gIn, pNil, pV, pL, mPar2, gCat, ef2, mAppE, mExtE, mPut, eNew, ePop, oPop, iE, iRngE, iSeqE, mForE, gRev, gRevL, iEnu, mHold, gTupR, nl, nlAll, ixN, PyData.isInt, PyData.isBool, PyData.isStr, PyData.isTuple, PyData.isList, PyData.isDict, c, this]
theorem isObj_ (hf : HasF h n) : Sm.isObj 0 h (.ref n) = true := by
  obtain ⟨fs, hn⟩ := hf
  simp [Sm.isObj, hn]
theorem fMeth_ {a : En → Hs → Option (List Val)} {xs : List Val} {g : List Val → Hs → Option (List PyData)} {ys : List PyData} (hf : HasF h n) (eo : qo env h = some (.ref n)) (ea : a env h = some xs) (e : g (.ref n :: xs) h = some ys) : fMeth 0 g qo a env h = some ys := by
  unfold fMeth
  rw [eo, Option.bind_some, if_pos (isObj_ hf), ea, Option.bind_some, e]
theorem qMeth_ {a : En → Hs → Option (List Val)} {xs : List Val} {g : List Val → Hs → Option Val} {y : Val} (hf : HasF h n) (eo : qo env h = some (.ref n)) (ea : a env h = some xs) (e : g (.ref n :: xs) h = some y) : qMeth 0 g qo a env h = some y := by
  unfold qMeth
  rw [eo, Option.bind_some, if_pos (isObj_ hf), ea, Option.bind_some, e]
theorem fld1_ {H : List Rw} (hf : HasH h n H) (eo : qo env h = some (.ref n)) : qFld 0 1 qo env h = some (.d (.list (rL H))) := by
  obtain ⟨fs, hn⟩ := hf
  unfold qFld
  rw [eo, Option.bind_some]
  simp [fldAt, hn, slV]
def can (r : Rw) (H A : List Rw) : Bool := !(H.any (hits r)) && !(A.any (hits r))
theorem barr_tru (r : Rw) (R : List Rw) : gTru (.list ((barr r R).map .int)) = some (R.any (hits r)) := by
  show some (!((barr r R).map PyData.int).isEmpty) = _
  congr 1
  induction R with
  | nil => rfl
  | cons s R ih =>
    unfold barr at ih ⊢
    rw [List.any_cons]
    by_cases c : hits r s = true
    · rw [List.filter_cons_of_pos c, c]; rfl
    · rw [List.filter_cons_of_neg c]
      rw [ih, Bool.eq_false_iff.mpr c, Bool.false_or]
theorem can_ {H A : List Rw} (hf : HasH h n H) (r : Rw) (hH : H.length ≤ 1000) (hA : A.length ≤ 1000) : r_Queue__can_have [.ref n, .d (.int r.w), .d (wD r), .d (.list (rL A))] h = some (.d (.bool (can r H A))) := by
  refine runQ_wp (wp.ret (ℓ := .mo) ?_ ⟨_, rfl⟩)
  have e1 := fMeth_ (env := startE 0 [.ref n, .d (.int r.w), .d (wD r), .d (.list (rL A))]) (g := arity 4 r_Queue__barring) (qo := qV 0) (a := aCons (qV 1) (aCons (qV 2) (aCons (qFld 0 1 (qV 0)) aNil))) (xs := [.d (.int r.w), .d (wD r), .d (.list (rL H))]) hf.f rfl (by
    have := fld1_ (qo := qV 0) (env := startE 0 [.ref n, .d (.int r.w), .d (wD r), .d (.list (rL A))]) hf rfl
    simp only [aCons, aNil, this]
    simp [qV, startE]) (barring_ hf.f r H hH)
  have e2 := fMeth_ (env := startE 0 [.ref n, .d (.int r.w), .d (wD r), .d (.list (rL A))]) (g := arity 4 r_Queue__barring) (qo := qV 0) (a := aCons (qV 1) (aCons (qV 2) (aCons (qV 3) aNil))) (xs := [.d (.int r.w), .d (wD r), .d (.list (rL A))]) hf.f rfl rfl (barring_ hf.f r A hA)
  have n1 : qNot (qF (fMeth 0 (arity 4 r_Queue__barring) (qV 0) (aCons (qV 1) (aCons (qV 2) (aCons (qFld 0 1 (qV 0)) aNil))))) (startE 0 [.ref n, .d (.int r.w), .d (wD r), .d (.list (rL A))]) h = some (.d (.bool (!(H.any (hits r))))) := by
    unfold qNot
    rw [qF_ e1, Option.bind_some]
    simp only [barr_tru, Option.bind_some]
  have n2 : qNot (qF (fMeth 0 (arity 4 r_Queue__barring) (qV 0) (aCons (qV 1) (aCons (qV 2) (aCons (qV 3) aNil))))) (startE 0 [.ref n, .d (.int r.w), .d (wD r), .d (.list (rL A))]) h = some (.d (.bool (!(A.any (hits r))))) := by
    unfold qNot
    rw [qF_ e2, Option.bind_some]
    simp only [barr_tru, Option.bind_some]
  unfold can
  cases c : H.any (hits r)
  · rw [c] at n1
    rw [qAnd_t n1, n2]
    rfl
  · rw [c] at n1
    rw [qAnd_f n1]
    rfl
theorem free_ {H A : List Rw} (r : Rw) (hH : H.length ≤ 400) (hA : A.length ≤ 400) : r__law_free [.d (.int r.w), .d (wD r), .d (.list (rL H)), .d (.list (rL A))] h = some (.d (.bool (can r H A))) := by
  refine runQ_wp (wp.ret (ℓ := .mo) ?_ ⟨_, rfl⟩)
  have hl : (H ++ A).length ≤ sizeLine := by rw [List.length_append]; exact len_sl (by omega)
  have hl2 : H.length + A.length ≤ sizeLine := len_sl (by omega)
  have ea := any_lc (f := rD) (p := hits r) (xs := H ++ A) (it := iSeqX (qF (f2 gCat (qV 2) (qV 3)))) (vs := [4, 5]) (bn := bTup 2 (bCons (bName 4) (bCons (bName 5) bNil))) (tt := tTrue) (te := qAnd (Sm.q2 gNe (qV 4) (qV 0)) (qNl (qCall (arity 2 r__law_bars) (aCons (qV 1) (aCons (qV 5) aNil)))))
    (env := startE 2 [.d (.int r.w), .d (wD r), .d (.list (rL H)), .d (.list (rL A))]) (h := h) (by
      have : Sm.f2 gCat (qV 2) (qV 3) (startE 2 [.d (.int r.w), .d (wD r), .d (.list (rL H)), .d (.list (rL A))]) h = some (rL (H ++ A)) := by
        simp [Sm.f2, qV, startE, gCat, nl_rL, hl2]
      unfold iSeqX
      rw [qF_ this, Option.bind_some]
      have := nl_rL (H ++ A)
      simp only [seqOf, Option.bind_some, this, if_true]) (fun s hs => step_of (env1 := [.v (.d (.int r.w)), .v (.d (wD r)), .v (.d (.list (rL H))), .v (.d (.list (rL A))), .v (.d (.int s.w)), .v (.d (wD s))]) (by simp [qV, qVs, qC, Sm.q1, Sm.q2, qNl, qIf, aNil, aCons, dOf, dsOf, qTup, fLst, qF, gTru, tV, tAndF, tOrF, tNotF, qT, qAnd, qOr, qNot, gI, gI0, gB0, cMul, cDiv, cPow, gNeg, gAdd, eqI, neI, lstAt, ixAt, lenAt, oPut, newOb, gLen, gInt, gTuple, Sm.f1, Sm.f2, gList, gIsi, gIx, gIsN, gNoN, gIsB, iRng, iRngB, seqOf, iSeqN, iSeq, bName, bNil, bCons, bTup, wipeE, tTrue, mNx, mSeq, mRet, mRetF, mRetN, mRetO, mIf, mSet, mSetO, mBk, mCt, mPre, mLock, mAsg, mFor, startE, resD, runQ, runF, qCall, fCall, arity, eQ, eF, eT, eNil, eCons, Sm.e1, Sm.e2, eTup, efLst, eLock, eIf, etV, eCall, efCall, enl, eNot, eAnd, eOr, resE, runE, runEF, mE, mSetE, mSetOE, mRetE, mRetFE, mIfE, mAsgE, oNone, oSome, gSl, qSl, fSl, gAll, gAny, qChain, gIn, pNil, pV, pL, mPar2, gCat, ef2, mAppE, mExtE, mPut, eNew, ePop, oPop, iE, iRngE, iSeqE, mForE, gRev, gRevL, iEnu, mHold, gTupR, nl, nlAll, ixN, PyData.isInt, PyData.isBool, PyData.isStr, PyData.isTuple, PyData.isList, PyData.isDict]) rfl (by
        unfold hits
        by_cases c : s.w = r.w
        · simp [qV, qVs, qC, Sm.q1, Sm.q2, qNl, qIf, aNil, aCons, dOf, dsOf, qTup, fLst, qF, gTru, tV, tAndF, tOrF, tNotF, qT, qAnd, qOr, qNot, gI, gI0, gB0, cMul, cDiv, cPow, gNeg, gAdd, eqI, neI, lstAt, ixAt, lenAt, oPut, newOb, gLen, gInt, gTuple, Sm.f1, Sm.f2, gList, gIsi, gIx, gIsN, gNoN, gIsB, iRng, iRngB, seqOf, iSeqN, iSeq, bName, bNil, bCons, bTup, wipeE, tTrue, mNx, mSeq, mRet, mRetF, mRetN, mRetO, mIf, mSet, mSetO, mBk, mCt, mPre, mLock, mAsg, mFor, startE, resD, runQ, runF, qCall, fCall, arity, eQ, eF, eT, eNil, eCons, Sm.e1, Sm.e2, eTup, efLst, eLock, eIf, etV, eCall, efCall, enl, eNot, eAnd, eOr, resE, runE, runEF, mE, mSetE, mSetOE, mRetE, mRetFE, mIfE, mAsgE, oNone, oSome, gSl, qSl, fSl, gAll, gAny, qChain, gIn, pNil, pV, pL, mPar2, gCat, ef2, mAppE, mExtE, mPut, eNew, ePop, oPop, iE, iRngE, iSeqE, mForE, gRev, gRevL, iEnu, mHold, gTupR, nl, nlAll, ixN, PyData.isInt, PyData.isBool, PyData.isStr, PyData.isTuple, PyData.isList, PyData.isDict, c]
        · simp [qV, qVs, qC, Sm.q1, Sm.q2, qNl, qIf, aNil, aCons, dOf, dsOf, qTup, fLst, qF, gTru, tV, tAndF, tOrF, tNotF, qT, qAnd, qOr, qNot, gI, gI0, gB0, cMul, cDiv, cPow, gNeg, gAdd, eqI, neI, lstAt, ixAt, lenAt, oPut, newOb, gLen, gInt, gTuple, Sm.f1, Sm.f2, gList, gIsi, gIx, gIsN, gNoN, gIsB, iRng, iRngB, seqOf, iSeqN, iSeq, bName, bNil, bCons, bTup, wipeE, tTrue, mNx, mSeq, mRet, mRetF, mRetN, mRetO, mIf, mSet, mSetO, mBk, mCt, mPre, mLock, mAsg, mFor, startE, resD, runQ, runF, qCall, fCall, arity, eQ, eF, eT, eNil, eCons, Sm.e1, Sm.e2, eTup, efLst, eLock, eIf, etV, eCall, efCall, enl, eNot, eAnd, eOr, resE, runE, runEF, mE, mSetE, mSetOE, mRetE, mRetFE, mIfE, mAsgE, oNone, oSome, gSl, qSl, fSl, gAll, gAny, qChain, gIn, pNil, pV, pL, mPar2, gCat, ef2, mAppE, mExtE, mPut, eNew, ePop, oPop, iE, iRngE, iSeqE, mForE, gRev, gRevL, iEnu, mHold, gTupR, nl, nlAll, ixN, PyData.isInt, PyData.isBool, PyData.isStr, PyData.isTuple, PyData.isList, PyData.isDict, c, bars_ r.a r.m s h])) hl
  unfold qNot
  rw [ea, Option.bind_some]
  have : (!((H ++ A).any (hits r))) = can r H A := by
    unfold can
    rw [List.any_append, Bool.not_or]
  rw [← this]
  rfl
end
end K06

set_option Elab.async false
set_option linter.all false
set_option maxRecDepth 100000
set_option maxHeartbeats 1000000
namespace K06
open PySem L2 Evl Sm
/-! ### statements about attributes, read -/
section
variable {env : En} {h : Hs} {c j n i : Nat} {fs : List Sl} {xs : List PyData} {d : PyData} {qo q : Q1} {f : I1} {Q : Flo → En → Hs → Prop} {m : M1}
theorem setFld_ {s : Sl} (hn : h[n]? = some (.ins c fs)) : setFld c j h (.ref n) s = some (h.set n (.ins c (fs.set j s))) := by
  simp [setFld, hn]
theorem wp.fldApp (eo : qo env h = some (.ref n)) (hn : h[n]? = some (.ins c fs)) (hj : fs[j]? = some (.l xs)) (eq : q env h = some (.d d)) (hl : xs.length < 1000000) (k : Q .nx env (h.set n (.ins c (fs.set j (.l (xs ++ [d])))))) : wp (mFldApp c j qo q) env h Q := by
  refine ⟨_, _, _, ?_, k⟩
  have e0 : fldAt c j h (.ref n) = some (.l xs) := by simp [fldAt, hn, hj]
  unfold mFldApp
  rw [eo, Option.bind_some]
  simp only [e0, eq, Option.bind_some, dOf]
  rw [if_pos (by rw [sizeLine_eq]; omega), setFld_ hn, Option.bind_some]
theorem wp.fldMv (e : env[i]? = some (.l xs)) (eo : qo env h = some (.ref n)) (hn : h[n]? = some (.ins c fs)) (k : Q .nx (env.set i .un) (h.set n (.ins c (fs.set j (.l xs))))) : wp (mFldMv c j i qo) env h Q := by
  refine ⟨_, _, _, ?_, k⟩
  unfold mFldMv
  simp only [e, eo, Option.bind_some]
  rw [setFld_ hn, Option.bind_some]
theorem wp.fldL (e : f env h = some xs) (eo : qo env h = some (.ref n)) (hn : h[n]? = some (.ins c fs)) (k : Q .nx env (h.set n (.ins c (fs.set j (.l xs))))) : wp (mFldL c j qo (eF f)) env h Q := by
  refine ⟨_, _, _, ?_, k⟩
  unfold mFldL eF
  rw [e, Option.bind_some, Option.bind_some]
  simp only
  rw [eo, Option.bind_some, setFld_ hn, Option.bind_some]
theorem wp.holdF (e : env[i]? = some (.v (.ref n))) (hn : h[n]? = some (.ins c fs)) (hj : fs[j]? = some (.l xs)) (k : wp m env (h.set n (.ins c (fs.set j (.v (.d (.list xs)))))) Q) : wp (mHoldF c i j m) env h Q := by
  obtain ⟨r, e1, h1, e2, k⟩ := k
  refine ⟨r, e1, h1, ?_, k⟩
  have e0 : fldAt c j h (.ref n) = some (.l xs) := by simp [fldAt, hn, hj]
  unfold mHoldF
  simp only [e, e0]
  rw [setFld_ hn, Option.bind_some, e2]
theorem wp.e {a : E1} (k : evE a env h fun _ h1 => Q .nx env h1) : wp (mE a) env h Q := by
  obtain ⟨x, h1, e, k⟩ := k
  exact ⟨_, _, _, by unfold mE; rw [e]; rfl, k⟩
theorem evE.meth {g : List Val → Hs → Option (Val × Hs)} {a : EA} {Q : Val → Hs → Prop} (eo : qo env h = some (.ref n)) (ho : Sm.isObj c h (.ref n) = true) (k : evA a env h fun xs h1 => ∃ y h2, g (.ref n :: xs) h1 = some (y, h2) ∧ Q y h2) : evE (eMeth c g qo a) env h Q := by
  obtain ⟨xs, h1, e, y, h2, e2, k⟩ := k
  refine ⟨y, h2, ?_, k⟩
  unfold eMeth
  rw [eo, Option.bind_some, if_pos ho, e, Option.bind_some]
  exact e2
theorem qFldS_ {y : Val} (eo : qo env h = some (.ref n)) (hn : h[n]? = some (.ins c fs)) (hj : fs[j]? = some (.v y)) : qFldS c j qo env h = some y := by
  have e0 : fldAt c j h (.ref n) = some (.v y) := by simp [fldAt, hn, hj]
  unfold qFldS
  rw [eo, Option.bind_some]
  simp only [e0]
theorem qFld_l (eo : qo env h = some (.ref n)) (hn : h[n]? = some (.ins c fs)) (hj : fs[j]? = some (.l xs)) : qFld c j qo env h = some (.d (.list xs)) := by
  have e0 : fldAt c j h (.ref n) = some (.l xs) := by simp [fldAt, hn, hj]
  unfold qFld
  rw [eo, Option.bind_some, e0]
  rfl
end
/-! ### the queue -/
def qob (H : List Rw) (s : Sl) : Ob := .ins 0 [.v (.fn 0), .l (rL H), s]
abbrev qb (H L : List Rw) : Ob := qob H (.l (rL L))
theorem hasH {h : Hs} {n : Nat} {H : List Rw} {s : Sl} (e : h[n]? = some (qob H s)) : HasH h n H := ⟨_, e⟩
theorem get_set1 {h : Hs} {n : Nat} {x y : Ob} (e : h[n]? = some x) : (h.set n y)[n]? = some y := List.getElem?_set_self (List.getElem?_eq_some_iff.mp e).1
def give : List Rw → List Rw → List Rw → List Rw × List Rw
  | H, Lf, [] => (H, Lf)
  | H, Lf, r :: L => if can r H Lf = true then give (H ++ [r]) Lf L else give H (Lf ++ [r]) L
theorem give_cons (H Lf L : List Rw) (r : Rw) : give H Lf (r :: L) = if can r H Lf = true then give (H ++ [r]) Lf L else give H (Lf ++ [r]) L := rfl
theorem rL_app (R : List Rw) (r : Rw) : rL (R ++ [r]) = rL R ++ [rD r] := by simp [rL]
theorem row_ {q1 q2 : Q1} {env : En} {h : Hs} {r : Rw} (e1 : q1 env h = some (.d (.int r.w))) (e2 : q2 env h = some (.d (wD r))) : qTup (aCons (qNl q1) (aCons (qNl q2) aNil)) env h = some (.d (rD r)) := by
  refine qTup2_ ?_ ?_
  · unfold qNl; rw [e1]; rfl
  · unfold qNl; rw [e2]; rfl
theorem go_on_ {h : Hs} {n : Nat} {H L : List Rw} (hn : h[n]? = some (qb H L)) (hl : H.length + L.length ≤ 400) : r_Queue__go_on [.ref n] h = some (.d .none, h.set n (qb (give H [] L).1 (give H [] L).2)) := by
  have key : wp m_Queue__go_on (startE 3 [.ref n]) h fun r _ h' => r = .nx ∧ h' = h.set n (qb (give H [] L).1 (give H [] L).2) := by
    refine wp.sq (wp.setO (xs := []) rfl ⟨rfl, ?_⟩)
    refine wp.holdF (n := n) (fs := [.v (.fn 0), .l (rL H), .l (rL L)]) (xs := rL L) rfl hn rfl ?_
    have e1 := get_set1 (y := qob H (.v (.d (.list (rL L))))) hn
    refine wp.sq (wp.for (xs := rL L) (fun j env h' => ∃ Hj Lf, env = [.v (.ref n), .l (rL Lf), .un, .un] ∧ h' = h.set n (qob Hj (.v (.d (.list (rL L))))) ∧ give Hj Lf (L.drop j) = give H [] L ∧ Hj.length + Lf.length = H.length + j ∧ j ≤ L.length) ?_ ⟨H, [], rfl, rfl, rfl, rfl, Nat.zero_le _⟩ ?_ ?_)
    · have e3 : qFldS 0 2 (qV 0) [.v (.ref n), .l [], .un, .un] (h.set n (qob H (.v (.d (.list (rL L)))))) = some (.d (.list (rL L))) := qFldS_ (n := n) (fs := [.v (.fn 0), .l (rL H), .v (.d (.list (rL L)))]) rfl e1 rfl
      show iSeqT (qFldS 0 2 (qV 0)) [.v (.ref n), .l [], .un, .un] (h.set n (qob H (.v (.d (.list (rL L)))))) = _
      unfold iSeqT
      rw [e3, Option.bind_some]
      rfl
    · rintro j x env h' hx ⟨Hj, Lf, rfl, rfl, hg, hlen, hj⟩
      rw [rL, List.getElem?_map] at hx
      obtain ⟨r, hr, rfl⟩ := Option.map_eq_some_iff.mp hx
      have hjl := (List.getElem?_eq_some_iff.mp hr).1
      have hd : L.drop j = r :: L.drop (j + 1) := by
        rw [List.drop_eq_getElem_cons hjl]
        rw [(List.getElem?_eq_some_iff.mp hr).2]
      rw [hd] at hg
      have e2 := get_set1 (y := qob Hj (.v (.d (.list (rL L))))) hn
      refine ⟨[.v (.ref n), .l (rL Lf), .v (.d (.int r.w)), .v (.d (wD r))], rfl, ?_⟩
      have ec := can_ (A := Lf) (hasH e2) r (by omega) (by omega)
      have et : tV (qMeth 0 (arity 4 r_Queue__can_have) (qV 0) (aCons (qV 2) (aCons (qV 3) (aCons (qV 1) aNil)))) [.v (.ref n), .l (rL Lf), .v (.d (.int r.w)), .v (.d (wD r))] (h.set n (qob Hj (.v (.d (.list (rL L)))))) = some (can r Hj Lf) :=
        tV_b (qMeth_ (hasH e2).f rfl rfl ec)
      rw [give_cons] at hg
      refine wp.ite et (fun c => ?_) (fun c => ?_)
      · rw [if_pos c] at hg
        refine wp.fldApp (n := n) (fs := [.v (.fn 0), .l (rL Hj), .v (.d (.list (rL L)))]) (xs := rL Hj) (d := rD r) rfl e2 rfl (row_ rfl rfl) (by rw [List.length_map]; omega) ⟨.inl rfl, Hj ++ [r], Lf, rfl, ?_, hg, by rw [List.length_append]; simp; omega, by omega⟩
        rw [List.set_set, ← rL_app]
        rfl
      · rw [if_neg (by rw [c]; exact Bool.false_ne_true)] at hg
        refine wp.app (xs := rL Lf) rfl (by rw [List.length_map]; omega) (evE.pq (row_ rfl rfl) ⟨_, rfl, .inl rfl, Hj, Lf ++ [r], ?_, rfl, hg, by rw [List.length_append]; simp; omega, by omega⟩)
        rw [rL_app]
        rfl
    · rintro env h' ⟨Hj, Lf, rfl, rfl, hg, hlen, hj⟩
      rw [List.length_map, List.drop_length] at hg
      have e2 := get_set1 (y := qob Hj (.v (.d (.list (rL L))))) hn
      refine ⟨rfl, wp.fldMv (n := n) (fs := [.v (.fn 0), .l (rL Hj), .v (.d (.list (rL L)))]) (xs := rL Lf) rfl rfl e2 ⟨rfl, ?_⟩⟩
      rw [List.set_set, ← hg]
      rfl
  obtain ⟨r, e', h', e, rfl, rfl⟩ := key
  unfold r_Queue__go_on runE
  rw [e]
  rfl
theorem ask_ {h : Hs} {n : Nat} {H L : List Rw} (hn : h[n]? = some (qb H L)) (hl : H.length + L.length ≤ 400) (r : Rw) :
    r_Queue_ask [.ref n, .d (.int r.w), .d (wD r)] h = some (if r ∈ H then (.d (.bool true), h) else if r ∈ L then (.d (.bool false), h) else if can r H L = true then (.d (.bool true), h.set n (qb (H ++ [r]) L)) else (.d (.bool false), h.set n (qb H (L ++ [r])))) := by
  have er : qTup (aCons (qV 1) (aCons (qV 2) aNil)) (startE 0 [.ref n, .d (.int r.w), .d (wD r)]) h = some (.d (rD r)) := qTup2_ rfl rfl
  have e1 : qFld 0 1 (qV 0) (startE 0 [.ref n, .d (.int r.w), .d (wD r)]) h = some (.d (.list (rL H))) := qFld_l (fs := [.v (.fn 0), .l (rL H), .l (rL L)]) rfl hn rfl
  have e2 : qFld 0 2 (qV 0) (startE 0 [.ref n, .d (.int r.w), .d (wD r)]) h = some (.d (.list (rL L))) := qFld_l (fs := [.v (.fn 0), .l (rL H), .l (rL L)]) rfl hn rfl
  have t1 := tV_b (q2_of er e1 (in_r r H h))
  have t2 := tV_b (q2_of er e2 (in_r r L h))
  have ec := can_ (A := L) (hasH hn) r (by omega) (by omega)
  have t3 : tV (qMeth 0 (arity 4 r_Queue__can_have) (qV 0) (aCons (qV 1) (aCons (qV 2) (aCons (qFld 0 2 (qV 0)) aNil)))) (startE 0 [.ref n, .d (.int r.w), .d (wD r)]) h = some (can r H L) :=
    tV_b (qMeth_ (xs := [.d (.int r.w), .d (wD r), .d (.list (rL L))]) (hasH hn).f rfl (by simp only [aCons, aNil, e2]; rfl) ec)
  have key : wp m_Queue_ask (startE 0 [.ref n, .d (.int r.w), .d (wD r)]) h fun f _ h' => ∃ b, f = .rt .mo (.d (.bool b)) ∧ (Val.d (.bool b), h') = (if r ∈ H then (.d (.bool true), h) else if r ∈ L then (.d (.bool false), h) else if can r H L = true then (.d (.bool true), h.set n (qb (H ++ [r]) L)) else (.d (.bool false), h.set n (qb H (L ++ [r])))) := by
    refine wp.seq (wp.ite t1 (fun c => ?_) (fun c => ?_))
    · exact wp.ret rfl ⟨fun z => (by cases z), fun _ => ⟨true, rfl, by rw [if_pos (of_decide_eq_true c)]⟩⟩
    refine wp.nx ⟨fun _ => ?_, fun z => absurd rfl z⟩
    rw [if_neg (of_decide_eq_false c)]
    refine wp.seq (wp.ite t2 (fun c => ?_) (fun c => ?_))
    · exact wp.ret rfl ⟨fun z => (by cases z), fun _ => ⟨false, rfl, by rw [if_pos (of_decide_eq_true c)]⟩⟩
    refine wp.nx ⟨fun _ => ?_, fun z => absurd rfl z⟩
    rw [if_neg (of_decide_eq_false c)]
    refine wp.seq (wp.ite t3 (fun c => ?_) (fun c => ?_))
    · refine wp.sq (wp.fldApp (n := n) (fs := [.v (.fn 0), .l (rL H), .l (rL L)]) (xs := rL H) (d := rD r) rfl hn rfl (row_ rfl rfl) (by rw [List.length_map]; omega) ⟨rfl, wp.ret rfl ⟨fun z => (by cases z), fun _ => ⟨true, rfl, ?_⟩⟩⟩)
      rw [if_pos c, ← rL_app]
      rfl
    refine wp.nx ⟨fun _ => ?_, fun z => absurd rfl z⟩
    refine wp.sq (wp.fldApp (n := n) (fs := [.v (.fn 0), .l (rL H), .l (rL L)]) (xs := rL L) (d := rD r) rfl hn rfl (row_ rfl rfl) (by rw [List.length_map]; omega) ⟨rfl, wp.ret rfl ⟨false, rfl, ?_⟩⟩)
    rw [if_neg (by rw [c]; exact Bool.false_ne_true), ← rL_app]
    rfl
  obtain ⟨f, e', h', e, b, rfl, k⟩ := key
  unfold r_Queue_ask runE
  rw [e, ← k]
  rfl
theorem go_E {h : Hs} {n : Nat} {env : En} {H L : List Rw} {Q : Flo → En → Hs → Prop} (e0 : env[0]? = some (.v (.ref n))) (hn : h[n]? = some (qb H L)) (hl : H.length + L.length ≤ 400) (k : Q .nx env (h.set n (qb (give H [] L).1 (give H [] L).2))) : wp (mE (eMeth 0 (arity 1 r_Queue__go_on) (qV 0) eNil)) env h Q :=
  wp.e (evE.meth (n := n) (by unfold qV; rw [e0]) (isObj_ (hasH hn).f) (evA.nil ⟨_, _, go_on_ hn hl, k⟩))
theorem ends_ {k : Nat} {m : M1} {args : List Val} {h h1 : Hs} (w : wp m (startE k args) h fun r _ h' => r = .nx ∧ h' = h1) : runE k m args h = some (.d .none, h1) := by
  obtain ⟨r, e', h', e, rfl, rfl⟩ := w
  unfold runE
  rw [e]
  rfl
theorem ne_step {env : En} {h : Hs} {r s : Rw} {i j k : Nat} (e1 : env[i]? = some (.v (.d (rD s)))) (e2 : env[j]? = some (.v (.d (.int r.w)))) (e3 : env[k]? = some (.v (.d (wD r)))) : tV (Sm.q2 gNe (qV i) (qTup (aCons (qV j) (aCons (qV k) aNil)))) env h = some (!decide (s = r)) :=
  tV_b (q2_of (by unfold qV; rw [e1]) (qTup2_ (by unfold qV; rw [e2]) (by unfold qV; rw [e3])) (ne_r s r h))
theorem nlq {env : En} {h : Hs} {q : Q1} {d : PyData} (e : q env h = some (.d d)) (hn : nl d = true) : qNl q env h = some (.d d) := by
  unfold qNl
  rw [e, Option.bind_some]
  exact if_pos hn
def but (r : Rw) (R : List Rw) : List Rw := R.filter fun s => !decide (s = r)
def butW (w : Int) (R : List Rw) : List Rw := R.filter fun s => !decide (s.w = w)
theorem but_len (r : Rw) (R : List Rw) : (but r R).length ≤ R.length := List.length_filter_le ..
theorem butW_len (r : Int) (R : List Rw) : (butW r R).length ≤ R.length := List.length_filter_le ..
theorem iSq {env : En} {h : Hs} {q : Q1} {R : List Rw} (e : q env h = some (.d (.list (rL R)))) : iSeqX q env h = some (R.map rD) := by
  have := nl_rL R
  unfold iSeqX
  rw [e, Option.bind_some]
  simp only [seqOf, Option.bind_some, this, if_true]
theorem drop_ {h : Hs} {n : Nat} {H L : List Rw} (hn : h[n]? = some (qb H L)) (hl : H.length + L.length ≤ 400) (r : Rw) :
    r_Queue_drop [.ref n, .d (.int r.w), .d (wD r)] h = some (.d .none, h.set n (qb (give (but r H) [] L).1 (give (but r H) [] L).2)) := by
  refine ends_ ?_
  have e1 : qFld 0 1 (qV 0) (startE 1 [.ref n, .d (.int r.w), .d (wD r)]) h = some (.d (.list (rL H))) := qFld_l (fs := [.v (.fn 0), .l (rL H), .l (rL L)]) rfl hn rfl
  refine wp.sq (wp.fldL (n := n) (fs := [.v (.fn 0), .l (rL H), .l (rL L)]) (xs := rL (but r H)) (fLc_filter (iSq e1) (fun s _ => stepc_of (env1 := [.v (.ref n), .v (.d (.int r.w)), .v (.d (wD r)), .v (.d (rD s))]) rfl (ne_step rfl rfl rfl) (nlq rfl rfl)) (len_sl (by omega))) rfl hn ⟨rfl, ?_⟩)
  have := but_len r H
  refine go_E (n := n) (H := but r H) (L := L) rfl (get_set1 hn) (by omega) ⟨rfl, ?_⟩
  rw [List.set_set]
theorem leave_ {h : Hs} {n : Nat} {H L : List Rw} (hn : h[n]? = some (qb H L)) (hl : H.length + L.length ≤ 400) (r : Rw) :
    r_Queue_leave [.ref n, .d (.int r.w), .d (wD r)] h = some (.d .none, h.set n (qb (give H [] (but r L)).1 (give H [] (but r L)).2)) := by
  refine ends_ ?_
  have e1 : qFld 0 2 (qV 0) (startE 1 [.ref n, .d (.int r.w), .d (wD r)]) h = some (.d (.list (rL L))) := qFld_l (fs := [.v (.fn 0), .l (rL H), .l (rL L)]) rfl hn rfl
  refine wp.sq (wp.fldL (n := n) (fs := [.v (.fn 0), .l (rL H), .l (rL L)]) (xs := rL (but r L)) (fLc_filter (iSq e1) (fun s _ => stepc_of (env1 := [.v (.ref n), .v (.d (.int r.w)), .v (.d (wD r)), .v (.d (rD s))]) rfl (ne_step rfl rfl rfl) (nlq rfl rfl)) (len_sl (by omega))) rfl hn ⟨rfl, ?_⟩)
  have := but_len r L
  refine go_E (n := n) (H := H) (L := but r L) rfl (get_set1 hn) (by omega) ⟨rfl, ?_⟩
  rw [List.set_set]
theorem neW_step {env : En} {h : Hs} {s : Rw} {w : Int} {i j : Nat} (e1 : env[i]? = some (.v (.d (rD s)))) (e2 : env[j]? = some (.v (.d (.int w)))) : tV (Sm.q2 gNe (Sm.q2 gIx (qV i) (qC (.d (.int 0)))) (qV j)) env h = some (!decide (s.w = w)) :=
  tV_b (q2_of (x := .d (.int s.w)) (q2_of (x := .d (rD s)) (y := .d (.int 0)) (by unfold qV; rw [e1]) rfl rfl) (by unfold qV; rw [e2]) (neI _ _ h))
theorem drop_all_ {h : Hs} {n : Nat} {H L : List Rw} (hn : h[n]? = some (qb H L)) (hl : H.length + L.length ≤ 400) (w : Int) :
    r_Queue_drop_all [.ref n, .d (.int w)] h = some (.d .none, h.set n (qb (give (butW w H) [] (butW w L)).1 (give (butW w H) [] (butW w L)).2)) := by
  refine ends_ ?_
  have e1 : qFld 0 1 (qV 0) (startE 1 [.ref n, .d (.int w)]) h = some (.d (.list (rL H))) := qFld_l (fs := [.v (.fn 0), .l (rL H), .l (rL L)]) rfl hn rfl
  refine wp.sq (wp.fldL (n := n) (fs := [.v (.fn 0), .l (rL H), .l (rL L)]) (xs := rL (butW w H)) (fLc_filter (iSq e1) (fun s _ => stepc_of (env1 := [.v (.ref n), .v (.d (.int w)), .v (.d (rD s))]) rfl (neW_step rfl rfl) (nlq rfl rfl)) (len_sl (by omega))) rfl hn ⟨rfl, ?_⟩)
  have hn1 : (h.set n (qb (butW w H) L))[n]? = some (qb (butW w H) L) := get_set1 hn
  have e2 : qFld 0 2 (qV 0) (startE 1 [.ref n, .d (.int w)]) (h.set n (qb (butW w H) L)) = some (.d (.list (rL L))) := qFld_l (fs := [.v (.fn 0), .l (rL (butW w H)), .l (rL L)]) rfl hn1 rfl
  refine wp.sq (wp.fldL (n := n) (fs := [.v (.fn 0), .l (rL (butW w H)), .l (rL L)]) (xs := rL (butW w L)) (fLc_filter (iSq e2) (fun s _ => stepc_of (env1 := [.v (.ref n), .v (.d (.int w)), .v (.d (rD s))]) rfl (neW_step rfl rfl) (nlq rfl rfl)) (len_sl (by omega))) rfl hn1 ⟨rfl, ?_⟩)
  have l1 := butW_len w L
  have l2 := butW_len w H
  have hn2 := get_set1 (y := qb (butW w H) (butW w L)) hn1
  refine go_E (n := n) (H := butW w H) (L := butW w L) rfl hn2 (by omega) ⟨rfl, ?_⟩
  rw [List.set_set]
  exact List.set_set ..
end K06

set_option Elab.async false
set_option linter.all false
set_option maxRecDepth 100000
set_option maxHeartbeats 1000000
namespace K06
open PySem L2 Evl Sm
/-! ### who stands in whose way -/
def fndAt (who : Int) (H L : List Rw) (k : Nat) : List Int := match L[k]? with
  | some r => if r.w = who then barr r (H ++ L.take k) else []
  | none => []
def fnd (who : Int) (H L : List Rw) : Nat → List Int
  | 0 => []
  | k + 1 => fnd who H L k ++ fndAt who H L k
def blk (who : Int) (H L : List Rw) : List Int := sortU (fnd who H L L.length)
theorem barr_app (r : Rw) (A B : List Rw) : barr r (A ++ B) = barr r A ++ barr r B := by
  unfold barr
  rw [List.filter_append, List.map_append]
theorem barr_len (r : Rw) (A : List Rw) : (barr r A).length ≤ A.length := by
  unfold barr
  rw [List.length_map]
  exact List.length_filter_le ..
theorem fndAt_len (who : Int) (H L : List Rw) (k : Nat) : (fndAt who H L k).length ≤ H.length + L.length := by
  unfold fndAt
  split
  · split
    · refine Nat.le_trans (barr_len ..) ?_
      rw [List.length_append, List.length_take]
      omega
    · exact Nat.zero_le _
  · exact Nat.zero_le _
theorem fnd_len (who : Int) (H L : List Rw) : ∀ k, (fnd who H L k).length ≤ k * (H.length + L.length)
  | 0 => Nat.zero_le _
  | k + 1 => by
    have := fnd_len who H L k
    have h2 := fndAt_len who H L k
    rw [fnd, List.length_append, Nat.succ_mul]
    omega
theorem fnd_le {who : Int} {H L : List Rw} {k : Nat} (hl : H.length + L.length ≤ 400) (hk : k ≤ L.length) : (fnd who H L k).length ≤ 160000 := by
  refine Nat.le_trans (fnd_len who H L k) (Nat.le_trans (Nat.mul_le_mul (by omega : k ≤ 400) hl) (by decide))
section
variable {h : Hs} {n : Nat} {H L : List Rw}
theorem sl_take {q qk : Q1} {env : En} {k : Nat} (e : q env h = some (.d (.list (rL L)))) (ek : qk env h = some (.d (.int k))) : fSl q oNone (oSome qk) env h = some (rL (L.take k)) := by
  have e0 : oSome qk env h = some (some (k : Int)) := by unfold oSome; rw [ek]; rfl
  unfold fSl
  rw [e, Option.bind_some]
  show (Option.bind (some none) _) = _
  rw [Option.bind_some, e0, Option.bind_some]
  simp only [nl_rL, if_true, cutD_to]
  rw [rL, rL, List.map_take]
theorem nl_ints (ns : List Int) : nlAll (ns.map PyData.int) = true := nlAll_ints ns
theorem qblockers_ (hn : h[n]? = some (qb H L)) (hl : H.length + L.length ≤ 400) (who : Int) (h64 : (fnd who H L L.length).length < 64) : r_Queue_blockers [.ref n, .d (.int who)] h = some (.d (.tuple ((blk who H L).map .int))) := by
  have e2 : ∀ env : En, env[0]? = some (.v (.ref n)) → qFld 0 2 (qV 0) env h = some (.d (.list (rL L))) := fun env e0 => qFld_l (fs := [.v (.fn 0), .l (rL H), .l (rL L)]) (by unfold qV; rw [e0]) hn rfl
  have e1 : ∀ env : En, env[0]? = some (.v (.ref n)) → qFld 0 1 (qV 0) env h = some (.d (.list (rL H))) := fun env e0 => qFld_l (fs := [.v (.fn 0), .l (rL H), .l (rL L)]) (by unfold qV; rw [e0]) hn rfl
  refine runQ_wp ?_
  refine wp.sq (wp.setO (xs := []) rfl ⟨rfl, ?_⟩)
  refine wp.sq (wp.for (xs := numD (rL L)) (fun j env h' => env = [.v (.ref n), .v (.d (.int who)), .l ((fnd who H L j).map .int), .un, .un, .un] ∧ h' = h ∧ j ≤ L.length) ?_ ⟨rfl, rfl, Nat.zero_le _⟩ ?_ ?_)
  · show iEnuS (qFld 0 2 (qV 0)) [.v (.ref n), .v (.d (.int who)), .l [], .un, .un, .un] h = _
    unfold iEnuS
    rw [e2 _ rfl]
    rfl
  · rintro j x env h' hx ⟨rfl, rfl, hj⟩
    obtain ⟨y, hy, rfl⟩ := numD_get hx
    rw [rL, List.getElem?_map] at hy
    obtain ⟨r, hr, rfl⟩ := Option.map_eq_some_iff.mp hy
    have hjl := (List.getElem?_eq_some_iff.mp hr).1
    refine ⟨[.v (.ref n), .v (.d (.int who)), .l ((fnd who H L j).map .int), .v (.d (.int (j : Nat))), .v (.d (.int r.w)), .v (.d (wD r))], rfl, ?_⟩
    have hf : fnd who H L (j + 1) = fnd who H L j ++ (if r.w = who then barr r (H ++ L.take j) else []) := by
      rw [fnd, fndAt, hr]
    refine wp.ite (c := decide (r.w = who)) (tV_b (q2_of (x := .d (.int r.w)) (y := .d (.int who)) rfl rfl (eqI _ _ _))) (fun c => ?_) (fun c => ?_)
    · have c := of_decide_eq_true c
      subst c
      rw [if_pos rfl, barr_app] at hf
      have b1 := fMeth_ (g := arity 4 r_Queue__barring) (a := aCons (qV 1) (aCons (qV 5) (aCons (qFld 0 1 (qV 0)) aNil))) (qo := qV 0) (env := [.v (.ref n), .v (.d (.int r.w)), .l ((fnd r.w H L j).map .int), .v (.d (.int (j : Nat))), .v (.d (.int r.w)), .v (.d (wD r))]) (xs := [.d (.int r.w), .d (wD r), .d (.list (rL H))]) (hasH hn).f rfl (by
        simp only [aCons, aNil, e1 [.v (.ref n), .v (.d (.int r.w)), .l ((fnd r.w H L j).map .int), .v (.d (.int (j : Nat))), .v (.d (.int r.w)), .v (.d (wD r))] rfl]; rfl) (barring_ (hasH hn).f r H (by omega))
      have tk := sl_take (k := j) (L := L) (qk := qV 3) (e2 [.v (.ref n), .v (.d (.int r.w)), .l ((fnd r.w H L j).map .int), .v (.d (.int (j : Nat))), .v (.d (.int r.w)), .v (.d (wD r))] rfl) rfl
      have b2 := fMeth_ (g := arity 4 r_Queue__barring) (a := aCons (qV 1) (aCons (qV 5) (aCons (qF (fSl (qFld 0 2 (qV 0)) oNone (oSome (qV 3)))) aNil))) (qo := qV 0) (env := [.v (.ref n), .v (.d (.int r.w)), .l ((fnd r.w H L j).map .int), .v (.d (.int (j : Nat))), .v (.d (.int r.w)), .v (.d (wD r))]) (xs := [.d (.int r.w), .d (wD r), .d (.list (rL (L.take j)))]) (hasH hn).f rfl (by
        simp only [aCons, aNil, qF_ tk]; rfl) (barring_ (hasH hn).f r (L.take j) (by rw [List.length_take]; omega))
      have l1 := barr_len r H
      have l2 := barr_len r (L.take j)
      rw [List.length_take] at l2
      have l3 := fnd_le (who := r.w) (H := H) hl hj
      refine wp.extF (xs := (fnd r.w H L j).map .int) (ys := (barr r H ++ barr r (L.take j)).map .int) rfl ?_ (by rw [List.length_map, List.length_map, List.length_append]; omega) ⟨.inl rfl, ?_, rfl, by omega⟩
      · unfold Sm.f2
        rw [qF_ b1, Option.bind_some, qF_ b2, Option.bind_some]
        show (if nlAll ((barr r H).map PyData.int) = true ∧ nlAll ((barr r (L.take j)).map PyData.int) = true ∧ ((barr r H).map PyData.int).length + ((barr r (L.take j)).map PyData.int).length ≤ sizeLine then some ((barr r H).map PyData.int ++ (barr r (L.take j)).map PyData.int) else none) = _
        rw [if_pos ⟨nl_ints _, nl_ints _, by rw [List.length_map, List.length_map]; exact len_sl (by omega)⟩, List.map_append]
      · rw [hf]
        simp only [List.map_append]
        rfl
    · have c := of_decide_eq_false c
      rw [if_neg c, List.append_nil] at hf
      refine wp.nx ⟨.inl rfl, ?_, rfl, by omega⟩
      rw [hf]
      rfl
  · rintro env h' ⟨rfl, rfl, _⟩
    rw [numD_len, List.length_map]
    refine ⟨rfl, wp.ret (x := .d (.tuple ((blk who H L).map .int))) ?_ ⟨.mo, rfl⟩⟩
    have : Sm.f1 gSetS (qV 2) [.v (.ref n), .v (.d (.int who)), .l ((fnd who H L L.length).map .int), .un, .un, .un] h' = some ((blk who H L).map .int) := by
      unfold Sm.f1
      show Option.bind (some (Val.d (.list ((fnd who H L L.length).map .int)))) _ = _
      rw [Option.bind_some, setS_l h64]
      rfl
    exact q1_of (qF_ this) rfl
theorem lblockers_ (hl : H.length + L.length ≤ 400) (who : Int) (h64 : (fnd who H L L.length).length < 64) : r__law_blockers [.d (.int who), .d (.list (rL H)), .d (.list (rL L))] h = some (.d (.tuple ((blk who H L).map .int))) := by
  refine runQ_wp ?_
  refine wp.sq (wp.setO (xs := []) rfl ⟨rfl, ?_⟩)
  refine wp.sq (wp.for (xs := (List.range L.length).map fun k : Nat => PyData.int k) (fun j env h' => env = [.v (.d (.int who)), .v (.d (.list (rL H))), .v (.d (.list (rL L))), .l ((fnd who H L j).map .int), .un, .un, .un] ∧ h' = h ∧ j ≤ L.length) ?_ ⟨rfl, rfl, Nat.zero_le _⟩ ?_ ?_)
  · refine iRng_of (n := ((rL L).length : Nat)) rfl (by omega) (by rw [List.length_map]; omega) |>.trans ?_
    rw [List.length_map]
    rfl
  · rintro j x env h' hx ⟨rfl, rfl, hj⟩
    rw [List.getElem?_map] at hx
    obtain ⟨k, hk, rfl⟩ := Option.map_eq_some_iff.mp hx
    obtain ⟨hk1, hk2⟩ := List.getElem?_eq_some_iff.mp hk
    rw [List.length_range] at hk1
    rw [List.getElem_range] at hk2
    subst hk2
    have hr : L[j]? = some L[j] := List.getElem?_eq_getElem hk1
    generalize L[j] = r at hr
    refine ⟨[.v (.d (.int who)), .v (.d (.list (rL H))), .v (.d (.list (rL L))), .l ((fnd who H L j).map .int), .v (.d (.int (j : Nat))), .un, .un], rfl, ?_⟩
    have hf : fnd who H L (j + 1) = fnd who H L j ++ (if r.w = who then barr r (H ++ L.take j) else []) := by
      rw [fnd, fndAt, hr]
    have row : ∀ env : En, env[2]? = some (.v (.d (.list (rL L)))) → env[4]? = some (.v (.d (.int (j : Nat)))) → Sm.q2 gIx (qV 2) (qV 4) env h' = some (.d (rD r)) := fun env a b => q2_of (x := .d (.list (rL L))) (y := .d (.int (j : Nat))) (by unfold qV; rw [a]) (by unfold qV; rw [b]) (by
      show (atI (rL L) (j : Int)).map _ = _
      rw [at_rL hr]
      rfl)
    refine wp.ite (c := decide (r.w = who)) (tV_b (q2_of (x := .d (.int r.w)) (y := .d (.int who)) (q2_of (y := .d (.int 0)) (row _ rfl rfl) rfl rfl) rfl (eqI _ _ _))) (fun c => ?_) (fun c => ?_)
    · have c := of_decide_eq_true c
      subst c
      rw [if_pos rfl] at hf
      have l2 := barr_len r (H ++ L.take j)
      rw [List.length_append, List.length_take] at l2
      have l3 := fnd_le (who := r.w) (H := H) hl hj
      have tk := sl_take (h := h') (k := j) (L := L) (q := qV 2) (qk := qV 4) (env := [.v (.d (.int r.w)), .v (.d (.list (rL H))), .v (.d (.list (rL L))), .l ((fnd r.w H L j).map .int), .v (.d (.int (j : Nat))), .un, .un]) rfl rfl
      have ct : qF (Sm.f2 gCat (qV 1) (qF (fSl (qV 2) oNone (oSome (qV 4))))) [.v (.d (.int r.w)), .v (.d (.list (rL H))), .v (.d (.list (rL L))), .l ((fnd r.w H L j).map .int), .v (.d (.int (j : Nat))), .un, .un] h' = some (.d (.list (rL (H ++ L.take j)))) := by
        refine qF_ ?_
        unfold Sm.f2
        rw [qF_ tk]
        show (if nlAll (rL H) = true ∧ nlAll (rL (L.take j)) = true ∧ (rL H).length + (rL (L.take j)).length ≤ sizeLine then some (rL H ++ rL (L.take j)) else none) = _
        rw [if_pos ⟨nl_rL _, nl_rL _, by rw [List.length_map, List.length_map, List.length_take]; exact len_sl (by omega)⟩, rL, rL, rL, List.map_append]
      refine wp.extF (xs := (fnd r.w H L j).map .int) (ys := (barr r (H ++ L.take j)).map .int) rfl ?_ (by rw [List.length_map, List.length_map]; omega) ⟨.inl rfl, ?_, rfl, by omega⟩
      · unfold barr
        rw [List.map_map]
        refine fLc_filter (f := rD) (p := hits r) (g := fun s => .int s.w) (iSq ct) (fun s _ => ?_) (by rw [List.length_append, List.length_take]; exact len_sl (by omega))
        refine stepc_of (env1 := [.v (.d (.int r.w)), .v (.d (.list (rL H))), .v (.d (.list (rL L))), .l ((fnd r.w H L j).map .int), .v (.d (.int (j : Nat))), .v (.d (.int s.w)), .v (.d (wD s))]) rfl (b := hits r s) ?_ rfl
        have t1 : tV (Sm.q2 gNe (qV 5) (qV 0)) [.v (.d (.int r.w)), .v (.d (.list (rL H))), .v (.d (.list (rL L))), .l ((fnd r.w H L j).map .int), .v (.d (.int (j : Nat))), .v (.d (.int s.w)), .v (.d (wD s))] h' = some (!decide (s.w = r.w)) := tV_b (q2_of rfl rfl (neI _ _ _))
        have t2 : tV (qCall (arity 2 r__law_bars) (aCons (Sm.q2 gIx (Sm.q2 gIx (qV 2) (qV 4)) (qC (.d (.int 1)))) (aCons (qV 6) aNil))) [.v (.d (.int r.w)), .v (.d (.list (rL H))), .v (.d (.list (rL L))), .l ((fnd r.w H L j).map .int), .v (.d (.int (j : Nat))), .v (.d (.int s.w)), .v (.d (wD s))] h' = some (bars r.a r.m s) :=
          tV_b (qCall2_ (q2_of (y := .d (.int 1)) (row _ rfl rfl) rfl rfl) rfl (bars_ r.a r.m s h'))
        unfold tAndF hits
        rw [t1, Option.bind_some]
        cases c : (!decide (s.w = r.w))
        · rfl
        · rw [if_pos rfl, t2]
          rfl
      · rw [hf]
        simp only [List.map_append]
        rfl
    · have c := of_decide_eq_false c
      rw [if_neg c, List.append_nil] at hf
      refine wp.nx ⟨.inl rfl, ?_, rfl, by omega⟩
      rw [hf]
      rfl
  · rintro env h' ⟨rfl, rfl, _⟩
    rw [List.length_map, List.length_range]
    refine ⟨rfl, wp.ret (x := .d (.tuple ((blk who H L).map .int))) ?_ ⟨.mo, rfl⟩⟩
    have : Sm.f1 gSetS (qV 3) [.v (.d (.int who)), .v (.d (.list (rL H))), .v (.d (.list (rL L))), .l ((fnd who H L L.length).map .int), .un, .un, .un] h' = some ((blk who H L).map .int) := by
      unfold Sm.f1
      show Option.bind (some (Val.d (.list ((fnd who H L L.length).map .int)))) _ = _
      rw [Option.bind_some, setS_l h64]
      rfl
    exact q1_of (qF_ this) rfl
end
end K06

set_option Elab.async false
set_option linter.all false
set_option maxRecDepth 100000
set_option maxHeartbeats 1000000
namespace K06
open PySem L2 Evl Sm
/-! ### going round -/
def rnd (bl : Int → List Int) (who : Int) : Nat → List Int → List Int → Option Bool
  | 0, _, _ => none
  | n + 1, met, here => match here[here.length - 1]? with
    | none => some false
    | some o => if o = who then some true else if o ∈ met then rnd bl who n met here.dropLast else rnd bl who n (met ++ [o]) (here.dropLast ++ bl o)
def kvs (met : List Int) : List (Key × PyData) := met.map fun k => (.inl k, .bool true)
theorem dget_ (met : List Int) (o : Int) : (dGet (kvs met) (.inl o)).isSome = decide (o ∈ met) := by
  unfold dGet
  rw [Option.isSome_map]
  induction met with
  | nil => rfl
  | cons k met ih =>
    rw [kvs, List.map_cons, List.find?_cons]
    by_cases c : k = o
    · subst c
      simp
    · have h1 : decide ((Sum.inl k : Key) = Sum.inl o) = false := decide_eq_false fun z => c (by injection z)
      have h2 : (o ∈ k :: met) ↔ o ∈ met := by
        rw [List.mem_cons]
        exact ⟨fun z => z.resolve_left fun z => c z.symm, .inr⟩
      simp only [h1, h2]
      exact ih
theorem dput_ {met : List Int} {o : Int} (ho : o ∉ met) : dPut (kvs met) (.inl o) (.bool true) = kvs (met ++ [o]) := by
  unfold dPut
  rw [if_neg]
  · rw [kvs, kvs, List.map_append]
    rfl
  · intro z
    rw [List.any_eq_true] at z
    obtain ⟨x, hx, e⟩ := z
    obtain ⟨k, hk, rfl⟩ := List.mem_map.mp hx
    have := of_decide_eq_true e
    injection this with this
    exact ho (this ▸ hk)
section
variable {h : Hs} {n : Nat} {H L : List Rw}
theorem pop_ {env : En} {i j : Nat} {xs : List Int} {o : Int} {Q : Flo → En → Hs → Prop} (e : env[i]? = some (.l (xs.map .int))) (ho : xs[xs.length - 1]? = some o) (k : Q .nx ((env.set i (.l (xs.dropLast.map .int))).set j (.v (.d (.int o)))) h) : wp (mPopO i j) env h Q := by
  refine ⟨_, _, _, ?_, k⟩
  unfold mPopO
  simp only [e]
  rw [List.length_map, List.getElem?_map, ho]
  simp only [Option.map_some, List.map_dropLast]
theorem extQ_ {env : En} {i : Nat} {xs ys : List Int} {q : Q1} {Q : Flo → En → Hs → Prop} (e : env[i]? = some (.l (xs.map .int))) (eq : q env h = some (.d (.tuple (ys.map .int)))) (hl : xs.length + ys.length ≤ 1000000) (k : Q .nx (env.set i (.l ((xs ++ ys).map .int))) h) : wp (mExtQ i q) env h Q := by
  refine ⟨_, _, _, ?_, k⟩
  unfold mExtQ
  simp only [e, eq, Option.bind_some]
  rw [if_pos (by rw [List.length_map, List.length_map, sizeLine_eq]; omega), List.map_append]
/-- the program's loop -/
theorem qround_go {who : Int} {bl : Int → List Int} (hf : HasF h n) (hb : ∀ w, r_Queue_blockers [.ref n, .d (.int w)] h = some (.d (.tuple ((bl w).map .int)))) (h5 : ∀ w, (bl w).length ≤ 5) : ∀ (k : Nat) (met here : List Int) (b : Bool), rnd bl who k met here = some b → here.length + 5 * k ≤ 50000 → met.length + k ≤ 50000 →
    ∃ r env', whGo [4] (tV (qV 3)) b_Queue_is_round_1 k [.v (.ref n), .v (.d (.int who)), .k (kvs met), .l (here.map .int), .un] h = some (r, env', h) ∧ ((b = true ∧ r = .rt .mo (.d (.bool true))) ∨ (b = false ∧ r = .nx)) := by
  intro k
  induction k with
  | zero => intro met here b e; cases e
  | succ k ih =>
    intro met here b e hl hm
    rw [rnd] at e
    split at e
    · next hz =>
      cases e
      have : here = [] := by
        cases here with
        | nil => rfl
        | cons x xs => simp at hz
      subst this
      exact ⟨.nx, _, rfl, .inr ⟨rfl, rfl⟩⟩
    · next o ho =>
      have hne : here ≠ [] := fun z => by rw [z] at ho; cases ho
      have ht : tV (qV 3) [.v (.ref n), .v (.d (.int who)), .k (kvs met), .l (here.map .int), .un] h = some true := by
        cases here with
        | nil => exact absurd rfl hne
        | cons x xs => rfl
      have hdl : here.dropLast.length + 1 = here.length := by
        rw [List.length_dropLast]
        have := List.length_pos_iff.mpr hne
        omega
      unfold whGo
      rw [ht, Option.bind_some, if_pos rfl]
      have key : wp b_Queue_is_round_1 [.v (.ref n), .v (.d (.int who)), .k (kvs met), .l (here.map .int), .un] h fun r env' h' => h' = h ∧ ((o = who ∧ r = .rt .mo (.d (.bool true))) ∨ (o ≠ who ∧ r = .nx ∧ wipeE env' [4] = [.v (.ref n), .v (.d (.int who)), .k (kvs (if o ∈ met then met else met ++ [o])), .l ((if o ∈ met then here.dropLast else here.dropLast ++ bl o).map .int), .un])) := by
        refine wp.sq (pop_ (xs := here) (o := o) rfl ho ⟨rfl, ?_⟩)
        refine wp.seq (wp.ite (c := decide (o = who)) (tV_b (q2_of (x := .d (.int o)) (y := .d (.int who)) rfl rfl (eqI _ _ _))) (fun c => ?_) (fun c => ?_))
        · exact wp.ret rfl ⟨fun z => (by cases z), fun _ => ⟨rfl, .inl ⟨of_decide_eq_true c, rfl⟩⟩⟩
        refine wp.nx ⟨fun _ => ?_, fun z => absurd rfl z⟩
        have c := of_decide_eq_false c
        have td : tV (qDIn true 2 (qV 4)) (([.v (.ref n), .v (.d (.int who)), .k (kvs met), .l (here.map .int), .un].set 3 (.l (here.dropLast.map .int))).set 4 (.v (.d (.int o)))) h = some (!decide (o ∈ met)) := by
          rw [← dget_]
          rfl
        refine wp.ite td (fun d => ?_) (fun d => ?_)
        · have d : o ∉ met := by simpa using d
          rw [if_neg d, if_neg d]
          refine wp.sq (wp.of (r := .nx) (env1 := [.v (.ref n), .v (.d (.int who)), .k (kvs (met ++ [o])), .l (here.dropLast.map .int), .v (.d (.int o))]) (h1 := h) ?_ ⟨rfl, ?_⟩)
          · show (if (kvs met).length < 100000 then some (Flo.nx, [Sl.v (Val.ref n), Sl.v (Val.d (.int who)), Sl.k (dPut (kvs met) (.inl o) (.bool true)), Sl.l (here.dropLast.map .int), Sl.v (Val.d (.int o))], h) else none) = _
            rw [if_pos (by rw [kvs, List.length_map]; omega), dput_ d]
          · have := h5 o
            exact extQ_ (xs := here.dropLast) (ys := bl o) rfl (nlq (qMeth_ (xs := [.d (.int o)]) hf rfl rfl (hb o)) (nl_ints _)) (by omega) ⟨rfl, .inr ⟨c, rfl, rfl⟩⟩
        · have d : o ∈ met := by simpa using d
          rw [if_pos d, if_pos d]
          exact wp.nx ⟨rfl, .inr ⟨c, rfl, rfl⟩⟩
      obtain ⟨r, env', h', e1, rfl, hr⟩ := key
      rw [e1, Option.bind_some]
      rcases hr with ⟨ho, rfl⟩ | ⟨ho, rfl, he⟩
      · rw [if_pos ho] at e
        cases e
        exact ⟨_, _, rfl, .inl ⟨rfl, rfl⟩⟩
      · rw [if_neg ho] at e
        simp only [he]
        have := h5 o
        by_cases d : o ∈ met
        · rw [if_pos d, if_pos d]
          rw [if_pos d] at e
          exact ih _ _ _ e (by omega) (by omega)
        · rw [if_neg d, if_neg d]
          rw [if_neg d] at e
          exact ih _ _ _ e (by rw [List.length_append]; omega) (by rw [List.length_append]; simp; omega)
end
end K06

set_option Elab.async false
set_option linter.all false
set_option maxRecDepth 100000
set_option maxHeartbeats 1000000
namespace K06
open PySem L2 Evl Sm
theorem qCall3_ {q q' q'' : Q1} {env : En} {h : Hs} {g : List Val → Hs → Option Val} {x y u z : Val} (e : q env h = some x) (e' : q' env h = some y) (e'' : q'' env h = some u) (e2 : g [x, y, u] h = some z) : qCall (arity 3 g) (aCons q (aCons q' (aCons q'' aNil))) env h = some z := by
  unfold qCall aCons aNil
  rw [e]
  simp only [Option.bind_some, e', e'']
  exact e2
theorem any_i (o : Int) (met : List Int) : ((met.map PyData.int).any fun z => PyData.eqv z (.int o)) = decide (o ∈ met) := by
  induction met with
  | nil => rfl
  | cons k met ih =>
    rw [List.map_cons, List.any_cons, ih]
    show ((k == o) || _) = _
    by_cases h1 : k = o
    · subst h1; simp
    · have h2 : ¬ o = k := fun z => h1 z.symm
      simp [h1, h2]
theorem notin_i (o : Int) (met : List Int) (h : Hs) : gIn true h (.d (.int o)) (.d (.list (met.map .int))) = some (.d (.bool (!decide (o ∈ met)))) := by
  show (if (SeqAt.shaped (.int o) && SeqAt.shaped (.list (met.map .int))) = true then some (Val.d (.bool (!(met.map PyData.int).any fun z => PyData.eqv z (.int o)))) else none) = _
  rw [shaped_ints, any_i]
  rfl
section
variable {h : Hs} {n : Nat} {H L : List Rw}
/-- the law's loop -/
theorem lround_go {who : Int} {bl : Int → List Int} (hb : ∀ w, r__law_blockers [.d (.int w), .d (.list (rL H)), .d (.list (rL L))] h = some (.d (.tuple ((bl w).map .int)))) (h5 : ∀ w, (bl w).length ≤ 5) : ∀ (k : Nat) (met here : List Int) (b : Bool), rnd bl who k met here = some b → here.length + 5 * k ≤ 50000 → met.length + k ≤ 50000 →
    ∃ r env', whGo [5] (tV (Sm.q2 gNe (qV 4) (qF (fLst aNil)))) b__law_round_1 k [.v (.d (.int who)), .v (.d (.list (rL H))), .v (.d (.list (rL L))), .l (met.map .int), .l (here.map .int), .un] h = some (r, env', h) ∧ ((b = true ∧ r = .rt .mo (.d (.bool true))) ∨ (b = false ∧ r = .nx)) := by
  intro k
  induction k with
  | zero => intro met here b e; cases e
  | succ k ih =>
    intro met here b e hl hm
    have ht : tV (Sm.q2 gNe (qV 4) (qF (fLst aNil))) [.v (.d (.int who)), .v (.d (.list (rL H))), .v (.d (.list (rL L))), .l (met.map .int), .l (here.map .int), .un] h = some (!decide (here = [])) :=
      tV_b (q2_of (x := .d (.list (here.map .int))) (y := .d (.list (([] : List Int).map .int))) rfl rfl (ne_ints here [] h))
    rw [rnd] at e
    split at e
    · next hz =>
      cases e
      have : here = [] := by
        cases here with
        | nil => rfl
        | cons x xs => simp at hz
      subst this
      unfold whGo
      rw [ht]
      exact ⟨.nx, _, rfl, .inr ⟨rfl, rfl⟩⟩
    · next o ho =>
      have hne : here ≠ [] := fun z => by rw [z] at ho; cases ho
      have hdl : here.dropLast.length + 1 = here.length := by
        rw [List.length_dropLast]
        have := List.length_pos_iff.mpr hne
        omega
      unfold whGo
      rw [ht, Option.bind_some, decide_eq_false hne]
      have key : wp b__law_round_1 [.v (.d (.int who)), .v (.d (.list (rL H))), .v (.d (.list (rL L))), .l (met.map .int), .l (here.map .int), .un] h fun r env' h' => h' = h ∧ ((o = who ∧ r = .rt .mo (.d (.bool true))) ∨ (o ≠ who ∧ r = .nx ∧ wipeE env' [5] = [.v (.d (.int who)), .v (.d (.list (rL H))), .v (.d (.list (rL L))), .l ((if o ∈ met then met else met ++ [o]).map .int), .l ((if o ∈ met then here.dropLast else here.dropLast ++ bl o).map .int), .un])) := by
        refine wp.sq (pop_ (xs := here) (o := o) rfl ho ⟨rfl, ?_⟩)
        refine wp.seq (wp.ite (c := decide (o = who)) (tV_b (q2_of (x := .d (.int o)) (y := .d (.int who)) rfl rfl (eqI _ _ _))) (fun c => ?_) (fun c => ?_))
        · exact wp.ret rfl ⟨fun z => (by cases z), fun _ => ⟨rfl, .inl ⟨of_decide_eq_true c, rfl⟩⟩⟩
        refine wp.nx ⟨fun _ => ?_, fun z => absurd rfl z⟩
        have c := of_decide_eq_false c
        refine wp.ite (tV_b (q2_of (x := .d (.int o)) (y := .d (.list (met.map .int))) rfl rfl (notin_i o met h))) (fun d => ?_) (fun d => ?_)
        · have d : o ∉ met := by simpa using d
          rw [if_neg d, if_neg d]
          have := h5 o
          have ex : Sm.f1 gList (qCall (arity 3 r__law_blockers) (aCons (qV 5) (aCons (qV 1) (aCons (qV 2) aNil)))) [.v (.d (.int who)), .v (.d (.list (rL H))), .v (.d (.list (rL L))), .l (met.map .int ++ [.int o]), .l (here.dropLast.map .int), .v (.d (.int o))] h = some ((bl o).map .int) := by
            have e1 : qCall (arity 3 r__law_blockers) (aCons (qV 5) (aCons (qV 1) (aCons (qV 2) aNil))) [.v (.d (.int who)), .v (.d (.list (rL H))), .v (.d (.list (rL L))), .l (met.map .int ++ [.int o]), .l (here.dropLast.map .int), .v (.d (.int o))] h = some (.d (.tuple ((bl o).map .int))) := qCall3_ rfl rfl rfl (hb o)
            unfold Sm.f1
            rw [e1, Option.bind_some]
            exact if_pos (nl_ints _)
          refine wp.sq (wp.app (xs := met.map .int) rfl (by rw [List.length_map]; omega) (evE.pq (x := .d (.int o)) rfl ⟨_, rfl, rfl, ?_⟩))
          refine wp.extF (xs := here.dropLast.map .int) (ys := (bl o).map .int) rfl ex (by rw [List.length_map, List.length_map]; omega) ⟨rfl, .inr ⟨c, rfl, ?_⟩⟩
          simp only [List.map_append]
          rfl
        · have d : o ∈ met := by simpa using d
          rw [if_pos d, if_pos d]
          exact wp.nx ⟨rfl, .inr ⟨c, rfl, rfl⟩⟩
      obtain ⟨r, env', h', e1, rfl, hr⟩ := key
      rw [show (!false) = true from rfl, if_pos rfl, e1, Option.bind_some]
      rcases hr with ⟨ho, rfl⟩ | ⟨ho, rfl, he⟩
      · rw [if_pos ho] at e
        cases e
        exact ⟨_, _, rfl, .inl ⟨rfl, rfl⟩⟩
      · rw [if_neg ho] at e
        simp only [he]
        have := h5 o
        by_cases d : o ∈ met
        · rw [if_pos d, if_pos d]
          rw [if_pos d] at e
          exact ih _ _ _ e (by omega) (by omega)
        · rw [if_neg d, if_neg d]
          rw [if_neg d] at e
          exact ih _ _ _ e (by rw [List.length_append]; omega) (by rw [List.length_append]; simp; omega)
end
/-! it ends -/
def left (met : List Int) : Nat := (([0, 1, 2, 3, 4] : List Int).filter fun x => !decide (x ∈ met)).length
theorem filt_lt {p q : Int → Bool} {o : Int} : ∀ {l : List Int}, o ∈ l → p o = true → q o = false → (∀ x, q x = true → p x = true) → (l.filter q).length + 1 ≤ (l.filter p).length
  | x :: l, ho, hp, hq, hi => by
    by_cases e : x = o
    · subst e
      rw [List.filter_cons_of_neg (by rw [hq]; exact Bool.false_ne_true), List.filter_cons_of_pos hp, List.length_cons]
      have : (l.filter q).length ≤ (l.filter p).length := by
        clear ho hp hq
        induction l with
        | nil => exact Nat.le_refl _
        | cons y l ih =>
          by_cases c : q y = true
          · rw [List.filter_cons_of_pos c, List.filter_cons_of_pos (hi y c)]
            simp only [List.length_cons]; omega
          · rw [List.filter_cons_of_neg c]
            by_cases c2 : p y = true
            · rw [List.filter_cons_of_pos c2, List.length_cons]; omega
            · rw [List.filter_cons_of_neg c2]; exact ih
      omega
    · have ho : o ∈ l := by
        rcases List.mem_cons.mp ho with z | z
        · exact absurd z.symm e
        · exact z
      have := filt_lt ho hp hq hi
      by_cases c : q x = true
      · rw [List.filter_cons_of_pos c, List.filter_cons_of_pos (hi x c), List.length_cons, List.length_cons]; omega
      · rw [List.filter_cons_of_neg c]
        by_cases c2 : p x = true
        · rw [List.filter_cons_of_pos c2, List.length_cons]; omega
        · rw [List.filter_cons_of_neg c2]; exact this
theorem left_lt {met : List Int} {o : Int} (h0 : 0 ≤ o) (h1 : o < 5) (hm : o ∉ met) : left (met ++ [o]) + 1 ≤ left met := by
  unfold left
  refine filt_lt (o := o) ?_ (by simp [hm]) (by simp) (fun x hx => ?_)
  · have : o = 0 ∨ o = 1 ∨ o = 2 ∨ o = 3 ∨ o = 4 := by omega
    rcases this with rfl | rfl | rfl | rfl | rfl <;> decide
  · simp only [List.mem_append, Bool.not_eq_true', decide_eq_false_iff_not, not_or] at hx ⊢
    exact hx.1
theorem rnd_some {bl : Int → List Int} {who : Int} (h5 : ∀ w, (bl w).length ≤ 5) (hr : ∀ w, ∀ x ∈ bl w, 0 ≤ x ∧ x < 5) : ∀ (k : Nat) (met here : List Int), (∀ x ∈ here, 0 ≤ x ∧ x < 5) → here.length + 6 * left met < k → ∃ b, rnd bl who k met here = some b := by
  intro k
  induction k with
  | zero => intro met here _ h; omega
  | succ k ih =>
    intro met here hh hk
    rw [rnd]
    split
    · exact ⟨_, rfl⟩
    · next o ho =>
      have hne : here ≠ [] := fun z => by rw [z] at ho; cases ho
      have hdl : here.dropLast.length + 1 = here.length := by
        rw [List.length_dropLast]
        have := List.length_pos_iff.mpr hne
        omega
      have hd : ∀ x ∈ here.dropLast, 0 ≤ x ∧ x < 5 := fun x hx => hh x (by rw [List.dropLast_eq_take] at hx; exact List.mem_of_mem_take hx)
      have hoo := hh o (List.mem_of_getElem? ho)
      split
      · exact ⟨_, rfl⟩
      · split
        · exact ih _ _ hd (by omega)
        · next hm =>
          have l1 := left_lt hoo.1 hoo.2 hm
          have l2 := h5 o
          exact ih _ _ (fun x hx => by
            rcases List.mem_append.mp hx with hx | hx
            · exact hd x hx
            · exact hr o x hx) (by rw [List.length_append]; omega)
end K06

set_option Elab.async false
set_option linter.all false
set_option maxRecDepth 100000
set_option maxHeartbeats 1000000
namespace K06
open PySem L2 Evl Sm
/-! ### sizes -/
theorem nodup_sub {α : Type} [DecidableEq α] : ∀ {l m : List α}, l.Nodup → (∀ x ∈ l, x ∈ m) → l.length ≤ m.length
  | [], _, _, _ => Nat.zero_le _
  | x :: l, m, hn, hs => by
    obtain ⟨h1, h2⟩ := List.nodup_cons.mp hn
    have hx := hs x (by simp)
    have := nodup_sub (m := m.erase x) h2 fun y hy => (List.mem_erase_of_ne (fun e : y = x => h1 (e ▸ hy))).mpr (hs y (List.mem_cons_of_mem _ hy))
    rw [List.length_erase_of_mem hx] at this
    have := List.length_pos_of_mem hx
    rw [List.length_cons]
    omega
def W5 : List Int := [0, 1, 2, 3, 4]
theorem W5_mem {w : Int} (h0 : 0 ≤ w) (h1 : w < 5) : w ∈ W5 := by
  have : w = 0 ∨ w = 1 ∨ w = 2 ∨ w = 3 ∨ w = 4 := by omega
  rcases this with rfl | rfl | rfl | rfl | rfl <;> decide
def rowsA (a : Int) : List Rw := W5.flatMap fun w => [⟨w, a, false⟩, ⟨w, a, true⟩]
def rowsW (w : Int) : List Rw := ([0, 1, 2] : List Int).flatMap fun a => [⟨w, a, false⟩, ⟨w, a, true⟩]
def rows : List Rw := W5.flatMap rowsW
theorem rowsA_len (a : Int) : (rowsA a).length = 10 := rfl
theorem rowsW_len (w : Int) : (rowsW w).length = 6 := rfl
theorem rows_len : rows.length = 30 := rfl
structure Dom (r : Rw) : Prop where
  w0 : 0 ≤ r.w
  w1 : r.w < 5
  a0 : 0 ≤ r.a
  a1 : r.a < 3
theorem rowsA_mem {r : Rw} (d : Dom r) : r ∈ rowsA r.a := by
  refine List.mem_flatMap.mpr ⟨r.w, W5_mem d.w0 d.w1, ?_⟩
  obtain ⟨w, a, m⟩ := r
  cases m <;> simp
theorem rowsW_mem {r : Rw} (d : Dom r) : r ∈ rowsW r.w := by
  have h : r.a ∈ ([0, 1, 2] : List Int) := by
    have h0 := d.a0
    have h1 := d.a1
    have : r.a = 0 ∨ r.a = 1 ∨ r.a = 2 := by omega
    rcases this with e | e | e <;> rw [e] <;> decide
  refine List.mem_flatMap.mpr ⟨r.a, h, ?_⟩
  obtain ⟨w, a, m⟩ := r
  cases m <;> simp
theorem rows_mem {r : Rw} (d : Dom r) : r ∈ rows := List.mem_flatMap.mpr ⟨r.w, W5_mem d.w0 d.w1, rowsW_mem d⟩
/-- what holds all along -/
structure Ok (H L : List Rw) : Prop where
  nd : (H ++ L).Nodup
  dm : ∀ r ∈ H ++ L, Dom r
  un : ∀ r ∈ H, H.any (hits r) = false
  br : ∀ (k : Nat) r, L[k]? = some r → can r H (L.take k) = false
section
variable {H L : List Rw}
theorem Ok.len (o : Ok H L) : H.length + L.length ≤ 30 := by
  have := nodup_sub o.nd fun x hx => rows_mem (o.dm x hx)
  rwa [List.length_append, rows_len] at this
theorem take_sub (k : Nat) : (H ++ L.take k).Sublist (H ++ L) := List.Sublist.append_left (List.take_sublist k L) H
theorem barr_le (o : Ok H L) (r : Rw) (k : Nat) : (barr r (H ++ L.take k)).length ≤ 10 := by
  unfold barr
  rw [List.length_map, ← rowsA_len r.a]
  refine nodup_sub ((o.nd.sublist (take_sub k)).filter _) fun s hs => ?_
  obtain ⟨h1, h2⟩ := List.mem_filter.mp hs
  have hb : r.a = s.a := by
    unfold hits bars at h2
    rw [Bool.and_eq_true, Bool.and_eq_true] at h2
    exact of_decide_eq_true h2.2.1
  rw [hb]
  exact rowsA_mem (o.dm s ((take_sub k).subset h1))
theorem fnd_cnt (o : Ok H L) (who : Int) : ∀ k, (fnd who H L k).length ≤ 10 * ((L.take k).filter fun r => decide (r.w = who)).length
  | 0 => Nat.zero_le _
  | k + 1 => by
    have ih := fnd_cnt o who k
    rw [fnd, List.length_append]
    cases e : L[k]? with
    | none =>
      have : (fndAt who H L k) = [] := by unfold fndAt; rw [e]
      rw [this, List.length_nil]
      have hk : L.length ≤ k := by simpa using e
      rw [List.take_of_length_le (by omega : L.length ≤ k + 1)]
      rw [List.take_of_length_le hk] at ih
      omega
    | some r =>
      rw [List.take_add_one, e, Option.toList, List.filter_append, List.length_append]
      by_cases c : r.w = who
      · have : (fndAt who H L k) = barr r (H ++ L.take k) := by unfold fndAt; rw [e]; exact if_pos c
        rw [this]
        have := barr_le o r k
        rw [List.filter_cons_of_pos (by simpa using c)]
        simp only [List.filter_nil, List.length_cons, List.length_nil]
        omega
      · have : (fndAt who H L k) = [] := by unfold fndAt; rw [e]; exact if_neg c
        rw [this, List.length_nil]
        omega
theorem Ok.h64 (o : Ok H L) (who : Int) : (fnd who H L L.length).length < 64 := by
  have h1 := fnd_cnt o who L.length
  rw [List.take_length] at h1
  have h2 : (L.filter fun r => decide (r.w = who)).length ≤ 6 := by
    rw [← rowsW_len who]
    refine nodup_sub ((o.nd.sublist (List.sublist_append_right H L)).filter _) fun s hs => ?_
    obtain ⟨h1, h2⟩ := List.mem_filter.mp hs
    rw [← of_decide_eq_true h2]
    exact rowsW_mem (o.dm s (List.mem_append_right _ h1))
  omega
theorem fnd_in (o : Ok H L) (who : Int) : ∀ k, ∀ x ∈ fnd who H L k, 0 ≤ x ∧ x < 5
  | 0, x, hx => by cases hx
  | k + 1, x, hx => by
    rw [fnd] at hx
    rcases List.mem_append.mp hx with hx | hx
    · exact fnd_in o who k x hx
    · unfold fndAt at hx
      split at hx
      · split at hx
        · obtain ⟨s, hs, rfl⟩ := List.mem_map.mp hx
          have d := o.dm s ((take_sub k).subset (List.mem_filter.mp hs).1)
          exact ⟨d.w0, d.w1⟩
        · cases hx
      · cases hx
theorem Ok.rng (o : Ok H L) (who : Int) : ∀ x ∈ blk who H L, 0 ≤ x ∧ x < 5 := fun x hx => fnd_in o who _ x (mem_sortU.mp hx)
theorem Ok.le5 (o : Ok H L) (who : Int) : (blk who H L).length ≤ 5 :=
  nodup_sub (m := W5) (nodup_asc (asc_sortU _)) fun x hx => W5_mem (o.rng who x hx).1 (o.rng who x hx).2
end
end K06

set_option Elab.async false
set_option linter.all false
set_option maxRecDepth 100000
set_option maxHeartbeats 1000000
namespace K06
open PySem L2 Evl Sm
/-! ### what holds stays -/
theorem hits_sym (r s : Rw) : hits r s = hits s r := by
  unfold hits bars
  rw [show decide (s.w = r.w) = decide (r.w = s.w) from decide_eq_decide.mpr ⟨Eq.symm, Eq.symm⟩, show decide (r.a = s.a) = decide (s.a = r.a) from decide_eq_decide.mpr ⟨Eq.symm, Eq.symm⟩, Bool.or_comm]
theorem hits_self (r : Rw) : hits r r = false := by
  unfold hits
  simp
theorem any_sub {p : Rw → Bool} {A B : List Rw} (h : ∀ x ∈ A, x ∈ B) (hb : B.any p = false) : A.any p = false := by
  rw [List.any_eq_false] at hb ⊢
  exact fun x hx => hb x (h x hx)
theorem can_t {r : Rw} {H A : List Rw} (h : can r H A = true) : H.any (hits r) = false ∧ A.any (hits r) = false := by
  unfold can at h
  rw [Bool.and_eq_true] at h
  exact ⟨by simpa using h.1, by simpa using h.2⟩
theorem can_mono {r x : Rw} {H A : List Rw} (h : can r H A = false) : can r (H ++ [x]) A = false := by
  unfold can at h ⊢
  rw [List.any_append]
  cases c : H.any (hits r)
  · rw [c] at h
    rw [show (!A.any (hits r)) = false from by simpa using h, Bool.and_false]
  · rfl
theorem un_add {H : List Rw} {r : Rw} (un : ∀ s ∈ H, H.any (hits s) = false) (c : H.any (hits r) = false) : ∀ s ∈ H ++ [r], (H ++ [r]).any (hits s) = false := by
  intro s hs
  rw [List.any_append, Bool.or_eq_false_iff]
  rcases List.mem_append.mp hs with hs | hs
  · refine ⟨un s hs, ?_⟩
    have := List.any_eq_false.mp c s hs
    rw [hits_sym] at this
    simpa using this
  · rw [List.mem_singleton] at hs
    subst hs
    exact ⟨c, by simp [hits_self]⟩
theorem br_add {H L : List Rw} {r : Rw} (br : ∀ (k : Nat) s, L[k]? = some s → can s H (L.take k) = false) (c : can r H L = false) : ∀ (k : Nat) s, (L ++ [r])[k]? = some s → can s H ((L ++ [r]).take k) = false := by
  intro k s hk
  by_cases h : k < L.length
  · rw [List.getElem?_append_left h] at hk
    rw [List.take_append_of_le_length (by omega)]
    exact br k s hk
  · have hk2 := (List.getElem?_eq_some_iff.mp hk).1
    rw [List.length_append, List.length_singleton] at hk2
    have : k = L.length := by omega
    subst this
    rw [List.getElem?_append_right (Nat.le_refl _), Nat.sub_self] at hk
    cases hk
    rw [List.take_left]
    exact c
theorem give_ok : ∀ (L H Lf : List Rw), (H ++ (Lf ++ L)).Nodup → (∀ r ∈ H ++ (Lf ++ L), Dom r) → (∀ r ∈ H, H.any (hits r) = false) → (∀ (k : Nat) r, Lf[k]? = some r → can r H (Lf.take k) = false) → Ok (give H Lf L).1 (give H Lf L).2
  | [], H, Lf, nd, dm, un, br => by
    rw [List.append_nil] at nd dm
    exact ⟨nd, dm, un, br⟩
  | r :: L, H, Lf, nd, dm, un, br => by
    rw [give_cons]
    by_cases c : can r H Lf = true
    · rw [if_pos c]
      have p : ((H ++ [r]) ++ (Lf ++ L)).Perm (H ++ (Lf ++ r :: L)) := by
        rw [List.append_assoc]
        exact List.Perm.append_left H (show (r :: (Lf ++ L)).Perm (Lf ++ r :: L) from List.perm_middle.symm)
      refine give_ok L (H ++ [r]) Lf (p.nodup_iff.mpr nd) (fun s hs => dm s (p.mem_iff.mp hs)) (un_add un (can_t c).1) fun k s hk => can_mono (br k s hk)
    · rw [if_neg c]
      have e : H ++ ((Lf ++ [r]) ++ L) = H ++ (Lf ++ r :: L) := by simp
      refine give_ok L H (Lf ++ [r]) (by rw [e]; exact nd) (by rw [e]; exact dm) un (br_add br (Bool.eq_false_iff.mpr c))
theorem give_Ok {H L : List Rw} (nd : (H ++ L).Nodup) (dm : ∀ r ∈ H ++ L, Dom r) (un : ∀ r ∈ H, H.any (hits r) = false) : Ok (give H [] L).1 (give H [] L).2 :=
  give_ok L H [] nd dm un fun k r hk => by simp at hk
section
variable {H L : List Rw} {r : Rw}
theorem ok_nil : Ok [] [] := ⟨List.nodup_nil, fun r h => (by cases h), fun r h => (by cases h), fun k r h => (by simp at h)⟩
theorem Ok.add (o : Ok H L) (d : Dom r) (h1 : r ∉ H) (h2 : r ∉ L) (c : can r H L = true) : Ok (H ++ [r]) L := by
  have p : ((H ++ [r]) ++ L).Perm (r :: (H ++ L)) := by
    rw [List.append_assoc]
    exact List.perm_middle
  refine ⟨p.nodup_iff.mpr (List.nodup_cons.mpr ⟨fun z => ?_, o.nd⟩), fun s hs => ?_, un_add o.un (can_t c).1, fun k s hk => can_mono (o.br k s hk)⟩
  · rcases List.mem_append.mp z with z | z
    · exact h1 z
    · exact h2 z
  · rcases List.mem_cons.mp (p.mem_iff.mp hs) with rfl | hs
    · exact d
    · exact o.dm s hs
theorem Ok.wait (o : Ok H L) (d : Dom r) (h1 : r ∉ H) (h2 : r ∉ L) (c : can r H L = false) : Ok H (L ++ [r]) := by
  have p : (H ++ (L ++ [r])).Perm (r :: (H ++ L)) := by
    rw [← List.append_assoc]
    exact List.perm_append_comm
  refine ⟨p.nodup_iff.mpr (List.nodup_cons.mpr ⟨fun z => ?_, o.nd⟩), fun s hs => ?_, o.un, br_add o.br c⟩
  · rcases List.mem_append.mp z with z | z
    · exact h1 z
    · exact h2 z
  · rcases List.mem_cons.mp (p.mem_iff.mp hs) with rfl | hs
    · exact d
    · exact o.dm s hs
theorem Ok.cut (o : Ok H L) {p q : Rw → Bool} : Ok (give (H.filter p) [] (L.filter q)).1 (give (H.filter p) [] (L.filter q)).2 := by
  have s : (H.filter p ++ L.filter q).Sublist (H ++ L) := List.Sublist.append List.filter_sublist List.filter_sublist
  exact give_Ok (o.nd.sublist s) (fun r hr => o.dm r (s.subset hr)) fun r hr => any_sub (fun x hx => (List.mem_filter.mp hx).1) (o.un r (List.mem_filter.mp hr).1)
theorem Ok.cutH (o : Ok H L) (p : Rw → Bool) : Ok (give (H.filter p) [] L).1 (give (H.filter p) [] L).2 := by
  have := o.cut (p := p) (q := fun _ => true)
  rwa [List.filter_eq_self.mpr (fun _ _ => rfl)] at this
theorem Ok.cutL (o : Ok H L) (q : Rw → Bool) : Ok (give H [] (L.filter q)).1 (give H [] (L.filter q)).2 := by
  have := o.cut (p := fun _ => true) (q := q)
  rwa [List.filter_eq_self.mpr (fun _ _ => rfl)] at this
end
end K06

set_option Elab.async false
set_option linter.all false
set_option maxRecDepth 100000
set_option maxHeartbeats 1000000
namespace K06
open PySem L2 Evl Sm
/-! ### what is asked of a queue, and of the lists -/
def rv (who : Int) (H L : List Rw) : Bool := (rnd (fun w => blk w H L) who 1000 [] (blk who H L)).getD false
section
variable {h : Hs} {n : Nat} {H L : List Rw}
theorem rv_ (o : Ok H L) (who : Int) : rnd (fun w => blk w H L) who 1000 [] (blk who H L) = some (rv who H L) := by
  obtain ⟨b, e⟩ := rnd_some (bl := fun w => blk w H L) (who := who) o.le5 o.rng 1000 [] (blk who H L) (o.rng who) (by
    have := o.le5 who
    have : left [] = 5 := rfl
    omega)
  unfold rv
  rw [e]
  rfl
theorem is_round_ (hn : h[n]? = some (qb H L)) (o : Ok H L) (who : Int) : r_Queue_is_round [.ref n, .d (.int who)] h = some (.d (.bool (rv who H L))) := by
  have hl := o.len
  have hb : ∀ w, r_Queue_blockers [.ref n, .d (.int w)] h = some (.d (.tuple ((blk w H L).map .int))) := fun w => qblockers_ hn (by omega) w (o.h64 w)
  have h5 := o.le5 who
  obtain ⟨r, env', e, hr⟩ := qround_go (hasH hn).f hb o.le5 1000 [] (blk who H L) _ (rv_ o who) (by omega) (by decide)
  have e1 : Sm.f1 gList (qMeth 0 (arity 2 r_Queue_blockers) (qV 0) (aCons (qV 1) aNil)) [.v (.ref n), .v (.d (.int who)), .un, .un, .un] h = some ((blk who H L).map .int) := by
    unfold Sm.f1
    have e0 := qMeth_ (g := arity 2 r_Queue_blockers) (qo := qV 0) (a := aCons (qV 1) aNil) (env := [.v (.ref n), .v (.d (.int who)), .un, .un, .un]) (xs := [.d (.int who)]) (hasH hn).f rfl rfl (hb who)
    rw [e0, Option.bind_some]
    exact if_pos (nl_ints _)
  refine runQ_wp ?_
  refine wp.sq (wp.of (r := .nx) (env1 := [.v (.ref n), .v (.d (.int who)), .k (kvs []), .l ((blk who H L).map .int), .un]) (h1 := h) ?_ ⟨rfl, ?_⟩)
  · show mParKL 2 3 _ [.v (.ref n), .v (.d (.int who)), .un, .un, .un] h = _
    unfold mParKL
    rw [e1]
    rfl
  refine wp.seq (wp.of (A := mWhile 1000 [4] (tV (qV 3)) b_Queue_is_round_1) e ⟨fun z => ?_, fun z => ?_⟩)
  · rcases hr with ⟨_, rfl⟩ | ⟨hb, _⟩
    · cases z
    · rw [hb]
      exact wp.ret rfl ⟨.mo, rfl⟩
  · rcases hr with ⟨hb, rfl⟩ | ⟨_, rfl⟩
    · rw [hb]
      exact ⟨.mo, rfl⟩
    · exact absurd rfl z
theorem law_round_ (o : Ok H L) (who : Int) : r__law_round [.d (.int who), .d (.list (rL H)), .d (.list (rL L))] h = some (.d (.bool (rv who H L))) := by
  have hl := o.len
  have hb : ∀ w, r__law_blockers [.d (.int w), .d (.list (rL H)), .d (.list (rL L))] h = some (.d (.tuple ((blk w H L).map .int))) := fun w => lblockers_ (by omega) w (o.h64 w)
  have h5 := o.le5 who
  obtain ⟨r, env', e, hr⟩ := lround_go (h := h) hb o.le5 1000 [] (blk who H L) _ (rv_ o who) (by omega) (by decide)
  have e1 : Sm.f1 gList (qCall (arity 3 r__law_blockers) (aCons (qV 0) (aCons (qV 1) (aCons (qV 2) aNil)))) [.v (.d (.int who)), .v (.d (.list (rL H))), .v (.d (.list (rL L))), .un, .un, .un] h = some ((blk who H L).map .int) := by
    unfold Sm.f1
    rw [qCall3_ rfl rfl rfl (hb who), Option.bind_some]
    exact if_pos (nl_ints _)
  refine runQ_wp ?_
  refine wp.sq (wp.par2 (evP.l (evF.pf (xs := []) rfl (evP.l (evF.pf e1 (evP.nil ⟨_, _, rfl, rfl, ?_⟩))))))
  refine wp.seq (wp.of (A := mWhile 1000 [5] (tV (Sm.q2 gNe (qV 4) (qF (fLst aNil)))) b__law_round_1) e ⟨fun z => ?_, fun z => ?_⟩)
  · rcases hr with ⟨_, rfl⟩ | ⟨hb, _⟩
    · cases z
    · rw [hb]
      exact wp.ret rfl ⟨.mo, rfl⟩
  · rcases hr with ⟨hb, rfl⟩ | ⟨_, rfl⟩
    · rw [hb]
      exact ⟨.mo, rfl⟩
    · exact absurd rfl z
/-- what one holds -/
def tld (w : Int) (H : List Rw) : List PyData := (H.filter fun s => decide (s.w = w)).map wD
theorem held_ (hn : h[n]? = some (qb H L)) (hl : H.length ≤ 400) (who : Int) : r_Queue_held [.ref n, .d (.int who)] h = some (.d (.tuple (tld who H))) := by
  have e1 : qFld 0 1 (qV 0) (startE 2 [.ref n, .d (.int who)]) h = some (.d (.list (rL H))) := qFld_l (fs := [.v (.fn 0), .l (rL H), .l (rL L)]) rfl hn rfl
  refine runQ_wp (wp.ret (ℓ := .mo) (q1_of (qF_ (fLc_filter (f := rD) (p := fun s => decide (s.w = who)) (g := wD) (iSq e1) (fun s _ => ?_) (len_sl (by omega)))) rfl) ⟨_, rfl⟩)
  exact stepc_of (env1 := [.v (.ref n), .v (.d (.int who)), .v (.d (.int s.w)), .v (.d (wD s))]) rfl (b := decide (s.w = who)) (tV_b (q2_of rfl rfl (eqI _ _ _))) (nlq rfl rfl)
theorem holders_ (hn : h[n]? = some (qb H L)) : r_Queue_holders [.ref n] h = some (.d (.tuple (rL H))) :=
  runQ_wp (wp.ret (ℓ := .mo) (q1_of (qFld_l (fs := [.v (.fn 0), .l (rL H), .l (rL L)]) rfl hn rfl) rfl) ⟨_, rfl⟩)
theorem waiting_ (hn : h[n]? = some (qb H L)) : r_Queue_waiting [.ref n] h = some (.d (.tuple (rL L))) :=
  runQ_wp (wp.ret (ℓ := .mo) (q1_of (qFld_l (fs := [.v (.fn 0), .l (rL H), .l (rL L)]) rfl hn rfl) rfl) ⟨_, rfl⟩)
/-! ### the law's own going on -/
theorem setZ_ {env : En} {i : Nat} {f : I1} {xs : List PyData} {Q : Flo → En → Hs → Prop} (e : f env h = some xs) (k : Q .nx (env.set i (.z (.list xs))) h) : wp (mSetZ i (eQ (qF f))) env h Q := ⟨_, _, _, by
  unfold mSetZ eQ
  rw [qF_ e]
  rfl, k⟩
theorem fLst1_ {env : En} {q : Q1} {d : PyData} (e : q env h = some (.d d)) : fLst (aCons q aNil) env h = some [d] := by
  unfold fLst aCons aNil
  rw [e]
  simp only [Option.bind_some, dsOf, dOf]
  rfl
theorem cat1_ {env : En} {q q1 q2 : Q1} {R : List Rw} {r : Rw} (e : q env h = some (.d (.list (rL R)))) (e1 : q1 env h = some (.d (.int r.w))) (e2 : q2 env h = some (.d (wD r))) (hl : R.length ≤ 400) : Sm.f2 gCat q (qF (fLst (aCons (qTup (aCons (qNl q1) (aCons (qNl q2) aNil))) aNil))) env h = some (rL (R ++ [r])) := by
  have er := row_ e1 e2
  have e3 : fLst (aCons (qTup (aCons (qNl q1) (aCons (qNl q2) aNil))) aNil) env h = some [rD r] := fLst1_ er
  unfold Sm.f2
  rw [e, Option.bind_some, qF_ e3, Option.bind_some]
  show (if nlAll (rL R) = true ∧ nlAll [rD r] = true ∧ (rL R).length + [rD r].length ≤ sizeLine then some (rL R ++ [rD r]) else none) = _
  rw [if_pos ⟨nl_rL _, rfl, by rw [List.length_map]; exact len_sl (by simp; omega)⟩, rL_app]
theorem given_ (hl : H.length + L.length ≤ 300) : r__law_given [.d (.list (rL H)), .d (.list (rL L))] h = some (.d (.tuple [.list (rL (give H [] L).1), .list (rL (give H [] L).2)])) := by
  have key : wp m__law_given (startZ 3 [.d (.list (rL H)), .d (.list (rL L))]) h fun r _ _ => r = .rt .st (.d (.tuple [.list (rL (give H [] L).1), .list (rL (give H [] L).2)])) := by
    refine wp.sq (setZ_ (xs := rL []) rfl ⟨rfl, ?_⟩)
    refine wp.sq (wp.for (xs := rL L) (fun j env h' => ∃ Hj Lf, env = [.z (.list (rL Hj)), .z (.list (rL L)), .z (.list (rL Lf)), .un, .un] ∧ h' = h ∧ give Hj Lf (L.drop j) = give H [] L ∧ Hj.length + Lf.length = H.length + j ∧ j ≤ L.length) rfl ⟨H, [], rfl, rfl, rfl, rfl, Nat.zero_le _⟩ ?_ ?_)
    · rintro j x env h' hx ⟨Hj, Lf, rfl, rfl, hg, hlen, hj⟩
      rw [rL, List.getElem?_map] at hx
      obtain ⟨r, hr, rfl⟩ := Option.map_eq_some_iff.mp hx
      have hjl := (List.getElem?_eq_some_iff.mp hr).1
      have hd : L.drop j = r :: L.drop (j + 1) := by
        rw [List.drop_eq_getElem_cons hjl]
        rw [(List.getElem?_eq_some_iff.mp hr).2]
      rw [hd, give_cons] at hg
      refine ⟨[.z (.list (rL Hj)), .z (.list (rL L)), .z (.list (rL Lf)), .v (.d (.int r.w)), .v (.d (wD r))], rfl, ?_⟩
      have et : tV (qCall (arity 4 r__law_free) (aCons (qV 3) (aCons (qV 4) (aCons (qZ 0) (aCons (qZ 2) aNil))))) [.z (.list (rL Hj)), .z (.list (rL L)), .z (.list (rL Lf)), .v (.d (.int r.w)), .v (.d (wD r))] h' = some (can r Hj Lf) := tV_b (by
        have := free_ (h := h') (H := Hj) (A := Lf) r (by omega) (by omega)
        unfold qCall aCons aNil
        simp only [qV, qZ, List.getElem?_cons_succ, List.getElem?_cons_zero, Option.bind_some]
        exact this)
      refine wp.ite et (fun c => ?_) (fun c => ?_)
      · rw [if_pos c] at hg
        exact setZ_ (cat1_ (R := Hj) (r := r) rfl rfl rfl (by omega)) ⟨.inl rfl, Hj ++ [r], Lf, rfl, rfl, hg, by rw [List.length_append]; simp; omega, by omega⟩
      · rw [if_neg (by rw [c]; exact Bool.false_ne_true)] at hg
        exact setZ_ (cat1_ (R := Lf) (r := r) rfl rfl rfl (by omega)) ⟨.inl rfl, Hj, Lf ++ [r], rfl, rfl, hg, by rw [List.length_append]; simp; omega, by omega⟩
    · rintro env h' ⟨Hj, Lf, rfl, rfl, hg, hlen, hj⟩
      rw [List.length_map, List.drop_length] at hg
      rw [← hg]
      exact ⟨rfl, wp.ret (qTup2_ rfl rfl) rfl⟩
  obtain ⟨r, e', h', e, rfl⟩ := key
  unfold r__law_given runZ
  rw [e]
  rfl
end
end K06

set_option Elab.async false
set_option linter.all false
set_option maxRecDepth 100000
set_option maxHeartbeats 4000000
namespace K06
open PySem L2 Evl Sm
/-! ### the closed part -/
def tailL : M1 := (mSeq (mFor (iRng (qC (.d (.int 3)))) [4, 5, 6, 7] (bName 4) b_law_4)
    (mRet .mo (qC (.d (.bool true)))))
def preL (k : M1) : M1 := (mSeq (mSetE 2 (eMake 0 3 (arity 2 r_Queue___init__) (eCons (eQ (qC (.fn 0))) eNil)))
    (mSeq (mSetOE 3 (efLst (eCons (eMeth 0 (arity 3 r_Queue_ask) (qV 2) (eCons (eQ (qC (.d (.int 0)))) (eCons (eQ (qTup (aCons (qC (.d (.int 7))) (aCons (qC (.d (.str "read"))) aNil)))) eNil))) (eCons (eMeth 0 (arity 3 r_Queue_ask) (qV 2) (eCons (eQ (qC (.d (.int 1)))) (eCons (eQ (qTup (aCons (qC (.d (.int 7))) (aCons (qC (.d (.str "read"))) aNil)))) eNil))) (eCons (eMeth 0 (arity 3 r_Queue_ask) (qV 2) (eCons (eQ (qC (.d (.int 2)))) (eCons (eQ (qTup (aCons (qC (.d (.int 7))) (aCons (qC (.d (.str "write"))) aNil)))) eNil))) (eCons (eMeth 0 (arity 3 r_Queue_ask) (qV 2) (eCons (eQ (qC (.d (.int 3)))) (eCons (eQ (qTup (aCons (qC (.d (.int 7))) (aCons (qC (.d (.str "read"))) aNil)))) eNil))) (eCons (eMeth 0 (arity 3 r_Queue_ask) (qV 2) (eCons (eQ (qC (.d (.int 0)))) (eCons (eQ (qTup (aCons (qC (.d (.int 7))) (aCons (qC (.d (.str "read"))) aNil)))) eNil))) eNil)))))))
    (mSeq (mIf (tOrF (tV (q2 gNe (qV 3) (qF (fLst (aCons (qC (.d (.bool true))) (aCons (qC (.d (.bool true))) (aCons (qC (.d (.bool false))) (aCons (qC (.d (.bool false))) (aCons (qC (.d (.bool true))) aNil))))))))) (tOrF (tV (q2 gNe (qMeth 0 (arity 1 r_Queue_waiting) (qV 2) aNil) (qTup (aCons (qTup (aCons (qC (.d (.int 2))) (aCons (qTup (aCons (qC (.d (.int 7))) (aCons (qC (.d (.str "write"))) aNil))) aNil))) (aCons (qTup (aCons (qC (.d (.int 3))) (aCons (qTup (aCons (qC (.d (.int 7))) (aCons (qC (.d (.str "read"))) aNil))) aNil))) aNil))))) (tOrF (tV (q2 gNe (qMeth 0 (arity 2 r_Queue_blockers) (qV 2) (aCons (qC (.d (.int 3))) aNil)) (qTup (aCons (qC (.d (.int 2))) aNil)))) (tV (q2 gNe (qMeth 0 (arity 2 r_Queue_blockers) (qV 2) (aCons (qC (.d (.int 2))) aNil)) (qTup (aCons (qC (.d (.int 0))) (aCons (qC (.d (.int 1))) aNil)))))))) (mRet .mo (qC (.d (.bool false)))) mNx)
    (mSeq (mE (eMeth 0 (arity 3 r_Queue_drop) (qV 2) (eCons (eQ (qC (.d (.int 0)))) (eCons (eQ (qTup (aCons (qC (.d (.int 7))) (aCons (qC (.d (.str "read"))) aNil)))) eNil))))
    (mSeq (mE (eMeth 0 (arity 3 r_Queue_drop) (qV 2) (eCons (eQ (qC (.d (.int 1)))) (eCons (eQ (qTup (aCons (qC (.d (.int 7))) (aCons (qC (.d (.str "read"))) aNil)))) eNil))))
    (mSeq (mIfE (eOr (eT (tV (q2 gNe (qMeth 0 (arity 1 r_Queue_holders) (qV 2) aNil) (qTup (aCons (qTup (aCons (qC (.d (.int 2))) (aCons (qTup (aCons (qC (.d (.int 7))) (aCons (qC (.d (.str "write"))) aNil))) aNil))) aNil))))) (eOr (etV (e2 (gIsB true) (eMeth 0 (arity 3 r_Queue_ask) (qV 2) (eCons (eQ (qC (.d (.int 2)))) (eCons (eQ (qTup (aCons (qC (.d (.int 7))) (aCons (qC (.d (.str "write"))) aNil)))) eNil))) (eQ (qC (.d (.bool true)))))) (eT (tV (q2 gNe (qMeth 0 (arity 2 r_Queue_held) (qV 2) (aCons (qC (.d (.int 3))) aNil)) (qTup aNil)))))) (mRet .mo (qC (.d (.bool false)))) mNx)
    (mSeq (mSetE 2 (eMake 0 3 (arity 2 r_Queue___init__) (eCons (eQ (qC (.fn 0))) eNil)))
    (mSeq (mIfE (etV (e2 gNe (eLock (efLst (eCons (eMeth 0 (arity 3 r_Queue_ask) (qV 2) (eCons (eQ (qC (.d (.int 0)))) (eCons (eQ (qTup (aCons (qC (.d (.int 1))) (aCons (qC (.d (.str "write"))) aNil)))) eNil))) (eCons (eMeth 0 (arity 3 r_Queue_ask) (qV 2) (eCons (eQ (qC (.d (.int 1)))) (eCons (eQ (qTup (aCons (qC (.d (.int 2))) (aCons (qC (.d (.str "write"))) aNil)))) eNil))) (eCons (eMeth 0 (arity 3 r_Queue_ask) (qV 2) (eCons (eQ (qC (.d (.int 0)))) (eCons (eQ (qTup (aCons (qC (.d (.int 2))) (aCons (qC (.d (.str "read"))) aNil)))) eNil))) eNil))))) (eQ (qF (fLst (aCons (qC (.d (.bool true))) (aCons (qC (.d (.bool true))) (aCons (qC (.d (.bool false))) aNil)))))))) (mRet .mo (qC (.d (.bool false)))) mNx)
    (mSeq (mIfE (eOr (eT (tV (q2 (gIsB true) (qMeth 0 (arity 2 r_Queue_is_round) (qV 2) (aCons (qC (.d (.int 0))) aNil)) (qC (.d (.bool false)))))) (eOr (etV (e2 (gIsB true) (eMeth 0 (arity 3 r_Queue_ask) (qV 2) (eCons (eQ (qC (.d (.int 1)))) (eCons (eQ (qTup (aCons (qC (.d (.int 1))) (aCons (qC (.d (.str "write"))) aNil)))) eNil))) (eQ (qC (.d (.bool false)))))) (eT (tV (q2 (gIsB true) (qMeth 0 (arity 2 r_Queue_is_round) (qV 2) (aCons (qC (.d (.int 1))) aNil)) (qC (.d (.bool true)))))))) (mRet .mo (qC (.d (.bool false)))) mNx) k)))))))))
theorem law_split : m_law = (mSeq (mSetE 1 (eCall (arity 1 r__law_tape) (eCons (eQ (qVs 0)) eNil))) (preL tailL)) := rfl
def rw (w a : Int) (s : Str) : PyData := .tuple [.int w, .tuple [.int a, .str s]]
def q1o : Ob := .ins 0 [.v (.fn 0), .l [rw 2 7 "write"], .l [rw 3 7 "read"]]
def q2o : Ob := .ins 0 [.v (.fn 0), .l [rw 0 1 "write", rw 1 2 "write"], .l [rw 0 2 "read", rw 1 1 "write"]]
theorem pre_ (x : Sl) (T : Ob) (k : M1) : preL k [x, .v (.ref 0), .un, .un, .un, .un, .un, .un, .un, .un, .un, .un, .un, .un, .un, .un, .un, .un] [T] =
    k [x, .v (.ref 0), .v (.ref 2), .l [.bool true, .bool true, .bool false, .bool false, .bool true], .un, .un, .un, .un, .un, .un, .un, .un, .un, .un, .un, .un, .un, .un] [T, q1o, q2o] := by
  kernel_rfl
end K06

set_option Elab.async false
set_option linter.all false
set_option maxRecDepth 100000
set_option maxHeartbeats 2000000
namespace K06
open PySem L2 Evl Sm
/-! ### a step's end: what is compared -/
structure Xs where
  x0 : Sl
  x3 : Sl
  x4 : Sl
  x7 : Sl
  x8 : Sl
  x9 : Sl
  x10 : Sl
  x11 : Sl
  x12 : Sl
  x13 : Sl
  x14 : Sl
  x15 : Sl
  x16 : Sl
  x17 : Sl
abbrev ev (x : Xs) (n : Nat) (H L : List Rw) : En := [x.x0, .v (.ref 0), .v (.ref n), x.x3, x.x4, .z (.list (rL H)), .z (.list (rL L)), x.x7, x.x8, x.x9, x.x10, x.x11, x.x12, x.x13, x.x14, x.x15, x.x16, x.x17]
theorem pln_w (n : Nat) (s : Rw) : pln (n + 2) (wD s) = true := by
  have := mS_sh s.m
  show (decide (2 ≤ 1000000) && (true && (pln (n + 1) (.str (mS s.m)) && true))) = true
  rw [show pln (n + 1) (.str (mS s.m)) = true from this]
  rfl
theorem pln_r (n : Nat) (s : Rw) : pln (n + 3) (rD s) = true := by
  show (decide (2 ≤ 1000000) && (true && (pln (n + 2) (wD s) && true))) = true
  rw [pln_w]
  rfl
theorem pln_T {n : Nat} {ds : List PyData} (hl : ds.length ≤ 1000000) (h : ∀ d ∈ ds, pln n d = true) : pln (n + 1) (.tuple ds) = true := by
  show (decide (ds.length ≤ 1000000) && ds.all (pln n)) = true
  rw [decide_eq_true hl, List.all_eq_true.mpr h]
  rfl
theorem pln_R (n : Nat) {R : List Rw} (hl : R.length ≤ 1000) : pln (n + 4) (.tuple (rL R)) = true := pln_T (by rw [List.length_map]; omega) fun d hd => by
  obtain ⟨r, _, rfl⟩ := List.mem_map.mp hd
  exact pln_r n r
theorem qTup3_ {q q' q'' : Q1} {env : En} {h : Hs} {d d' d'' : PyData} (e : q env h = some (.d d)) (e' : q' env h = some (.d d')) (e'' : q'' env h = some (.d d'')) : qTup (aCons q (aCons q' (aCons q'' aNil))) env h = some (.d (.tuple [d, d', d''])) := by
  unfold qTup aCons aNil
  rw [e]
  simp only [Option.bind_some, e', e'', dsOf, dOf]
  rw [if_pos (show [d, d', d''].length ≤ sizeLine from (by decide : 3 ≤ sizeLine))]
theorem nl_T (R : List Rw) : nl (.tuple (rL R)) = true := nl_rL R
theorem nl_tld (w : Int) (H : List Rw) : nlAll (tld w H) = true := by
  unfold tld
  induction H.filter fun s => decide (s.w = w) with
  | nil => rfl
  | cons s R ih => rw [List.map_cons, nlAll, ih]; rfl
def dueD (w : Int) (H L : List Rw) : PyData := .tuple [.tuple (tld w H), .tuple ((blk w H L).map .int), .bool (rv w H L)]
section
variable {h : Hs} {n : Nat} {H L : List Rw} {x : Xs}
theorem pln_due (o : Ok H L) (w : Int) : pln 8 (dueD w H L) = true := by
  have hl := o.len
  have h5 := o.le5 w
  refine pln_T (by decide : 3 ≤ 1000000) fun d hd => ?_
  rcases List.mem_cons.mp hd with rfl | hd
  · refine pln_T ?_ fun d hd => ?_
    · unfold tld
      rw [List.length_map]
      have := List.length_filter_le (fun s : Rw => decide (s.w = w)) H
      omega
    · obtain ⟨s, _, rfl⟩ := List.mem_map.mp hd
      exact pln_w 4 s
  rcases List.mem_cons.mp hd with rfl | hd
  · refine pln_T (by rw [List.length_map]; omega) fun d hd => ?_
    obtain ⟨i, _, rfl⟩ := List.mem_map.mp hd
    rfl
  rcases List.mem_cons.mp hd with rfl | hd
  · rfl
  · cases hd
theorem chk1_ (hn : h[n]? = some (qb H L)) (o : Ok H L) : tNotF (tV (qCall (arity 2 (g__law_same 8)) (aCons (qTup (aCons (qMeth 0 (arity 1 r_Queue_holders) (qV 2) aNil) (aCons (qMeth 0 (arity 1 r_Queue_waiting) (qV 2) aNil) aNil))) (aCons (qTup (aCons (Sm.q1 gTuple (qZ 5)) (aCons (Sm.q1 gTuple (qZ 6)) aNil))) aNil)))) (ev x n H L) h = some false := by
  have hl := o.len
  have e1 : qMeth 0 (arity 1 r_Queue_holders) (qV 2) aNil (ev x n H L) h = some (.d (.tuple (rL H))) := qMeth_ (g := arity 1 r_Queue_holders) (xs := []) (hasH hn).f rfl rfl (holders_ hn)
  have e2 : qMeth 0 (arity 1 r_Queue_waiting) (qV 2) aNil (ev x n H L) h = some (.d (.tuple (rL L))) := qMeth_ (g := arity 1 r_Queue_waiting) (xs := []) (hasH hn).f rfl rfl (waiting_ hn)
  refine same_t (qTup2_ e1 e2) (qTup2_ rfl rfl) (pln_T (by decide : 2 ≤ 1000000) fun d hd => ?_)
  rcases List.mem_cons.mp hd with rfl | hd
  · exact pln_R 3 (by omega)
  rcases List.mem_cons.mp hd with rfl | hd
  · exact pln_R 3 (by omega)
  · cases hd
theorem chk2_ (hn : h[n]? = some (qb H L)) (o : Ok H L) : wp (mFor (iRng (qC (.d (.int 5)))) [15] (bName 14) b_law_1) (ev x n H L) h fun r e h' => r = .nx ∧ h' = h ∧ ∃ x' : Xs, e = ev x' n H L := by
  have hl := o.len
  refine wp.for (xs := (List.range 5).map fun k : Nat => PyData.int k) (fun _ e h' => h' = h ∧ ∃ x' : Xs, e = ev x' n H L) rfl ⟨rfl, { x with x15 := .un }, rfl⟩ ?_ fun e h' z => ⟨rfl, z⟩
  rintro j d e h' hx ⟨rfl, x, rfl⟩
  rw [List.getElem?_map] at hx
  obtain ⟨k, _, rfl⟩ := Option.map_eq_some_iff.mp hx
  refine ⟨ev { x with x14 := .v (.d (.int k)) } n H L, rfl, ?_⟩
  have e1 : Sm.q1 gTuple (qF (fLc (iSeqX (qZ 5)) [17, 3] (bTup 2 (bCons (bName 17) (bCons (bName 3) bNil))) (tV (Sm.q2 gEq (qV 17) (qV 14))) (qNl (qV 3)))) (ev { x with x14 := .v (.d (.int k)) } n H L) h' = some (.d (.tuple (tld k H))) := by
    refine q1_of (qF_ (fLc_filter (f := rD) (p := fun s => decide (s.w = (k : Int))) (g := wD) (iSq rfl) (fun s _ => ?_) (len_sl (by omega)))) rfl
    exact stepc_of (env1 := ev { x with x14 := .v (.d (.int k)), x17 := .v (.d (.int s.w)), x3 := .v (.d (wD s)) } n H L) rfl (b := decide (s.w = (k : Int))) (tV_b (q2_of rfl rfl (eqI _ _ _))) (nlq rfl rfl)
  have e2 : qCall (arity 3 r__law_blockers) (aCons (qV 14) (aCons (qZ 5) (aCons (qZ 6) aNil))) (ev { x with x14 := .v (.d (.int k)) } n H L) h' = some (.d (.tuple ((blk k H L).map .int))) := qCall3_ rfl rfl rfl (lblockers_ (by omega) k (o.h64 k))
  have e3 : qCall (arity 3 r__law_round) (aCons (qV 14) (aCons (qZ 5) (aCons (qZ 6) aNil))) (ev { x with x14 := .v (.d (.int k)) } n H L) h' = some (.d (.bool (rv k H L))) := qCall3_ rfl rfl rfl (law_round_ o k)
  refine wp.sq (wp.set (x := .d (dueD k H L)) (qTup3_ (nlq e1 (nl_tld _ _)) (nlq e2 (nl_ints _)) (nlq e3 rfl)) ⟨rfl, ?_⟩)
  have f1 : qMeth 0 (arity 2 r_Queue_held) (qV 2) (aCons (qV 14) aNil) (ev { x with x14 := .v (.d (.int k)), x15 := .v (.d (dueD k H L)) } n H L) h' = some (.d (.tuple (tld k H))) := qMeth_ (g := arity 2 r_Queue_held) (xs := [.d (.int k)]) (hasH hn).f rfl rfl (held_ hn (by omega) k)
  have f2 : qMeth 0 (arity 2 r_Queue_blockers) (qV 2) (aCons (qV 14) aNil) (ev { x with x14 := .v (.d (.int k)), x15 := .v (.d (dueD k H L)) } n H L) h' = some (.d (.tuple ((blk k H L).map .int))) := qMeth_ (g := arity 2 r_Queue_blockers) (xs := [.d (.int k)]) (hasH hn).f rfl rfl (qblockers_ hn (by omega) k (o.h64 k))
  have f3 : qMeth 0 (arity 2 r_Queue_is_round) (qV 2) (aCons (qV 14) aNil) (ev { x with x14 := .v (.d (.int k)), x15 := .v (.d (dueD k H L)) } n H L) h' = some (.d (.bool (rv k H L))) := qMeth_ (g := arity 2 r_Queue_is_round) (xs := [.d (.int k)]) (hasH hn).f rfl rfl (is_round_ hn o k)
  exact wp.no (same_t (d := dueD k H L) (qTup3_ f1 f2 f3) rfl (pln_due o k)) (wp.nx ⟨.inl rfl, rfl, { x with x14 := .v (.d (.int k)), x15 := .un }, rfl⟩)
theorem hits_lc (r : Rw) {q1 q2 : Q1} {x : Xs} (hl : H.length ≤ 400) (e1 : ∀ s : Rw, q1 (ev { x with x17 := .v (.d (.int s.w)), x3 := .v (.d (wD s)) } n H L) h = some (.d (.int r.w))) (e2 : ∀ s : Rw, q2 (ev { x with x17 := .v (.d (.int s.w)), x3 := .v (.d (wD s)) } n H L) h = some (.d (wD r))) :
    Sm.q1 gAny (qF (fLc (iSeqX (qZ 5)) [17, 3] (bTup 2 (bCons (bName 17) (bCons (bName 3) bNil))) tTrue (qAnd (Sm.q2 gNe (qV 17) q1) (qNl (qCall (arity 2 r__law_bars) (aCons q2 (aCons (qV 3) aNil))))))) (ev x n H L) h = some (.d (.bool (H.any (hits r)))) := by
  refine any_lc (f := rD) (p := hits r) (xs := H) (iSq rfl) (fun s _ => step_of (env1 := ev { x with x17 := .v (.d (.int s.w)), x3 := .v (.d (wD s)) } n H L) rfl rfl ?_) (len_sl (by omega))
  have a1 : Sm.q2 gNe (qV 17) q1 (ev { x with x17 := .v (.d (.int s.w)), x3 := .v (.d (wD s)) } n H L) h = some (.d (.bool (!decide (s.w = r.w)))) := q2_of rfl (e1 s) (neI _ _ _)
  have a2 : qNl (qCall (arity 2 r__law_bars) (aCons q2 (aCons (qV 3) aNil))) (ev { x with x17 := .v (.d (.int s.w)), x3 := .v (.d (wD s)) } n H L) h = some (.d (.bool (bars r.a r.m s))) := nlq (qCall2_ (e2 s) rfl (bars_ r.a r.m s h)) rfl
  unfold hits
  cases c : (!decide (s.w = r.w))
  · rw [c] at a1
    rw [qAnd_f a1]
    rfl
  · rw [c] at a1
    rw [qAnd_t a1, a2]
    rfl
theorem chk3_ (o : Ok H L) : wp (mFor (iRng (Sm.q1 gLen (qZ 5))) [] (bName 16) b_law_2) (ev x n H L) h fun r e h' => r = .nx ∧ h' = h ∧ ∃ x' : Xs, e = ev x' n H L := by
  have hl := o.len
  refine wp.for (xs := (List.range H.length).map fun k : Nat => PyData.int k) (fun _ e h' => h' = h ∧ ∃ x' : Xs, e = ev x' n H L) ?_ ⟨rfl, x, rfl⟩ ?_ fun e h' z => ⟨rfl, z⟩
  · refine iRng_of (n := ((rL H).length : Nat)) rfl (by omega) (by rw [List.length_map]; omega) |>.trans ?_
    rw [List.length_map]
    rfl
  rintro j d e h' hx ⟨rfl, x, rfl⟩
  rw [List.getElem?_map] at hx
  obtain ⟨k, hk, rfl⟩ := Option.map_eq_some_iff.mp hx
  obtain ⟨hk1, hk2⟩ := List.getElem?_eq_some_iff.mp hk
  rw [List.length_range] at hk1
  rw [List.getElem_range] at hk2
  subst hk2
  have hr : H[j]? = some H[j] := List.getElem?_eq_getElem hk1
  have hm := o.un H[j] (List.getElem_mem hk1)
  generalize H[j] = r at hr hm
  have row : ∀ y : Xs, y.x16 = .v (.d (.int (j : Nat))) → Sm.q2 gIx (qZ 5) (qV 16) (ev y n H L) h' = some (.d (rD r)) := fun y hy => q2_of (x := .d (.list (rL H))) (y := .d (.int (j : Nat))) rfl (by show (match (some y.x16 : Option Sl) with | some (.v x) => some x | some (.l xs) => some (.d (.list xs)) | _ => none) = _; rw [hy]) (by
    show (atI (rL H) (j : Int)).map _ = _
    rw [at_rL hr]
    rfl)
  refine ⟨ev { x with x16 := .v (.d (.int (j : Nat))) } n H L, rfl, ?_⟩
  have e := hits_lc (x := { x with x16 := .v (.d (.int (j : Nat))) }) (h := h') (n := n) (L := L) (H := H) r (q1 := Sm.q2 gIx (Sm.q2 gIx (qZ 5) (qV 16)) (qC (.d (.int 0)))) (q2 := Sm.q2 gIx (Sm.q2 gIx (qZ 5) (qV 16)) (qC (.d (.int 1)))) (by omega) (fun s => q2_of (y := .d (.int 0)) (row _ rfl) rfl rfl) (fun s => q2_of (y := .d (.int 1)) (row _ rfl) rfl rfl)
  rw [hm] at e
  exact wp.no (tV_b e) (wp.nx ⟨.inl rfl, rfl, { x with x16 := .v (.d (.int (j : Nat))) }, rfl⟩)
theorem chk4_ (o : Ok H L) : tV (Sm.q1 gAny (qF (fLc (iRng (Sm.q1 gLen (qZ 6))) [16] (bName 16) tTrue (qNl (qCall (arity 4 r__law_free) (aCons (Sm.q2 gIx (Sm.q2 gIx (qZ 6) (qV 16)) (qC (.d (.int 0)))) (aCons (Sm.q2 gIx (Sm.q2 gIx (qZ 6) (qV 16)) (qC (.d (.int 1)))) (aCons (qZ 5) (aCons (qF (fSl (qZ 6) oNone (oSome (qV 16)))) aNil))))))))) (ev x n H L) h = some false := by
  have hl := o.len
  have e := any_lc (f := fun k : Nat => PyData.int k) (p := fun _ => false) (xs := List.range L.length) (it := iRng (Sm.q1 gLen (qZ 6))) (vs := [16]) (bn := bName 16) (tt := tTrue) (te := qNl (qCall (arity 4 r__law_free) (aCons (Sm.q2 gIx (Sm.q2 gIx (qZ 6) (qV 16)) (qC (.d (.int 0)))) (aCons (Sm.q2 gIx (Sm.q2 gIx (qZ 6) (qV 16)) (qC (.d (.int 1)))) (aCons (qZ 5) (aCons (qF (fSl (qZ 6) oNone (oSome (qV 16)))) aNil)))))) (env := ev x n H L) (h := h) (by
    refine iRng_of (n := ((rL L).length : Nat)) rfl (by omega) (by rw [List.length_map]; omega) |>.trans ?_
    rw [List.length_map]
    rfl) (fun k hk => step_of (env1 := ev { x with x16 := .v (.d (.int (k : Nat))) } n H L) rfl rfl (by
      have hk1 := List.mem_range.mp hk
      have hr : L[k]? = some L[k] := List.getElem?_eq_getElem hk1
      have hm := o.br k L[k] hr
      generalize L[k] = r at hr hm
      have row : Sm.q2 gIx (qZ 6) (qV 16) (ev { x with x16 := .v (.d (.int (k : Nat))) } n H L) h = some (.d (rD r)) := q2_of (x := .d (.list (rL L))) (y := .d (.int (k : Nat))) rfl rfl (by
        show (atI (rL L) (k : Int)).map _ = _
        rw [at_rL hr]
        rfl)
      have tk := sl_take (h := h) (k := k) (L := L) (q := qZ 6) (qk := qV 16) (env := ev { x with x16 := .v (.d (.int (k : Nat))) } n H L) rfl rfl
      have fr := free_ (h := h) (H := H) (A := L.take k) r (by omega) (by rw [List.length_take]; omega)
      rw [hm] at fr
      refine nlq ?_ rfl
      unfold qCall aCons aNil
      have r0 : Sm.q2 gIx (Sm.q2 gIx (qZ 6) (qV 16)) (qC (.d (.int 0))) (ev { x with x16 := .v (.d (.int (k : Nat))) } n H L) h = some (.d (.int r.w)) := q2_of (y := .d (.int 0)) row rfl rfl
      have r1 : Sm.q2 gIx (Sm.q2 gIx (qZ 6) (qV 16)) (qC (.d (.int 1))) (ev { x with x16 := .v (.d (.int (k : Nat))) } n H L) h = some (.d (wD r)) := q2_of (y := .d (.int 1)) row rfl rfl
      have r2 : qZ 5 (ev { x with x16 := .v (.d (.int (k : Nat))) } n H L) h = some (.d (.list (rL H))) := rfl
      simp only [r0, r1, r2, qF_ tk, Option.bind_some]
      exact fr)) (by rw [List.length_range]; exact len_sl (by omega))
  rw [tV_b e]
  simp
end
end K06

set_option Elab.async false
set_option linter.all false
set_option maxRecDepth 100000
set_option maxHeartbeats 2000000
namespace K06
open PySem L2 Evl Sm
/-! ### a step -/
def St (m : Nat) (e : En) (h : Hs) : Prop := ∃ x T E H L, e = ev x (m + 1) H L ∧ h = T :: E ∧ Tp T ∧ E[m]? = some (qb H L) ∧ Ok H L
theorem asgZ2_ {env : En} {h : Hs} {q : Q1} {i j : Nat} {a b : PyData} {Q : Flo → En → Hs → Prop} (e : q env h = some (.d (.tuple [a, b]))) (k : Q .nx ((env.set i (.z a)).set j (.z b)) h) : wp (mAsgZ2 i j q) env h Q := ⟨_, _, _, by
  unfold mAsgZ2
  rw [e]
  rfl, k⟩
theorem ne_nil (R : List Rw) (h : Hs) : gNe h (.d (.list (rL R))) (.d (.list [])) = some (.d (.bool (!decide (R = [])))) := by
  have s0 : SeqAt.shaped (.list []) = true := rL_sh []
  show (if (SeqAt.shaped (.list (rL R)) && SeqAt.shaped (.list [])) = true then some (Val.d (.bool (!PyData.eqvAll (rL R) []))) else none) = _
  rw [rL_sh, s0]
  cases R <;> rfl
theorem evE.callQ {g : List Val → Hs → Option Val} {a : EA} {env : En} {h : Hs} {Q : Val → Hs → Prop} (k : evA a env h fun xs h1 => ∃ d, g xs h1 = some (.d d) ∧ nl d = true ∧ Q (.d d) h1) : evE (eCallQ g a) env h Q := by
  obtain ⟨xs, h1, e, d, e2, hn, k⟩ := k
  refine ⟨.d d, h1, ?_, k⟩
  unfold eCallQ
  rw [e, Option.bind_some, e2, Option.bind_some]
  exact if_pos hn
section
variable {T : Ob} {E : Hs} {m : Nat} {H L : List Rw} {x : Xs} {Q : Flo → En → Hs → Prop}
theorem ixS (d : Nat) (hd : (d : Int) < 2) (h : Hs) : gIx h (.d (.list [.str "read", .str "write"])) (.d (.int d)) = some (.d (.str (mS (d == 1)))) := by
  have : d = 0 ∨ d = 1 := by omega
  rcases this with rfl | rfl
  · show (atI [PyData.str "read", PyData.str "write"] ((0 : Nat) : Int)).map _ = _
    rfl
  · show (atI [PyData.str "read", PyData.str "write"] ((1 : Nat) : Int)).map _ = _
    rfl
theorem rw_lst {env : En} {h : Hs} : fLst (aCons (qC (.d (.str "read"))) (aCons (qC (.d (.str "write"))) aNil)) env h = some [.str "read", .str "write"] := by
  show (if ([PyData.str "read", PyData.str "write"] : List PyData).length ≤ sizeLine then some [PyData.str "read", PyData.str "write"] else none) = _
  exact if_pos sl2
theorem draw3_ (hT : Tp T) (k : ∀ T' (r : Rw) (p : Nat), Tp T' → Dom r → Q .nx (ev { x with x8 := .v (.d (.int r.w)), x9 := .v (.d (wD r)), x10 := .v (.d (.int p)) } (m + 1) H L) (T' :: E)) :
    wp (mAsgE (eTup (eCons (eCall (arity 2 r__law_take) (eCons (eQ (qVs 1)) (eCons (eQ (qC (.d (.int 5)))) eNil))) (eCons (eTup (eCons (eCall (arity 2 r__law_take) (eCons (eQ (qVs 1)) (eCons (eQ (qC (.d (.int 3)))) eNil))) (eCons (Sm.e2 gIx (eQ (qF (fLst (aCons (qC (.d (.str "read"))) (aCons (qC (.d (.str "write"))) aNil))))) (eCall (arity 2 r__law_take) (eCons (eQ (qVs 1)) (eCons (eQ (qC (.d (.int 2)))) eNil)))) eNil))) (eCons (eCall (arity 2 r__law_take) (eCons (eQ (qVs 1)) (eCons (eQ (qC (.d (.int 10)))) eNil))) eNil)))) (bTup 3 (bCons (bName 8) (bCons (bName 9) (bCons (bName 10) bNil))))) (ev x (m + 1) H L) (T :: E) Q := by
  refine wp.asgE (evE.tup (evA.cons (dr_ (m := 5) rfl rfl hT (by decide) (by decide) fun w T1 hw t1 => evA.cons (evE.tup (evA.cons (dr_ (m := 3) rfl rfl t1 (by decide) (by decide) fun a T2 ha t2 => ?_))))))
  refine evA.cons (evE.e2 (evE.pq (qF_ rw_lst) (dr_ (m := 2) rfl rfl t2 (by decide) (by decide) fun b T3 hb t3 => ⟨_, ixS b hb _, ?_⟩)))
  refine evA.nil ⟨_, rfl, (by decide : 2 ≤ 1000000), ?_⟩
  refine evA.cons (dr_ (m := 10) rfl rfl t3 (by decide) (by decide) fun p T4 hp t4 => evA.nil ⟨_, rfl, (by decide : 3 ≤ 1000000), _, _, rfl, rfl, ?_⟩)
  exact k T4 ⟨w, a, b == 1⟩ p t4 ⟨Int.natCast_nonneg _, hw, Int.natCast_nonneg _, ha⟩
def upd (r : Rw) (H L : List Rw) : List Rw × List Rw := if r ∈ H then (H, L) else if r ∈ L then (H, L) else if can r H L = true then (H ++ [r], L) else (H, L ++ [r])
theorem set_same {h : Hs} {n : Nat} {y : Ob} (e : h[n]? = some y) : h.set n y = h := by
  apply List.ext_getElem?
  intro i
  by_cases c : n = i
  · subst c
    rw [List.getElem?_set_self (List.getElem?_eq_some_iff.mp e).1, e]
  · rw [List.getElem?_set_ne c]
theorem ask2_ {h : Hs} {n : Nat} (hn : h[n]? = some (qb H L)) (hl : H.length + L.length ≤ 400) (r : Rw) : r_Queue_ask [.ref n, .d (.int r.w), .d (wD r)] h = some (.d (.bool (decide (r ∈ (upd r H L).1))), h.set n (qb (upd r H L).1 (upd r H L).2)) := by
  rw [ask_ hn hl r]
  unfold upd
  by_cases c1 : r ∈ H
  · rw [if_pos c1, if_pos c1, set_same hn, decide_eq_true c1]
  · rw [if_neg c1, if_neg c1]
    by_cases c2 : r ∈ L
    · rw [if_pos c2, if_pos c2, set_same hn, decide_eq_false c1]
    · rw [if_neg c2, if_neg c2]
      by_cases c3 : can r H L = true
      · rw [if_pos c3, if_pos c3, decide_eq_true (by simp)]
      · rw [if_neg c3, if_neg c3, decide_eq_false c1]
theorem upd_ok (o : Ok H L) {r : Rw} (d : Dom r) : Ok (upd r H L).1 (upd r H L).2 := by
  unfold upd
  by_cases c1 : r ∈ H
  · rw [if_pos c1]; exact o
  · rw [if_neg c1]
    by_cases c2 : r ∈ L
    · rw [if_pos c2]; exact o
    · rw [if_neg c2]
      by_cases c3 : can r H L = true
      · rw [if_pos c3]; exact o.add d c1 c2 c3
      · rw [if_neg c3]; exact o.wait d c1 c2 (Bool.eq_false_iff.mpr c3)
end
end K06

set_option Elab.async false
set_option linter.all false
set_option maxRecDepth 100000
set_option maxHeartbeats 4000000
namespace K06
open PySem L2 Evl Sm
def drawL : M1 := (mAsgE (eTup (eCons (eCall (arity 2 r__law_take) (eCons (eQ (qVs 1)) (eCons (eQ (qC (.d (.int 5)))) eNil))) (eCons (eTup (eCons (eCall (arity 2 r__law_take) (eCons (eQ (qVs 1)) (eCons (eQ (qC (.d (.int 3)))) eNil))) (eCons (e2 gIx (eQ (qF (fLst (aCons (qC (.d (.str "read"))) (aCons (qC (.d (.str "write"))) aNil))))) (eCall (arity 2 r__law_take) (eCons (eQ (qVs 1)) (eCons (eQ (qC (.d (.int 2)))) eNil)))) eNil))) (eCons (eCall (arity 2 r__law_take) (eCons (eQ (qVs 1)) (eCons (eQ (qC (.d (.int 10)))) eNil))) eNil)))) (bTup 3 (bCons (bName 8) (bCons (bName 9) (bCons (bName 10) bNil)))))
def askL : M1 := (mSeq (mIf (tV (q2 (gIn true) (qTup (aCons (qV 8) (aCons (qV 9) aNil))) (qF (f2 gCat (qZ 5) (qZ 6))))) (mSeq (mSet 11 (qNl (qCall (arity 4 r__law_free) (aCons (qV 8) (aCons (qV 9) (aCons (qZ 5) (aCons (qZ 6) aNil)))))))
    (mAsgZ2 5 6 (qTup (aCons (qF (f2 gCat (qZ 5) (qF (fIf (tV (qV 11)) (fLst (aCons (qTup (aCons (qNl (qV 8)) (aCons (qNl (qV 9)) aNil))) aNil)) (fLst aNil))))) (aCons (qF (f2 gCat (qZ 6) (qF (fIf (tV (qV 11)) (fLst aNil) (fLst (aCons (qTup (aCons (qNl (qV 8)) (aCons (qNl (qV 9)) aNil))) aNil)))))) aNil))))) mNx)
    (mIfE (eNot (etV (eCallQ (arity 2 (g__law_same 8)) (eCons (eMeth 0 (arity 3 r_Queue_ask) (qV 2) (eCons (eQ (qVs 8)) (eCons (eQ (qVs 9)) eNil))) (eCons (eQ (q2 (gIn false) (qTup (aCons (qV 8) (aCons (qV 9) aNil))) (qZ 5))) eNil))))) (mRet .mo (qC (.d (.bool false)))) mNx))
def dropL : M1 := (mSeq (mSetO 12 (fLc (iSeqX (qZ 5)) [13] (bName 13) (tV (q2 gEq (q2 gIx (qV 13) (qC (.d (.int 0)))) (qV 8))) (qNl (qV 13))))
    (mHold 12 (mSeq (mSetE 13 (eIf (eT (tV (q2 gNe (qV 12) (qF (fLst aNil))))) (e2 gIx (eQ (qVs 12)) (eCall (arity 2 r__law_take) (eCons (eQ (qVs 1)) (eCons (eQ (q1 gLen (qV 12))) eNil)))) (eQ (qTup (aCons (qVs 8) (aCons (qVs 9) aNil))))))
    (mSeq (mE (eMeth 0 (arity 3 r_Queue_drop) (qV 2) (eCons (eQ (qNl (q2 gIx (qV 13) (qC (.d (.int 0)))))) (eCons (eQ (qNl (q2 gIx (qV 13) (qC (.d (.int 1)))))) eNil))))
    (mAsgZ2 5 6 (qCall (arity 2 r__law_given) (aCons (qF (fLc (iSeqX (qZ 5)) [14] (bName 14) (tV (q2 gNe (qV 14) (qV 13))) (qNl (qV 14)))) (aCons (qZ 6) aNil))))))))
def leaveL : M1 := (mSeq (mSetO 12 (fLc (iSeqX (qZ 6)) [13] (bName 13) (tV (q2 gEq (q2 gIx (qV 13) (qC (.d (.int 0)))) (qV 8))) (qNl (qV 13))))
    (mHold 12 (mSeq (mSetE 13 (eIf (eT (tV (q2 gNe (qV 12) (qF (fLst aNil))))) (e2 gIx (eQ (qVs 12)) (eCall (arity 2 r__law_take) (eCons (eQ (qVs 1)) (eCons (eQ (q1 gLen (qV 12))) eNil)))) (eQ (qTup (aCons (qVs 8) (aCons (qVs 9) aNil))))))
    (mSeq (mE (eMeth 0 (arity 3 r_Queue_leave) (qV 2) (eCons (eQ (qNl (q2 gIx (qV 13) (qC (.d (.int 0)))))) (eCons (eQ (qNl (q2 gIx (qV 13) (qC (.d (.int 1)))))) eNil))))
    (mAsgZ2 5 6 (qCall (arity 2 r__law_given) (aCons (qZ 5) (aCons (qF (fLc (iSeqX (qZ 6)) [14] (bName 14) (tV (q2 gNe (qV 14) (qV 13))) (qNl (qV 14)))) aNil))))))))
def allL : M1 := (mSeq (mE (eMeth 0 (arity 2 r_Queue_drop_all) (qV 2) (eCons (eQ (qVs 8)) eNil)))
    (mAsgZ2 5 6 (qCall (arity 2 r__law_given) (aCons (qF (fLc (iSeqX (qZ 5)) [14] (bName 14) (tV (q2 gNe (q2 gIx (qV 14) (qC (.d (.int 0)))) (qV 8))) (qNl (qV 14)))) (aCons (qF (fLc (iSeqX (qZ 6)) [14] (bName 14) (tV (q2 gNe (q2 gIx (qV 14) (qC (.d (.int 0)))) (qV 8))) (qNl (qV 14)))) aNil)))))
def chkL : M1 := (mSeq (mIf (tNotF (tV (qCall (arity 2 (g__law_same 8)) (aCons (qTup (aCons (qMeth 0 (arity 1 r_Queue_holders) (qV 2) aNil) (aCons (qMeth 0 (arity 1 r_Queue_waiting) (qV 2) aNil) aNil))) (aCons (qTup (aCons (q1 gTuple (qZ 5)) (aCons (q1 gTuple (qZ 6)) aNil))) aNil))))) (mRet .mo (qC (.d (.bool false)))) mNx)
    (mSeq (mFor (iRng (qC (.d (.int 5)))) [15] (bName 14) b_law_1)
    (mSeq (mFor (iRng (q1 gLen (qZ 5))) [] (bName 16) b_law_2)
    (mIf (tV (q1 gAny (qF (fLc (iRng (q1 gLen (qZ 6))) [16] (bName 16) tTrue (qNl (qCall (arity 4 r__law_free) (aCons (q2 gIx (q2 gIx (qZ 6) (qV 16)) (qC (.d (.int 0)))) (aCons (q2 gIx (q2 gIx (qZ 6) (qV 16)) (qC (.d (.int 1)))) (aCons (qZ 5) (aCons (qF (fSl (qZ 6) oNone (oSome (qV 16)))) aNil)))))))))) (mRet .mo (qC (.d (.bool false)))) mNx))))
theorem step_split : b_law_3 = mSeq drawL (mSeq (mIf (tV (q2 gLt (qV 10) (qC (.d (.int 5))))) askL (mIf (tV (q2 gLt (qV 10) (qC (.d (.int 8))))) dropL (mIf (tV (q2 gEq (qV 10) (qC (.d (.int 8))))) leaveL allL))) chkL) := rfl
end K06

set_option Elab.async false
set_option linter.all false
set_option maxRecDepth 100000
set_option maxHeartbeats 2000000
namespace K06
open PySem L2 Evl Sm
theorem wp.mono {A : M1} {env : En} {h : Hs} {Q Q' : Flo → En → Hs → Prop} (w : wp A env h Q) (k : ∀ r e h, Q r e h → Q' r e h) : wp A env h Q' := by
  obtain ⟨r, e, h1, e1, q⟩ := w
  exact ⟨r, e, h1, e1, k _ _ _ q⟩
def Po (m : Nat) (r : Flo) (e : En) (h : Hs) : Prop := r = .nx ∧ St m e h
abbrev XX (x : Xs) (r : Rw) (y : Sl) : Xs := { x with x8 := .v (.d (.int r.w)), x9 := .v (.d (wD r)), x10 := y }
theorem catO_ {q : Q1} {f : I1} {env : En} {h : Hs} {R : List Rw} {ys : List PyData} (e : q env h = some (.d (.list (rL R)))) (ef : f env h = some ys) (hy : nlAll ys = true) (hl : R.length + ys.length ≤ 1000) : Sm.f2 gCat q (qF f) env h = some (rL R ++ ys) := by
  unfold Sm.f2
  rw [e, Option.bind_some, qF_ ef, Option.bind_some]
  show (if nlAll (rL R) = true ∧ nlAll ys = true ∧ (rL R).length + ys.length ≤ sizeLine then some (rL R ++ ys) else none) = _
  rw [if_pos ⟨nl_rL _, hy, by rw [List.length_map]; exact len_sl hl⟩]
theorem fIf_t {t : T1} {a b : I1} {env : En} {h : Hs} {ys : List PyData} (e : t env h = some true) (ea : a env h = some ys) : fIf t a b env h = some ys := by
  unfold fIf
  rw [e, Option.bind_some, if_pos rfl, ea]
theorem fIf_f {t : T1} {a b : I1} {env : En} {h : Hs} {ys : List PyData} (e : t env h = some false) (ea : b env h = some ys) : fIf t a b env h = some ys := by
  unfold fIf
  rw [e, Option.bind_some, if_neg Bool.false_ne_true, ea]
theorem nil_ {env : En} {h : Hs} : fLst aNil env h = some [] := by
  show (if ([] : List PyData).length ≤ sizeLine then some [] else none) = _
  exact if_pos (Nat.zero_le _)
section
variable {T : Ob} {E : Hs} {m : Nat} {H L : List Rw} {x : Xs} {r : Rw} {y : Sl}
theorem St.of {H' L' : List Rw} (hT : Tp T) (hE : E[m]? = some (qb H L)) (o : Ok H' L') : St m (ev x (m + 1) H' L') ((T :: E).set (m + 1) (qb H' L')) := ⟨x, T, E.set m (qb H' L'), H', L', rfl, rfl, hT, get_set1 hE, o⟩
theorem ask_br (hT : Tp T) (hE : E[m]? = some (qb H L)) (o : Ok H L) (d : Dom r) : wp askL (ev (XX x r y) (m + 1) H L) (T :: E) (Po m) := by
  have hl := o.len
  have hn : (T :: E)[m + 1]? = some (qb H L) := hE
  unfold askL
  have rest : ∀ x : Xs, wp (mIfE (eNot (etV (eCallQ (arity 2 (g__law_same 8)) (eCons (eMeth 0 (arity 3 r_Queue_ask) (qV 2) (eCons (eQ (qVs 8)) (eCons (eQ (qVs 9)) eNil))) (eCons (eQ (Sm.q2 (gIn false) (qTup (aCons (qV 8) (aCons (qV 9) aNil))) (qZ 5))) eNil))))) (mRet .mo (qC (.d (.bool false)))) mNx) (ev (XX x r y) (m + 1) (upd r H L).1 (upd r H L).2) (T :: E) (Po m) := by
    intro x
    have e1 : Sm.q2 (gIn false) (qTup (aCons (qV 8) (aCons (qV 9) aNil))) (qZ 5) (ev (XX x r y) (m + 1) (upd r H L).1 (upd r H L).2) ((T :: E).set (m + 1) (qb (upd r H L).1 (upd r H L).2)) = some (.d (.bool (decide (r ∈ (upd r H L).1)))) := q2_of (x := .d (rD r)) (y := .d (.list (rL (upd r H L).1))) (qTup2_ rfl rfl) rfl (in_r _ _ _)
    refine wp.iteE (evT.not (evT.v (evE.callQ (evA.cons (evE.meth (n := m + 1) rfl (isObj_ (hasH hn).f) (evA.cons (evE.pq (x := .d (.int r.w)) rfl (evA.cons (evE.pq (x := .d (wD r)) rfl (evA.nil ⟨_, _, ask2_ hn (by omega) r, ?_⟩))))))))))
    refine evA.cons (evE.pq e1 (evA.nil ⟨.bool true, same_ 8 (.bool (decide (r ∈ (upd r H L).1))) rfl ((T :: E).set (m + 1) (qb (upd r H L).1 (upd r H L).2)), rfl, .bool true, true, rfl, rfl, fun z => (by cases z), fun _ => wp.nx ⟨rfl, ?_⟩⟩))
    exact St.of (x := XX x r y) hT hE (upd_ok o d)
  have er : qTup (aCons (qV 8) (aCons (qV 9) aNil)) (ev (XX x r y) (m + 1) H L) (T :: E) = some (.d (rD r)) := qTup2_ rfl rfl
  have ec : qF (Sm.f2 gCat (qZ 5) (qZ 6)) (ev (XX x r y) (m + 1) H L) (T :: E) = some (.d (.list (rL (H ++ L)))) := qF_ (by
    unfold Sm.f2
    show (if nlAll (rL H) = true ∧ nlAll (rL L) = true ∧ (rL H).length + (rL L).length ≤ sizeLine then some (rL H ++ rL L) else none) = _
    rw [if_pos ⟨nl_rL _, nl_rL _, by rw [List.length_map, List.length_map]; exact len_sl (by omega)⟩, rL, rL, rL, List.map_append])
  have et := tV_b (q2_of er ec (notin_r r (H ++ L) (T :: E)))
  refine wp.sq (wp.ite et (fun c => ?_) (fun c => ?_))
  · have c : r ∉ H ++ L := by simpa using c
    have c1 : r ∉ H := fun z => c (List.mem_append_left _ z)
    have c2 : r ∉ L := fun z => c (List.mem_append_right _ z)
    have ef : qNl (qCall (arity 4 r__law_free) (aCons (qV 8) (aCons (qV 9) (aCons (qZ 5) (aCons (qZ 6) aNil))))) (ev (XX x r y) (m + 1) H L) (T :: E) = some (.d (.bool (can r H L))) := nlq (by
      have fr := free_ (h := T :: E) (H := H) (A := L) r (by omega) (by omega)
      have r0 : qV 8 (ev (XX x r y) (m + 1) H L) (T :: E) = some (.d (.int r.w)) := rfl
      have r1 : qV 9 (ev (XX x r y) (m + 1) H L) (T :: E) = some (.d (wD r)) := rfl
      have r2 : qZ 5 (ev (XX x r y) (m + 1) H L) (T :: E) = some (.d (.list (rL H))) := rfl
      have r3 : qZ 6 (ev (XX x r y) (m + 1) H L) (T :: E) = some (.d (.list (rL L))) := rfl
      unfold qCall aCons aNil
      simp only [r0, r1, r2, r3, Option.bind_some]
      exact fr) rfl
    refine wp.sq (wp.set ef ⟨rfl, ?_⟩)
    have erow : fLst (aCons (qTup (aCons (qNl (qV 8)) (aCons (qNl (qV 9)) aNil))) aNil) (ev (XX { x with x11 := .v (.d (.bool (can r H L))) } r y) (m + 1) H L) (T :: E) = some [rD r] := fLst1_ (row_ rfl rfl)
    cases c3 : can r H L with
    | true =>
      rw [c3] at erow
      have rest := rest { x with x11 := .v (.d (.bool true)) }
      unfold upd at rest
      rw [if_neg c1, if_neg c2, if_pos c3] at rest
      refine asgZ2_ (qTup2_ (qF_ (catO_ (R := H) rfl (fIf_t rfl erow) rfl (by simp; omega))) (qF_ (catO_ (R := L) rfl (fIf_t rfl nil_) rfl (by simp; omega)))) ⟨rfl, ?_⟩
      rw [← rL_app, List.append_nil]
      exact rest
    | false =>
      rw [c3] at erow
      have rest := rest { x with x11 := .v (.d (.bool false)) }
      unfold upd at rest
      rw [if_neg c1, if_neg c2, if_neg (by rw [c3]; exact Bool.false_ne_true)] at rest
      refine asgZ2_ (qTup2_ (qF_ (catO_ (R := H) rfl (fIf_f rfl nil_) rfl (by simp; omega))) (qF_ (catO_ (R := L) rfl (fIf_f rfl erow) rfl (by simp; omega)))) ⟨rfl, ?_⟩
      rw [← rL_app, List.append_nil]
      exact rest
  · have c : r ∈ H ++ L := by
      by_cases z : r ∈ H ++ L
      · exact z
      · rw [decide_eq_false z] at c
        cases c
    have rest := rest x
    have e : upd r H L = (H, L) := by
      unfold upd
      by_cases c1 : r ∈ H
      · rw [if_pos c1]
      · rw [if_neg c1, if_pos ((List.mem_append.mp c).resolve_left c1)]
    rw [e] at rest
    exact wp.nx ⟨rfl, rest⟩
theorem chk_ (hT : Tp T) (hE : E[m]? = some (qb H L)) (o : Ok H L) : wp chkL (ev x (m + 1) H L) (T :: E) (Po m) := by
  have hn : (T :: E)[m + 1]? = some (qb H L) := hE
  unfold chkL
  refine wp.sq (wp.no (chk1_ hn o) (wp.nx ⟨rfl, ?_⟩))
  refine wp.sq (wp.mono (chk2_ hn o) fun f e h => ?_)
  rintro ⟨rfl, rfl, x, rfl⟩
  refine ⟨rfl, wp.sq (wp.mono (chk3_ o) fun f e h => ?_)⟩
  rintro ⟨rfl, rfl, x, rfl⟩
  exact ⟨rfl, wp.no (chk4_ o) (wp.nx ⟨rfl, x, T, E, H, L, rfl, rfl, hT, hE, o⟩)⟩
end
end K06

set_option Elab.async false
set_option linter.all false
set_option maxRecDepth 100000
set_option maxHeartbeats 2000000
namespace K06
open PySem L2 Evl Sm
section
variable {T : Ob} {E h : Hs} {m n : Nat} {H L : List Rw} {x : Xs} {r : Rw} {y : Sl}
def mine (r : Rw) (R : List Rw) : List Rw := R.filter fun s => decide (s.w = r.w)
theorem eqW_ {env : En} {s r : Rw} (e1 : env[13]? = some (.v (.d (rD s)))) (e2 : env[8]? = some (.v (.d (.int r.w)))) : tV (Sm.q2 gEq (Sm.q2 gIx (qV 13) (qC (.d (.int 0)))) (qV 8)) env h = some (decide (s.w = r.w)) :=
  tV_b (q2_of (x := .d (.int s.w)) (q2_of (x := .d (rD s)) (y := .d (.int 0)) (by unfold qV; rw [e1]) rfl rfl) (by unfold qV; rw [e2]) (eqI _ _ h))
theorem mineH_ (hl : H.length ≤ 400) : fLc (iSeqX (qZ 5)) [13] (bName 13) (tV (Sm.q2 gEq (Sm.q2 gIx (qV 13) (qC (.d (.int 0)))) (qV 8))) (qNl (qV 13)) (ev (XX x r y) n H L) h = some (rL (mine r H)) :=
  fLc_filter (f := rD) (g := rD) (p := fun s => decide (s.w = r.w)) (iSq rfl) (fun s _ => stepc_of (env1 := ev { XX x r y with x13 := .v (.d (rD s)) } n H L) rfl (eqW_ rfl rfl) (nlq rfl rfl)) (len_sl (by omega))
theorem mineL_ (hl : L.length ≤ 400) : fLc (iSeqX (qZ 6)) [13] (bName 13) (tV (Sm.q2 gEq (Sm.q2 gIx (qV 13) (qC (.d (.int 0)))) (qV 8))) (qNl (qV 13)) (ev (XX x r y) n H L) h = some (rL (mine r L)) :=
  fLc_filter (f := rD) (g := rD) (p := fun s => decide (s.w = r.w)) (iSq rfl) (fun s _ => stepc_of (env1 := ev { XX x r y with x13 := .v (.d (rD s)) } n H L) rfl (eqW_ rfl rfl) (nlq rfl rfl)) (len_sl (by omega))
theorem pick_ {M : List Rw} {Q : Val → Hs → Prop} (hT : Tp T) (hM : M.length ≤ 400) (k : ∀ (s : Rw) T', Tp T' → Q (.d (rD s)) (T' :: E)) :
    evE (eIf (eT (tV (Sm.q2 gNe (qV 12) (qF (fLst aNil))))) (Sm.e2 gIx (eQ (qVs 12)) (eCall (arity 2 r__law_take) (eCons (eQ (qVs 1)) (eCons (eQ (Sm.q1 gLen (qV 12))) eNil)))) (eQ (qTup (aCons (qVs 8) (aCons (qVs 9) aNil))))) (ev { XX x r y with x12 := .v (.d (.list (rL M))) } n H L) (T :: E) Q := by
  refine evE.ite (evT.pt (tV_b (q2_of (x := .d (.list (rL M))) (y := .d (.list [])) rfl (qF_ nil_) (ne_nil M _))) ?_)
  by_cases c : M = []
  · rw [decide_eq_true c, if_neg (by decide)]
    exact evE.pq (qTup2_ rfl rfl) (k r T hT)
  · rw [decide_eq_false c, if_pos (show (!false) = true from rfl)]
    have hp := List.length_pos_iff.mpr c
    refine evE.e2 (evE.pq (x := .d (.list (rL M))) rfl (dr_ (m := ((rL M).length : Nat)) rfl rfl hT (by rw [List.length_map]; omega) (by rw [List.length_map]; omega) fun d T' hd t' => ?_))
    rw [List.length_map] at hd
    have hd : d < M.length := by omega
    refine ⟨.d (rD M[d]), ?_, k M[d] T' t'⟩
    show (atI (rL M) (d : Int)).map _ = _
    rw [at_rL (List.getElem?_eq_getElem hd)]
    rfl
theorem neR_ {env : En} {s r : Rw} (e1 : env[14]? = some (.v (.d (rD s)))) (e2 : env[13]? = some (.v (.d (rD r)))) : tV (Sm.q2 gNe (qV 14) (qV 13)) env h = some (!decide (s = r)) :=
  tV_b (q2_of (by unfold qV; rw [e1]) (by unfold qV; rw [e2]) (ne_r s r h))
theorem wp.e' {a : E1} {env : En} {Q : Flo → En → Hs → Prop} (k : evE a env h fun _ h1 => Q .nx env h1) : wp (mE a) env h Q := K06.wp.e k
theorem drop_br (hT : Tp T) (hE : E[m]? = some (qb H L)) (o : Ok H L) : wp dropL (ev (XX x r y) (m + 1) H L) (T :: E) (Po m) := by
  have hl := o.len
  unfold dropL
  refine wp.sq (wp.setO (mineH_ (by omega)) ⟨rfl, ?_⟩)
  refine wp.hold (xs := rL (mine r H)) rfl ?_
  have lm : (mine r H).length ≤ H.length := List.length_filter_le ..
  refine wp.sq (wp.setE (pick_ (x := x) (M := mine r H) hT (by omega) fun s T1 t1 => ⟨rfl, ?_⟩))
  have hn : (T1 :: E)[m + 1]? = some (qb H L) := hE
  refine wp.sq (wp.e (evE.meth (n := m + 1) rfl (isObj_ (hasH hn).f) (evA.cons (evE.pq (x := .d (.int s.w)) (nlq (q2_of (x := .d (rD s)) (y := .d (.int 0)) rfl rfl rfl) rfl) (evA.cons (evE.pq (x := .d (wD s)) (nlq (q2_of (x := .d (rD s)) (y := .d (.int 1)) rfl rfl rfl) rfl) (evA.nil ⟨_, _, drop_ hn (by omega) s, rfl, ?_⟩)))))))
  have lb := but_len s H
  have eb : fLc (iSeqX (qZ 5)) [14] (bName 14) (tV (Sm.q2 gNe (qV 14) (qV 13))) (qNl (qV 14)) (ev { XX x r y with x12 := .v (.d (.list (rL (mine r H)))), x13 := .v (.d (rD s)) } (m + 1) H L) ((T1 :: E).set (m + 1) (qb (give (but s H) [] L).1 (give (but s H) [] L).2)) = some (rL (but s H)) :=
    fLc_filter (f := rD) (g := rD) (p := fun u => !decide (u = s)) (iSq rfl) (fun u _ => stepc_of (env1 := ev { XX x r y with x12 := .v (.d (.list (rL (mine r H)))), x13 := .v (.d (rD s)), x14 := .v (.d (rD u)) } (m + 1) H L) rfl (neR_ rfl rfl) (nlq rfl rfl)) (len_sl (by omega))
  refine asgZ2_ (qCall2_ (qF_ eb) rfl (given_ (by omega))) ⟨rfl, ?_⟩
  exact St.of (x := { XX x r y with x12 := .v (.d (.list (rL (mine r H)))), x13 := .v (.d (rD s)) }) t1 hE (o.cutH _)
theorem leave_br (hT : Tp T) (hE : E[m]? = some (qb H L)) (o : Ok H L) : wp leaveL (ev (XX x r y) (m + 1) H L) (T :: E) (Po m) := by
  have hl := o.len
  unfold leaveL
  refine wp.sq (wp.setO (mineL_ (by omega)) ⟨rfl, ?_⟩)
  refine wp.hold (xs := rL (mine r L)) rfl ?_
  have lm : (mine r L).length ≤ L.length := List.length_filter_le ..
  refine wp.sq (wp.setE (pick_ (x := x) (M := mine r L) hT (by omega) fun s T1 t1 => ⟨rfl, ?_⟩))
  have hn : (T1 :: E)[m + 1]? = some (qb H L) := hE
  refine wp.sq (wp.e (evE.meth (n := m + 1) rfl (isObj_ (hasH hn).f) (evA.cons (evE.pq (x := .d (.int s.w)) (nlq (q2_of (x := .d (rD s)) (y := .d (.int 0)) rfl rfl rfl) rfl) (evA.cons (evE.pq (x := .d (wD s)) (nlq (q2_of (x := .d (rD s)) (y := .d (.int 1)) rfl rfl rfl) rfl) (evA.nil ⟨_, _, leave_ hn (by omega) s, rfl, ?_⟩)))))))
  have lb := but_len s L
  have eb : fLc (iSeqX (qZ 6)) [14] (bName 14) (tV (Sm.q2 gNe (qV 14) (qV 13))) (qNl (qV 14)) (ev { XX x r y with x12 := .v (.d (.list (rL (mine r L)))), x13 := .v (.d (rD s)) } (m + 1) H L) ((T1 :: E).set (m + 1) (qb (give H [] (but s L)).1 (give H [] (but s L)).2)) = some (rL (but s L)) :=
    fLc_filter (f := rD) (g := rD) (p := fun u => !decide (u = s)) (iSq rfl) (fun u _ => stepc_of (env1 := ev { XX x r y with x12 := .v (.d (.list (rL (mine r L)))), x13 := .v (.d (rD s)), x14 := .v (.d (rD u)) } (m + 1) H L) rfl (neR_ rfl rfl) (nlq rfl rfl)) (len_sl (by omega))
  refine asgZ2_ (qCall2_ (y := .d (.list (rL (but s L)))) rfl (qF_ eb) (given_ (by omega))) ⟨rfl, ?_⟩
  exact St.of (x := { XX x r y with x12 := .v (.d (.list (rL (mine r L)))), x13 := .v (.d (rD s)) }) t1 hE (o.cutL _)
theorem neW14_ {env : En} {s : Rw} {w : Int} (e1 : env[14]? = some (.v (.d (rD s)))) (e2 : env[8]? = some (.v (.d (.int w)))) : tV (Sm.q2 gNe (Sm.q2 gIx (qV 14) (qC (.d (.int 0)))) (qV 8)) env h = some (!decide (s.w = w)) := neW_step e1 e2
theorem all_br (hT : Tp T) (hE : E[m]? = some (qb H L)) (o : Ok H L) : wp allL (ev (XX x r y) (m + 1) H L) (T :: E) (Po m) := by
  have hl := o.len
  unfold allL
  have hn : (T :: E)[m + 1]? = some (qb H L) := hE
  refine wp.sq (wp.e (evE.meth (n := m + 1) rfl (isObj_ (hasH hn).f) (evA.cons (evE.pq (x := .d (.int r.w)) rfl (evA.nil ⟨_, _, drop_all_ hn (by omega) r.w, rfl, ?_⟩)))))
  have l1 := butW_len r.w H
  have l2 := butW_len r.w L
  have e1 : fLc (iSeqX (qZ 5)) [14] (bName 14) (tV (Sm.q2 gNe (Sm.q2 gIx (qV 14) (qC (.d (.int 0)))) (qV 8))) (qNl (qV 14)) (ev (XX x r y) (m + 1) H L) ((T :: E).set (m + 1) (qb (give (butW r.w H) [] (butW r.w L)).1 (give (butW r.w H) [] (butW r.w L)).2)) = some (rL (butW r.w H)) :=
    fLc_filter (f := rD) (g := rD) (p := fun u => !decide (u.w = r.w)) (iSq rfl) (fun u _ => stepc_of (env1 := ev { XX x r y with x14 := .v (.d (rD u)) } (m + 1) H L) rfl (neW14_ rfl rfl) (nlq rfl rfl)) (len_sl (by omega))
  have e2 : fLc (iSeqX (qZ 6)) [14] (bName 14) (tV (Sm.q2 gNe (Sm.q2 gIx (qV 14) (qC (.d (.int 0)))) (qV 8))) (qNl (qV 14)) (ev (XX x r y) (m + 1) H L) ((T :: E).set (m + 1) (qb (give (butW r.w H) [] (butW r.w L)).1 (give (butW r.w H) [] (butW r.w L)).2)) = some (rL (butW r.w L)) :=
    fLc_filter (f := rD) (g := rD) (p := fun u => !decide (u.w = r.w)) (iSq rfl) (fun u _ => stepc_of (env1 := ev { XX x r y with x14 := .v (.d (rD u)) } (m + 1) H L) rfl (neW14_ rfl rfl) (nlq rfl rfl)) (len_sl (by omega))
  refine asgZ2_ (qCall2_ (qF_ e1) (qF_ e2) (given_ (by omega))) ⟨rfl, ?_⟩
  exact St.of (x := XX x r y) hT hE o.cut
theorem gLtI (i j : Int) (h : Hs) : gLt h (.d (.int i)) (.d (.int j)) = some (.d (.bool (decide (i < j)))) := rfl
theorem step_ (hT : Tp T) (hE : E[m]? = some (qb H L)) (o : Ok H L) : wp b_law_3 (ev x (m + 1) H L) (T :: E) (Po m) := by
  rw [step_split]
  refine wp.sq (draw3_ hT fun T1 r p t1 d => ⟨rfl, ?_⟩)
  refine wp.sq (wp.mono (Q := Po m) ?_ fun f e h => ?_)
  · refine wp.ite (c := decide ((p : Int) < 5)) (tV_b (q2_of (x := .d (.int p)) (y := .d (.int 5)) rfl rfl (gLtI _ _ _))) (fun _ => ask_br t1 hE o d) fun _ => ?_
    refine wp.ite (c := decide ((p : Int) < 8)) (tV_b (q2_of (x := .d (.int p)) (y := .d (.int 8)) rfl rfl (gLtI _ _ _))) (fun _ => drop_br t1 hE o) fun _ => ?_
    exact wp.ite (c := decide ((p : Int) = 8)) (tV_b (q2_of (x := .d (.int p)) (y := .d (.int 8)) rfl rfl (eqI _ _ _))) (fun _ => leave_br t1 hE o) fun _ => all_br t1 hE o
  · rintro ⟨rfl, x, T2, E2, H2, L2, rfl, rfl, t2, hE2, o2⟩
    exact ⟨rfl, chk_ t2 hE2 o2⟩
end
end K06

set_option Elab.async false
set_option linter.all false
set_option maxRecDepth 100000
set_option maxHeartbeats 2000000
namespace K06
open PySem L2 Evl Sm
/-! ### a turn, the whole -/
theorem getLst {h : Hs} {y : Ob} : (h ++ [y])[h.length]? = some y := by simp
theorem setLst {h : Hs} {y z : Ob} : (h ++ [y]).set h.length z = h ++ [z] := by simp
theorem init_ (h : Hs) : r_Queue___init__ [.ref h.length, .fn 0] (h ++ [.ins 0 [.un, .un, .un]]) = some (.d .none, h ++ [qb [] []]) := by
  refine ends_ (wp.of (r := .nx) (env1 := [.v (.ref h.length), .v (.fn 0)]) (h1 := h ++ [qb [] []]) ?_ ⟨rfl, rfl⟩)
  have s1 : setFld 0 0 (h ++ [.ins 0 [.un, .un, .un]]) (.ref h.length) (.v (.fn 0)) = some (h ++ [.ins 0 [.v (.fn 0), .un, .un]]) := by
    rw [setFld_ getLst, setLst]; rfl
  have s2 : setFld 0 1 (h ++ [.ins 0 [.v (.fn 0), .un, .un]]) (.ref h.length) (.l []) = some (h ++ [.ins 0 [.v (.fn 0), .l [], .un]]) := by
    rw [setFld_ getLst, setLst]; rfl
  have s3 : setFld 0 2 (h ++ [.ins 0 [.v (.fn 0), .l [], .un]]) (.ref h.length) (.l []) = some (h ++ [.ins 0 [.v (.fn 0), .l [], .l []]]) := by
    rw [setFld_ getLst, setLst]; rfl
  show mInit3 0 0 1 2 (qV 0) (qNl (qV 1)) [.v (.ref h.length), .v (.fn 0)] (h ++ [.ins 0 [.un, .un, .un]]) = _
  unfold mInit3
  have q0 : ∀ h', qV 0 [.v (.ref h.length), .v (.fn 0)] h' = some (.ref h.length) := fun _ => rfl
  have q1 : ∀ h', qNl (qV 1) [.v (.ref h.length), .v (.fn 0)] h' = some (.fn 0) := fun _ => rfl
  rw [q1, Option.bind_some, q0, Option.bind_some, s1, Option.bind_some, q0, Option.bind_some, s2, Option.bind_some, q0, Option.bind_some, s3, Option.bind_some]
  rfl
theorem make_ {env : En} {h : Hs} {Q : Val → Hs → Prop} (k : Q (.ref h.length) (h ++ [qb [] []])) : evE (eMake 0 3 (arity 2 r_Queue___init__) (eCons (eQ (qC (.fn 0))) eNil)) env h Q := by
  refine ⟨_, _, ?_, k⟩
  have e : arity 2 r_Queue___init__ [.ref h.length, .fn 0] (h ++ [.ins 0 (List.replicate 3 .un)]) = some (.d .none, h ++ [qb [] []]) := init_ h
  show (Option.bind (arity 2 r_Queue___init__ [.ref h.length, .fn 0] (h ++ [.ins 0 (List.replicate 3 .un)])) _) = _
  rw [e]
  rfl
theorem asgVZZ_ {env : En} {h : Hs} {i j l : Nat} {m : E1} {q r : Q1} {a b : PyData} {Q : Flo → En → Hs → Prop} (k : evE m env h fun x h1 => q env h1 = some (.d a) ∧ r env h1 = some (.d b) ∧ Q .nx (((env.set i (.v x)).set j (.z a)).set l (.z b)) h1) : wp (mAsgVZZ i j l m q r) env h Q := by
  obtain ⟨x, h1, e, e1, e2, k⟩ := k
  refine ⟨_, _, _, ?_, k⟩
  unfold mAsgVZZ
  rw [e, Option.bind_some, e1, Option.bind_some, e2]
  rfl
structure Ys where
  x : Xs
  x2 : Sl
  x5 : Sl
  x6 : Sl
abbrev eg (y : Ys) : En := [y.x.x0, .v (.ref 0), y.x2, y.x.x3, y.x.x4, y.x5, y.x6, y.x.x7, y.x.x8, y.x.x9, y.x.x10, y.x.x11, y.x.x12, y.x.x13, y.x.x14, y.x.x15, y.x.x16, y.x.x17]
def It (e : En) (h : Hs) : Prop := ∃ y T E, e = eg y ∧ h = T :: E ∧ Tp T
theorem turn_ {y : Ys} {T : Ob} {E : Hs} (hT : Tp T) : wp b_law_4 (eg y) (T :: E) fun r e h => r = .nx ∧ ∃ m, St m e h := by
  unfold b_law_4
  refine wp.sq (asgVZZ_ (make_ ⟨qF_ nil_, qF_ nil_, rfl, ?_⟩))
  have s0 : St E.length (ev y.x (E.length + 1) [] []) (T :: (E ++ [qb [] []])) := ⟨y.x, T, E ++ [qb [] []], [], [], rfl, rfl, hT, getLst, ok_nil⟩
  refine wp.for (xs := (List.range 30).map fun k : Nat => PyData.int k) (fun _ e h => St E.length e h) rfl ?_ ?_ fun e h z => ⟨rfl, _, z⟩
  · exact ⟨{ y.x with x7 := .un, x8 := .un, x9 := .un, x10 := .un, x16 := .un }, T, E ++ [qb [] []], [], [], rfl, rfl, hT, getLst, ok_nil⟩
  · rintro j d e h hx ⟨x, T1, E1, H, L, rfl, rfl, t1, hE, o⟩
    rw [List.getElem?_map] at hx
    obtain ⟨k, _, rfl⟩ := Option.map_eq_some_iff.mp hx
    refine ⟨ev { x with x7 := .v (.d (.int k)) } (E.length + 1) H L, rfl, wp.mono (step_ t1 hE o) fun f e h => ?_⟩
    rintro ⟨rfl, x, T2, E2, H2, L2, rfl, rfl, t2, hE2, o2⟩
    exact ⟨.inl rfl, { x with x7 := .un, x8 := .un, x9 := .un, x10 := .un, x16 := .un }, T2, E2, H2, L2, rfl, rfl, t2, hE2, o2⟩
theorem law_true (ns : List Int) (hl : ns.length ≤ 63) : ∃ h', r_law [.d (.list (ns.map PyData.int))] [] = some (.d (.bool true), h') := by
  obtain ⟨o, e0, hT⟩ := tape_ ns
  have key : wp m_law (startE 17 [.d (.list (ns.map PyData.int))]) [] fun r _ _ => r = .rt .mo (.d (.bool true)) := by
    rw [law_split]
    refine wp.sq (wp.setE (evE.call (evA.cons (evE.pq (x := .d (.list (ns.map PyData.int))) rfl (evA.nil ⟨_, _, e0, rfl, ?_⟩)))))
    have ep := pre_ (.v (.d (.list (ns.map PyData.int)))) o tailL
    have kt : wp tailL [.v (.d (.list (ns.map PyData.int))), .v (.ref 0), .v (.ref 2), .l [.bool true, .bool true, .bool false, .bool false, .bool true], .un, .un, .un, .un, .un, .un, .un, .un, .un, .un, .un, .un, .un, .un] [o, q1o, q2o] fun r _ _ => r = .rt .mo (.d (.bool true)) := by
      unfold tailL
      refine wp.sq (wp.for (xs := (List.range 3).map fun k : Nat => PyData.int k) (fun _ e h => It e h) rfl ⟨⟨⟨.v (.d (.list (ns.map PyData.int))), .l [.bool true, .bool true, .bool false, .bool false, .bool true], .un, .un, .un, .un, .un, .un, .un, .un, .un, .un, .un, .un⟩, .v (.ref 2), .un, .un⟩, o, [q1o, q2o], rfl, rfl, hT⟩ ?_ fun e h _ => ⟨rfl, wp.ret rfl rfl⟩)
      rintro j d e h hx ⟨y, T, E, rfl, rfl, t⟩
      rw [List.getElem?_map] at hx
      obtain ⟨k, _, rfl⟩ := Option.map_eq_some_iff.mp hx
      refine ⟨eg { y with x := { y.x with x4 := .v (.d (.int k)) } }, rfl, wp.mono (turn_ t) fun f e h => ?_⟩
      rintro ⟨rfl, m, x, T1, E1, H, L, rfl, rfl, t1, _, _⟩
      exact ⟨.inl rfl, ⟨{ x with x4 := .un, x7 := .un }, .v (.ref (m + 1)), .un, .un⟩, T1, E1, rfl, rfl, t1⟩
    obtain ⟨r, e', h', e, k⟩ := kt
    exact ⟨r, e', h', ep.trans e, k⟩
  obtain ⟨r, e', h', e, rfl⟩ := key
  refine ⟨h', ?_⟩
  unfold r_law runE
  rw [e]
  rfl
end K06

set_option Elab.async false
set_option linter.all false
set_option maxRecDepth 100000
set_option maxHeartbeats 0
namespace K06
open PySem PySem.Spec PyProof.Rows L2 Evl Sm
def g0 (K : PySem.W.Frag) : Glo := ⟨K, fun c => [He.ga K "Queue"].getD c 0, fun c => ([["_conflicts", "_held", "_line"]] : List (List Str)).getD c [], fun c => [He.ga K "_law_bars"].getD c 0, fun c => (match c with | 0 => by decide | _ + 1 => List.nodup_nil), fun c => (match c with | 0 => by decide | _ + 1 => (by show 0 < 900; decide))⟩
theorem facts {P : Program} {w : World} {K : PySem.W.Frag} {h : Heap} {mg : Str → Option Value} {f : Addr} (X : K.In h) (N : h.Ns mainGlobals mg) (hfa : mg ("law" : Str) = some (.ref f)) (c : SaysX fa dn cs K) :
    ∃ (fd : FuncData) (G : Glo), G.K = K ∧ (∀ (s : Shared) (v : Value), BindsTo s fd ⟨[v], []⟩ [("script", v)]) ∧ ∀ base : Heap, K.In base → base.Ns mainGlobals mg → FnOk P w K mg base CX0 10 f fd ["script"] (spE G 1 r_law) := by
  obtain ⟨ff, fd, T, hf⟩ := txt (G := g0 K) rfl rfl rfl rfl X N c
  obtain ⟨fdL, FL⟩ := c.1.def_ 22
  have e := hfa.symm.trans (He.glo_ok X N (c.1.fact 22))
  cases e
  have b := FunD.bindsA (ps := ["script"]) FL fun _ _ _ _ _ _ us hl => match us, hl with | [_], _ => rfl
  have same : fd 22 = fdL := by
    obtain ⟨⟨_, _, _, _, _, _, _, _, _, e1, l1, _⟩, _⟩ := T.d22.fn
    obtain ⟨⟨_, _, _, _, _, _, _, _, _, _, e2, l2, _⟩, _⟩ := FL
    rw [hf] at l1
    have q := l1.symm.trans l2
    simp only [Option.some.injEq, Obj.mk.injEq, Data.func.injEq] at q
    exact q.2.2.1
  refine ⟨fdL, g0 K, rfl, fun s v => b s [v] rfl, fun base _ _ => ?_⟩
  rw [← same]
  have z := ok_law (P := P) (w := w) (base := base) T
  rw [hf] at z
  exact z
end K06
open PySem PySem.W PySem.Calls PyProof.Rows
theorem PySem.Challenge.cw_treesheld_k06_whole_lines_holds : PySem.Challenge.rw_treesheld_k06_whole_lines.Holds := by
  w_on; o_law
  refine HandSHeadRun.head_any (r := OpenLaw.row PySem.Challenge.rw_treesheld_k06_whole_lines) (q := view (OpenLaw.row PySem.Challenge.rw_treesheld_k06_whole_lines).prog [12]) (H := K06.hk) (ob := K06.ob) (M := 100000) (loose := K06.ls) (d := HandSHeadRun.topDef (OpenLaw.row PySem.Challenge.rw_treesheld_k06_whole_lines).prog 12) (kwd := []) K06.ob_eq
    (by kernel_rfl) (fun s => by kernel_rfl) K06.run (by kernel_rfl) (by kernel_rfl) (by kernel_rfl) (by rfl) (by first | assumption | decide +kernel) (by decide +kernel) ⟨rfl, rfl, rfl, rfl, rfl, by decide +kernel⟩ ?hw ?hc
  case hw => w_witness2
  case hc =>
    refine L2.walk_ofE (l := PySem.Challenge.rw_treesheld_k06_whole_lines) (n := 63) (k := 10) (x := "script") (CX := L2.CX0) rfl (by decide) (by kernel_rfl) ⟨rfl, by decide, by decide⟩ ?F (fun _ _ _ _ z => z)
    intro w mg fa h Y N hmg0
    obtain ⟨K, KX, c⟩ := Y
    have hmg : mg ("law" : PySem.Str) = some (.ref fa) := by
      have e : (HandSHeadRun.topDef (OpenLaw.row PySem.Challenge.rw_treesheld_k06_whole_lines).prog 12).name = ("law" : PySem.Str) := by kernel_rfl
      rw [← e]
      exact hmg0
    obtain ⟨fd, G, gK, hb, hF⟩ := K06.facts (P := (PySem.Challenge.rw_treesheld_k06_whole_lines).prog) (w := w) KX N hmg c
    refine ⟨K, fd, Sm.spE G 1 K06.r_law, KX, hb, fun H a ns hl _ hS => ?_, hF⟩
    obtain ⟨h', e⟩ := K06.law_true ns hl
    subst gK
    exact Sm.enter e hS _
#print axioms PySem.Challenge.cw_treesheld_k06_whole_lines_holds

