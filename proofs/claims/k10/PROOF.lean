import PyProof.Rows.All
import Wide.All
import OpenK.AllK
import Wide.FinOn
import KE.KStateDown
import HandS.ForMost
import HandS.ForExc
import HandS.Defaults
import HandS.Flow
import HandS.Deep
import HandS.IsInst
import HandS.Walk
import HandS.SortRule
import HandS.SortInts
import HandS.TryMany
import HandS.ExcInit
import HandS.MakeKw
import HandS.CallSlots
import HandS.Head0
import HandS.Head1
import HandS.Head2
import HandS.HeadEnd
import HandS.HeadHook1
import HandS.HeadHook2
import HandS.ExcField
import HandS.Conv
import HandS.HeadHook4
import HandS.Style
import KE.KDictDisplayH
import HandS.TupAny
import HandS.Strs
import HandS.SetBool
import KE.SortData
import HandS.TupLen
import PySem.Challenge.RW_ordersbehind_k10_whole_triangle_step
set_option Elab.async false
set_option linter.all false
set_option maxRecDepth 100000
set_option maxHeartbeats 400000
/-! Data without addresses, and what of the heap bears it: own work. A value is told by a Dt; G is the settled part of the heap (it does not change any more), what is owned by a name stands outside of it. -/
namespace Mir
open PySem PySem.Spec PyProof.Rows L2 He

inductive Dt where
  | non | bl (b : Bool) | int (i : Int) | str (x : Str)
  | tup (l : List Dt) | lst (l : List Dt)
  | dT (ks : List (List Key)) (ds : List Dt)
  | dK (ks : List Key) (ds : List Dt)
  | ins (c : Str) (fs : List Str) (ds : List Dt)
  | scr (l : List Int)
inductive Sl where
  | un | vl (k : Nat) (d : Dt)
abbrev Ev := List Sl
structure Xc where
  c : Str
  fs : List Str
  ds : List Dt
inductive Rs (α : Type) where
  | ok (a : α) (ε : Ev) | er (x : Xc) (ε : Ev) | no
def Rs.bind {α β : Type} (r : Rs α) (f : α → Ev → Rs β) : Rs β := match r with
  | .ok a ε => f a ε
  | .er x ε => .er x ε
  | .no => .no

mutual
def Den (K : PySem.W.Frag) (G : Hp) : Dt → V → Prop
  | .non, v => v = .non
  | .bl b, v => v = .bl b
  | .int i, v => v = .int i
  | .str x, v => v = .str x
  | .tup ds, v => ∃ a vs, v = .ref a ∧ G a = some (.tup vs) ∧ DenL K G ds vs
  | .lst ds, v => ∃ a vs, v = .ref a ∧ G a = some (.lst vs) ∧ DenL K G ds vs
  | .dT ks ds, v => ∃ a ws, v = .ref a ∧ G a = some (.dT ws) ∧ ws.map (·.1) = ks ∧ DenL K G ds (ws.map (·.2))
  | .dK ks ds, v => ∃ a ws, v = .ref a ∧ G a = some (.dK ws) ∧ ws.map (·.1) = ks ∧ DenL K G ds (ws.map (·.2))
  | .ins c fs ds, v => ∃ a dx ws, v = .ref a ∧ G a = some (.ins (ga K c) dx ws) ∧ ws.map (·.1) = fs ∧ DenL K G ds (ws.map (·.2))
  | .scr ns, v => ∃ a, v = .ref a ∧ SqL K G a (ns.map V.int)
def DenL (K : PySem.W.Frag) (G : Hp) : List Dt → List V → Prop
  | [], vs => vs = []
  | d :: ds, vs => ∃ v r, vs = v :: r ∧ Den K G d v ∧ DenL K G ds r
end

section
variable {K : PySem.W.Frag} {G G' H H' : Hp}
mutual
theorem Den.mono (s : Same G G') : ∀ {d : Dt} {v : V}, Den K G d v → Den K G' d v
  | .non, _, h => h
  | .bl _, _, h => h
  | .int _, _, h => h
  | .str _, _, h => h
  | .tup _, _, ⟨a, vs, e, g, h⟩ => ⟨a, vs, e, s _ _ g, DenL.mono s h⟩
  | .lst _, _, ⟨a, vs, e, g, h⟩ => ⟨a, vs, e, s _ _ g, DenL.mono s h⟩
  | .dT _ _, _, ⟨a, ws, e, g, k, h⟩ => ⟨a, ws, e, s _ _ g, k, DenL.mono s h⟩
  | .dK _ _, _, ⟨a, ws, e, g, k, h⟩ => ⟨a, ws, e, s _ _ g, k, DenL.mono s h⟩
  | .ins _ _ _, _, ⟨a, dx, ws, e, g, k, h⟩ => ⟨a, dx, ws, e, s _ _ g, k, DenL.mono s h⟩
  | .scr _, _, ⟨a, e, h⟩ => ⟨a, e, s.seq h⟩
theorem DenL.mono (s : Same G G') : ∀ {ds : List Dt} {vs : List V}, DenL K G ds vs → DenL K G' ds vs
  | [], _, h => h
  | _ :: _, _, ⟨v, r, e, h, t⟩ => ⟨v, r, e, Den.mono s h, DenL.mono s t⟩
end
theorem DenL.length : ∀ {ds : List Dt} {vs : List V}, DenL K G ds vs → vs.length = ds.length
  | [], _, h => by
    obtain rfl : _ = [] := h
    rfl
  | _ :: _, _, ⟨v, r, e, _, t⟩ => by rw [e, List.length_cons, List.length_cons, DenL.length t]
theorem DenL.get : ∀ {ds : List Dt} {vs : List V} {i : Nat} {d : Dt}, DenL K G ds vs → ds[i]? = some d → ∃ v, vs[i]? = some v ∧ Den K G d v
  | [], _, _, _, _, e => by simp at e
  | d :: ds, _, 0, _, ⟨v, r, rfl, h, _⟩, e => by
    simp at e; subst e; exact ⟨v, rfl, h⟩
  | d :: ds, _, i + 1, _, ⟨v, r, rfl, _, t⟩, e => by
    obtain ⟨w, h1, h2⟩ := DenL.get (i := i) t (by simpa using e)
    exact ⟨w, by simpa using h1, h2⟩
theorem DenL.getV {ds : List Dt} {vs : List V} {i : Nat} {v : V} (h : DenL K G ds vs) (e : vs[i]? = some v) : ∃ d, ds[i]? = some d ∧ Den K G d v := by
  have hl := h.length
  have hi : i < ds.length := by rw [← hl]; exact (List.getElem?_eq_some_iff.mp e).1
  obtain ⟨w, h1, h2⟩ := h.get (List.getElem?_eq_getElem hi)
  rw [e] at h1; cases h1
  exact ⟨_, List.getElem?_eq_getElem hi, h2⟩
theorem DenL.append : ∀ {ds es : List Dt} {vs ws : List V}, DenL K G ds vs → DenL K G es ws → DenL K G (ds ++ es) (vs ++ ws)
  | [], _, _, _, h, t => by
    obtain rfl : _ = [] := h
    exact t
  | _ :: _, _, _, _, ⟨v, r, rfl, h, t⟩, u => ⟨v, r ++ _, rfl, h, DenL.append t u⟩
theorem DenL.set : ∀ {ds : List Dt} {vs : List V} {i : Nat} {d : Dt} {v : V}, DenL K G ds vs → Den K G d v → DenL K G (ds.set i d) (vs.set i v)
  | [], _, _, _, _, h, _ => by
    obtain rfl : _ = [] := h
    exact rfl
  | _ :: _, _, 0, _, _, ⟨v, r, rfl, h, t⟩, u => ⟨_, r, rfl, u, t⟩
  | _ :: _, _, i + 1, _, _, ⟨v, r, rfl, h, t⟩, u => ⟨v, _, rfl, h, DenL.set (i := i) t u⟩
theorem DenL.take : ∀ {ds : List Dt} {vs : List V} (n : Nat), DenL K G ds vs → DenL K G (ds.take n) (vs.take n)
  | [], _, n, h => by
    obtain rfl : _ = [] := h
    simp; exact rfl
  | _ :: _, _, 0, _ => rfl
  | _ :: _, _, n + 1, ⟨v, r, rfl, h, t⟩ => ⟨v, r.take n, rfl, h, DenL.take n t⟩
theorem DenL.drop : ∀ {ds : List Dt} {vs : List V} (n : Nat), DenL K G ds vs → DenL K G (ds.drop n) (vs.drop n)
  | [], _, n, h => by
    obtain rfl : _ = [] := h
    simp; exact rfl
  | _ :: _, _, 0, h => h
  | _ :: _, _, n + 1, ⟨v, r, rfl, h, t⟩ => DenL.drop n t
theorem DenL.reverse : ∀ {ds : List Dt} {vs : List V}, DenL K G ds vs → DenL K G ds.reverse vs.reverse
  | [], _, h => by
    obtain rfl : _ = [] := h
    exact rfl
  | _ :: _, _, ⟨v, r, rfl, h, t⟩ => by
    rw [List.reverse_cons, List.reverse_cons]
    exact DenL.append (DenL.reverse t) ⟨v, [], rfl, h, rfl⟩
theorem DenL.eraseIdx : ∀ {ds : List Dt} {vs : List V} (n : Nat), DenL K G ds vs → DenL K G (ds.eraseIdx n) (vs.eraseIdx n)
  | [], _, n, h => by
    obtain rfl : _ = [] := h
    simp; exact rfl
  | _ :: _, _, 0, ⟨v, r, rfl, h, t⟩ => t
  | _ :: _, _, n + 1, ⟨v, r, rfl, h, t⟩ => ⟨v, r.eraseIdx n, rfl, h, DenL.eraseIdx n t⟩
theorem DenL.dropLast {ds : List Dt} {vs : List V} (h : DenL K G ds vs) : DenL K G ds.dropLast vs.dropLast := by
  rw [List.dropLast_eq_take, List.dropLast_eq_take, h.length]
  exact h.take _
theorem DenL.ints : ∀ {ns : List Int}, DenL K G (ns.map Dt.int) (ns.map V.int)
  | [] => rfl
  | n :: r => ⟨.int n, r.map V.int, rfl, rfl, DenL.ints⟩
theorem DenL.ints_of : ∀ {ns : List Int} {vs : List V}, DenL K G (ns.map Dt.int) vs → vs = ns.map V.int
  | [], _, h => h
  | _ :: _, _, ⟨v, r, e, h, t⟩ => by
    obtain rfl : v = _ := h
    rw [e, DenL.ints_of t]; rfl
end

/-- scalars -/
inductive Sc where
  | non | bl (b : Bool) | int (i : Int) | str (x : Str)
def Sc.d : Sc → Dt
  | .non => .non
  | .bl b => .bl b
  | .int i => .int i
  | .str x => .str x
def Sc.v : Sc → V
  | .non => .non
  | .bl b => .bl b
  | .int i => .int i
  | .str x => .str x
theorem Sc.den {K : PySem.W.Frag} {G : Hp} (s : Sc) : Den K G s.d s.v := by cases s <;> exact rfl

/-! ### owned trees -/
def LFp (P : Dt → V → List Addr → Prop) : List Dt → List V → List Addr → Prop
  | [], vs, r => vs = [] ∧ r = []
  | d :: ds, vs, r => ∃ v vs' r1 r2, vs = v :: vs' ∧ r = r1 ++ r2 ∧ P d v r1 ∧ LFp P ds vs' r2
/-- d, owned k levels deep (its own objects at fp), the rest settled in G -/
def Ow (K : PySem.W.Frag) (H G : Hp) : Nat → Dt → V → List Addr → Prop
  | 0 => fun d v fp => fp = [] ∧ Den K G d v
  | k + 1 => fun d v fp =>
    (∃ ds a vs r, d = .lst ds ∧ v = .ref a ∧ fp = a :: r ∧ H a = some (.lst vs) ∧ LFp (Ow K H G k) ds vs r) ∨
    (∃ ks ds a ws r, d = .dT ks ds ∧ v = .ref a ∧ fp = a :: r ∧ H a = some (.dT ws) ∧ ws.map (·.1) = ks ∧ LFp (Ow K H G k) ds (ws.map (·.2)) r) ∨
    (∃ ks ds a ws r, d = .dK ks ds ∧ v = .ref a ∧ fp = a :: r ∧ H a = some (.dK ws) ∧ ws.map (·.1) = ks ∧ LFp (Ow K H G k) ds (ws.map (·.2)) r) ∨
    (∃ c fs ds a dx ws r, d = .ins c fs ds ∧ v = .ref a ∧ fp = a :: r ∧ H a = some (.ins (ga K c) dx ws) ∧ ws.map (·.1) = fs ∧ LFp (Ow K H G k) ds (ws.map (·.2)) r)
theorem LFp.mono {P P' : Dt → V → List Addr → Prop} : ∀ {ds : List Dt} {vs : List V} {r : List Addr}, (∀ d v l, (∀ a ∈ l, a ∈ r) → P d v l → P' d v l) → LFp P ds vs r → LFp P' ds vs r
  | [], _, _, _, h => h
  | _ :: _, _, _, m, ⟨v, vs', r1, r2, e, e2, h, t⟩ => by
    subst e2
    exact ⟨v, vs', r1, r2, e, rfl, m _ _ _ (fun a ha => List.mem_append_left _ ha) h, LFp.mono (fun d v l hl => m d v l fun a ha => List.mem_append_right _ (hl a ha)) t⟩
section
variable {K : PySem.W.Frag} {G G' H H' : Hp}
theorem LFp.zero : ∀ {ds : List Dt} {vs : List V} {r : List Addr}, LFp (Ow K H G 0) ds vs r ↔ r = [] ∧ DenL K G ds vs
  | [], vs, r => ⟨fun ⟨a, b⟩ => ⟨b, a⟩, fun ⟨a, b⟩ => ⟨b, a⟩⟩
  | d :: ds, vs, r => by
    constructor
    · rintro ⟨v, vs', r1, r2, e, e2, ⟨e3, h⟩, t⟩
      obtain ⟨e4, t'⟩ := LFp.zero.mp t
      subst e3 e4
      exact ⟨by simpa using e2, v, vs', e, h, t'⟩
    · rintro ⟨e, v, vs', e1, h, t⟩
      exact ⟨v, vs', [], [], e1, by simpa using e, ⟨rfl, h⟩, LFp.zero.mpr ⟨rfl, t⟩⟩
theorem Ow.frame (s : Same G G') : ∀ {k : Nat} {d : Dt} {v : V} {fp : List Addr}, (∀ a ∈ fp, H' a = H a) → Ow K H G k d v fp → Ow K H' G' k d v fp
  | 0, d, v, fp, _, ⟨e, h⟩ => ⟨e, h.mono s⟩
  | k + 1, d, v, fp, hf, h => by
    have go : ∀ {ds : List Dt} {vs : List V} {a : Addr} {r : List Addr}, fp = a :: r → LFp (Ow K H G k) ds vs r → LFp (Ow K H' G' k) ds vs r := fun {ds vs a r} e t =>
      LFp.mono (fun d v l hl q => Ow.frame s (fun b hb => hf b (by rw [e]; exact List.mem_cons_of_mem _ (hl b hb))) q) t
    have at' : ∀ {a : Addr} {r : List Addr} {o : HO}, fp = a :: r → H a = some o → H' a = some o := fun {a r o} e q => by rw [hf a (by rw [e]; exact List.mem_cons_self)]; exact q
    rcases h with ⟨ds, a, vs, r, e1, e2, e3, e4, t⟩ | ⟨ks, ds, a, ws, r, e1, e2, e3, e4, e5, t⟩ | ⟨ks, ds, a, ws, r, e1, e2, e3, e4, e5, t⟩ | ⟨c, fs, ds, a, dx, ws, r, e1, e2, e3, e4, e5, t⟩
    · exact .inl ⟨ds, a, vs, r, e1, e2, e3, at' e3 e4, go e3 t⟩
    · exact .inr (.inl ⟨ks, ds, a, ws, r, e1, e2, e3, at' e3 e4, e5, go e3 t⟩)
    · exact .inr (.inr (.inl ⟨ks, ds, a, ws, r, e1, e2, e3, at' e3 e4, e5, go e3 t⟩))
    · exact .inr (.inr (.inr ⟨c, fs, ds, a, dx, ws, r, e1, e2, e3, at' e3 e4, e5, go e3 t⟩))
/-- a heap that holds G and all of fp bears it as settled -/
theorem Ow.den (s : Same G G') : ∀ {k : Nat} {d : Dt} {v : V} {fp : List Addr}, (∀ a ∈ fp, G' a = H a) → Ow K H G k d v fp → Den K G' d v
  | 0, d, v, fp, _, ⟨e, h⟩ => h.mono s
  | k + 1, d, v, fp, hf, h => by
    have go : ∀ {ds : List Dt} {vs : List V} {r : List Addr}, (∀ b ∈ r, G' b = H b) → LFp (Ow K H G k) ds vs r → DenL K G' ds vs := by
      intro ds
      induction ds with
      | nil => intro vs r _ ⟨e, _⟩; exact e
      | cons d ds ih =>
        rintro vs r hr ⟨v, vs', r1, r2, e, e2, q, t⟩
        subst e2
        exact ⟨v, vs', e, Ow.den s (fun b hb => hr b (List.mem_append_left _ hb)) q, ih (fun b hb => hr b (List.mem_append_right _ hb)) t⟩
    have at' : ∀ {a : Addr} {r : List Addr} {o : HO}, fp = a :: r → H a = some o → G' a = some o := fun {a r o} e q => by rw [hf a (by rw [e]; exact List.mem_cons_self)]; exact q
    have tl : ∀ {a : Addr} {r : List Addr}, fp = a :: r → ∀ b ∈ r, G' b = H b := fun e b hb => hf b (by rw [e]; exact List.mem_cons_of_mem _ hb)
    rcases h with ⟨ds, a, vs, r, e1, e2, e3, e4, t⟩ | ⟨ks, ds, a, ws, r, e1, e2, e3, e4, e5, t⟩ | ⟨ks, ds, a, ws, r, e1, e2, e3, e4, e5, t⟩ | ⟨c, fs, ds, a, dx, ws, r, e1, e2, e3, e4, e5, t⟩
    · subst e1; exact ⟨a, vs, e2, at' e3 e4, go (tl e3) t⟩
    · subst e1; exact ⟨a, ws, e2, at' e3 e4, e5, go (tl e3) t⟩
    · subst e1; exact ⟨a, ws, e2, at' e3 e4, e5, go (tl e3) t⟩
    · subst e1; exact ⟨a, dx, ws, e2, at' e3 e4, e5, go (tl e3) t⟩
end

/-! ### the invariant of a running def -/
def cnt (a : Addr) : List (List Addr) → Nat
  | [] => 0
  | l :: r => l.count a + cnt a r
theorem cnt_set (a : Addr) : ∀ {fps : List (List Addr)} {i : Nat} {l : List Addr} (fp : List Addr), fps[i]? = some l → cnt a (fps.set i fp) + l.count a = cnt a fps + fp.count a
  | [], _, _, _, e => by simp at e
  | x :: r, 0, l, fp, e => by
    simp at e; subst e
    show fp.count a + cnt a r + x.count a = x.count a + cnt a r + fp.count a
    omega
  | x :: r, i + 1, l, fp, e => by
    have ih := cnt_set a (fps := r) (i := i) (l := l) fp (by simpa using e)
    show x.count a + cnt a (r.set i fp) + l.count a = x.count a + cnt a r + fp.count a
    omega
theorem cnt_ge (a : Addr) : ∀ {fps : List (List Addr)} {i : Nat} {l : List Addr}, fps[i]? = some l → l.count a ≤ cnt a fps
  | [], _, _, e => by simp at e
  | x :: r, 0, l, e => by
    simp at e; subst e
    show x.count a ≤ x.count a + cnt a r
    omega
  | x :: r, i + 1, l, e => by
    have ih := cnt_ge a (fps := r) (i := i) (l := l) (by simpa using e)
    show l.count a ≤ x.count a + cnt a r
    omega
theorem cnt_two (a : Addr) : ∀ {fps : List (List Addr)} {i j : Nat} {l m : List Addr}, i ≠ j → fps[i]? = some l → fps[j]? = some m → l.count a + m.count a ≤ cnt a fps
  | [], _, _, _, _, _, e, _ => by simp at e
  | x :: r, 0, 0, _, _, h, _, _ => absurd rfl h
  | x :: r, 0, j + 1, l, m, _, e, f => by
    simp at e; subst e
    have := cnt_ge a (fps := r) (i := j) (l := m) (by simpa using f)
    show x.count a + m.count a ≤ x.count a + cnt a r
    omega
  | x :: r, i + 1, 0, l, m, _, e, f => by
    simp at f; subst f
    have := cnt_ge a (fps := r) (i := i) (l := l) (by simpa using e)
    show l.count a + x.count a ≤ x.count a + cnt a r
    omega
  | x :: r, i + 1, j + 1, l, m, h, e, f => by
    have := cnt_two a (fps := r) (i := i) (j := j) (l := l) (m := m) (fun z => h (by rw [z])) (by simpa using e) (by simpa using f)
    show l.count a + m.count a ≤ x.count a + cnt a r
    omega

/-- what is fixed through a def's run: the heap at the entry, what was settled then, the objects that it may change; slots that may not be stored to; what is known of an exception in hand -/
structure Act where
  H0 : Hp
  G0 : Hp
  fp0 : List Addr
  fix : List (Nat × V)
  xd : List (Addr × List Str × List Dt)
def SlR (K : PySem.W.Frag) (H G : Hp) : Sl → Option V → List Addr → Prop
  | .un, _, fp => fp = []
  | .vl k d, x, fp => ∃ v, x = some v ∧ Ow K H G k d v fp
structure RG (K : PySem.W.Frag) (A : Act) (G : Hp) (ε : Ev) (σ : L2.St) (H : Hp) (xs : List Addr) : Prop where
  sub : Same G H
  old : ∀ b o, A.H0 b = some o → b ∉ A.fp0 → H b = some o
  live : ∀ b, H b = none → A.H0 b = none
  new : ∀ b, G b ≠ none → A.G0 b ≠ none ∨ A.H0 b = none
  slots : ∃ fps : List (List Addr), fps.length = ε.length ∧ σ.length = ε.length ∧
    (∀ (i : Nat) (s : Sl), ε[i]? = some s → ∃ x l, σ[i]? = some x ∧ fps[i]? = some l ∧ SlR K H G s x l ∧ ((∃ v, (i, v) ∈ A.fix) ∨ ∀ a ∈ l, A.H0 a = none)) ∧
    (∀ a, cnt a fps + xs.count a ≤ 1) ∧ (∀ a, 0 < cnt a fps → G a = none ∧ H a ≠ none ∧ (a ∈ A.fp0 ∨ A.H0 a = none)) ∧ ∀ a ∈ xs, G a = none ∧ H a ≠ none ∧ A.H0 a = none
  fix : ∀ p ∈ A.fix, σ[p.1]? = some (some p.2)
  xd : ∀ p ∈ A.xd, ∃ ws : List (Str × V), G p.1 = some (.xd ws) ∧ ws.map (·.1) = p.2.1 ∧ DenL K G p.2.2 (ws.map (·.2))

section
variable {K : PySem.W.Frag} {A : Act} {G G' H H' : Hp} {ε : Ev} {σ : L2.St} {xs xs' : List Addr}
theorem cnt_mem (a : Addr) : ∀ {fps : List (List Addr)} {i : Nat} {l : List Addr}, fps[i]? = some l → a ∈ l → 0 < cnt a fps := fun {fps i l} e h => Nat.lt_of_lt_of_le (List.count_pos_iff.mpr h) (cnt_ge a e)
theorem SlR.frame (s : Same G G') : ∀ {sl : Sl} {x : Option V} {l : List Addr}, (∀ a ∈ l, H' a = H a) → SlR K H G sl x l → SlR K H' G' sl x l
  | .un, _, _, _, h => h
  | .vl _ _, _, _, hf, ⟨v, e, o⟩ => ⟨v, e, o.frame s hf⟩
/-- a step that changes nothing that a slot owns -/
theorem RG.step (R : RG K A G ε σ H xs) (ho : ∀ b o, H b = some o → xs.count b = 0 → H' b = some o) (hl : ∀ b ∈ xs, H' b ≠ none) (sg : Same G G') (gs : Same G' H')
    (hn : ∀ b, G' b ≠ none → G b ≠ none ∨ H b = none ∨ b ∈ xs) (hx1 : ∀ a, xs'.count a ≤ 1) (hx2 : ∀ a ∈ xs', G' a = none ∧ H' a ≠ none ∧ (a ∈ xs ∨ H a = none)) : RG K A G' ε σ H' xs' := by
  obtain ⟨fps, l1, l2, sl, c1, c2, c3⟩ := R.slots
  have lv : ∀ b, H' b = none → H b = none := fun b hb => by
    cases e : H b with
    | none => rfl
    | some o =>
      by_cases q : b ∈ xs
      · exact absurd hb (hl b q)
      · rw [ho b o e (List.count_eq_zero.mpr q)] at hb; cases hb
  have own : ∀ a, 0 < cnt a fps → xs.count a = 0 := fun a ha => by have := c1 a; omega
  have gn : ∀ a, 0 < cnt a fps → G' a = none := fun a ha => by
    cases e : G' a with
    | none => rfl
    | some o =>
      rcases hn a (by rw [e]; exact nofun) with q | q | q
      · exact absurd (c2 a ha).1 q
      · exact absurd q (c2 a ha).2.1
      · have := own a ha
        rw [List.count_eq_zero] at this
        exact absurd q this
  have hh : ∀ a, 0 < cnt a fps → H' a = H a := fun a ha => by
    cases e : H a with
    | none => exact absurd e (c2 a ha).2.1
    | some o => exact ho a o e (own a ha)
  refine ⟨gs, fun b o q nb => ho b o (R.old b o q nb) ?_, fun b hb => R.live b (lv b hb), fun b hb => ?_, ⟨fps, l1, l2, fun i s e => ?_, fun a => ?_, fun a ha => ⟨gn a ha, ?_, (c2 a ha).2.2⟩, fun a ha => ?_⟩, R.fix, fun p hp => ?_⟩
  · rw [List.count_eq_zero]
    intro hb
    rw [(c3 b hb).2.2] at q; cases q
  · rcases hn b hb with q | q | q
    · exact R.new b q
    · exact .inr (R.live b q)
    · exact .inr (c3 b q).2.2
  · obtain ⟨x, l, h1, h2, h3, h4⟩ := sl i s e
    exact ⟨x, l, h1, h2, h3.frame sg fun a ha => hh a (cnt_mem a h2 ha), h4⟩
  · by_cases q : a ∈ xs'
    · have z : cnt a fps = 0 := by
        rcases Nat.eq_zero_or_pos (cnt a fps) with z | z
        · exact z
        · rcases (hx2 a q).2.2 with y | y
          · have := own a z
            rw [List.count_eq_zero] at this
            exact absurd y this
          · exact absurd y (c2 a z).2.1
      have := hx1 a
      omega
    · have := c1 a
      have z : xs'.count a = 0 := List.count_eq_zero.mpr q
      omega
  · rw [hh a ha]; exact (c2 a ha).2.1
  · obtain ⟨h1, h2, h3⟩ := hx2 a ha
    refine ⟨h1, h2, ?_⟩
    rcases h3 with y | y
    · exact (c3 a y).2.2
    · exact R.live a y
  · obtain ⟨ws, h1, h2, h3⟩ := R.xd p hp
    exact ⟨ws, sg _ _ h1, h2, h3.mono sg⟩
theorem RG.xsn (R : RG K A G ε σ H xs) {a : Addr} (h : a ∈ xs) : G a = none ∧ H a ≠ none ∧ A.H0 a = none := by
  obtain ⟨fps, l1, l2, sl, c1, c2, c3⟩ := R.slots
  exact c3 a h
theorem RG.xs1 (R : RG K A G ε σ H xs) (a : Addr) : xs.count a ≤ 1 := by
  obtain ⟨fps, l1, l2, sl, c1, c2, c3⟩ := R.slots
  have := c1 a
  omega
theorem RG.xsf (R : RG K A G ε σ H xs) {p : Addr} (h : H p = none) : p ∉ xs := fun q => (R.xsn q).2.1 h
theorem RG.xne (R : RG K A G ε σ H xs) {p b : Addr} (h : H p = none) (hb : b ∈ xs) : b ≠ p := fun z => by subst z; exact R.xsf h hb
theorem RG.gf (R : RG K A G ε σ H xs) {p : Addr} (h : H p = none) : G p = none := R.sub.free h
/-- temps are forgotten -/
theorem RG.drop (R : RG K A G ε σ H (xs' ++ xs)) : RG K A G ε σ H xs :=
  R.step (fun b o h _ => h) (fun b hb => (R.xsn hb).2.1) (Same.refl G) R.sub (fun b h => .inl h) (fun a => by have := R.xs1 a; rw [List.count_append] at this; omega)
    fun a ha => ⟨(R.xsn (List.mem_append_right _ ha)).1, (R.xsn (List.mem_append_right _ ha)).2.1, .inl (List.mem_append_right _ ha)⟩
theorem RG.perm (R : RG K A G ε σ H xs) (h : ∀ a, xs'.count a = xs.count a) : RG K A G ε σ H xs' := by
  have m : ∀ a, a ∈ xs' → a ∈ xs := fun a ha => List.count_pos_iff.mp (by rw [← h a]; exact List.count_pos_iff.mpr ha)
  exact R.step (fun b o e _ => e) (fun b hb => (R.xsn hb).2.1) (Same.refl G) R.sub (fun b hb => .inl hb) (fun a => by rw [h a]; exact R.xs1 a) fun a ha => ⟨(R.xsn (m a ha)).1, (R.xsn (m a ha)).2.1, .inl (m a ha)⟩
theorem upd_keep {p : Addr} {o : HO} (h : H p = none) : Same H (upd H p o) := fun b u e => by rw [upd_ne (ne_of_none e h)]; exact e
theorem upd_sub {p : Addr} {o : HO} (s : Same G H) : Same (upd G p o) (upd H p o) := fun b u e => by
  by_cases q : b = p
  · subst q; rw [upd_same] at e ⊢; exact e
  · rw [upd_ne q] at e ⊢; exact s _ _ e
/-- a new settled object -/
theorem RG.new_settled (R : RG K A G ε σ H xs) {p : Addr} {o : HO} (h : H p = none) : RG K A (upd G p o) ε σ (upd H p o) xs :=
  R.step (fun b u e _ => upd_keep h b u e) (fun b hb => by rw [upd_ne (R.xne h hb)]; exact (R.xsn hb).2.1) (upd_keep (R.gf h)) (upd_sub R.sub)
    (fun b hb => by
      by_cases q : b = p
      · subst q; exact .inr (.inl h)
      · rw [upd_ne q] at hb; exact .inl hb)
    R.xs1 fun a ha => ⟨by rw [upd_ne (R.xne h ha)]; exact (R.xsn ha).1, by rw [upd_ne (R.xne h ha)]; exact (R.xsn ha).2.1, .inl ha⟩
/-- a new object of one's own -/
theorem RG.new_own (R : RG K A G ε σ H xs) {p : Addr} {o : HO} (h : H p = none) : RG K A G ε σ (upd H p o) (p :: xs) :=
  R.step (fun b u e _ => upd_keep h b u e) (fun b hb => by rw [upd_ne (R.xne h hb)]; exact (R.xsn hb).2.1) (Same.refl G) (R.sub.trans (upd_keep h)) (fun b hb => .inl hb)
    (fun a => by
      rw [List.count_cons]
      have := R.xs1 a
      by_cases q : p = a
      · subst q
        have z := List.count_eq_zero.mpr (R.xsf h)
        simp; omega
      · simp [q]; omega)
    fun a ha => by
      rcases List.mem_cons.mp ha with q | q
      · subst q; exact ⟨R.gf h, by rw [upd_same]; exact nofun, .inr h⟩
      · exact ⟨(R.xsn q).1, by rw [upd_ne (R.xne h q)]; exact (R.xsn q).2.1, .inl q⟩
/-- a temp of one's own is changed -/
theorem RG.mut_own (R : RG K A G ε σ H xs) {p : Addr} {o : HO} (hp : p ∈ xs) : RG K A G ε σ (upd H p o) xs :=
  R.step (fun b u e z => by rw [upd_ne (fun y => by subst y; exact absurd hp (List.count_eq_zero.mp z))]; exact e)
    (fun b hb => by
      by_cases q : b = p
      · subst q; rw [upd_same]; exact nofun
      · rw [upd_ne q]; exact (R.xsn hb).2.1) (Same.refl G)
    (fun b u e => by rw [upd_ne (fun y => by subst y; rw [(R.xsn hp).1] at e; cases e)]; exact R.sub _ _ e) (fun b hb => .inl hb) R.xs1
    fun a ha => ⟨(R.xsn ha).1, (by
      by_cases q : a = p
      · subst q; rw [upd_same]; exact nofun
      · rw [upd_ne q]; exact (R.xsn ha).2.1), .inl ha⟩
/-- the heap G with what H has at fp -/
def addF (G H : Hp) (fp : List Addr) : Hp := fun b => if b ∈ fp then H b else G b
theorem addF_in {fp : List Addr} {a : Addr} (h : a ∈ fp) : addF G H fp a = H a := if_pos h
theorem addF_out {fp : List Addr} {a : Addr} (h : a ∉ fp) : addF G H fp a = G a := if_neg h
/-- temps are settled -/
theorem RG.settle {fp : List Addr} (R : RG K A G ε σ H (fp ++ xs)) : RG K A (addF G H fp) ε σ H xs ∧ Same G (addF G H fp) := by
  have sm : Same G (addF G H fp) := fun b o e => by
    rw [addF_out (fun z => by rw [(R.xsn (List.mem_append_left _ z)).1] at e; cases e)]; exact e
  refine ⟨R.step (fun b o h _ => h) (fun b hb => (R.xsn hb).2.1) sm (fun b o e => ?_) (fun b hb => ?_) (fun a => by have := R.xs1 a; rw [List.count_append] at this; omega) fun a ha => ⟨?_, (R.xsn (List.mem_append_right _ ha)).2.1, .inl (List.mem_append_right _ ha)⟩, sm⟩
  · by_cases q : b ∈ fp
    · rw [addF_in q] at e; exact e
    · rw [addF_out q] at e; exact R.sub _ _ e
  · by_cases q : b ∈ fp
    · exact .inr (.inr (List.mem_append_left _ q))
    · rw [addF_out q] at hb; exact .inl hb
  · have z : a ∉ fp := fun q => by
      have := R.xs1 a
      rw [List.count_append] at this
      have h1 := List.count_pos_iff.mpr q
      have h2 := List.count_pos_iff.mpr ha
      omega
    rw [addF_out z]; exact (R.xsn (List.mem_append_right _ ha)).1
/-- a value is stored in a slot -/
theorem RG.store {i k : Nat} {d : Dt} {v : V} {fp : List Addr} (R : RG K A G ε σ H (fp ++ xs)) (hf : ∀ w, (i, w) ∉ A.fix) (h : Ow K H G k d v fp) : RG K A G (ε.set i (.vl k d)) (σ.set i (some v)) H xs := by
  by_cases hi : i < ε.length
  · have R0 := R
    obtain ⟨fps, l1, l2, sl, c1, c2, c3⟩ := R.slots
    have hl : fps[i]? = some (fps[i]'(by omega)) := List.getElem?_eq_getElem (by omega)
    refine ⟨R.sub, R.old, R.live, R.new, ⟨fps.set i fp, by simp [l1], by simp [l2], fun j s e => ?_, fun a => ?_, fun a ha => ?_, fun a ha => c3 a (List.mem_append_right _ ha)⟩, fun p hp => ?_, R.xd⟩
    · by_cases q : i = j
      · subst q
        rw [List.getElem?_set_self hi] at e
        cases e
        exact ⟨some v, fp, List.getElem?_set_self (by omega), List.getElem?_set_self (by omega), ⟨v, rfl, h⟩, .inr fun a ha => (c3 a (List.mem_append_left _ ha)).2.2⟩
      · rw [List.getElem?_set_ne q] at e
        obtain ⟨x, l, h1, h2, h3, h4⟩ := sl j s e
        exact ⟨x, l, by rw [List.getElem?_set_ne q]; exact h1, by rw [List.getElem?_set_ne q]; exact h2, h3, h4⟩
    · have h1 := cnt_set a fp hl
      have h2 := c1 a
      rw [List.count_append] at h2
      omega
    · have h1 := cnt_set a fp hl
      rcases Nat.eq_zero_or_pos (cnt a fps) with z | z
      · have : 0 < fp.count a := by omega
        have m := c3 a (List.mem_append_left _ (List.count_pos_iff.mp this))
        exact ⟨m.1, m.2.1, .inr m.2.2⟩
      · exact c2 a z
    · have hne : i ≠ p.1 := fun z => hf p.2 (by rw [z]; exact hp)
      rw [List.getElem?_set_ne hne]
      exact R.fix p hp
  · have e1 : ε.set i (.vl k d) = ε := List.set_eq_of_length_le (by omega)
    have e2 : σ.set i (some v) = σ := by
      obtain ⟨fps, l1, l2, _⟩ := R.slots
      exact List.set_eq_of_length_le (by omega)
    rw [e1, e2]
    exact R.drop
/-- a slot is forgotten -/
theorem RG.unset {i : Nat} (R : RG K A G ε σ H xs) : RG K A G (ε.set i .un) σ H xs := by
  by_cases hi : i < ε.length
  · obtain ⟨fps, l1, l2, sl, c1, c2, c3⟩ := R.slots
    have hl : fps[i]? = some (fps[i]'(by omega)) := List.getElem?_eq_getElem (by omega)
    refine ⟨R.sub, R.old, R.live, R.new, ⟨fps.set i [], by simp [l1], by simp [l2], fun j s e => ?_, fun a => ?_, fun a ha => ?_, c3⟩, R.fix, R.xd⟩
    · by_cases q : i = j
      · subst q
        rw [List.getElem?_set_self hi] at e
        cases e
        exact ⟨σ[i]'(by omega), [], List.getElem?_eq_getElem (by omega), List.getElem?_set_self (by omega), rfl, .inr fun a ha => nomatch ha⟩
      · rw [List.getElem?_set_ne q] at e
        obtain ⟨x, l, h1, h2, h3, h4⟩ := sl j s e
        exact ⟨x, l, h1, by rw [List.getElem?_set_ne q]; exact h2, h3, h4⟩
    · have h1 := cnt_set a [] hl
      have h2 := c1 a
      simp at h1
      omega
    · have h1 := cnt_set a [] hl
      simp at h1
      exact c2 a (by omega)
  · rw [List.set_eq_of_length_le (by omega)]
    exact R
/-- what a slot holds -/
theorem RG.at_ (R : RG K A G ε σ H xs) {i k : Nat} {d : Dt} (e : ε[i]? = some (.vl k d)) : ∃ v l, σ[i]? = some (some v) ∧ Ow K H G k d v l ∧ (∀ a ∈ l, G a = none ∧ H a ≠ none) := by
  obtain ⟨fps, l1, l2, sl, c1, c2, c3⟩ := R.slots
  obtain ⟨x, l, h1, h2, ⟨v, rfl, o⟩, h4⟩ := sl i _ e
  exact ⟨v, l, h1, o, fun a ha => ⟨(c2 a (cnt_mem a h2 ha)).1, (c2 a (cnt_mem a h2 ha)).2.1⟩⟩
/-- the object that a slot owns at its top is changed -/
theorem RG.mutSlot (R : RG K A G ε σ H xs) {i k k' : Nat} {d d' : Dt} {H' : Hp} (e : ε[i]? = some (.vl k d))
    (h : ∀ v l, Ow K H G k d v l → ∃ l', (∀ a, l'.count a ≤ l.count a + xs.count a) ∧ Ow K H' G k' d' v l')
    (ch : ∀ v l, σ[i]? = some (some v) → Ow K H G k d v l → ∀ b, b ∉ l → H' b = H b ∨ (H b = none)) (lv : ∀ b, H b ≠ none → H' b ≠ none) (hx : xs = []) : RG K A G (ε.set i (.vl k' d')) σ H' xs := by
  subst hx
  obtain ⟨fps, l1, l2, sl, c1, c2, c3⟩ := R.slots
  obtain ⟨x, l, h1, h2, ⟨v, rfl, o⟩, h4⟩ := sl i _ e
  obtain ⟨l', q1, q2⟩ := h v l o
  have q1' : ∀ a, l'.count a ≤ l.count a := fun a => by simpa using q1 a
  have hi : i < ε.length := (List.getElem?_eq_some_iff.mp e).1
  have c := ch v l h1 o
  have keep : ∀ b u, H b = some u → b ∉ l → H' b = some u := fun b u hb nb => by
    rcases c b nb with z | z
    · rw [z]; exact hb
    · rw [hb] at z; cases z
  refine ⟨fun b u hb => keep b u (R.sub _ _ hb) fun z => ?_, fun b u hb nb => keep b u (R.old b u hb nb) fun z => ?_, fun b hb => ?_, R.new, ⟨fps.set i l', by simp [l1], by simp [l2], fun j s ej => ?_, fun a => ?_, fun a ha => ?_, fun a ha => nomatch ha⟩, R.fix, R.xd⟩
  · rw [(c2 b (cnt_mem b h2 z)).1] at hb; cases hb
  · rcases (c2 b (cnt_mem b h2 z)).2.2 with y | y
    · exact nb y
    · rw [hb] at y; cases y
  · cases e2 : H b with
    | none => exact R.live b e2
    | some u => exact absurd hb (lv b (by rw [e2]; exact nofun))
  · by_cases q : i = j
    · subst q
      rw [List.getElem?_set_self hi] at ej
      cases ej
      refine ⟨some v, l', h1, List.getElem?_set_self (by omega), ⟨v, rfl, q2⟩, ?_⟩
      rcases h4 with y | y
      · exact .inl y
      · exact .inr fun a ha => y a (List.count_pos_iff.mp (by have := List.count_pos_iff.mpr ha; have := q1' a; omega))
    · rw [List.getElem?_set_ne q] at ej
      obtain ⟨x, m, p1, p2, p3, p4⟩ := sl j s ej
      refine ⟨x, m, p1, by rw [List.getElem?_set_ne q]; exact p2, p3.frame (Same.refl G) fun a ha => ?_, p4⟩
      have nz : a ∉ l := fun z => by
        have := cnt_two a q h2 p2
        have := c1 a
        have := List.count_pos_iff.mpr z
        have := List.count_pos_iff.mpr ha
        omega
      rcases c a nz with z | z
      · exact z
      · exact absurd z (c2 a (cnt_mem a p2 ha)).2.1
  · have p1 := cnt_set a l' h2
    have p2 := q1' a
    have p3 := c1 a
    simp at p3 ⊢
    omega
  · have p1 := cnt_set a l' h2
    have p2 := q1' a
    have z : 0 < cnt a fps := by have := cnt_ge a h2; omega
    refine ⟨(c2 a z).1, lv a (c2 a z).2.1, (c2 a z).2.2⟩
end
end Mir

set_option Elab.async false
set_option linter.all false
set_option maxRecDepth 100000
set_option maxHeartbeats 400000
/-! Judgements: a piece of Python and the function of names' values that it reckons. -/
namespace Mir
open PySem PySem.Spec PyProof.Rows L2 He

/-- the top object read in H, all within it settled in G -/
def Sh (K : PySem.W.Frag) (H G : Hp) : Dt → V → Prop
  | .lst ds, v => ∃ a vs, v = .ref a ∧ H a = some (.lst vs) ∧ DenL K G ds vs
  | .dT ks ds, v => ∃ a ws, v = .ref a ∧ H a = some (.dT ws) ∧ ws.map (·.1) = ks ∧ DenL K G ds (ws.map (·.2))
  | .dK ks ds, v => ∃ a ws, v = .ref a ∧ H a = some (.dK ws) ∧ ws.map (·.1) = ks ∧ DenL K G ds (ws.map (·.2))
  | .ins c fs ds, v => ∃ a dx ws, v = .ref a ∧ H a = some (.ins (ga K c) dx ws) ∧ ws.map (·.1) = fs ∧ DenL K G ds (ws.map (·.2))
  | d, v => Den K G d v
section
variable {K : PySem.W.Frag} {G G' H H' : Hp} {d : Dt} {v : V} {l : List Addr}
theorem Sh.den (s : Same G H) (h : Sh K H G d v) : Den K H d v := by
  cases d with
  | lst ds => obtain ⟨a, vs, e, g, t⟩ := h; exact ⟨a, vs, e, g, t.mono s⟩
  | dT ks ds => obtain ⟨a, vs, e, g, k, t⟩ := h; exact ⟨a, vs, e, g, k, t.mono s⟩
  | dK ks ds => obtain ⟨a, vs, e, g, k, t⟩ := h; exact ⟨a, vs, e, g, k, t.mono s⟩
  | ins c fs ds => obtain ⟨a, dx, ws, e, g, k, t⟩ := h; exact ⟨a, dx, ws, e, g, k, t.mono s⟩
  | _ => exact Den.mono s h
theorem Sh.of (s : Same G H) (h : Den K G d v) : Sh K H G d v := by
  cases d with
  | lst ds => obtain ⟨a, vs, e, g, t⟩ := h; exact ⟨a, vs, e, s _ _ g, t⟩
  | dT ks ds => obtain ⟨a, vs, e, g, k, t⟩ := h; exact ⟨a, vs, e, s _ _ g, k, t⟩
  | dK ks ds => obtain ⟨a, vs, e, g, k, t⟩ := h; exact ⟨a, vs, e, s _ _ g, k, t⟩
  | ins c fs ds => obtain ⟨a, dx, ws, e, g, k, t⟩ := h; exact ⟨a, dx, ws, e, s _ _ g, k, t⟩
  | _ => exact h
theorem Sh.of1 (h : Ow K H G 1 d v l) : Sh K H G d v := by
  rcases h with ⟨ds, a, vs, r, e1, e2, e3, e4, t⟩ | ⟨ks, ds, a, ws, r, e1, e2, e3, e4, e5, t⟩ | ⟨ks, ds, a, ws, r, e1, e2, e3, e4, e5, t⟩ | ⟨c, fs, ds, a, dx, ws, r, e1, e2, e3, e4, e5, t⟩
  · subst e1; exact ⟨a, vs, e2, e4, (LFp.zero.mp t).2⟩
  · subst e1; exact ⟨a, ws, e2, e4, e5, (LFp.zero.mp t).2⟩
  · subst e1; exact ⟨a, ws, e2, e4, e5, (LFp.zero.mp t).2⟩
  · subst e1; exact ⟨a, dx, ws, e2, e4, e5, (LFp.zero.mp t).2⟩
theorem Sh.mono (sg : Same G G') (sh : Same H H') (h : Sh K H G d v) : Sh K H' G' d v := by
  cases d with
  | lst ds => obtain ⟨a, vs, e, g, t⟩ := h; exact ⟨a, vs, e, sh _ _ g, t.mono sg⟩
  | dT ks ds => obtain ⟨a, vs, e, g, k, t⟩ := h; exact ⟨a, vs, e, sh _ _ g, k, t.mono sg⟩
  | dK ks ds => obtain ⟨a, vs, e, g, k, t⟩ := h; exact ⟨a, vs, e, sh _ _ g, k, t.mono sg⟩
  | ins c fs ds => obtain ⟨a, dx, ws, e, g, k, t⟩ := h; exact ⟨a, dx, ws, e, sh _ _ g, k, t.mono sg⟩
  | _ => exact Den.mono sg h
end

/-- how a value is had: shallowly borrowed, deeply borrowed, owned k deep (0: settled) -/
inductive Md where
  | b | bd | o (k : Nat)
def Res (K : PySem.W.Frag) (m : Md) (H G : Hp) (d : Dt) (v : V) (fp : List Addr) : Prop := match m with
  | .b => fp = [] ∧ Sh K H G d v
  | .bd => fp = [] ∧ Den K H d v
  | .o k => Ow K H G k d v fp
def XcR (K : PySem.W.Frag) (G : Hp) (x : Xc) (cls : Value) (dd : Option Addr) : Prop :=
  cls = .ref (ga K x.c) ∧ ((x.fs = [] ∧ x.ds = [] ∧ dd = none) ∨ ∃ a ws, dd = some a ∧ G a = some (.xd ws) ∧ ws.map (·.1) = x.fs ∧ DenL K G x.ds (ws.map (·.2)))
/-- what surrounds: where an error goes, which slots may not be stored to -/
structure Cn where
  W : WX
  np : List Nat
  P : Act → Prop
def Act.in_ (A : Act) (C : Cn) : Prop := (∀ p ∈ A.fix, p.1 ∈ C.np) ∧ C.P A
theorem Act.in_.no {A : Act} {C : Cn} (h : A.in_ C) {i : Nat} (hi : i ∉ C.np) : ∀ w, (i, w) ∉ A.fix := fun w z => hi (h.1 _ z)
def ErP (K : PySem.W.Frag) (C : Cn) (A : Act) (G : Hp) (σ : L2.St) (x : Xc) (ε : Ev) : Prop := ∀ cls dd H' G', RG K A G' ε σ H' [] → Same G G' → XcR K G' x cls dd → C.W cls dd σ H'
def EPost (K : PySem.W.Frag) (C : Cn) (A : Act) (m : Md) (p : Bool) (G H : Hp) (σ : L2.St) (xs : List Addr) (r : Rs Dt) (Q : VK) : Prop := match r with
  | .ok d ε => ∀ v H' G' fp, RG K A G' ε σ H' (fp ++ xs) → Res K m H' G' d v fp → Same G G' → (∀ a ∈ xs, H' a = H a) → (p = true → Same H H') → Q v H'
  | .er x ε => ErP K C A G σ x ε
  | .no => False
def TSat (K : PySem.W.Frag) (C : Cn) (m : Md) (p : Bool) (t : TE) (f : Ev → Rs Dt) : Prop :=
  ∀ (A : Act) (G : Hp) (ε : Ev) (σ : L2.St) (H : Hp) (xs : List Addr) (Q : VK), A.in_ C → RG K A G ε σ H xs → EPost K C A m p G H σ xs (f ε) Q → t σ H Q
/-- an expression -/
def DE (X : Cx) (C : Cn) (m : Md) (p : Bool) (e : Expr) (f : Ev → Rs Dt) : Prop := ∃ t, PE X e t ∧ TSat X.K C m p t f
/-- a test -/
def BPost (K : PySem.W.Frag) (C : Cn) (A : Act) (p : Bool) (G H : Hp) (σ : L2.St) (xs : List Addr) (r : Rs Bool) (Q : Bool → Hp → Prop) : Prop := match r with
  | .ok b ε => ∀ H' G', RG K A G' ε σ H' xs → Same G G' → (∀ a ∈ xs, H' a = H a) → (p = true → Same H H') → Q b H'
  | .er x ε => ErP K C A G σ x ε
  | .no => False
def TTSat (K : PySem.W.Frag) (C : Cn) (p : Bool) (t : TT) (f : Ev → Rs Bool) : Prop :=
  ∀ (A : Act) (G : Hp) (ε : Ev) (σ : L2.St) (H : Hp) (xs : List Addr) (Q : Bool → Hp → Prop), A.in_ C → RG K A G ε σ H xs → BPost K C A p G H σ xs (f ε) Q → t σ H Q
def DT (X : Cx) (C : Cn) (p : Bool) (e : Expr) (f : Ev → Rs Bool) : Prop := ∃ t, PT X e t ∧ TTSat X.K C p t f
/-- .. within and, or -/
def DW (X : Cx) (C : Cn) (p : Bool) (e : Expr) (f : Ev → Rs Bool) : Prop := ∃ t, PW X e t ∧ TTSat X.K C p t f
/-- written arguments, all settled -/
def APost (K : PySem.W.Frag) (C : Cn) (A : Act) (p : Bool) (G H : Hp) (σ : L2.St) (xs : List Addr) (r : Rs (List Dt)) (Q : List V → Hp → Prop) : Prop := match r with
  | .ok ds ε => ∀ vs H' G', RG K A G' ε σ H' xs → DenL K G' ds vs → Same G G' → (∀ a ∈ xs, H' a = H a) → (p = true → Same H H') → Q vs H'
  | .er x ε => ErP K C A G σ x ε
  | .no => False
def TASat (K : PySem.W.Frag) (C : Cn) (p : Bool) (t : TA) (f : Ev → Rs (List Dt)) : Prop :=
  ∀ (A : Act) (G : Hp) (ε : Ev) (σ : L2.St) (H : Hp) (xs : List Addr) (Q : List V → Hp → Prop), A.in_ C → RG K A G ε σ H xs → APost K C A p G H σ xs (f ε) Q → t σ H Q
def DA (X : Cx) (C : Cn) (p : Bool) (es : List Expr) (f : Ev → Rs (List Dt)) : Prop := ∃ t, PA X es t ∧ TASat X.K C p t f
/-- what is done: go on, give back (k deep owned), leave a loop, its next turn -/
inductive So where
  | nx (ε : Ev) | rt (d : Dt) (ε : Ev) | bk (ε : Ev) | ct (ε : Ev) | er (x : Xc) (ε : Ev) | no
def SPost (K : PySem.W.Frag) (C : Cn) (A : Act) (k : Nat) (G : Hp) (σ : L2.St) (r : So) (D : Ends) : Prop := match r with
  | .nx ε => ∀ σ' H' G', RG K A G' ε σ' H' [] → Same G G' → D.nx σ' H'
  | .rt d ε => ∀ σ' v H' G' fp, RG K A G' ε σ' H' fp → Ow K H' G' k d v fp → Same G G' → D.rt v H'
  | .bk ε => ∀ σ' H' G', RG K A G' ε σ' H' [] → Same G G' → D.bk σ' H'
  | .ct ε => ∀ σ' H' G', RG K A G' ε σ' H' [] → Same G G' → D.ct σ' H'
  | .er x ε => ∀ σ' cls dd H' G', RG K A G' ε σ' H' [] → Same G G' → XcR K G' x cls dd → C.W cls dd σ' H'
  | .no => False
def TSSat (K : PySem.W.Frag) (C : Cn) (k : Nat) (t : TS) (g : Ev → So) : Prop :=
  ∀ (A : Act) (G : Hp) (ε : Ev) (σ : L2.St) (H : Hp) (D : Ends), A.in_ C → RG K A G ε σ H [] → SPost K C A k G σ (g ε) D → t D σ H
def DS (X : Cx) (C : Cn) (k : Nat) (st : Stmt) (g : Ev → So) : Prop := ∃ t, PS X st t ∧ TSSat X.K C k t g
def DB (X : Cx) (C : Cn) (k : Nat) (sts : List Stmt) (g : Ev → So) : Prop := ∃ t, PSs X sts t ∧ TSSat X.K C k t g
/-- a target -/
def GPost (K : PySem.W.Frag) (A : Act) (gp : Bool) (tv : List Nat) (G H : Hp) (σ : L2.St) (xs : List Addr) (r : Rs Unit) (Q : L2.St → Hp → Prop) : Prop := match r with
  | .ok _ ε' => ∀ σ' H' G', RG K A G' ε' σ' H' xs → Same G G' → (∀ a ∈ xs, H' a = H a) → (σ'.length = σ.length ∧ ∀ j, j ∉ tv → σ'[j]? = σ[j]?) → (gp = true → Same H H') → Q σ' H'
  | _ => False
def TGSat (K : PySem.W.Frag) (C : Cn) (gp : Bool) (k : Nat) (tv : List Nat) (t : TG) (g : Dt → Ev → Rs Unit) : Prop :=
  ∀ (A : Act) (G : Hp) (ε : Ev) (σ : L2.St) (H : Hp) (xs fp : List Addr) (d : Dt) (v : V) (Q : L2.St → Hp → Prop), A.in_ C → RG K A G ε σ H (fp ++ xs) → Ow K H G k d v fp →
    GPost K A gp tv G H σ xs (g d ε) Q → t v σ H Q
def DG (X : Cx) (C : Cn) (gp : Bool) (k : Nat) (tv : List Nat) (e : Expr) (g : Dt → Ev → Rs Unit) : Prop := ∃ t, PG X e t ∧ TGSat X.K C gp k tv t g

section
variable {K : PySem.W.Frag} {C : Cn} {A : Act} {m : Md} {p : Bool} {G G1 H H1 : Hp} {σ : L2.St} {xs xs1 : List Addr} {Q : VK}
theorem ErP.mono {x : Xc} {ε : Ev} (s : Same G G1) (h : ErP K C A G σ x ε) : ErP K C A G1 σ x ε := fun cls dd H' G' R s' r => h cls dd H' G' R (s.trans s') r
/-- where something ran ahead -/
theorem EPost.ahead {r : Rs Dt} {p1 p2 : Bool} (hp : p = true → p1 = true ∧ p2 = true) (s : Same G G1) (hx : ∀ a ∈ xs, H1 a = H a) (hh : p1 = true → Same H H1) (h : EPost K C A m p G H σ xs r Q) :
    EPost K C A m p2 G1 H1 σ xs r Q := by
  cases r with
  | no => exact h
  | er x ε => exact ErP.mono s h
  | ok d ε => exact fun v H' G' fp R q s' hx' hh' => h v H' G' fp R q (s.trans s') (fun a ha => (hx' a ha).trans (hx a ha)) fun z => (hh (hp z).1).trans (hh' (hp z).2)
theorem BPost.ahead {r : Rs Bool} {Q : Bool → Hp → Prop} {p1 p2 : Bool} (hp : p = true → p1 = true ∧ p2 = true) (s : Same G G1) (hx : ∀ a ∈ xs, H1 a = H a) (hh : p1 = true → Same H H1) (h : BPost K C A p G H σ xs r Q) :
    BPost K C A p2 G1 H1 σ xs r Q := by
  cases r with
  | no => exact h
  | er x ε => exact ErP.mono s h
  | ok d ε => exact fun H' G' R s' hx' hh' => h H' G' R (s.trans s') (fun a ha => (hx' a ha).trans (hx a ha)) fun z => (hh (hp z).1).trans (hh' (hp z).2)
theorem APost.ahead {r : Rs (List Dt)} {Q : List V → Hp → Prop} {p1 p2 : Bool} (hp : p = true → p1 = true ∧ p2 = true) (s : Same G G1) (hx : ∀ a ∈ xs, H1 a = H a) (hh : p1 = true → Same H H1) (h : APost K C A p G H σ xs r Q) :
    APost K C A p2 G1 H1 σ xs r Q := by
  cases r with
  | no => exact h
  | er x ε => exact ErP.mono s h
  | ok d ε => exact fun vs H' G' R q s' hx' hh' => h vs H' G' R q (s.trans s') (fun a ha => (hx' a ha).trans (hx a ha)) fun z => (hh (hp z).1).trans (hh' (hp z).2)
theorem SPost.ahead {k : Nat} {r : So} {D : Ends} (s : Same G G1) {σ1 : L2.St} (h : SPost K C A k G σ r D) : SPost K C A k G1 σ1 r D := by
  cases r with
  | no => exact h
  | er x ε => exact fun σ' cls dd H' G' R s' r => h σ' cls dd H' G' R (s.trans s') r
  | nx ε => exact fun σ' H' G' R s' => h σ' H' G' R (s.trans s')
  | bk ε => exact fun σ' H' G' R s' => h σ' H' G' R (s.trans s')
  | ct ε => exact fun σ' H' G' R s' => h σ' H' G' R (s.trans s')
  | rt d ε => exact fun σ' v H' G' fp R o s' => h σ' v H' G' fp R o (s.trans s')
theorem SPost.err {k : Nat} {x : Xc} {ε : Ev} {D : Ends} (h : SPost K C A k G σ (.er x ε) D) : ErP K C A G σ x ε := fun cls dd H' G' R s r => h σ cls dd H' G' R s r
theorem xs_tail {fp xs : List Addr} {H1 H : Hp} (h : ∀ a ∈ fp ++ xs, H1 a = H a) : ∀ a ∈ xs, H1 a = H a := fun a ha => h a (List.mem_append_right _ ha)
end

/-! ### names and constants -/
def mVar (i : Nat) : Ev → Rs Dt := fun ε => match ε[i]? with
  | some (.vl 0 d) => .ok d ε
  | _ => .no
def mVarB (i : Nat) : Ev → Rs Dt := fun ε => match ε[i]? with
  | some (.vl 0 d) => .ok d ε
  | some (.vl 1 d) => .ok d ε
  | _ => .no
def mVarD (i : Nat) : Ev → Rs Dt := fun ε => match ε[i]? with
  | some (.vl _ d) => .ok d ε
  | _ => .no
/-- the value is settled from now on -/
def mFrz (i : Nat) : Ev → Rs Dt := fun ε => match ε[i]? with
  | some (.vl _ d) => .ok d (ε.set i (.vl 0 d))
  | _ => .no
/-- the value leaves its name -/
def mMov (i k : Nat) : Ev → Rs Dt := fun ε => match ε[i]? with
  | some (.vl j d) => if j = k then .ok d (ε.set i .un) else .no
  | _ => .no
def mSc (s : Sc) : Ev → Rs Dt := fun ε => .ok s.d ε
section
variable {X : Cx} {C : Cn} {i k : Nat} {x : Str} {pos : Pos} {e : Expr}
theorem ow0 {K : PySem.W.Frag} {H G : Hp} {d : Dt} {v : V} (h : Den K G d v) : Ow K H G 0 d v [] := ⟨rfl, h⟩
theorem tsat_var {K : PySem.W.Frag} : TSat K C (.o 0) true (tVar i) (mVar i) := fun A G ε σ H xs Q hA R h => by
  unfold mVar at h
  split at h
  · rename_i d e
    obtain ⟨v, l, h1, h2, _⟩ := R.at_ e
    obtain ⟨rfl, h3⟩ := h2
    exact ⟨v, h1, h v H G [] R ⟨rfl, h3⟩ (Same.refl G) (fun _ _ => rfl) fun _ => Same.refl H⟩
  · exact h.elim
theorem tsat_varB {K : PySem.W.Frag} : TSat K C .b true (tVar i) (mVarB i) := fun A G ε σ H xs Q hA R h => by
  unfold mVarB at h
  split at h
  · rename_i d e
    obtain ⟨v, l, h1, h2, _⟩ := R.at_ e
    exact ⟨v, h1, h v H G [] R ⟨rfl, Sh.of R.sub h2.2⟩ (Same.refl G) (fun _ _ => rfl) fun _ => Same.refl H⟩
  · rename_i d e
    obtain ⟨v, l, h1, h2, _⟩ := R.at_ e
    exact ⟨v, h1, h v H G [] R ⟨rfl, Sh.of1 h2⟩ (Same.refl G) (fun _ _ => rfl) fun _ => Same.refl H⟩
  · exact h.elim
theorem tsat_varD {K : PySem.W.Frag} : TSat K C .bd true (tVar i) (mVarD i) := fun A G ε σ H xs Q hA R h => by
  unfold mVarD at h
  split at h
  · rename_i d e
    obtain ⟨v, l, h1, h2, _⟩ := R.at_ e
    exact ⟨v, h1, h v H G [] R ⟨rfl, h2.den R.sub fun _ _ => rfl⟩ (Same.refl G) (fun _ _ => rfl) fun _ => Same.refl H⟩
  · exact h.elim
theorem de_var (h : PE X (.Name x pos) (tVar i)) : DE X C (.o 0) true (.Name x pos) (mVar i) := ⟨_, h, tsat_var⟩
theorem de_varB (h : PE X (.Name x pos) (tVar i)) : DE X C .b true (.Name x pos) (mVarB i) := ⟨_, h, tsat_varB⟩
theorem de_varD (h : PE X (.Name x pos) (tVar i)) : DE X C .bd true (.Name x pos) (mVarD i) := ⟨_, h, tsat_varD⟩
/-- a slot's value leaves it and is a temp -/
theorem RG.take {K : PySem.W.Frag} {A : Act} {G H : Hp} {ε : Ev} {σ : L2.St} {xs : List Addr} {d : Dt} (R : RG K A G ε σ H xs) (hf : ∀ w, (i, w) ∉ A.fix) (e : ε[i]? = some (.vl k d)) :
    ∃ v l, σ[i]? = some (some v) ∧ Ow K H G k d v l ∧ RG K A G (ε.set i .un) σ H (l ++ xs) := by
  obtain ⟨fps, l1, l2, sl, c1, c2, c3⟩ := R.slots
  obtain ⟨x, l, h1, h2, ⟨v, rfl, o⟩, h4⟩ := sl i _ e
  have hi : i < ε.length := (List.getElem?_eq_some_iff.mp e).1
  refine ⟨v, l, h1, o, R.sub, R.old, R.live, R.new, ⟨fps.set i [], by simp [l1], by simp [l2], fun j s ej => ?_, fun a => ?_, fun a ha => ?_, fun a ha => ?_⟩, R.fix, R.xd⟩
  · by_cases q : i = j
    · subst q
      rw [List.getElem?_set_self hi] at ej
      cases ej
      exact ⟨_, [], h1, List.getElem?_set_self (by omega), rfl, .inr fun a ha => nomatch ha⟩
    · rw [List.getElem?_set_ne q] at ej
      obtain ⟨x, m, p1, p2, p3, p4⟩ := sl j s ej
      exact ⟨x, m, p1, by rw [List.getElem?_set_ne q]; exact p2, p3, p4⟩
  · have p1 := cnt_set a [] h2
    have p3 := c1 a
    rw [List.count_append]
    simp at p1
    omega
  · have p1 := cnt_set a [] h2
    simp at p1
    exact c2 a (by omega)
  · rcases List.mem_append.mp ha with z | z
    · have := c2 a (cnt_mem a h2 z)
      refine ⟨this.1, this.2.1, ?_⟩
      rcases h4 with ⟨w, y⟩ | y
      · exact absurd y (hf w)
      · exact y a z
    · exact c3 a z
theorem tsat_frz {K : PySem.W.Frag} (hi : i ∉ C.np) : TSat K C (.o 0) true (tVar i) (mFrz i) := fun A G ε σ H xs Q hA R h => by
  unfold mFrz at h
  split at h
  · rename_i k d e
    obtain ⟨v, l, h1, o, R1⟩ := R.take (hA.no hi) e
    obtain ⟨R2, sm⟩ := R1.settle
    have hd := o.den sm fun a ha => addF_in ha
    have R3 := R2.store (fp := []) (hA.no hi) (ow0 hd)
    rw [List.set_set] at R3
    have es : σ.set i (some v) = σ := by
      apply List.ext_getElem?
      intro j
      by_cases q : i = j
      · subst q; rw [List.getElem?_set_self (List.getElem?_eq_some_iff.mp h1).1, h1]
      · rw [List.getElem?_set_ne q]
    rw [es] at R3
    exact ⟨v, h1, h v H _ [] R3 ⟨rfl, hd⟩ sm (fun _ _ => rfl) fun _ => Same.refl H⟩
  · exact h.elim
theorem de_frz (h : PE X (.Name x pos) (tVar i)) (hi : i ∉ C.np) : DE X C (.o 0) true (.Name x pos) (mFrz i) := ⟨_, h, tsat_frz hi⟩
theorem tsat_mov {K : PySem.W.Frag} (hi : i ∉ C.np) : TSat K C (.o k) true (tVar i) (mMov i k) := fun A G ε σ H xs Q hA R h => by
  unfold mMov at h
  split at h
  · rename_i j d e
    split at h
    · rename_i q
      subst q
      obtain ⟨v, l, h1, o, R1⟩ := R.take (hA.no hi) e
      exact ⟨v, h1, h v H G l R1 o (Same.refl G) (fun _ _ => rfl) fun _ => Same.refl H⟩
    · exact h.elim
  · exact h.elim
theorem de_mov (h : PE X (.Name x pos) (tVar i)) (hi : i ∉ C.np) : DE X C (.o k) true (.Name x pos) (mMov i k) := ⟨_, h, tsat_mov hi⟩
theorem tsat_sc {K : PySem.W.Frag} (s : Sc) : TSat K C (.o 0) true (tC s.v) (mSc s) := fun A G ε σ H xs Q hA R h =>
  h s.v H G [] R ⟨rfl, s.den⟩ (Same.refl G) (fun _ _ => rfl) fun _ => Same.refl H
theorem de_int {i : Int} {j pos} : DE X C (.o 0) true (.Constant (.int i) j pos) (mSc (.int i)) := ⟨_, pe_int, tsat_sc (.int i)⟩
theorem de_bl {b : Bool} {j pos} : DE X C (.o 0) true (.Constant (.bool b) j pos) (mSc (.bl b)) := ⟨_, pe_bl, tsat_sc (.bl b)⟩
theorem de_non {j pos} : DE X C (.o 0) true (.Constant .none j pos) (mSc .non) := ⟨_, pe_non, tsat_sc .non⟩
theorem de_str {s : Str} {j pos} : DE X C (.o 0) true (.Constant (.str s) j pos) (mSc (.str s)) := ⟨_, pe_str, tsat_sc (.str s)⟩
theorem de_gint {n : Int} (hg : Gl X x) (hm : ∃ t, X.mg x = some (.int n t)) (hd : (x == ("__debug__" : Str)) = false := by decide) : DE X C (.o 0) true (.Name x pos) (mSc (.int n)) := by
  obtain ⟨t, ht⟩ := hm
  exact ⟨_, pe_glob (v := .int n) hg ht ⟨t, rfl⟩ hd, tsat_sc (.int n)⟩
/-! ### how a value is had, otherwise -/
theorem DE.b {m : Md} {p : Bool} {f : Ev → Rs Dt} (h : DE X C (.o 0) p e f) : DE X C .b p e f := by
  obtain ⟨t, h1, h2⟩ := h
  refine ⟨t, h1, fun A G ε σ H xs Q hA R q => h2 A G ε σ H xs Q hA R ?_⟩
  cases r : f ε with
  | no => rw [r] at q; exact q
  | er x ε' => rw [r] at q; exact q
  | ok d ε' =>
    rw [r] at q
    rintro v H' G' fp R' ⟨rfl, o⟩ s hx hh
    exact q v H' G' [] R' ⟨rfl, Sh.of R'.sub o⟩ s hx hh
theorem DE.b1 {p : Bool} {f : Ev → Rs Dt} (h : DE X C (.o 1) p e f) : DE X C .b p e f := by
  obtain ⟨t, h1, h2⟩ := h
  refine ⟨t, h1, fun A G ε σ H xs Q hA R q => h2 A G ε σ H xs Q hA R ?_⟩
  cases r : f ε with
  | no => rw [r] at q; exact q
  | er x ε' => rw [r] at q; exact q
  | ok d ε' =>
    rw [r] at q
    rintro v H' G' fp R' o s hx hh
    exact q v H' G' [] R'.drop ⟨rfl, Sh.of1 o⟩ s hx hh
theorem DE.bd {p : Bool} {f : Ev → Rs Dt} (h : DE X C .b p e f) : DE X C .bd p e f := by
  obtain ⟨t, h1, h2⟩ := h
  refine ⟨t, h1, fun A G ε σ H xs Q hA R q => h2 A G ε σ H xs Q hA R ?_⟩
  cases r : f ε with
  | no => rw [r] at q; exact q
  | er x ε' => rw [r] at q; exact q
  | ok d ε' =>
    rw [r] at q
    rintro v H' G' fp R' ⟨rfl, o⟩ s hx hh
    exact q v H' G' [] R' ⟨rfl, o.den R'.sub⟩ s hx hh
/-- owned, then settled -/
theorem TSat.s {K : PySem.W.Frag} {t : TE} {k : Nat} {p : Bool} {f : Ev → Rs Dt} (h2 : TSat K C (.o k) p t f) : TSat K C (.o 0) p t f := fun A G ε σ H xs Q hA R q => h2 A G ε σ H xs Q hA R (by
  cases r : f ε with
  | no => rw [r] at q; exact q
  | er x ε' => rw [r] at q; exact q
  | ok d ε' =>
    rw [r] at q
    rintro v H' G' fp R' o s hx hh
    obtain ⟨R2, sm⟩ := R'.settle
    exact q v H' _ [] R2 ⟨rfl, o.den sm fun a ha => addF_in ha⟩ (s.trans sm) hx hh)
theorem DE.s {k : Nat} {p : Bool} {f : Ev → Rs Dt} (h : DE X C (.o k) p e f) : DE X C (.o 0) p e f := by
  obtain ⟨t, h1, h2⟩ := h
  exact ⟨t, h1, h2.s⟩
theorem DE.f {m : Md} {p : Bool} {f : Ev → Rs Dt} (h : DE X C m p e f) : DE X C m false e f := by
  obtain ⟨t, h1, h2⟩ := h
  refine ⟨t, h1, fun A G ε σ H xs Q hA R q => h2 A G ε σ H xs Q hA R ?_⟩
  cases r : f ε with
  | no => rw [r] at q; exact q
  | er x ε' => rw [r] at q; exact q
  | ok d ε' =>
    rw [r] at q
    exact fun v H' G' fp R' o s hx hh => q v H' G' fp R' o s hx nofun
end
end Mir

set_option Elab.async false
set_option linter.all false
set_option maxRecDepth 100000
set_option maxHeartbeats 400000
namespace Mir
open PySem PySem.Spec PyProof.Rows L2 He

/-! ### results of operators -/
inductive Rz where
  | sc (s : Sc) | tup (l : List Dt) | lst (l : List Dt) | el (d : Dt)
def Rz.dt : Rz → Dt
  | .sc s => s.d
  | .tup l => .tup l
  | .lst l => .lst l
  | .el d => d
def RzP (K : PySem.W.Frag) (G H : Hp) (z : Rz) (Q : VK) : Prop := match z with
  | .sc s => Q s.v H
  | .tup ds => ∀ vs p, DenL K G ds vs → H p = none → Q (.ref p) (upd H p (.tup vs))
  | .lst ds => ∀ vs p, DenL K G ds vs → H p = none → Q (.ref p) (upd H p (.lst vs))
  | .el d => ∀ v, Den K G d v → Q v H
def OpS (K : PySem.W.Frag) (r : R2) (f : Dt → Dt → Option Rz) : Prop :=
  ∀ (G H : Hp) (d1 d2 : Dt) (v1 v2 : V) (z : Rz) (Q : VK), Same G H → Sh K H G d1 v1 → Sh K H G d2 v2 → f d1 d2 = some z → RzP K G H z Q → r v1 v2 H Q
def OpU (K : PySem.W.Frag) (r : V → Hp → VK → Prop) (f : Dt → Option Rz) : Prop :=
  ∀ (G H : Hp) (d1 : Dt) (v1 : V) (z : Rz) (Q : VK), Same G H → Sh K H G d1 v1 → f d1 = some z → RzP K G H z Q → r v1 H Q
def OpA (K : PySem.W.Frag) (r : List V → Hp → VK → Prop) (f : List Dt → Option Rz) : Prop :=
  ∀ (G H : Hp) (ds : List Dt) (vs : List V) (z : Rz) (Q : VK), Same G H → DenL K G ds vs → f ds = some z → RzP K G H z Q → r vs H Q
/-- .. upon deeply borrowed operands, a scalar out -/
def OpSD (K : PySem.W.Frag) (r : R2) (f : Dt → Dt → Option Sc) : Prop :=
  ∀ (H : Hp) (d1 d2 : Dt) (v1 v2 : V) (z : Sc) (Q : VK), Den K H d1 v1 → Den K H d2 v2 → f d1 d2 = some z → Q z.v H → r v1 v2 H Q
def mRz (o : Option Rz) (ε : Ev) : Rs Dt := match o with
  | some z => .ok z.dt ε
  | none => .no
def mOp (f : Dt → Dt → Option Rz) (fa fb : Ev → Rs Dt) : Ev → Rs Dt := fun ε => (fa ε).bind fun d1 ε1 => (fb ε1).bind fun d2 ε2 => mRz (f d1 d2) ε2
def mUn (f : Dt → Option Rz) (fa : Ev → Rs Dt) : Ev → Rs Dt := fun ε => (fa ε).bind fun d1 ε1 => mRz (f d1) ε1
def mCB (f : List Dt → Option Rz) (fa : Ev → Rs (List Dt)) : Ev → Rs Dt := fun ε => (fa ε).bind fun d1 ε1 => mRz (f d1) ε1
/-- the result must be a new list -/
def mRz1 (o : Option Rz) (ε : Ev) : Rs Dt := match o with
  | some (.lst l) => .ok (.lst l) ε
  | _ => .no
def mOp1 (f : Dt → Dt → Option Rz) (fa fb : Ev → Rs Dt) : Ev → Rs Dt := fun ε => (fa ε).bind fun d1 ε1 => (fb ε1).bind fun d2 ε2 => mRz1 (f d1 d2) ε2
def mCB1 (f : List Dt → Option Rz) (fa : Ev → Rs (List Dt)) : Ev → Rs Dt := fun ε => (fa ε).bind fun d1 ε1 => mRz1 (f d1) ε1
def mSc? (o : Option Sc) (ε : Ev) : Rs Dt := match o with
  | some z => .ok z.d ε
  | none => .no
def mOpD (f : Dt → Dt → Option Sc) (fa fb : Ev → Rs Dt) : Ev → Rs Dt := fun ε => (fa ε).bind fun d1 ε1 => (fb ε1).bind fun d2 ε2 => mSc? (f d1 d2) ε2
section
variable {K : PySem.W.Frag} {C : Cn} {A : Act} {G H : Hp} {ε : Ev} {σ : L2.St} {xs : List Addr} {Q : VK}
theorem rz_end {p : Bool} {z : Option Rz} (R : RG K A G ε σ H xs) (h : EPost K C A (.o 0) p G H σ xs (mRz z ε) Q) : ∃ y, z = some y ∧ RzP K G H y Q := by
  cases z with
  | none => exact h.elim
  | some y =>
    refine ⟨y, rfl, ?_⟩
    cases y with
    | sc s => exact h s.v H G [] R ⟨rfl, s.den⟩ (Same.refl G) (fun _ _ => rfl) fun _ => Same.refl H
    | tup ds =>
      intro vs q hd hq
      exact h _ _ _ [] (R.new_settled hq) ⟨rfl, q, vs, rfl, upd_same, hd.mono (upd_keep (R.gf hq))⟩ (upd_keep (R.gf hq)) (fun a ha => upd_ne (R.xne hq ha)) fun _ => upd_keep hq
    | lst ds =>
      intro vs q hd hq
      exact h _ _ _ [] (R.new_settled hq) ⟨rfl, q, vs, rfl, upd_same, hd.mono (upd_keep (R.gf hq))⟩ (upd_keep (R.gf hq)) (fun a ha => upd_ne (R.xne hq ha)) fun _ => upd_keep hq
    | el ds => exact fun v hv => h v H G [] R ⟨rfl, hv⟩ (Same.refl G) (fun _ _ => rfl) fun _ => Same.refl H
theorem rz_end1 {p : Bool} {z : Option Rz} (R : RG K A G ε σ H xs) (h : EPost K C A (.o 1) p G H σ xs (mRz1 z ε) Q) : ∃ y, z = some y ∧ RzP K G H y Q := by
  cases z with
  | none => exact h.elim
  | some y =>
    refine ⟨y, rfl, ?_⟩
    cases y with
    | lst ds =>
      intro vs q hd hq
      exact h _ _ _ [q] (R.new_own hq) (.inl ⟨ds, q, vs, [], rfl, rfl, rfl, upd_same, LFp.zero.mpr ⟨rfl, hd⟩⟩) (Same.refl G) (fun a ha => upd_ne (R.xne hq ha)) fun _ => upd_keep hq
    | _ => exact h.elim
theorem tsat_op {p : Bool} {ta tb : TE} {fa fb : Ev → Rs Dt} {r : R2} {f : Dt → Dt → Option Rz} (ha : TSat K C .b p ta fa) (hb : TSat K C .b true tb fb) (ho : OpS K r f) : TSat K C (.o 0) p (tOp r ta tb) (mOp f fa fb) := fun A G ε σ H xs Q hA R h => by
  refine ha A G ε σ H xs _ hA R ?_
  unfold mOp at h
  cases e1 : fa ε with
  | no => rw [e1] at h; exact h
  | er x ε1 => rw [e1] at h; exact h
  | ok d1 ε1 =>
    rw [e1] at h
    rintro v1 H1 G1 fp R1 ⟨rfl, r1⟩ s1 hx1 hh1
    have h : EPost K C A (.o 0) p G H σ xs ((fb ε1).bind fun d2 ε2 => mRz (f d1 d2) ε2) Q := h
    refine hb A G1 ε1 σ H1 xs _ hA R1 ?_
    cases e2 : fb ε1 with
    | no => rw [e2] at h; exact h
    | er x ε2 => rw [e2] at h; exact ErP.mono s1 h
    | ok d2 ε2 =>
      rw [e2] at h
      rintro v2 H2 G2 fp R2 ⟨rfl, r2⟩ s2 hx2 hh2
      have h : EPost K C A (.o 0) p G H σ xs (mRz (f d1 d2) ε2) Q := h
      have h' := h.ahead (p1 := p) (p2 := true) (fun z => ⟨z, rfl⟩) (s1.trans s2) (fun a ha => (hx2 a ha).trans (hx1 a ha)) (fun z => (hh1 z).trans (hh2 rfl))
      obtain ⟨y, ey, hy⟩ := rz_end R2 h'
      exact ho G2 H2 d1 d2 v1 v2 y _ R2.sub (r1.mono s2 (hh2 rfl)) r2 ey hy
theorem tsat_op1 {p : Bool} {ta tb : TE} {fa fb : Ev → Rs Dt} {r : R2} {f : Dt → Dt → Option Rz} (ha : TSat K C .b p ta fa) (hb : TSat K C .b true tb fb) (ho : OpS K r f) : TSat K C (.o 1) p (tOp r ta tb) (mOp1 f fa fb) := fun A G ε σ H xs Q hA R h => by
  refine ha A G ε σ H xs _ hA R ?_
  unfold mOp1 at h
  cases e1 : fa ε with
  | no => rw [e1] at h; exact h
  | er x ε1 => rw [e1] at h; exact h
  | ok d1 ε1 =>
    rw [e1] at h
    rintro v1 H1 G1 fp R1 ⟨rfl, r1⟩ s1 hx1 hh1
    have h : EPost K C A (.o 1) p G H σ xs ((fb ε1).bind fun d2 ε2 => mRz1 (f d1 d2) ε2) Q := h
    refine hb A G1 ε1 σ H1 xs _ hA R1 ?_
    cases e2 : fb ε1 with
    | no => rw [e2] at h; exact h
    | er x ε2 => rw [e2] at h; exact ErP.mono s1 h
    | ok d2 ε2 =>
      rw [e2] at h
      rintro v2 H2 G2 fp R2 ⟨rfl, r2⟩ s2 hx2 hh2
      have h : EPost K C A (.o 1) p G H σ xs (mRz1 (f d1 d2) ε2) Q := h
      have h' := h.ahead (p1 := p) (p2 := true) (fun z => ⟨z, rfl⟩) (s1.trans s2) (fun a ha => (hx2 a ha).trans (hx1 a ha)) (fun z => (hh1 z).trans (hh2 rfl))
      obtain ⟨y, ey, hy⟩ := rz_end1 R2 h'
      exact ho G2 H2 d1 d2 v1 v2 y _ R2.sub (r1.mono s2 (hh2 rfl)) r2 ey hy
/-- the second operand may change what is owned: the first one settled -/
theorem tsat_op' {p1 p2 : Bool} {ta tb : TE} {fa fb : Ev → Rs Dt} {r : R2} {f : Dt → Dt → Option Rz} (ha : TSat K C (.o 0) p1 ta fa) (hb : TSat K C .b p2 tb fb) (ho : OpS K r f) : TSat K C (.o 0) false (tOp r ta tb) (mOp f fa fb) := fun A G ε σ H xs Q hA R h => by
  refine ha A G ε σ H xs _ hA R ?_
  unfold mOp at h
  cases e1 : fa ε with
  | no => rw [e1] at h; exact h
  | er x ε1 => rw [e1] at h; exact h
  | ok d1 ε1 =>
    rw [e1] at h
    rintro v1 H1 G1 fp R1 ⟨rfl, r1⟩ s1 hx1 hh1
    have h : EPost K C A (.o 0) false G H σ xs ((fb ε1).bind fun d2 ε2 => mRz (f d1 d2) ε2) Q := h
    refine hb A G1 ε1 σ H1 xs _ hA R1 ?_
    cases e2 : fb ε1 with
    | no => rw [e2] at h; exact h
    | er x ε2 => rw [e2] at h; exact ErP.mono s1 h
    | ok d2 ε2 =>
      rw [e2] at h
      rintro v2 H2 G2 fp R2 ⟨rfl, r2⟩ s2 hx2 hh2
      have h : EPost K C A (.o 0) false G H σ xs (mRz (f d1 d2) ε2) Q := h
      have h' : EPost K C A (.o 0) false G2 H2 σ xs (mRz (f d1 d2) ε2) Q := EPost.ahead (p := false) (p1 := false) (p2 := false) nofun (s1.trans s2) (fun a ha => (hx2 a ha).trans (hx1 a ha)) nofun h
      obtain ⟨y, ey, hy⟩ := rz_end R2 h'
      exact ho G2 H2 d1 d2 v1 v2 y _ R2.sub (Sh.of R2.sub (r1.mono s2)) r2 ey hy
theorem tsat_opD {p : Bool} {ta tb : TE} {fa fb : Ev → Rs Dt} {r : R2} {f : Dt → Dt → Option Sc} (ha : TSat K C .bd p ta fa) (hb : TSat K C .bd true tb fb) (ho : OpSD K r f) : TSat K C (.o 0) p (tOp r ta tb) (mOpD f fa fb) := fun A G ε σ H xs Q hA R h => by
  refine ha A G ε σ H xs _ hA R ?_
  unfold mOpD at h
  cases e1 : fa ε with
  | no => rw [e1] at h; exact h
  | er x ε1 => rw [e1] at h; exact h
  | ok d1 ε1 =>
    rw [e1] at h
    rintro v1 H1 G1 fp R1 ⟨rfl, r1⟩ s1 hx1 hh1
    have h : EPost K C A (.o 0) p G H σ xs ((fb ε1).bind fun d2 ε2 => mSc? (f d1 d2) ε2) Q := h
    refine hb A G1 ε1 σ H1 xs _ hA R1 ?_
    cases e2 : fb ε1 with
    | no => rw [e2] at h; exact h
    | er x ε2 => rw [e2] at h; exact ErP.mono s1 h
    | ok d2 ε2 =>
      rw [e2] at h
      rintro v2 H2 G2 fp R2 ⟨rfl, r2⟩ s2 hx2 hh2
      have h : EPost K C A (.o 0) p G H σ xs (mSc? (f d1 d2) ε2) Q := h
      cases ez : f d1 d2 with
      | none => rw [ez] at h; exact h.elim
      | some z =>
        rw [ez] at h
        exact ho H2 d1 d2 v1 v2 z _ (r1.mono (hh2 rfl)) r2 ez (h z.v H2 G2 [] R2 ⟨rfl, z.den⟩ (s1.trans s2) (fun a ha => (hx2 a ha).trans (hx1 a ha)) fun z => (hh1 z).trans (hh2 rfl))
/-- .. the first one settled, the second one may change what is owned -/
theorem tsat_opD' {p1 p2 : Bool} {ta tb : TE} {fa fb : Ev → Rs Dt} {r : R2} {f : Dt → Dt → Option Sc} (ha : TSat K C (.o 0) p1 ta fa) (hb : TSat K C .bd p2 tb fb) (ho : OpSD K r f) : TSat K C (.o 0) false (tOp r ta tb) (mOpD f fa fb) := fun A G ε σ H xs Q hA R h => by
  refine ha A G ε σ H xs _ hA R ?_
  unfold mOpD at h
  cases e1 : fa ε with
  | no => rw [e1] at h; exact h
  | er x ε1 => rw [e1] at h; exact h
  | ok d1 ε1 =>
    rw [e1] at h
    rintro v1 H1 G1 fp R1 ⟨rfl, r1⟩ s1 hx1 hh1
    have h : EPost K C A (.o 0) false G H σ xs ((fb ε1).bind fun d2 ε2 => mSc? (f d1 d2) ε2) Q := h
    refine hb A G1 ε1 σ H1 xs _ hA R1 ?_
    cases e2 : fb ε1 with
    | no => rw [e2] at h; exact h
    | er x ε2 => rw [e2] at h; exact ErP.mono s1 h
    | ok d2 ε2 =>
      rw [e2] at h
      rintro v2 H2 G2 fp R2 ⟨rfl, r2⟩ s2 hx2 hh2
      have h : EPost K C A (.o 0) false G H σ xs (mSc? (f d1 d2) ε2) Q := h
      cases ez : f d1 d2 with
      | none => rw [ez] at h; exact h.elim
      | some z =>
        rw [ez] at h
        exact ho H2 d1 d2 v1 v2 z _ ((r1.mono s2).mono R2.sub) r2 ez (h z.v H2 G2 [] R2 ⟨rfl, z.den⟩ (s1.trans s2) (fun a ha => (hx2 a ha).trans (hx1 a ha)) fun z => nomatch z)
theorem tsat_un {p : Bool} {ta : TE} {fa : Ev → Rs Dt} {r : V → Hp → VK → Prop} {f : Dt → Option Rz} (ha : TSat K C .b p ta fa) (ho : OpU K r f) : TSat K C (.o 0) p (tUn r ta) (mUn f fa) := fun A G ε σ H xs Q hA R h => by
  refine ha A G ε σ H xs _ hA R ?_
  unfold mUn at h
  cases e1 : fa ε with
  | no => rw [e1] at h; exact h
  | er x ε1 => rw [e1] at h; exact h
  | ok d1 ε1 =>
    rw [e1] at h
    rintro v1 H1 G1 fp R1 ⟨rfl, r1⟩ s1 hx1 hh1
    have h : EPost K C A (.o 0) p G H σ xs (mRz (f d1) ε1) Q := h
    obtain ⟨y, ey, hy⟩ := rz_end R1 (h.ahead (p1 := p) (p2 := true) (fun z => ⟨z, rfl⟩) s1 hx1 hh1)
    exact ho G1 H1 d1 v1 y _ R1.sub r1 ey hy
theorem tsat_cb {p : Bool} {ta : TA} {fa : Ev → Rs (List Dt)} {r : List V → Hp → VK → Prop} {f : List Dt → Option Rz} (ha : TASat K C p ta fa) (ho : OpA K r f) : TSat K C (.o 0) p (tCB r ta) (mCB f fa) := fun A G ε σ H xs Q hA R h => by
  refine ha A G ε σ H xs _ hA R ?_
  unfold mCB at h
  cases e1 : fa ε with
  | no => rw [e1] at h; exact h
  | er x ε1 => rw [e1] at h; exact h
  | ok d1 ε1 =>
    rw [e1] at h
    rintro v1 H1 G1 R1 r1 s1 hx1 hh1
    have h : EPost K C A (.o 0) p G H σ xs (mRz (f d1) ε1) Q := h
    obtain ⟨y, ey, hy⟩ := rz_end R1 (h.ahead (p1 := p) (p2 := true) (fun z => ⟨z, rfl⟩) s1 hx1 hh1)
    exact ho G1 H1 d1 v1 y _ R1.sub r1 ey hy
theorem tsat_cb1 {p : Bool} {ta : TA} {fa : Ev → Rs (List Dt)} {r : List V → Hp → VK → Prop} {f : List Dt → Option Rz} (ha : TASat K C p ta fa) (ho : OpA K r f) : TSat K C (.o 1) p (tCB r ta) (mCB1 f fa) := fun A G ε σ H xs Q hA R h => by
  refine ha A G ε σ H xs _ hA R ?_
  unfold mCB1 at h
  cases e1 : fa ε with
  | no => rw [e1] at h; exact h
  | er x ε1 => rw [e1] at h; exact h
  | ok d1 ε1 =>
    rw [e1] at h
    rintro v1 H1 G1 R1 r1 s1 hx1 hh1
    have h : EPost K C A (.o 1) p G H σ xs (mRz1 (f d1) ε1) Q := h
    obtain ⟨y, ey, hy⟩ := rz_end1 R1 (h.ahead (p1 := p) (p2 := true) (fun z => ⟨z, rfl⟩) s1 hx1 hh1)
    exact ho G1 H1 d1 v1 y _ R1.sub r1 ey hy

/-! ### arguments, displays -/
def mNil : Ev → Rs (List Dt) := fun ε => .ok [] ε
def mCons (fa : Ev → Rs Dt) (fr : Ev → Rs (List Dt)) : Ev → Rs (List Dt) := fun ε => (fa ε).bind fun d ε1 => (fr ε1).bind fun ds ε2 => .ok (d :: ds) ε2
theorem tasat_nil : TASat K C true tNil mNil := fun A G ε σ H xs Q hA R h => h [] H G R rfl (Same.refl G) (fun _ _ => rfl) fun _ => Same.refl H
theorem tasat_cons {p1 p2 : Bool} {ta : TE} {tr : TA} {fa : Ev → Rs Dt} {fr : Ev → Rs (List Dt)} (ha : TSat K C (.o 0) p1 ta fa) (hr : TASat K C p2 tr fr) : TASat K C (p1 && p2) (tCons ta tr) (mCons fa fr) := fun A G ε σ H xs Q hA R h => by
  refine ha A G ε σ H xs _ hA R ?_
  unfold mCons at h
  cases e1 : fa ε with
  | no => rw [e1] at h; exact h
  | er x ε1 => rw [e1] at h; exact h
  | ok d1 ε1 =>
    rw [e1] at h
    rintro v1 H1 G1 fp R1 ⟨rfl, r1⟩ s1 hx1 hh1
    have h : APost K C A (p1 && p2) G H σ xs ((fr ε1).bind fun ds ε2 => .ok (d1 :: ds) ε2) Q := h
    refine hr A G1 ε1 σ H1 xs _ hA R1 ?_
    cases e2 : fr ε1 with
    | no => rw [e2] at h; exact h
    | er x ε2 => rw [e2] at h; exact ErP.mono s1 h
    | ok d2 ε2 =>
      rw [e2] at h
      rintro vs H2 G2 R2 r2 s2 hx2 hh2
      exact h (v1 :: vs) H2 G2 R2 ⟨v1, vs, rfl, r1.mono s2, r2⟩ (s1.trans s2) (fun a ha => (hx2 a ha).trans (hx1 a ha)) fun z => by
        rw [Bool.and_eq_true] at z
        exact (hh1 z.1).trans (hh2 z.2)
def mTup (fa : Ev → Rs (List Dt)) : Ev → Rs Dt := fun ε => (fa ε).bind fun ds ε1 => .ok (.tup ds) ε1
def mLst (fa : Ev → Rs (List Dt)) : Ev → Rs Dt := fun ε => (fa ε).bind fun ds ε1 => .ok (.lst ds) ε1
theorem tsat_tup {p : Bool} {ta : TA} {fa : Ev → Rs (List Dt)} (ha : TASat K C p ta fa) (hn : ∀ ε ds ε', fa ε = .ok ds ε' → ds.length ≤ sizeLine) : TSat K C (.o 0) p (tTup ta) (mTup fa) := fun A G ε σ H xs Q hA R h => by
  refine ha A G ε σ H xs _ hA R ?_
  unfold mTup at h
  cases e1 : fa ε with
  | no => rw [e1] at h; exact h
  | er x ε1 => rw [e1] at h; exact h
  | ok d1 ε1 =>
    rw [e1] at h
    rintro vs H1 G1 R1 r1 s1 hx1 hh1
    refine ⟨by rw [r1.length]; exact hn _ _ _ e1, fun q hq => ?_⟩
    exact h _ _ _ [] (R1.new_settled hq) ⟨rfl, q, vs, rfl, upd_same, r1.mono (upd_keep (R1.gf hq))⟩ (s1.trans (upd_keep (R1.gf hq))) (fun a ha => (upd_ne (R1.xne hq ha)).trans (hx1 a ha)) fun z => (hh1 z).trans (upd_keep hq)
theorem tsat_lst {p : Bool} {ta : TA} {fa : Ev → Rs (List Dt)} (ha : TASat K C p ta fa) (hn : ∀ ε ds ε', fa ε = .ok ds ε' → ds.length ≤ sizeLine) : TSat K C (.o 1) p (tLst ta) (mLst fa) := fun A G ε σ H xs Q hA R h => by
  refine ha A G ε σ H xs _ hA R ?_
  unfold mLst at h
  cases e1 : fa ε with
  | no => rw [e1] at h; exact h
  | er x ε1 => rw [e1] at h; exact h
  | ok d1 ε1 =>
    rw [e1] at h
    rintro vs H1 G1 R1 r1 s1 hx1 hh1
    refine ⟨by rw [r1.length]; exact hn _ _ _ e1, fun q hq => ?_⟩
    exact h _ _ _ [q] (R1.new_own hq) (.inl ⟨d1, q, vs, [], rfl, rfl, rfl, upd_same, LFp.zero.mpr ⟨rfl, r1⟩⟩) s1 (fun a ha => (upd_ne (R1.xne hq ha)).trans (hx1 a ha)) fun z => (hh1 z).trans (upd_keep hq)
/-- the number of written arguments -/
inductive ArgN : (Ev → Rs (List Dt)) → Nat → Prop where
  | nil : ArgN mNil 0
  | cons {fa : Ev → Rs Dt} {fr : Ev → Rs (List Dt)} {n : Nat} (h : ArgN fr n) : ArgN (mCons fa fr) (n + 1)
theorem ArgN.len {f : Ev → Rs (List Dt)} {n : Nat} (h : ArgN f n) : ∀ ε ds ε', f ε = .ok ds ε' → ds.length = n := by
  induction h with
  | nil => intro ε ds ε' e; cases e; rfl
  | cons h ih =>
    rename_i fa fr n
    intro ε ds ε' e
    unfold mCons at e
    cases e1 : fa ε with
    | no => rw [e1] at e; cases e
    | er x ε1 => rw [e1] at e; cases e
    | ok d1 ε1 =>
      rw [e1] at e
      have e : ((fr ε1).bind fun ds ε2 => .ok (d1 :: ds) ε2) = .ok ds ε' := e
      cases e2 : fr ε1 with
      | no => rw [e2] at e; cases e
      | er x ε1 => rw [e2] at e; cases e
      | ok d2 ε2 =>
        rw [e2] at e
        cases e
        rw [List.length_cons, ih _ _ _ e2]
theorem ArgN.small {f : Ev → Rs (List Dt)} {n : Nat} (h : ArgN f n) (hn : n ≤ 1000) : ∀ ε ds ε', f ε = .ok ds ε' → ds.length ≤ sizeLine := fun ε ds ε' e => by
  rw [h.len _ _ _ e]
  exact Nat.le_of_lt (small1000 hn)
end
section
variable {X : Cx} {C : Cn} {p p1 p2 : Bool} {e a b : Expr} {es : List Expr} {fa fb : Ev → Rs Dt} {fs : Ev → Rs (List Dt)} {pos : Pos}
theorem da_nil : DA X C true [] mNil := ⟨_, pa_nil, tasat_nil⟩
theorem da_cons (ha : DE X C (.o 0) p1 e fa) (hr : DA X C p2 es fs) (hs : starEach (e :: es) X.env = (false, eval e X.env) :: starEach es X.env := by rfl) : DA X C (p1 && p2) (e :: es) (mCons fa fs) := by
  obtain ⟨t, h1, h2⟩ := ha
  obtain ⟨u, h3, h4⟩ := hr
  exact ⟨_, pa_cons h1 h3 hs, tasat_cons h2 h4⟩
theorem de_tup {k : Nat} {n : Nat} (ha : DA X C p es fs) (hn : ArgN fs n) (h1 : n ≤ 1000 := by decide) : DE X C (.o 0) p (.Tuple es k pos) (mTup fs) := by
  obtain ⟨t, h3, h2⟩ := ha
  exact ⟨_, pe_tup h3, tsat_tup h2 (hn.small h1)⟩
theorem de_lst {n : Nat} (ha : DA X C p es fs) (hn : ArgN fs n) (h1 : n ≤ 1000 := by decide) : DE X C (.o 1) p (.List es pos) (mLst fs) := by
  obtain ⟨t, h3, h2⟩ := ha
  exact ⟨_, pe_lst h3, tsat_lst h2 (hn.small h1)⟩
theorem de_op {op : Operator} {r : R2} {f : Dt → Dt → Option Rz} (ho : OpR X (binaryOp op) r) (hs : OpS X.K r f) (ha : DE X C .b p a fa) (hb : DE X C .b true b fb) : DE X C (.o 0) p (.BinOp a op b pos) (mOp f fa fb) := by
  obtain ⟨t, h1, h2⟩ := ha
  obtain ⟨u, h3, h4⟩ := hb
  exact ⟨_, pe_op ho h1 h3, tsat_op h2 h4 hs⟩
theorem de_op1 {op : Operator} {r : R2} {f : Dt → Dt → Option Rz} (ho : OpR X (binaryOp op) r) (hs : OpS X.K r f) (ha : DE X C .b p a fa) (hb : DE X C .b true b fb) : DE X C (.o 1) p (.BinOp a op b pos) (mOp1 f fa fb) := by
  obtain ⟨t, h1, h2⟩ := ha
  obtain ⟨u, h3, h4⟩ := hb
  exact ⟨_, pe_op ho h1 h3, tsat_op1 h2 h4 hs⟩
theorem de_op' {op : Operator} {r : R2} {f : Dt → Dt → Option Rz} (ho : OpR X (binaryOp op) r) (hs : OpS X.K r f) (ha : DE X C (.o 0) p1 a fa) (hb : DE X C .b p2 b fb) : DE X C (.o 0) false (.BinOp a op b pos) (mOp f fa fb) := by
  obtain ⟨t, h1, h2⟩ := ha
  obtain ⟨u, h3, h4⟩ := hb
  exact ⟨_, pe_op ho h1 h3, tsat_op' h2 h4 hs⟩
theorem de_un {op : UnaryOp} {r : V → Hp → VK → Prop} {f : Dt → Option Rz} (ho : UnR X (unaryOp op) r) (hs : OpU X.K r f) (ha : DE X C .b p a fa) : DE X C (.o 0) p (.UnaryOp op a pos) (mUn f fa) := by
  obtain ⟨t, h1, h2⟩ := ha
  exact ⟨_, pe_un ho h1, tsat_un h2 hs⟩
theorem de_cmp {op : CmpOp} {r : R2} {f : Dt → Dt → Option Sc} (ho : OpR X (compareOp op) r) (hs : OpSD X.K r f) (ha : DE X C .bd p a fa) (hb : DE X C .bd true b fb) (hm : behindInMarks op b = false) : DE X C (.o 0) p (.Compare a [op] [b] pos) (mOpD f fa fb) := by
  obtain ⟨t, h1, h2⟩ := ha
  obtain ⟨u, h3, h4⟩ := hb
  exact ⟨_, pe_cmpR ho h1 h3 hm, tsat_opD h2 h4 hs⟩
theorem de_cmp' {op : CmpOp} {r : R2} {f : Dt → Dt → Option Sc} (ho : OpR X (compareOp op) r) (hs : OpSD X.K r f) (ha : DE X C (.o 0) p1 a fa) (hb : DE X C .bd p2 b fb) (hm : behindInMarks op b = false) : DE X C (.o 0) false (.Compare a [op] [b] pos) (mOpD f fa fb) := by
  obtain ⟨t, h1, h2⟩ := ha
  obtain ⟨u, h3, h4⟩ := hb
  exact ⟨_, pe_cmpR ho h1 h3 hm, tsat_opD' h2 h4 hs⟩
/-- an expression that gives True or False, as a test -/
def mB (f : Ev → Rs Dt) : Ev → Rs Bool := fun ε => (f ε).bind fun d ε1 => match d with
  | .bl b => .ok b ε1
  | _ => .no
theorem ttsat_b {K : PySem.W.Frag} {t : TE} (h : TSat K C (.o 0) p t fa) : TTSat K C p (tTest t) (mB fa) := fun A G ε σ H xs Q hA R q => by
  refine h A G ε σ H xs _ hA R ?_
  unfold mB at q
  cases e1 : fa ε with
  | no => rw [e1] at q; exact q
  | er x ε1 => rw [e1] at q; exact q
  | ok d1 ε1 =>
    rw [e1] at q
    rintro v1 H1 G1 fp R1 ⟨rfl, r1⟩ s1 hx1 hh1
    cases d1 with
    | bl k => exact ⟨k, r1, q H1 G1 R1 s1 hx1 hh1⟩
    | _ => exact q.elim
theorem dt_cmp {op : CmpOp} {r : R2} {f : Dt → Dt → Option Sc} (ho : OpR X (compareOp op) r) (hs : OpSD X.K r f) (ha : DE X C .bd p a fa) (hb : DE X C .bd true b fb) (hm : behindInMarks op b = false) : DT X C p (.Compare a [op] [b] pos) (mB (mOpD f fa fb)) := by
  obtain ⟨t, h1, h2⟩ := ha
  obtain ⟨u, h3, h4⟩ := hb
  exact ⟨_, pt_cmpR ho h1 h3 hm, ttsat_b (tsat_opD h2 h4 hs)⟩
theorem dt_cmp' {op : CmpOp} {r : R2} {f : Dt → Dt → Option Sc} (ho : OpR X (compareOp op) r) (hs : OpSD X.K r f) (ha : DE X C (.o 0) p1 a fa) (hb : DE X C .bd p2 b fb) (hm : behindInMarks op b = false) : DT X C false (.Compare a [op] [b] pos) (mB (mOpD f fa fb)) := by
  obtain ⟨t, h1, h2⟩ := ha
  obtain ⟨u, h3, h4⟩ := hb
  exact ⟨_, pt_cmpR ho h1 h3 hm, ttsat_b (tsat_opD' h2 h4 hs)⟩
/-- truth -/
def truD : Dt → Option Bool
  | .non => some false
  | .bl b => some b
  | .int i => some (i != 0)
  | .str x => if x.length ≤ sizeLine then some ((x.length : Int) != 0) else none
  | .lst l => some (!l.isEmpty)
  | .tup l => some (!l.isEmpty)
  | .dK ks _ => some (!ks.isEmpty)
  | _ => none
def mTru (f : Ev → Rs Dt) : Ev → Rs Bool := fun ε => (f ε).bind fun d ε1 => match truD d with
  | some b => .ok b ε1
  | none => .no
theorem emp_len {α β : Type} {l : List α} {m : List β} (h : l.length = m.length) : (!l.isEmpty) = !m.isEmpty := by
  cases l <;> cases m <;> simp_all
theorem tru_of {K : PySem.W.Frag} {H : Hp} {d : Dt} {v : V} {b : Bool} (h : Den K H d v) (e : truD d = some b) : TruV K v H b := by
  cases d with
  | non =>
    obtain rfl : v = .non := h
    exact (Option.some.inj e).symm
  | bl k =>
    obtain rfl : v = .bl k := h
    exact (Option.some.inj e).symm
  | int i =>
    obtain rfl : v = .int i := h
    exact (Option.some.inj e).symm
  | str x =>
    obtain rfl : v = .str x := h
    have e : (if x.length ≤ sizeLine then some ((x.length : Int) != 0) else none) = some b := e
    by_cases hl : x.length ≤ sizeLine
    · rw [if_pos hl] at e
      exact ⟨hl, (Option.some.inj e).symm⟩
    · rw [if_neg hl] at e
      cases e
  | lst l =>
    obtain ⟨a, vs, rfl, e2, t⟩ := h
    have e : some (!l.isEmpty) = some b := e
    rw [← Option.some.inj e]
    exact .inl ⟨vs, .inl (.inl e2), emp_len t.length.symm⟩
  | tup l =>
    obtain ⟨a, vs, rfl, e2, t⟩ := h
    have e : some (!l.isEmpty) = some b := e
    rw [← Option.some.inj e]
    exact .inr (.inl ⟨vs, .inl (.inl e2), emp_len t.length.symm⟩)
  | dK ks ds =>
    obtain ⟨a, ws, rfl, e2, k, t⟩ := h
    have e : some (!ks.isEmpty) = some b := e
    rw [← Option.some.inj e]
    refine .inr (.inr ⟨ws, e2, emp_len ?_⟩)
    rw [← k, List.length_map]
  | dT ks ds => exact nomatch e
  | ins c fs ds => exact nomatch e
  | scr l => exact nomatch e
theorem dt_tru (ha : DE X C .bd p a fa) (he : ∀ whole, isTrue a X.env whole = (do let v ← whole; standAt a.pos; holding [v] (truthy v)) := by intro _; rfl) : DT X C p a (mTru fa) := by
  obtain ⟨t, h1, h2⟩ := ha
  refine ⟨_, pt_truth h1 he, fun A G ε σ H xs Q hA R q => h2 A G ε σ H xs _ hA R ?_⟩
  unfold mTru at q
  cases e1 : fa ε with
  | no => rw [e1] at q; exact q
  | er x ε1 => rw [e1] at q; exact q
  | ok d1 ε1 =>
    rw [e1] at q
    rintro v1 H1 G1 fp R1 ⟨rfl, r1⟩ s1 hx1 hh1
    have q : BPost X.K C A p G H σ xs (match truD d1 with
      | some b => .ok b ε1
      | none => .no) Q := q
    cases e2 : truD d1 with
    | none => rw [e2] at q; exact q.elim
    | some b => rw [e2] at q; exact ⟨b, tru_of r1 e2, q H1 G1 R1 s1 hx1 hh1⟩
def mNot (f : Ev → Rs Bool) : Ev → Rs Bool := fun ε => (f ε).bind fun b ε1 => .ok (!b) ε1
def mAnd (f g : Ev → Rs Bool) : Ev → Rs Bool := fun ε => (f ε).bind fun b ε1 => if b = true then g ε1 else .ok false ε1
def mOr (f g : Ev → Rs Bool) : Ev → Rs Bool := fun ε => (f ε).bind fun b ε1 => if b = true then .ok true ε1 else g ε1
variable {ga gb : Ev → Rs Bool} {rest : List Expr}
theorem DT.f (h : DT X C p e ga) : DT X C false e ga := by
  obtain ⟨t, h1, h2⟩ := h
  refine ⟨t, h1, fun A G ε σ H xs Q hA R q => h2 A G ε σ H xs Q hA R ?_⟩
  cases r : ga ε with
  | no => rw [r] at q; exact q
  | er x ε' => rw [r] at q; exact q
  | ok d ε' => rw [r] at q; exact fun H' G' R' s hx hh => q H' G' R' s hx nofun
theorem ttsat_not {K : PySem.W.Frag} {t : TT} (h : TTSat K C p t ga) : TTSat K C p (tNot t) (mNot ga) := fun A G ε σ H xs Q hA R q => by
  refine h A G ε σ H xs _ hA R ?_
  unfold mNot at q
  cases r : ga ε with
  | no => rw [r] at q; exact q
  | er x ε' => rw [r] at q; exact q
  | ok d ε' => rw [r] at q; exact q
theorem dt_not (h : DT X C p a ga) : DT X C p (.UnaryOp .Not a pos) (mNot ga) := by
  obtain ⟨t, h1, h2⟩ := h
  exact ⟨_, pt_not h1, ttsat_not h2⟩
theorem ttsat_and {K : PySem.W.Frag} {t u : TT} (h : TTSat K C p1 t ga) (h' : TTSat K C p2 u gb) : TTSat K C (p1 && p2) (tAnd t u) (mAnd ga gb) := fun A G ε σ H xs Q hA R q => by
  refine h A G ε σ H xs _ hA R ?_
  unfold mAnd at q
  cases r : ga ε with
  | no => rw [r] at q; exact q
  | er x ε' => rw [r] at q; exact q
  | ok d ε' =>
    rw [r] at q
    intro H1 G1 R1 s1 hx1 hh1
    have q : BPost K C A (p1 && p2) G H σ xs (if d = true then gb ε' else .ok false ε') Q := q
    cases d with
    | true => exact iteT (h' A G1 ε' σ H1 xs Q hA R1 (q.ahead (fun z => Bool.and_eq_true_iff.mp z) s1 hx1 hh1))
    | false => exact iteF (q H1 G1 R1 s1 hx1 fun z => hh1 (Bool.and_eq_true_iff.mp z).1)
theorem ttsat_or {K : PySem.W.Frag} {t u : TT} (h : TTSat K C p1 t ga) (h' : TTSat K C p2 u gb) : TTSat K C (p1 && p2) (tOr t u) (mOr ga gb) := fun A G ε σ H xs Q hA R q => by
  refine h A G ε σ H xs _ hA R ?_
  unfold mOr at q
  cases r : ga ε with
  | no => rw [r] at q; exact q
  | er x ε' => rw [r] at q; exact q
  | ok d ε' =>
    rw [r] at q
    intro H1 G1 R1 s1 hx1 hh1
    have q : BPost K C A (p1 && p2) G H σ xs (if d = true then .ok true ε' else gb ε') Q := q
    cases d with
    | false => exact iteF (h' A G1 ε' σ H1 xs Q hA R1 (q.ahead (fun z => Bool.and_eq_true_iff.mp z) s1 hx1 hh1))
    | true => exact iteT (q H1 G1 R1 s1 hx1 fun z => hh1 (Bool.and_eq_true_iff.mp z).1)
theorem dw_and1 (h : DT X C p a ga) : DW X C p (.BoolOp .And [a] pos) ga := by
  obtain ⟨t, h1, h2⟩ := h
  exact ⟨_, pw_and1 h1, h2⟩
theorem dw_or1 (h : DT X C p a ga) : DW X C p (.BoolOp .Or [a] pos) ga := by
  obtain ⟨t, h1, h2⟩ := h
  exact ⟨_, pw_or1 h1, h2⟩
theorem dw_and (h : DT X C p1 a ga) (h' : DW X C p2 (.BoolOp .And (b :: rest) pos) gb) : DW X C (p1 && p2) (.BoolOp .And (a :: b :: rest) pos) (mAnd ga gb) := by
  obtain ⟨t, h1, h2⟩ := h
  obtain ⟨u, h3, h4⟩ := h'
  exact ⟨_, pw_and h1 h3, ttsat_and h2 h4⟩
theorem dw_or (h : DT X C p1 a ga) (h' : DW X C p2 (.BoolOp .Or (b :: rest) pos) gb) : DW X C (p1 && p2) (.BoolOp .Or (a :: b :: rest) pos) (mOr ga gb) := by
  obtain ⟨t, h1, h2⟩ := h
  obtain ⟨u, h3, h4⟩ := h'
  exact ⟨_, pw_or h1 h3, ttsat_or h2 h4⟩
theorem DW.t (h : DW X C p e ga) : DT X C p e ga := by
  obtain ⟨t, h1, h2⟩ := h
  exact ⟨_, h1.pt, h2⟩
/-! ### and, or, not as values (all but the last True or False) -/
def mAndV (f g : Ev → Rs Dt) : Ev → Rs Dt := fun ε => (f ε).bind fun d ε1 => match d with
  | .bl true => g ε1
  | .bl false => .ok (.bl false) ε1
  | _ => .no
def mOrV (f g : Ev → Rs Dt) : Ev → Rs Dt := fun ε => (f ε).bind fun d ε1 => match d with
  | .bl true => .ok (.bl true) ε1
  | .bl false => g ε1
  | _ => .no
def mNotV (f : Ev → Rs Dt) : Ev → Rs Dt := fun ε => (f ε).bind fun d ε1 => match d with
  | .bl b => .ok (.bl (!b)) ε1
  | _ => .no
theorem de_one {op} (h : DE X C (.o 0) p a fa) : DE X C (.o 0) p (.BoolOp op [a] pos) fa := by
  obtain ⟨t, h1, h2⟩ := h
  exact ⟨_, pe_one h1, h2⟩
theorem de_and (h : DE X C (.o 0) p1 a fa) (h' : DE X C (.o 0) p2 (.BoolOp .And (b :: rest) pos) fb) : DE X C (.o 0) (p1 && p2) (.BoolOp .And (a :: b :: rest) pos) (mAndV fa fb) := by
  obtain ⟨t, h1, h2⟩ := h
  obtain ⟨u, h3, h4⟩ := h'
  refine ⟨_, pe_and h1 h3, fun A G ε σ H xs Q hA R q => h2 A G ε σ H xs _ hA R ?_⟩
  unfold mAndV at q
  cases r : fa ε with
  | no => rw [r] at q; exact q
  | er x ε' => rw [r] at q; exact q
  | ok d ε' =>
    rw [r] at q
    rintro v1 H1 G1 fp R1 ⟨rfl, r1⟩ s1 hx1 hh1
    cases d with
    | bl k =>
      cases k with
      | true => exact ⟨true, r1, iteT (h4 A G1 ε' σ H1 xs Q hA R1 (EPost.ahead (fun z => Bool.and_eq_true_iff.mp z) s1 hx1 hh1 q))⟩
      | false => exact ⟨false, r1, iteF (q (.bl false) H1 G1 [] R1 ⟨rfl, rfl⟩ s1 hx1 fun z => hh1 (Bool.and_eq_true_iff.mp z).1)⟩
    | _ => exact q.elim
theorem de_or (h : DE X C (.o 0) p1 a fa) (h' : DE X C (.o 0) p2 (.BoolOp .Or (b :: rest) pos) fb) : DE X C (.o 0) (p1 && p2) (.BoolOp .Or (a :: b :: rest) pos) (mOrV fa fb) := by
  obtain ⟨t, h1, h2⟩ := h
  obtain ⟨u, h3, h4⟩ := h'
  refine ⟨_, pe_or h1 h3, fun A G ε σ H xs Q hA R q => h2 A G ε σ H xs _ hA R ?_⟩
  unfold mOrV at q
  cases r : fa ε with
  | no => rw [r] at q; exact q
  | er x ε' => rw [r] at q; exact q
  | ok d ε' =>
    rw [r] at q
    rintro v1 H1 G1 fp R1 ⟨rfl, r1⟩ s1 hx1 hh1
    cases d with
    | bl k =>
      cases k with
      | false => exact ⟨false, r1, iteF (h4 A G1 ε' σ H1 xs Q hA R1 (EPost.ahead (fun z => Bool.and_eq_true_iff.mp z) s1 hx1 hh1 q))⟩
      | true => exact ⟨true, r1, iteT (q (.bl true) H1 G1 [] R1 ⟨rfl, rfl⟩ s1 hx1 fun z => hh1 (Bool.and_eq_true_iff.mp z).1)⟩
    | _ => exact q.elim
theorem de_not (h : DE X C (.o 0) p a fa) : DE X C (.o 0) p (.UnaryOp .Not a pos) (mNotV fa) := by
  obtain ⟨t, h1, h2⟩ := h
  refine ⟨_, pe_not h1, fun A G ε σ H xs Q hA R q => h2 A G ε σ H xs _ hA R ?_⟩
  unfold mNotV at q
  cases r : fa ε with
  | no => rw [r] at q; exact q
  | er x ε' => rw [r] at q; exact q
  | ok d ε' =>
    rw [r] at q
    rintro v1 H1 G1 fp R1 ⟨rfl, r1⟩ s1 hx1 hh1
    cases d with
    | bl k => exact ⟨k, r1, q (.bl (!k)) H1 G1 [] R1 ⟨rfl, rfl⟩ s1 hx1 hh1⟩
    | _ => exact q.elim
def mIf (c : Ev → Rs Bool) (f g : Ev → Rs Dt) : Ev → Rs Dt := fun ε => (c ε).bind fun b ε1 => if b = true then f ε1 else g ε1
theorem de_if {m : Md} {p3 : Bool} {c : Expr} (hc : DT X C p1 c ga) (ha : DE X C m p2 a fa) (hb : DE X C m p3 b fb) : DE X C m (p1 && (p2 && p3)) (.IfExp c a b pos) (mIf ga fa fb) := by
  obtain ⟨t, h1, h2⟩ := hc
  obtain ⟨u, h3, h4⟩ := ha
  obtain ⟨w, h5, h6⟩ := hb
  refine ⟨_, pe_ifExp h1 h3 h5, fun A G ε σ H xs Q hA R q => h2 A G ε σ H xs _ hA R ?_⟩
  unfold mIf at q
  cases r : ga ε with
  | no => rw [r] at q; exact q
  | er x ε' => rw [r] at q; exact q
  | ok d ε' =>
    rw [r] at q
    intro H1 G1 R1 s1 hx1 hh1
    have q : EPost X.K C A m (p1 && (p2 && p3)) G H σ xs (if d = true then fa ε' else fb ε') Q := q
    cases d with
    | true => exact iteT (h4 A G1 ε' σ H1 xs Q hA R1 (EPost.ahead (fun z => ⟨(Bool.and_eq_true_iff.mp z).1, (Bool.and_eq_true_iff.mp (Bool.and_eq_true_iff.mp z).2).1⟩) s1 hx1 hh1 q))
    | false => exact iteF (h6 A G1 ε' σ H1 xs Q hA R1 (EPost.ahead (fun z => ⟨(Bool.and_eq_true_iff.mp z).1, (Bool.and_eq_true_iff.mp (Bool.and_eq_true_iff.mp z).2).2⟩) s1 hx1 hh1 q))
end
end Mir

set_option Elab.async false
set_option linter.all false
set_option maxRecDepth 100000
set_option maxHeartbeats 400000
namespace Mir
open PySem PySem.Spec PyProof.Rows L2 He

/-! ### statements -/
def So.seq (r : So) (h : Ev → So) : So := match r with
  | .nx ε => h ε
  | r => r
def So.of {α : Type} (r : Rs α) (h : α → Ev → So) : So := match r with
  | .ok a ε => h a ε
  | .er x ε => .er x ε
  | .no => .no
def sSeq (g h : Ev → So) : Ev → So := fun ε => (g ε).seq h
def sNx : Ev → So := .nx
def sBk : Ev → So := .bk
def sCt : Ev → So := .ct
def sNo : Ev → So := fun _ => .no
def sRet (f : Ev → Rs Dt) : Ev → So := fun ε => So.of (f ε) .rt
def sRetN : Ev → So := fun ε => .rt .non ε
def sDrop (f : Ev → Rs Dt) : Ev → So := fun ε => So.of (f ε) fun _ ε1 => .nx ε1
def sIf (c : Ev → Rs Bool) (g h : Ev → So) : Ev → So := fun ε => So.of (c ε) fun b ε1 => if b = true then g ε1 else h ε1
def sAsg (f : Ev → Rs Dt) (t : Dt → Ev → Rs Unit) : Ev → So := fun ε => So.of (f ε) fun d ε1 => (match t d ε1 with
  | .ok _ ε2 => .nx ε2
  | _ => .no)
def gSet (i k : Nat) : Dt → Ev → Rs Unit := fun d ε => .ok () (ε.set i (.vl k d))
def gNone : List Dt → Ev → Rs Unit := fun ds ε => match ds with
  | [] => .ok () ε
  | _ => .no
def gMore (t : Dt → Ev → Rs Unit) (u : List Dt → Ev → Rs Unit) : List Dt → Ev → Rs Unit := fun ds ε => match ds with
  | d :: r => (t d ε).bind fun _ ε1 => u r ε1
  | [] => .no
def gUnp (u : List Dt → Ev → Rs Unit) : Dt → Ev → Rs Unit := fun d ε => match d with
  | .tup ds => u ds ε
  | _ => .no
/-- behind a turn of a loop -/
def So.turn (r : So) (next : Ev → So) : So := match r with
  | .nx ε => next ε
  | .ct ε => next ε
  | .bk ε => .nx ε
  | .rt d ε => .rt d ε
  | .er x ε => .er x ε
  | .no => .no
/-- a loop over written-out items -/
def loopL (t : Dt → Ev → Rs Unit) (body : Ev → So) : List Dt → Ev → So
  | [], ε => .nx ε
  | d :: r, ε => match t d ε with
    | .ok _ ε1 => (body ε1).turn (loopL t body r)
    | _ => .no
def sFor (it : Ev → Rs (List Dt)) (t : Dt → Ev → Rs Unit) (body : Ev → So) : Ev → So := fun ε => So.of (it ε) fun ds ε1 => loopL t body ds ε1
def loopW (c : Ev → Rs Bool) (body : Ev → So) : Nat → Ev → So
  | 0, _ => .no
  | n + 1, ε => So.of (c ε) fun b ε1 => if b = true then (body ε1).turn (loopW c body n) else .nx ε1
def sWhile (fuel : Nat) (c : Ev → Rs Bool) (body : Ev → So) : Ev → So := fun ε => loopW c body fuel ε
section
variable {K : PySem.W.Frag} {C : Cn} {A : Act} {G H : Hp} {ε : Ev} {σ : L2.St} {k : Nat} {D : Ends}
theorem tssat_seq {t u : TS} {g h : Ev → So} (ht : TSSat K C k t g) (hu : TSSat K C k u h) : TSSat K C k (tSeq t u) (sSeq g h) := fun A G ε σ H D hA R q => by
  refine ht A G ε σ H _ hA R ?_
  unfold sSeq So.seq at q
  cases e : g ε with
  | nx ε1 =>
    rw [e] at q
    exact fun σ' H' G' R' s => hu A G' ε1 σ' H' D hA R' (SPost.ahead s (σ := σ) q)
  | no => rw [e] at q; exact q
  | er x ε1 => rw [e] at q; exact q
  | bk ε1 => rw [e] at q; exact q
  | ct ε1 => rw [e] at q; exact q
  | rt d ε1 => rw [e] at q; exact q
theorem tssat_drop {m : Md} {p : Bool} {te : TE} {f : Ev → Rs Dt} (h : TSat K C m p te f) : TSSat K C k (tDrop te) (sDrop f) := fun A G ε σ H D hA R q => by
  refine h A G ε σ H [] _ hA R ?_
  unfold sDrop So.of at q
  cases e : f ε with
  | no => rw [e] at q; exact q
  | er x ε1 => rw [e] at q; exact q.err
  | ok d ε1 =>
    rw [e] at q
    exact fun v H' G' fp R' _ s _ _ => q σ H' G' (by have := R'.drop; exact this) s
theorem tssat_ret {p : Bool} {te : TE} {f : Ev → Rs Dt} (h : TSat K C (.o k) p te f) : TSSat K C k (tRet te) (sRet f) := fun A G ε σ H D hA R q => by
  refine h A G ε σ H [] _ hA R ?_
  unfold sRet So.of at q
  cases e : f ε with
  | no => rw [e] at q; exact q
  | er x ε1 => rw [e] at q; exact q.err
  | ok d ε1 =>
    rw [e] at q
    exact fun v H' G' fp R' o s _ _ => q σ v H' G' fp (by rw [List.append_nil] at R'; exact R') o s
theorem tssat_if {p : Bool} {tc : TT} {t u : TS} {c : Ev → Rs Bool} {g h : Ev → So} (hc : TTSat K C p tc c) (ht : TSSat K C k t g) (hu : TSSat K C k u h) : TSSat K C k (tIfS tc t u) (sIf c g h) := fun A G ε σ H D hA R q => by
  refine hc A G ε σ H [] _ hA R ?_
  unfold sIf So.of at q
  cases e : c ε with
  | no => rw [e] at q; exact q
  | er x ε1 => rw [e] at q; exact q.err
  | ok b ε1 =>
    rw [e] at q
    have q : SPost K C A k G σ (if b = true then g ε1 else h ε1) D := q
    intro H1 G1 R1 s1 _ _
    cases b with
    | true => exact iteT (ht A G1 ε1 σ H1 D hA R1 (SPost.ahead s1 (σ := σ) q))
    | false => exact iteF (hu A G1 ε1 σ H1 D hA R1 (SPost.ahead s1 (σ := σ) q))
theorem tssat_asg {p : Bool} {j : Nat} {te : TE} {tg : TG} {f : Ev → Rs Dt} {g : Dt → Ev → Rs Unit} (h : TSat K C (.o j) p te f) {tv : List Nat} {gp : Bool} (hg : TGSat K C gp j tv tg g) : TSSat K C k (tAsg te tg) (sAsg f g) := fun A G ε σ H D hA R q => by
  refine h A G ε σ H [] _ hA R ?_
  unfold sAsg So.of at q
  cases e : f ε with
  | no => rw [e] at q; exact q
  | er x ε1 => rw [e] at q; exact q.err
  | ok d ε1 =>
    rw [e] at q
    intro v H' G' fp R' o s _ _
    refine hg A G' ε1 σ H' [] fp d v _ hA R' o ?_
    have q : SPost K C A k G σ (match g d ε1 with
      | .ok _ ε2 => .nx ε2
      | _ => .no) D := q
    cases e2 : g d ε1 with
    | no => rw [e2] at q; exact q
    | er x ε1 => rw [e2] at q; exact q
    | ok u ε2 =>
      rw [e2] at q
      exact fun σ' H2 G2 R2 s2 _ _ _ => q σ' H2 G2 R2 (s.trans s2)
/-! ### targets -/
theorem tgsat_set {i : Nat} (hi : i ∉ C.np) : TGSat K C true k [i] (gName i) (gSet i k) := fun A G ε σ H xs fp d v Q hA R o q =>
  q _ H G (R.store (hA.no hi) o) (Same.refl G) (fun _ _ => rfl) ⟨List.length_set, fun j hj => List.getElem?_set_ne (fun z => hj (by rw [z]; exact List.mem_cons_self))⟩ fun _ => Same.refl H
def TGsSat (K : PySem.W.Frag) (C : Cn) (gp : Bool) (tv : List Nat) (t : TGs) (g : List Dt → Ev → Rs Unit) : Prop :=
  ∀ (A : Act) (G : Hp) (ε : Ev) (σ : L2.St) (H : Hp) (xs : List Addr) (ds : List Dt) (vs : List V) (Q : L2.St → Hp → Prop), A.in_ C → RG K A G ε σ H xs → DenL K G ds vs →
    GPost K A gp tv G H σ xs (g ds ε) Q → t vs σ H Q
theorem tgssat_nil : TGsSat K C true [] gNil gNone := fun A G ε σ H xs ds vs Q hA R h q => by
  cases ds with
  | nil => exact ⟨h, q σ H G R (Same.refl G) (fun _ _ => rfl) ⟨rfl, fun _ _ => rfl⟩ fun _ => Same.refl H⟩
  | cons d r => exact q.elim
theorem tgssat_cons {t : TG} {u : TGs} {g : Dt → Ev → Rs Unit} {h : List Dt → Ev → Rs Unit} {tv tw : List Nat} {g1 g2 : Bool} (ht : TGSat K C g1 0 tv t g) (hu : TGsSat K C g2 tw u h) : TGsSat K C (g1 && g2) (tv ++ tw) (gCons t u) (gMore g h) := fun A G ε σ H xs ds vs Q hA R hd q => by
  cases ds with
  | nil => exact q.elim
  | cons d r =>
    obtain ⟨v, ws, rfl, h1, h2⟩ := hd
    refine ⟨v, ws, rfl, ht A G ε σ H xs [] d v _ hA R ⟨rfl, h1⟩ ?_⟩
    have q : GPost K A (g1 && g2) (tv ++ tw) G H σ xs ((g d ε).bind fun _ ε1 => h r ε1) Q := q
    cases e : g d ε with
    | no => rw [e] at q; exact q
    | er x ε1 => rw [e] at q; exact q
    | ok u ε1 =>
      rw [e] at q
      intro σ1 H1 G1 R1 s1 hx1 hσ1 hh1
      refine hu A G1 ε1 σ1 H1 xs r ws Q hA R1 (h2.mono s1) ?_
      have q : GPost K A (g1 && g2) (tv ++ tw) G H σ xs (h r ε1) Q := q
      cases e2 : h r ε1 with
      | no => rw [e2] at q; exact q
      | er x ε1 => rw [e2] at q; exact q
      | ok u ε2 =>
        rw [e2] at q
        exact fun σ' H' G' R' s hx hσ hh => q σ' H' G' R' (s1.trans s) (fun a ha => (hx a ha).trans (hx1 a ha)) ⟨hσ.1.trans hσ1.1, fun j hj => (hσ.2 j fun z => hj (List.mem_append_right _ z)).trans (hσ1.2 j fun z => hj (List.mem_append_left _ z))⟩ fun z => (hh1 (Bool.and_eq_true_iff.mp z).1).trans (hh (Bool.and_eq_true_iff.mp z).2)
theorem tgsat_unp {n : Nat} {t : TGs} {g : List Dt → Ev → Rs Unit} {tv : List Nat} {gp : Bool} (h : TGsSat K C gp tv t g) (hn : ∀ ds ε u ε', g ds ε = .ok u ε' → ds.length = n) : TGSat K C gp 0 tv (gTup K n t) (gUnp g) := fun A G ε σ H xs fp d v Q hA R o q => by
  obtain ⟨rfl, o⟩ := o
  cases d with
  | tup ds =>
    obtain ⟨a, vs, rfl, e, hd⟩ := o
    refine ⟨a, vs, rfl, .inl (.inl (R.sub _ _ e)), ?_, h A G ε σ H xs ds vs Q hA R hd q⟩
    have q : GPost K A gp tv G H σ xs (g ds ε) Q := q
    rw [hd.length]
    cases e2 : g ds ε with
    | no => rw [e2] at q; exact False.elim q
    | er x ε1 => rw [e2] at q; exact False.elim q
    | ok u ε2 => exact hn _ _ _ _ e2
  | _ => exact q.elim
inductive TgN : (List Dt → Ev → Rs Unit) → Nat → Prop where
  | nil : TgN gNone 0
  | cons {t : Dt → Ev → Rs Unit} {u : List Dt → Ev → Rs Unit} {n : Nat} (h : TgN u n) : TgN (gMore t u) (n + 1)
theorem TgN.len {g : List Dt → Ev → Rs Unit} {n : Nat} (h : TgN g n) : ∀ ds ε u ε', g ds ε = .ok u ε' → ds.length = n := by
  induction h with
  | nil =>
    intro ds ε u ε' e
    cases ds with
    | nil => rfl
    | cons d r => cases e
  | cons h ih =>
    rename_i t u n
    intro ds ε w ε' e
    cases ds with
    | nil => cases e
    | cons d r =>
      have e : (t d ε).bind (fun _ ε1 => u r ε1) = .ok w ε' := e
      cases e1 : t d ε with
      | no => rw [e1] at e; cases e
      | er x ε1 => rw [e1] at e; cases e
      | ok z ε1 =>
        rw [e1] at e
        rw [List.length_cons, ih r ε1 w ε' e]
/-! ### what a for walks: its items, fixed ahead -/
def YR (K : PySem.W.Frag) (G : Hp) (H : Hp) (x : V) (H' : Hp) (d : Dt) : Prop :=
  (H' = H ∧ Den K G d x) ∨ ∃ T us es, x = .ref T ∧ H T = none ∧ H' = upd H T (.tup us) ∧ d = .tup es ∧ DenL K G es us
structure ItOk (K : PySem.W.Frag) (J : It) (G : Hp) (ds : List Dt) : Prop where
  go : ∀ i H, i < ds.length → Same G H → J.go i H
  stop : ∀ H, Same G H → J.stop ds.length H
  yld : ∀ i H x H', i < ds.length → Same G H → J.yld i H x H' → ∃ d, ds[i]? = some d ∧ YR K G H x H' d
def IPost (K : PySem.W.Frag) (C : Cn) (A : Act) (p : Bool) (G H : Hp) (σ : L2.St) (xs : List Addr) (r : Rs (List Dt)) (R : It → Hp → Prop) : Prop := match r with
  | .ok ds ε => ∀ J H' G', RG K A G' ε σ H' xs → ItOk K J G' ds → Same G G' → (∀ a ∈ xs, H' a = H a) → (p = true → Same H H') → R J H'
  | .er x ε => ErP K C A G σ x ε
  | .no => False
def TISat (K : PySem.W.Frag) (C : Cn) (p : Bool) (wi : TI) (f : Ev → Rs (List Dt)) : Prop :=
  ∀ (A : Act) (G : Hp) (ε : Ev) (σ : L2.St) (H : Hp) (xs : List Addr) (R : It → Hp → Prop), A.in_ C → RG K A G ε σ H xs → IPost K C A p G H σ xs (f ε) R → wi σ H R
/-- what is yielded, laid onto the settled part -/
theorem YR.step {G' H' : Hp} {x : V} {d : Dt} {xs : List Addr} (R : RG K A G ε σ H xs) {G0 : Hp} (s0 : Same G0 G) (y : YR K G0 H x H' d) : ∃ G1, RG K A G1 ε σ H' xs ∧ Same G G1 ∧ Den K G1 d x ∧ (∀ a ∈ xs, H' a = H a) ∧ Same H H' := by
  rcases y with ⟨rfl, h⟩ | ⟨T, us, es, rfl, hT, rfl, rfl, h⟩
  · exact ⟨G, R, Same.refl G, h.mono s0, fun _ _ => rfl, Same.refl _⟩
  · exact ⟨_, R.new_settled hT, upd_keep (R.gf hT), ⟨T, us, rfl, upd_same, (h.mono s0).mono (upd_keep (R.gf hT))⟩, fun a ha => upd_ne (R.xne hT ha), upd_keep hT⟩
theorem tssat_for {p : Bool} {wi : TI} {tg : TG} {tb : TS} {it : Ev → Rs (List Dt)} {t : Dt → Ev → Rs Unit} {body : Ev → So} (hi : TISat K C p wi it) {tv : List Nat} {gp : Bool} (hg : TGSat K C gp 0 tv tg t) (hb : TSSat K C k tb body) : TSSat K C k (tFor wi tg tb) (sFor it t body) := fun A G ε σ H D hA R q => by
  refine hi A G ε σ H [] _ hA R ?_
  unfold sFor So.of at q
  cases e : it ε with
  | no => rw [e] at q; exact q
  | er x ε1 => rw [e] at q; exact q.err
  | ok ds ε1 =>
    rw [e] at q
    have q : SPost K C A k G σ (loopL t body ds ε1) D := q
    intro J H1 G1 R1 ok s1 _ _
    refine ⟨fun i m σ' H' => m = ds.length - i ∧ i ≤ ds.length ∧ ∃ G' ε', Same G1 G' ∧ RG K A G' ε' σ' H' [] ∧ SPost K C A k G' σ' (loopL t body (ds.drop i) ε') D, ⟨_, rfl, Nat.zero_le _, G1, ε1, Same.refl _, R1, SPost.ahead s1 (σ := σ) q⟩, ?_⟩
    rintro i m σ' H' ⟨rfl, hle, G', ε', s', R', q'⟩
    by_cases hlt : i < ds.length
    · refine .inr ⟨ok.go i H' hlt (s'.trans R'.sub), fun σ2 H2 => ∃ G2 ε2, Same G1 G2 ∧ RG K A G2 ε2 σ2 H2 [] ∧ SPost K C A k G2 σ2 (loopL t body (ds.drop (i + 1)) ε2) D, fun σ2 H2 z => ⟨ds.length - (i + 1), by omega, rfl, hlt, z⟩, fun x H2 y => ?_⟩
      obtain ⟨d, hd, yr⟩ := ok.yld i H' x H2 hlt (s'.trans R'.sub) y
      obtain ⟨G2, R2, s2, hx, _, _⟩ := yr.step (G' := G1) R' s'
      refine hg A G2 ε' σ' H2 [] [] d x _ hA R2 ⟨rfl, hx⟩ ?_
      have e0 : ds.drop i = d :: ds.drop (i + 1) := by
        rw [List.drop_eq_getElem_cons hlt]
        rw [List.getElem?_eq_getElem hlt] at hd
        rw [Option.some.inj hd]
      rw [e0] at q'
      unfold loopL at q'
      cases e1 : t d ε' with
      | no => rw [e1] at q'; exact q'
      | er x ε1 => rw [e1] at q'; exact q'
      | ok u ε2 =>
        rw [e1] at q'
        intro σ3 H3 G3 R3 s3 _ _ _
        refine hb A G3 ε2 σ3 H3 _ hA R3 ?_
        have s03 : Same G1 G3 := s'.trans (s2.trans s3)
        have q2 : SPost K C A k G3 σ3 ((body ε2).turn (loopL t body (ds.drop (i + 1)))) D := SPost.ahead (s2.trans s3) (σ1 := σ3) q'
        cases e2 : body ε2 with
        | nx ε3 => rw [e2] at q2; exact fun σ4 H4 G4 R4 s4 => ⟨G4, ε3, s03.trans s4, R4, SPost.ahead s4 (σ1 := σ4) q2⟩
        | ct ε3 => rw [e2] at q2; exact fun σ4 H4 G4 R4 s4 => ⟨G4, ε3, s03.trans s4, R4, SPost.ahead s4 (σ1 := σ4) q2⟩
        | bk ε3 => rw [e2] at q2; exact q2
        | rt d3 ε3 => rw [e2] at q2; exact q2
        | er x ε3 => rw [e2] at q2; exact q2
        | no => rw [e2] at q2; exact q2
    · have : i = ds.length := by omega
      subst this
      rw [List.drop_length] at q'
      exact .inl ⟨ok.stop H' (s'.trans R'.sub), q' σ' H' G' R' (Same.refl _)⟩
theorem tssat_while {fuel : Nat} {p : Bool} {tc : TT} {tb : TS} {c : Ev → Rs Bool} {body : Ev → So} (hc : TTSat K C p tc c) (hb : TSSat K C k tb body) : TSSat K C k (tWhile tc tb) (sWhile fuel c body) := fun A G ε σ H D hA R q => by
  refine ⟨fun m σ' H' => ∃ G' ε', RG K A G' ε' σ' H' [] ∧ SPost K C A k G' σ' (loopW c body m ε') D, ⟨fuel, G, ε, R, q⟩, ?_⟩
  rintro m σ' H' ⟨G', ε', R', q'⟩
  cases m with
  | zero => exact q'.elim
  | succ n =>
    refine hc A G' ε' σ' H' [] _ hA R' ?_
    unfold loopW So.of at q'
    cases e : c ε' with
    | no => rw [e] at q'; exact q'
    | er x ε1 => rw [e] at q'; exact q'.err
    | ok b ε1 =>
      rw [e] at q'
      intro H1 G1 R1 s1 _ _
      cases b with
      | false => exact iteF (q' σ' H1 G1 R1 s1)
      | true =>
        refine iteT ⟨fun σ2 H2 => ∃ G2 ε2, RG K A G2 ε2 σ2 H2 [] ∧ SPost K C A k G2 σ2 (loopW c body n ε2) D, fun σ2 H2 z => ⟨n, Nat.lt_succ_self n, z⟩, hb A G1 ε1 σ' H1 _ hA R1 ?_⟩
        have q2 : SPost K C A k G' σ' ((body ε1).turn (loopW c body n)) D := q'
        have q2 := SPost.ahead s1 (σ1 := σ') q2
        cases e2 : body ε1 with
        | nx ε3 => rw [e2] at q2; exact fun σ4 H4 G4 R4 s4 => ⟨G4, ε3, R4, SPost.ahead s4 (σ1 := σ4) q2⟩
        | ct ε3 => rw [e2] at q2; exact fun σ4 H4 G4 R4 s4 => ⟨G4, ε3, R4, SPost.ahead s4 (σ1 := σ4) q2⟩
        | bk ε3 => rw [e2] at q2; exact q2
        | rt d3 ε3 => rw [e2] at q2; exact q2
        | er x ε3 => rw [e2] at q2; exact q2
        | no => rw [e2] at q2; exact q2
end
section
variable {X : Cx} {C : Cn} {k : Nat} {p : Bool} {st : Stmt} {sts : List Stmt} {e : Expr} {pos : Pos} {g h : Ev → So} {f : Ev → Rs Dt} {c : Ev → Rs Bool} {t : Dt → Ev → Rs Unit}
theorem db_nil : DB X C k [] sNx := ⟨_, pss_nil, fun A G ε σ H D hA R q => q σ H G R (Same.refl G)⟩
theorem db_one (h1 : DS X C k st g) : DB X C k [st] g := by
  obtain ⟨t, a, b⟩ := h1
  exact ⟨_, pss_one a, b⟩
theorem db_cons {s2 : Stmt} (h1 : DS X C k st g) (h2 : DB X C k (s2 :: sts) h) : DB X C k (st :: s2 :: sts) (sSeq g h) := by
  obtain ⟨t, a, b⟩ := h1
  obtain ⟨u, a', b'⟩ := h2
  exact ⟨_, pss_cons a a', tssat_seq b b'⟩
theorem ds_pass : DS X C k (.Pass pos) sNx := ⟨_, ps_pass, fun A G ε σ H D hA R q => q σ H G R (Same.refl G)⟩
theorem ds_break : DS X C k (.Break pos) sBk := ⟨_, ps_break, fun A G ε σ H D hA R q => q σ H G R (Same.refl G)⟩
theorem ds_continue : DS X C k (.Continue pos) sCt := ⟨_, ps_continue, fun A G ε σ H D hA R q => q σ H G R (Same.refl G)⟩
theorem ds_never : DS X C k st sNo := ⟨_, ps_never, fun A G ε σ H D hA R q => q⟩
theorem db_never : DB X C k sts sNo := ⟨_, pss_never, fun A G ε σ H D hA R q => q⟩
theorem ds_expr {m : Md} (he : DE X C m p e f) (hs : swapsWith e none pos.line X.env = pure false := by rfl) : DS X C k (.Expr e pos) (sDrop f) := by
  obtain ⟨u, a, b⟩ := he
  exact ⟨_, ps_expr a hs, tssat_drop b⟩
theorem ds_ret (he : DE X C (.o k) p e f) : DS X C k (.Return (some e) pos) (sRet f) := by
  obtain ⟨u, a, b⟩ := he
  exact ⟨_, ps_ret a, tssat_ret b⟩
theorem ds_retN (hk : k = 0) : DS X C k (.Return none pos) sRetN := ⟨_, ps_retN, fun A G ε σ H D hA R q => q σ .non H G [] R (by subst hk; exact ⟨rfl, rfl⟩) (Same.refl G)⟩
theorem ds_if {cnd : Expr} {a b : List Stmt} (hc : DT X C p cnd c) (ha : DB X C k a g) (hb : DB X C k b h) : DS X C k (.If cnd a b pos) (sIf c g h) := by
  obtain ⟨u, a1, a2⟩ := hc
  obtain ⟨v, b1, b2⟩ := ha
  obtain ⟨w, c1, c2⟩ := hb
  exact ⟨_, ps_if a1 b1 c1, tssat_if a2 b2 c2⟩
theorem ds_set {i j : Nat} {x : Str} {pos' : Pos} (hN : X.N.Nodup) (hi : X.N[i]? = some x) (hx : Loc X.env.scope x) (hn : i ∉ C.np) (he : DE X C (.o j) p e f) (hs : swapsWith e (some (.Name x pos')) pos.line X.env = pure false := by rfl)
    (hf : X.fn x = true ∨ X.env.scope.names.lookup x = some .local := by first | exact .inl rfl | exact .inr rfl | assumption) : DS X C k (.Assign [.Name x pos'] e pos) (sAsg f (gSet i j)) := by
  obtain ⟨u, a, b⟩ := he
  exact ⟨_, ps_set hN hi hx a hs hf, tssat_asg b (tgsat_set hn)⟩
theorem dg_name {i : Nat} {x : Str} (hN : X.N.Nodup) (hi : X.N[i]? = some x) (hx : Loc X.env.scope x) (hn : i ∉ C.np) (hf : X.fn x = true ∨ X.env.scope.names.lookup x = some .local := by first | exact .inl rfl | exact .inr rfl | assumption) : DG X C true k [i] (.Name x pos) (gSet i k) :=
  ⟨_, pg_name hN hi hx hf, tgsat_set hn⟩
def DGs (X : Cx) (C : Cn) (gp : Bool) (tv : List Nat) (es : List Expr) (g : List Dt → Ev → Rs Unit) : Prop := ∃ t, PGs X es t ∧ TGsSat X.K C gp tv t g
theorem dgs_nil : DGs X C true [] [] gNone := ⟨_, pgs_nil, tgssat_nil⟩
theorem dgs_cons {es : List Expr} {u : List Dt → Ev → Rs Unit} {tv tw : List Nat} {g1 g2 : Bool} (h1 : DG X C g1 0 tv e t) (h2 : DGs X C g2 tw es u)
    (hs : (assignEach (e :: es) X.env).map (·.2) = assign e X.env :: (assignEach es X.env).map (·.2) := by rfl) : DGs X C (g1 && g2) (tv ++ tw) (e :: es) (gMore t u) := by
  obtain ⟨a, b, c⟩ := h1
  obtain ⟨a', b', c'⟩ := h2
  exact ⟨_, pgs_cons b b' hs, tgssat_cons c c'⟩
theorem dg_tup {es : List Expr} {j n : Nat} {u : List Dt → Ev → Rs Unit} {tv : List Nat} {gp : Bool} (hc : X.calm = true) (h : DGs X C gp tv es u) (hN : TgN u n)
    (hn : (assignEach es X.env).length = n := by rfl) (hst : (assignEach es X.env).findIdx? (·.1) = none := by rfl) : DG X C gp 0 tv (.Tuple es j pos) (gUnp u) := by
  obtain ⟨a, b, c⟩ := h
  exact ⟨_, pg_tup hc b hn hst, tgsat_unp c hN.len⟩
theorem ds_asg {j : Nat} {tg : Expr} {tv : List Nat} {gp : Bool} (he : DE X C (.o j) p e f) (hg : DG X C gp j tv tg t) (hs : swapsWithSole [tg] e pos.line X.env = pure false := by rfl) (hw : swappedStores [tg] e X.env = pure none := by rfl)
    (h1 : (assignEach [tg] X.env).map (·.2) = [assign tg X.env] := by rfl) : DS X C k (.Assign [tg] e pos) (sAsg f t) := by
  obtain ⟨u, a, b⟩ := he
  obtain ⟨w, a', b'⟩ := hg
  exact ⟨_, ps_asg a a' hs hw h1, tssat_asg b b'⟩
def DI (X : Cx) (C : Cn) (p : Bool) (tg iter : Expr) (f : Ev → Rs (List Dt)) : Prop := ∃ wi, PI X tg iter wi ∧ TISat X.K C p wi f
theorem ds_for {tg iter : Expr} {body : List Stmt} {it : Ev → Rs (List Dt)} (hp : PassesOwn (model X.prog X.w) X.A X.env X.xe) (hc : X.calm = true) {tv : List Nat} {gp : Bool} (hi : DI X C p tg iter it) (hg : DG X C gp 0 tv tg t) (hb : DB X C k body g)
    (hs : ∀ x, foldedSetIterable iter X.env x = pure x := by intro _; rfl) : DS X C k (.For tg iter body [] pos) (sFor it t g) := by
  obtain ⟨u, a, b⟩ := hi
  obtain ⟨v, a', b'⟩ := hg
  obtain ⟨w, a'', b''⟩ := hb
  exact ⟨_, ps_for hp hc a a' a'' hs, tssat_for b b' b''⟩
theorem ds_while {cnd : Expr} {body : List Stmt} (fuel : Nat) (hp : PassesOwn (model X.prog X.w) X.A X.env X.xe) (hc : DT X C p cnd c) (hb : DB X C k body g) : DS X C k (.While cnd body [] pos) (sWhile fuel c g) := by
  obtain ⟨u, a, b⟩ := hc
  obtain ⟨w, a'', b''⟩ := hb
  exact ⟨_, ps_while hp a a'', tssat_while b b''⟩
/-! ### iterators -/
def mIter (f : Ev → Rs Dt) : Ev → Rs (List Dt) := fun ε => (f ε).bind fun d ε1 => match d with
  | .lst ds => .ok ds ε1
  | _ => .no
def mIterT (f : Ev → Rs Dt) : Ev → Rs (List Dt) := fun ε => (f ε).bind fun d ε1 => match d with
  | .tup ds => .ok ds ε1
  | _ => .no
theorem itOk_list {K : PySem.W.Frag} {G : Hp} {a : Addr} {vs : List V} {ds : List Dt} (e : G a = some (.lst vs)) (h : DenL K G ds vs) : ItOk K (Itl K a) G ds where
  go i H hi s := ⟨vs, vs[i]'(by rw [h.length]; exact hi), .inl (.inl (s _ _ e)), List.getElem?_eq_getElem _⟩
  stop H s := ⟨vs, .inl (.inl (s _ _ e)), by rw [h.length]; exact Nat.le_refl _⟩
  yld i H x H' hi s y := by
    obtain ⟨rfl, y⟩ := y
    obtain ⟨d, h1, h2⟩ := h.getV (y vs (.inl (.inl (s _ _ e))))
    exact ⟨d, h1, .inl ⟨rfl, h2⟩⟩
theorem itOk_tup {K : PySem.W.Frag} {G : Hp} {a : Addr} {vs : List V} {ds : List Dt} (e : G a = some (.tup vs)) (h : DenL K G ds vs) : ItOk K (Itt K a) G ds where
  go i H hi s := ⟨vs, vs[i]'(by rw [h.length]; exact hi), .inl (.inl (s _ _ e)), List.getElem?_eq_getElem _⟩
  stop H s := ⟨vs, .inl (.inl (s _ _ e)), by rw [h.length]; exact Nat.le_refl _⟩
  yld i H x H' hi s y := by
    obtain ⟨rfl, y⟩ := y
    obtain ⟨d, h1, h2⟩ := h.getV (y vs (.inl (.inl (s _ _ e))))
    exact ⟨d, h1, .inl ⟨rfl, h2⟩⟩
theorem di_list {tg : Expr} (he : DE X C (.o 0) p e f) : DI X C p tg e (mIter f) := by
  obtain ⟨u, a, b⟩ := he
  refine ⟨_, pi_list a, fun A G ε σ H xs R hA hR q => b A G ε σ H xs _ hA hR ?_⟩
  unfold mIter Rs.bind at q
  cases r : f ε with
  | no => rw [r] at q; exact q
  | er x ε' => rw [r] at q; exact q
  | ok d ε' =>
    rw [r] at q
    rintro v1 H1 G1 fp R1 ⟨rfl, r1⟩ s1 hx1 hh1
    cases d with
    | lst ds =>
      obtain ⟨a, vs, rfl, e1, hd⟩ := r1
      exact ⟨a, rfl, ⟨vs, .inl (.inl (R1.sub _ _ e1))⟩, q _ H1 G1 R1 (itOk_list e1 hd) s1 hx1 hh1⟩
    | _ => exact q.elim
theorem di_tup {tg : Expr} (he : DE X C (.o 0) p e f) : DI X C p tg e (mIterT f) := by
  obtain ⟨u, a, b⟩ := he
  refine ⟨_, pi_tup a, fun A G ε σ H xs R hA hR q => b A G ε σ H xs _ hA hR ?_⟩
  unfold mIterT Rs.bind at q
  cases r : f ε with
  | no => rw [r] at q; exact q
  | er x ε' => rw [r] at q; exact q
  | ok d ε' =>
    rw [r] at q
    rintro v1 H1 G1 fp R1 ⟨rfl, r1⟩ s1 hx1 hh1
    cases d with
    | tup ds =>
      obtain ⟨a, vs, rfl, e1, hd⟩ := r1
      exact ⟨a, rfl, ⟨vs, .inl (.inl (R1.sub _ _ e1))⟩, q _ H1 G1 R1 (itOk_tup e1 hd) s1 hx1 hh1⟩
    | _ => exact q.elim
def rangeD (lo : Int) (n : Nat) : List Dt := (List.range n).map fun i => .int (lo + (i : Nat))
theorem itOk_range {K : PySem.W.Frag} {G : Hp} {lo : Int} {n : Nat} : ItOk K (Itr lo n) G (rangeD lo n) where
  go i H hi s := by show i < n; simpa [rangeD] using hi
  stop H s := by show n ≤ _; simp [rangeD]
  yld i H x H' hi s y := by
    obtain ⟨rfl, rfl⟩ := y
    have hi : i < n := by simpa [rangeD] using hi
    refine ⟨.int (lo + (i : Nat)), by simp [rangeD, hi], .inl ⟨rfl, rfl⟩⟩
def smallR (i : Int) : Bool := decide (-(2 ^ 62) ≤ i) && decide (i < 2 ^ 62)
def int1 (ds : List Dt) : Option Int := match ds with
  | [.int j] => some j
  | _ => none
def int2 (ds : List Dt) : Option (Int × Int) := match ds with
  | [.int i, .int j] => some (i, j)
  | _ => none
theorem int1_eq {ds : List Dt} {j : Int} (h : int1 ds = some j) : ds = [.int j] := by
  unfold int1 at h
  split at h
  · cases h; rfl
  · cases h
theorem int2_eq {ds : List Dt} {i j : Int} (h : int2 ds = some (i, j)) : ds = [.int i, .int j] := by
  unfold int2 at h
  split at h
  · cases h; rfl
  · cases h
def mRange1 (f : Ev → Rs (List Dt)) : Ev → Rs (List Dt) := fun ε => (f ε).bind fun ds ε1 => match int1 ds with
  | some j => if smallR j = true then .ok (rangeD 0 j.toNat) ε1 else .no
  | none => .no
def mRange2 (f : Ev → Rs (List Dt)) : Ev → Rs (List Dt) := fun ε => (f ε).bind fun ds ε1 => match int2 ds with
  | some (i, j) => if smallR i = true ∧ smallR j = true then .ok (rangeD i (j - i).toNat) ε1 else .no
  | none => .no
theorem small_of {j : Int} (h : smallR j = true) : -(2 ^ 62) ≤ j ∧ j < 2 ^ 62 := by
  unfold smallR at h
  rw [Bool.and_eq_true, decide_eq_true_iff, decide_eq_true_iff] at h
  exact h
theorem tisat_range1 {K : PySem.W.Frag} {ta : TA} {fa : Ev → Rs (List Dt)} (ha : TASat K C p ta fa) : TISat K C p (iRng1 ta) (mRange1 fa) := fun A G ε σ H xs R hA hR q => by
  refine ha A G ε σ H xs _ hA hR ?_
  unfold mRange1 Rs.bind at q
  cases r : fa ε with
  | no => rw [r] at q; exact q
  | er x ε' => rw [r] at q; exact q
  | ok ds ε' =>
    rw [r] at q
    intro vs H1 G1 R1 hd s1 hx1 hh1
    have q : IPost K C A p G H σ xs (match int1 ds with
      | some j => if smallR j = true then .ok (rangeD 0 j.toNat) ε' else .no
      | none => .no) R := q
    cases e : int1 ds with
    | none => rw [e] at q; exact q.elim
    | some j =>
      rw [e] at q
      have q : IPost K C A p G H σ xs (if smallR j = true then .ok (rangeD 0 j.toNat) ε' else .no) R := q
      rw [int1_eq e] at hd
      obtain ⟨v, w, rfl, ev, ew⟩ := hd
      obtain rfl : v = .int j := ev
      obtain rfl : w = [] := ew
      by_cases hj : smallR j = true
      · rw [if_pos hj] at q
        exact ⟨j, rfl, (small_of hj).1, (small_of hj).2, q _ H1 G1 R1 itOk_range s1 hx1 hh1⟩
      · rw [if_neg hj] at q
        exact q.elim
theorem tisat_range2 {K : PySem.W.Frag} {ta : TA} {fa : Ev → Rs (List Dt)} (ha : TASat K C p ta fa) : TISat K C p (iRng2 ta) (mRange2 fa) := fun A G ε σ H xs R hA hR q => by
  refine ha A G ε σ H xs _ hA hR ?_
  unfold mRange2 Rs.bind at q
  cases r : fa ε with
  | no => rw [r] at q; exact q
  | er x ε' => rw [r] at q; exact q
  | ok ds ε' =>
    rw [r] at q
    intro vs H1 G1 R1 hd s1 hx1 hh1
    have q : IPost K C A p G H σ xs (match int2 ds with
      | some (i, j) => if smallR i = true ∧ smallR j = true then .ok (rangeD i (j - i).toNat) ε' else .no
      | none => .no) R := q
    cases e : int2 ds with
    | none => rw [e] at q; exact q.elim
    | some ij =>
      obtain ⟨i, j⟩ := ij
      rw [e] at q
      have q : IPost K C A p G H σ xs (if smallR i = true ∧ smallR j = true then .ok (rangeD i (j - i).toNat) ε' else .no) R := q
      rw [int2_eq e] at hd
      obtain ⟨v, w, rfl, ev, v2, w2, rfl, ev2, ew⟩ := hd
      obtain rfl : v = .int i := ev
      obtain rfl : v2 = .int j := ev2
      obtain rfl : w2 = [] := ew
      by_cases hj : smallR i = true ∧ smallR j = true
      · rw [if_pos hj] at q
        exact ⟨i, j, rfl, ⟨(small_of hj.1).1, (small_of hj.1).2, (small_of hj.2).1, (small_of hj.2).2⟩, q _ H1 G1 R1 itOk_range s1 hx1 hh1⟩
      · rw [if_neg hj] at q
        exact q.elim
theorem di_range1 {tg a : Expr} {fa : Ev → Rs (List Dt)} {ps : Pos} (hg : Gl X "range") (hm : X.mg "range" = none) (ha : DA X C p [a] fa) (hs : starEach [a] X.env = [(false, eval a X.env)] := by rfl) : DI X C p tg (.Call (.Name "range" ps) [a] [] pos) (mRange1 fa) := by
  obtain ⟨u, b, c⟩ := ha
  exact ⟨_, pi_range1 hg hm b hs, tisat_range1 c⟩
theorem di_range2 {tg a b : Expr} {fa : Ev → Rs (List Dt)} {ps : Pos} (hg : Gl X "range") (hm : X.mg "range" = none) (ha : DA X C p [a, b] fa) (hs : starEach [a, b] X.env = [(false, eval a X.env), (false, eval b X.env)] := by rfl) (hs2 : starEach [b] X.env = [(false, eval b X.env)] := by rfl) :
    DI X C p tg (.Call (.Name "range" ps) [a, b] [] pos) (mRange2 fa) := by
  obtain ⟨u, b, c⟩ := ha
  exact ⟨_, pi_range2 hg hm b hs hs2, tisat_range2 c⟩
end
end Mir

set_option Elab.async false
set_option linter.all false
set_option maxRecDepth 100000
set_option maxHeartbeats 400000
namespace Mir
open PySem PySem.Spec PyProof.Rows L2 He

/-! ### what a def is worth: data in, data out. ms: how deep each parameter is owned (0: settled); k: how deep the answer is -/
inductive Fo where
  | ok (d : Dt) (outs : List Dt) | er (x : Xc) (outs : List Dt) | no
def ArR (K : PySem.W.Frag) (H G : Hp) : List Nat → List Dt → List V → List (List Addr) → Prop
  | [], ds, vs, fps => ds = [] ∧ vs = [] ∧ fps = []
  | m :: ms, ds, vs, fps => ∃ d ds' v vs' fp fps', ds = d :: ds' ∧ vs = v :: vs' ∧ fps = fp :: fps' ∧ Ow K H G m d v fp ∧ ArR K H G ms ds' vs' fps'
/-- the owned ones behind the call -/
def OuR (K : PySem.W.Frag) (H G : Hp) : List Nat → List Dt → List V → List (List Addr) → Prop
  | [], ds, vs, fps => ds = [] ∧ vs = [] ∧ fps = []
  | m :: ms, ds, vs, fps => ∃ d ds' v vs' fp fps', ds = d :: ds' ∧ vs = v :: vs' ∧ fps = fp :: fps' ∧ (m = 0 → fp = []) ∧ (m ≠ 0 → Ow K H G m d v fp) ∧ OuR K H G ms ds' vs' fps'
def FPost (K : PySem.W.Frag) (ms : List Nat) (k : Nat) (G H : Hp) (vs : List V) (fps : List (List Addr)) (r : Fo) (Q : VK) (E : XK) : Prop := match r with
  | .no => False
  | .ok d outs => ∀ v H' G' fps' fp, Same G G' → Same G' H' → (∀ b o, H b = some o → cnt b fps = 0 → H' b = some o) → (∀ b, H' b = none → H b = none) → (∀ b, G' b ≠ none → G b ≠ none ∨ H b = none) →
      OuR K H' G' ms outs vs fps' → Ow K H' G' k d v fp → (∀ a, cnt a fps' + fp.count a ≤ 1) → (∀ a, 0 < cnt a fps' → G' a = none ∧ H' a ≠ none ∧ (0 < cnt a fps ∨ H a = none)) → (∀ a ∈ fp, G' a = none ∧ H' a ≠ none ∧ H a = none) → Q v H'
  | .er x outs => ∀ cls dd H' G' fps', Same G G' → Same G' H' → (∀ b o, H b = some o → cnt b fps = 0 → H' b = some o) → (∀ b, H' b = none → H b = none) → (∀ b, G' b ≠ none → G b ≠ none ∨ H b = none) →
      OuR K H' G' ms outs vs fps' → (∀ a, cnt a fps' ≤ 1) → (∀ a, 0 < cnt a fps' → G' a = none ∧ H' a ≠ none ∧ (0 < cnt a fps ∨ H a = none)) → XcR K G' x cls dd → E cls dd H'
def spD (K : PySem.W.Frag) (ms : List Nat) (k : Nat) (F : List Dt → Fo) : Sp := fun vs H Q E => ∃ (ds : List Dt) (G : Hp) (fps : List (List Addr)), Same G H ∧ ArR K H G ms ds vs fps ∧ (∀ a, cnt a fps ≤ 1) ∧
  (∀ a, 0 < cnt a fps → G a = none ∧ H a ≠ none) ∧ FPost K ms k G H vs fps (F ds) Q E
theorem ArR.len {K : PySem.W.Frag} {H G : Hp} : ∀ {ms : List Nat} {ds : List Dt} {vs : List V} {fps : List (List Addr)}, ArR K H G ms ds vs fps → vs.length = ms.length
  | [], _, _, _, ⟨_, e, _⟩ => by rw [e]; rfl
  | _ :: _, _, _, _, ⟨_, _, _, _, _, _, _, e, _, _, t⟩ => by rw [e, List.length_cons, List.length_cons, t.len]
/-! ### at the entry -/
def entryE : List Nat → List Dt → Ev
  | m :: ms, d :: ds => .vl m d :: entryE ms ds
  | _, _ => []
/-- the names at the entry: the parameters, then n more -/
def entry (ms : List Nat) (n : Nat) (ds : List Dt) : Ev := entryE ms ds ++ List.replicate n .un
/-- the owned parameters' values at the end -/
def outs : List Nat → Ev → Option (List Dt)
  | [], _ => some []
  | 0 :: ms, _ :: ε => (outs ms ε).map fun l => .non :: l
  | (m + 1) :: ms, .vl k d :: ε => if k = m + 1 then (outs ms ε).map fun l => d :: l else none
  | _, _ => none
def finish (ms : List Nat) (r : So) : Fo := match r with
  | .nx ε => (match outs ms ε with
    | some l => .ok .non l
    | none => .no)
  | .rt d ε => (match outs ms ε with
    | some l => .ok d l
    | none => .no)
  | .er x ε => (match outs ms ε with
    | some l => .er x l
    | none => .no)
  | _ => .no
/-- a def: its owned parameters, how many names more, its body -/
def mFn (ms : List Nat) (n : Nat) (body : Ev → So) : List Dt → Fo := fun ds => finish ms (body (entry ms n ds))
/-- the slots of owned parameters -/
def npOf : Nat → List Nat → List Nat
  | _, [] => []
  | i, 0 :: ms => npOf (i + 1) ms
  | i, (_ + 1) :: ms => i :: npOf (i + 1) ms
def fixOf : Nat → List Nat → List V → List (Nat × V)
  | i, 0 :: ms, _ :: vs => fixOf (i + 1) ms vs
  | i, (_ + 1) :: ms, v :: vs => (i, v) :: fixOf (i + 1) ms vs
  | _, _, _ => []
section
variable {K : PySem.W.Frag} {G H : Hp}
theorem fixOf_np : ∀ {ms : List Nat} {vs : List V} {i : Nat}, ∀ p ∈ fixOf i ms vs, p.1 ∈ npOf i ms
  | [], _, _, p, h => by simp [fixOf] at h
  | 0 :: ms, [], _, p, h => by simp [fixOf] at h
  | (m + 1) :: ms, [], _, p, h => by simp [fixOf] at h
  | 0 :: ms, v :: vs, i, p, h => fixOf_np (ms := ms) (vs := vs) (i := i + 1) p (by simpa [fixOf] using h)
  | (m + 1) :: ms, v :: vs, i, p, h => by
    rw [fixOf] at h
    rcases List.mem_cons.mp h with e | e
    · rw [e]; exact List.mem_cons_self
    · exact List.mem_cons_of_mem _ (fixOf_np (ms := ms) (vs := vs) (i := i + 1) p e)
theorem fixOf_at : ∀ {ms : List Nat} {vs : List V} {i : Nat}, ∀ p ∈ fixOf i ms vs, ∃ j, p.1 = i + j ∧ vs[j]? = some p.2
  | [], _, _, p, h => by simp [fixOf] at h
  | 0 :: ms, [], _, p, h => by simp [fixOf] at h
  | (m + 1) :: ms, [], _, p, h => by simp [fixOf] at h
  | 0 :: ms, v :: vs, i, p, h => by
    obtain ⟨j, e1, e2⟩ := fixOf_at (ms := ms) (vs := vs) (i := i + 1) p (by simpa [fixOf] using h)
    exact ⟨j + 1, by omega, by simpa using e2⟩
  | (m + 1) :: ms, v :: vs, i, p, h => by
    rw [fixOf] at h
    rcases List.mem_cons.mp h with e | e
    · rw [e]; exact ⟨0, rfl, rfl⟩
    · obtain ⟨j, e1, e2⟩ := fixOf_at (ms := ms) (vs := vs) (i := i + 1) p e
      exact ⟨j + 1, by omega, by simpa using e2⟩
theorem ArR.at_ : ∀ {ms : List Nat} {ds : List Dt} {vs : List V} {fps : List (List Addr)} {i : Nat} {s : Sl}, ArR K H G ms ds vs fps → (entryE ms ds)[i]? = some s →
    ∃ v l, vs[i]? = some v ∧ fps[i]? = some l ∧ SlR K H G s (some v) l ∧ (∀ j, (∃ w, (j + i, w) ∈ fixOf j ms vs) ∨ l = [])
  | [], ds, _, _, i, s, _, e => by simp [entryE] at e
  | m :: ms, _, _, _, 0, s, ⟨d, ds', v, vs', fp, fps', rfl, rfl, rfl, o, t⟩, e => by
    simp [entryE] at e; subst e
    refine ⟨v, fp, rfl, rfl, ⟨v, rfl, o⟩, fun j => ?_⟩
    cases m with
    | zero => exact .inr o.1
    | succ m => exact .inl ⟨v, by simp [fixOf]⟩
  | m :: ms, _, _, _, i + 1, s, ⟨d, ds', v, vs', fp, fps', rfl, rfl, rfl, o, t⟩, e => by
    obtain ⟨w, l, h1, h2, h3, h4⟩ := ArR.at_ (i := i) t (by simpa [entryE] using e)
    refine ⟨w, l, by simpa using h1, by simpa using h2, h3, fun j => ?_⟩
    rcases h4 (j + 1) with ⟨u, q⟩ | q
    · refine .inl ⟨u, ?_⟩
      have e : j + (i + 1) = j + 1 + i := by omega
      rw [e]
      cases m with
      | zero => exact q
      | succ m => exact List.mem_cons_of_mem _ q
    · exact .inr q
theorem ArR.lens : ∀ {ms : List Nat} {ds : List Dt} {vs : List V} {fps : List (List Addr)}, ArR K H G ms ds vs fps → (entryE ms ds).length = ms.length ∧ fps.length = ms.length ∧ vs.length = ms.length
  | [], _, _, _, ⟨rfl, rfl, rfl⟩ => ⟨rfl, rfl, rfl⟩
  | m :: ms, _, _, _, ⟨d, ds', v, vs', fp, fps', rfl, rfl, rfl, o, t⟩ => by
    obtain ⟨h1, h2, h3⟩ := t.lens
    simp [entryE, h1, h2, h3]
theorem cnt_append (a : Addr) : ∀ (x y : List (List Addr)), cnt a (x ++ y) = cnt a x + cnt a y
  | [], y => (Nat.zero_add _).symm
  | l :: r, y => by
    show l.count a + cnt a (r ++ y) = l.count a + cnt a r + cnt a y
    rw [cnt_append a r y]; omega
theorem cnt_nils (a : Addr) : ∀ n : Nat, cnt a (List.replicate n []) = 0
  | 0 => rfl
  | n + 1 => by
    show ([] : List Addr).count a + cnt a (List.replicate n []) = 0
    rw [cnt_nils a n]; rfl
/-- the act of a call -/
def actOf (ms : List Nat) (vs : List V) (H G : Hp) (fps : List (List Addr)) : Act := ⟨H, G, fps.flatten, fixOf 0 ms vs, []⟩
theorem mem_flat {a : Addr} : ∀ {fps : List (List Addr)}, 0 < cnt a fps ↔ a ∈ fps.flatten
  | [] => by simp [cnt]
  | l :: r => by
    show 0 < l.count a + cnt a r ↔ _
    rw [List.flatten_cons, List.mem_append, ← mem_flat (fps := r), ← List.count_pos_iff]
    omega
theorem entry_rg {ms : List Nat} {ds : List Dt} {vs : List V} {fps : List (List Addr)} {n : Nat} {N : List Str} (s : Same G H) (h : ArR K H G ms ds vs fps) (c : ∀ a, cnt a fps ≤ 1) (c2 : ∀ a, 0 < cnt a fps → G a = none ∧ H a ≠ none)
    (hN : N.length = ms.length + n) : RG K (actOf ms vs H G fps) G (entry ms n ds) (start N vs) H [] := by
  obtain ⟨l1, l2, l3⟩ := h.lens
  have ls : (start N vs).length = ms.length + n := by
    unfold L2.start
    rw [List.length_append, List.length_map, List.length_replicate, l3, hN]
    omega
  refine ⟨s, fun b o e _ => e, fun b e => e, fun b e => .inl e, ⟨fps ++ List.replicate n [], ?_, ?_, fun i sl e => ?_, fun a => ?_, fun a ha => ?_, fun a ha => nomatch ha⟩, fun p hp => ?_, fun p hp => nomatch hp⟩
  · unfold entry
    rw [List.length_append, List.length_append, List.length_replicate, List.length_replicate, l1, l2]
  · unfold entry
    rw [ls, List.length_append, List.length_replicate, l1]
  · unfold entry at e
    by_cases hi : i < ms.length
    · rw [List.getElem?_append_left (by omega)] at e
      obtain ⟨v, l, h1, h2, h3, h4⟩ := h.at_ e
      refine ⟨some v, l, ?_, ?_, h3, ?_⟩
      · unfold L2.start
        rw [List.getElem?_append_left (by rw [List.length_map]; omega), List.getElem?_map, h1]; rfl
      · rw [List.getElem?_append_left (by omega)]; exact h2
      · rcases h4 0 with ⟨w, q⟩ | q
        · exact .inl ⟨w, by simpa [actOf] using q⟩
        · exact .inr fun a ha => by rw [q] at ha; exact nomatch ha
    · rw [List.getElem?_append_right (by omega), List.getElem?_replicate] at e
      split at e
      · rename_i hq
        cases e
        refine ⟨(start N vs)[i]'(by omega), [], List.getElem?_eq_getElem (by omega), ?_, rfl, .inr fun a ha => nomatch ha⟩
        rw [List.getElem?_append_right (by omega), List.getElem?_replicate, if_pos (by omega)]
      · cases e
  · rw [cnt_append, cnt_nils]; have := c a; simp; omega
  · rw [cnt_append, cnt_nils] at ha
    exact ⟨(c2 a (by omega)).1, (c2 a (by omega)).2, .inl (mem_flat.mp (by omega))⟩
  · obtain ⟨j, e1, e2⟩ := fixOf_at p hp
    unfold L2.start
    have : j < vs.length := (List.getElem?_eq_some_iff.mp e2).1
    rw [e1, Nat.zero_add, List.getElem?_append_left (by rw [List.length_map]; omega), List.getElem?_map, e2]; rfl
/-- the owned parameters at the end -/
theorem outs_ou {A : Act} {ε : Ev} {σ : L2.St} {fpsA : List (List Addr)} : ∀ {ms : List Nat} {l : List Dt} {vs : List V} {i : Nat}, vs.length = ms.length → (∀ p ∈ fixOf i ms vs, σ[p.1]? = some (some p.2)) →
    (∀ (j : Nat) (s : Sl), ε[j]? = some s → ∃ x l, σ[j]? = some x ∧ fpsA[j]? = some l ∧ SlR K H G s x l) → outs ms (ε.drop i) = some l →
    ∃ fps', OuR K H G ms l vs fps' ∧ ∀ a, cnt a fps' ≤ cnt a (fpsA.drop i)
  | [], l, [], i, _, _, _, e => by
    cases e
    exact ⟨[], ⟨rfl, rfl, rfl⟩, fun a => Nat.zero_le _⟩
  | 0 :: ms, l, v :: vs, i, hl, hf, hs, e => by
    cases ed : ε.drop i with
    | nil => rw [ed] at e; cases e
    | cons s r =>
      rw [ed] at e
      have er : r = ε.drop (i + 1) := by
        have := congrArg List.tail ed
        simpa using this.symm
      have e : (outs ms r).map (fun l => Dt.non :: l) = some l := e
      cases eo : outs ms r with
      | none => rw [eo] at e; cases e
      | some l' =>
        rw [eo] at e; cases e
        rw [er] at eo
        obtain ⟨fps', h1, h2⟩ := outs_ou (A := A) (i := i + 1) (by simpa using hl) (fun p hp => hf p (by rw [fixOf]; exact hp)) hs eo
        refine ⟨[] :: fps', ⟨.non, l', v, vs, [], fps', rfl, rfl, rfl, fun _ => rfl, fun z => absurd rfl z, h1⟩, fun a => ?_⟩
        show ([] : List Addr).count a + cnt a fps' ≤ _
        have := h2 a
        have q : cnt a (fpsA.drop (i + 1)) ≤ cnt a (fpsA.drop i) := by
          rw [← List.drop_drop]
          cases fpsA.drop i with
          | nil => exact Nat.le_refl _
          | cons x y => show cnt a y ≤ x.count a + cnt a y; omega
        simp; omega
  | (m + 1) :: ms, l, v :: vs, i, hl, hf, hs, e => by
    cases ed : ε.drop i with
    | nil => rw [ed] at e; cases e
    | cons s r =>
      rw [ed] at e
      have er : r = ε.drop (i + 1) := by
        have := congrArg List.tail ed
        simpa using this.symm
      have es : ε[i]? = some s := by
        have := congrArg List.head? ed
        rw [List.head?_drop] at this
        exact this
      cases s with
      | un => cases e
      | vl k d =>
        have e0 : (if k = m + 1 then (outs ms r).map (fun l => d :: l) else none) = some l := e
        clear e
        by_cases hk : k = m + 1
        · rw [if_pos hk] at e0
          subst hk
          cases eo : outs ms r with
          | none => rw [eo] at e0; cases e0
          | some l' =>
            rw [eo] at e0; cases e0
            rw [er] at eo
            obtain ⟨fps', h1, h2⟩ := outs_ou (A := A) (i := i + 1) (by simpa using hl) (fun p hp => hf p (by rw [fixOf]; exact List.mem_cons_of_mem _ hp)) hs eo
            obtain ⟨x, fp, q1, q2, w, q3, q4⟩ := hs i _ es
            have q5 := hf (i, v) (by rw [fixOf]; exact List.mem_cons_self)
            rw [q1] at q5
            have q5 : x = some v := Option.some.inj q5
            rw [q3] at q5
            cases q5
            refine ⟨fp :: fps', ⟨d, l', v, vs, fp, fps', rfl, rfl, rfl, (fun z => nomatch z), fun _ => q4, h1⟩, fun a => ?_⟩
            have hd : fpsA.drop i = fp :: fpsA.drop (i + 1) := by
              have hlt := (List.getElem?_eq_some_iff.mp q2).1
              rw [List.drop_eq_getElem_cons hlt]
              rw [List.getElem?_eq_getElem hlt] at q2
              rw [Option.some.inj q2]
            rw [hd]
            have := h2 a
            show fp.count a + cnt a fps' ≤ fp.count a + cnt a (fpsA.drop (i + 1))
            omega
        · rw [if_neg hk] at e0; cases e0
  | [], _, _ :: _, _, hl, _, _, _ => by simp at hl
  | _ :: _, _, [], _, hl, _, _, _ => by simp at hl
end
section
variable {P : Program} {w : World} {K : PySem.W.Frag} {mg : Str → Option Value} {base : Heap}
/-- THE RULE for a def: its body's judgement -/
theorem fn_dd {x qual : Str} {st : Stmt} {f : Addr} {fd : FuncData} {dvs : List V} {kws : List (Str × V)} {N ps : List Str} {lv k n : Nat} {ms : List Nat} {g : Ev → So} (F : FunD K x qual (defArgs st) (defBody st) (defScope st) dvs kws f fd) (S : FnScope N ps (defScope st))
    (hp : ps.length = ms.length) (hN : N.length = ms.length + n) (hk : ∀ ε ε', g ε = .nx ε' → k = 0)
    (hb : ∀ (cdv : Value) (A : Around) (outer : List Env) (s : Shared) (H : Hp) (E : XK), Room lv (A.deeper (envOfC qual (defScope st) s.heap.objs.size f cdv)) →
      DB (cxOf (L2.CX P w) P w K mg base N qual (defScope st) f cdv A outer s H E) ⟨fun cls d _ H' => E cls d H', npOf 0 ms, fun _ => True⟩ k (defBody st) g) :
    FnOk P w K mg base (L2.CX P w) (lv + 1) f fd ps (spD K ms k (mFn ms n g)) := by
  refine F.ok S (fun vs H Q E h => ?_) fun cdv A outer s H vs Q E hr h => ?_
  · obtain ⟨ds, G, fps, _, h1, _⟩ := h
    rw [h1.len, hp]
  · obtain ⟨ds, G, fps, sG, ha, c1, c2, q⟩ := h
    obtain ⟨t, ht, hs⟩ := hb cdv A outer s H E hr
    refine ⟨t, ht, hs (actOf ms vs H G fps) G (entry ms n ds) (start N vs) H _ ⟨fun p hp => fixOf_np p hp, trivial⟩ (entry_rg sG ha c1 c2 hN) ?_⟩
    have hvl := ha.len
    have fin : ∀ {ε' : Ev} {σ' : L2.St} {H' G' : Hp} {l : List Dt} {fp : List Addr}, RG K (actOf ms vs H G fps) G' ε' σ' H' fp → Same G G' → outs ms ε' = some l →
        ∃ fps', Same G' H' ∧ (∀ b o, H b = some o → cnt b fps = 0 → H' b = some o) ∧ (∀ b, H' b = none → H b = none) ∧ (∀ b, G' b ≠ none → G b ≠ none ∨ H b = none) ∧
          OuR K H' G' ms l vs fps' ∧ (∀ a, cnt a fps' + fp.count a ≤ 1) ∧ (∀ a, 0 < cnt a fps' → G' a = none ∧ H' a ≠ none ∧ (0 < cnt a fps ∨ H a = none)) ∧ (∀ a ∈ fp, G' a = none ∧ H' a ≠ none ∧ H a = none) := by
      intro ε' σ' H' G' l fp R sg eo
      obtain ⟨fpsA, l1, l2, sl, d1, d2, d3⟩ := R.slots
      obtain ⟨fps', o1, o2⟩ := outs_ou (A := actOf ms vs H G fps) (i := 0) hvl R.fix (fun j s e => by
        obtain ⟨x, l, h1, h2, h3, _⟩ := sl j s e
        exact ⟨x, l, h1, h2, h3⟩) (by rw [List.drop_zero]; exact eo)
      rw [List.drop_zero] at o2
      refine ⟨fps', R.sub, fun b o e z => R.old b o e fun m => ?_, R.live, R.new, o1, fun a => ?_, fun a ha => ?_, d3⟩
      · have := mem_flat.mpr m
        omega
      · have := o2 a
        have := d1 a
        omega
      · have := d2 a (Nat.lt_of_lt_of_le ha (o2 a))
        refine ⟨this.1, this.2.1, ?_⟩
        rcases this.2.2 with z | z
        · exact .inl (mem_flat.mpr z)
        · exact .inr z
    unfold mFn finish at q
    cases e : g (entry ms n ds) with
    | no => rw [e] at q; exact q
    | bk ε' => rw [e] at q; exact q.elim
    | ct ε' => rw [e] at q; exact q.elim
    | nx ε' =>
      rw [e] at q
      have q : FPost K ms k G H vs fps (match outs ms ε' with
        | some l => .ok .non l
        | none => .no) Q E := q
      obtain rfl := hk _ _ e
      intro σ' H' G' R sg
      cases eo : outs ms ε' with
      | none => rw [eo] at q; exact q.elim
      | some l =>
        rw [eo] at q
        obtain ⟨fps', r1, r2, r3, r4, r5, r6, r7, r8⟩ := fin R sg eo
        exact q .non H' G' fps' [] sg r1 r2 r3 r4 r5 ⟨rfl, rfl⟩ r6 r7 r8
    | rt d ε' =>
      rw [e] at q
      have q : FPost K ms k G H vs fps (match outs ms ε' with
        | some l => .ok d l
        | none => .no) Q E := q
      intro σ' v H' G' fp R o sg
      cases eo : outs ms ε' with
      | none => rw [eo] at q; exact q.elim
      | some l =>
        rw [eo] at q
        obtain ⟨fps', r1, r2, r3, r4, r5, r6, r7, r8⟩ := fin R sg eo
        exact q v H' G' fps' fp sg r1 r2 r3 r4 r5 o r6 r7 r8
    | er x ε' =>
      rw [e] at q
      have q : FPost K ms k G H vs fps (match outs ms ε' with
        | some l => .er x l
        | none => .no) Q E := q
      intro σ' cls dd H' G' R sg xr
      cases eo : outs ms ε' with
      | none => rw [eo] at q; exact q.elim
      | some l =>
        rw [eo] at q
        obtain ⟨fps', r1, r2, r3, r4, r5, r6, r7, r8⟩ := fin R sg eo
        exact q cls dd H' G' fps' sg r1 r2 r3 r4 r5 (fun a => by have := r6 a; simp at this; omega) r7 xr
end
end Mir

set_option Elab.async false
set_option linter.all false
set_option maxRecDepth 100000
set_option maxHeartbeats 400000
namespace Mir
open PySem PySem.Spec PyProof.Rows L2 He

/-! ### calls of the text's own defs. ws: for each argument, the slot that hands on what it owns, and how deep -/
abbrev Ws := List (Option (Nat × Nat))
def slotsOf : Ws → List Nat
  | [] => []
  | none :: ws => slotsOf ws
  | some (i, _) :: ws => i :: slotsOf ws
def msOf : Ws → List Nat
  | [] => []
  | none :: ws => 0 :: msOf ws
  | some (_, m) :: ws => m :: msOf ws
def AgL (K : PySem.W.Frag) (G : Hp) (σ : L2.St) : Ws → List Dt → List V → Prop
  | [], ds, vs => ds = [] ∧ vs = []
  | none :: ws, ds, vs => ∃ d ds' v vs', ds = d :: ds' ∧ vs = v :: vs' ∧ Den K G d v ∧ AgL K G σ ws ds' vs'
  | some (i, _) :: ws, ds, vs => ∃ ds' v vs', ds = .non :: ds' ∧ vs = v :: vs' ∧ σ[i]? = some (some v) ∧ AgL K G σ ws ds' vs'
theorem AgL.mono {K : PySem.W.Frag} {G G' : Hp} {σ : L2.St} (s : Same G G') : ∀ {ws : Ws} {ds : List Dt} {vs : List V}, AgL K G σ ws ds vs → AgL K G' σ ws ds vs
  | [], _, _, h => h
  | none :: ws, _, _, ⟨d, ds', v, vs', e1, e2, h, t⟩ => ⟨d, ds', v, vs', e1, e2, h.mono s, t.mono s⟩
  | some (i, _) :: ws, _, _, ⟨ds', v, vs', e1, e2, h, t⟩ => ⟨ds', v, vs', e1, e2, h, t.mono s⟩
def GaPost (K : PySem.W.Frag) (C : Cn) (A : Act) (p : Bool) (ws : Ws) (G H : Hp) (σ : L2.St) (xs : List Addr) (r : Rs (List Dt)) (Q : List V → Hp → Prop) : Prop := match r with
  | .ok ds ε => ∀ vs H' G', RG K A G' ε σ H' xs → AgL K G' σ ws ds vs → Same G G' → (∀ a ∈ xs, H' a = H a) → (p = true → Same H H') → Q vs H'
  | .er x ε => ErP K C A G σ x ε
  | .no => False
def TGaSat (K : PySem.W.Frag) (C : Cn) (p : Bool) (ws : Ws) (t : TA) (f : Ev → Rs (List Dt)) : Prop :=
  ∀ (A : Act) (G : Hp) (ε : Ev) (σ : L2.St) (H : Hp) (xs : List Addr) (Q : List V → Hp → Prop), A.in_ C → RG K A G ε σ H xs → GaPost K C A p ws G H σ xs (f ε) Q → t σ H Q
/-- arguments of a call of an own def -/
def DGa (X : Cx) (C : Cn) (p : Bool) (ws : Ws) (es : List Expr) (f : Ev → Rs (List Dt)) : Prop := ∃ t, PA X es t ∧ TGaSat X.K C p ws t f
def mOwn (i : Nat) : Ev → Rs Dt := fun ε => match ε[i]? with
  | some (.vl _ _) => .ok .non ε
  | _ => .no
section
variable {X : Cx} {C : Cn} {p p1 p2 : Bool} {ws : Ws} {e : Expr} {es : List Expr} {fa : Ev → Rs Dt} {fr : Ev → Rs (List Dt)} {i m : Nat} {x : Str} {pos : Pos}
theorem ga_nil : DGa X C true [] [] mNil := ⟨_, pa_nil, fun A G ε σ H xs Q hA R h => h [] H G R ⟨rfl, rfl⟩ (Same.refl G) (fun _ _ => rfl) fun _ => Same.refl H⟩
theorem ga_cons (ha : DE X C (.o 0) p1 e fa) (hr : DGa X C p2 ws es fr) (hs : starEach (e :: es) X.env = (false, eval e X.env) :: starEach es X.env := by rfl) : DGa X C (p1 && p2) (none :: ws) (e :: es) (mCons fa fr) := by
  obtain ⟨t, h1, h2⟩ := ha
  obtain ⟨u, h3, h4⟩ := hr
  refine ⟨_, pa_cons h1 h3 hs, fun A G ε σ H xs Q hA R h => h2 A G ε σ H xs _ hA R ?_⟩
  unfold mCons at h
  cases e1 : fa ε with
  | no => rw [e1] at h; exact h
  | er x ε1 => rw [e1] at h; exact h
  | ok d1 ε1 =>
    rw [e1] at h
    rintro v1 H1 G1 fp R1 ⟨rfl, r1⟩ s1 hx1 hh1
    have h : GaPost X.K C A (p1 && p2) (none :: ws) G H σ xs ((fr ε1).bind fun ds ε2 => .ok (d1 :: ds) ε2) Q := h
    refine h4 A G1 ε1 σ H1 xs _ hA R1 ?_
    cases e2 : fr ε1 with
    | no => rw [e2] at h; exact h
    | er x ε2 => rw [e2] at h; exact ErP.mono s1 h
    | ok d2 ε2 =>
      rw [e2] at h
      rintro vs H2 G2 R2 r2 s2 hx2 hh2
      exact h (v1 :: vs) H2 G2 R2 ⟨d1, d2, v1, vs, rfl, rfl, r1.mono s2, r2⟩ (s1.trans s2) (fun a ha => (hx2 a ha).trans (hx1 a ha)) fun z => by
        rw [Bool.and_eq_true] at z
        exact (hh1 z.1).trans (hh2 z.2)
theorem ga_own (hv : PE X (.Name x pos) (tVar i)) (hr : DGa X C p2 ws es fr) (hs : starEach (.Name x pos :: es) X.env = (false, eval (.Name x pos) X.env) :: starEach es X.env := by rfl) : DGa X C p2 (some (i, m) :: ws) (.Name x pos :: es) (mCons (mOwn i) fr) := by
  obtain ⟨u, h3, h4⟩ := hr
  refine ⟨_, pa_cons hv h3 hs, fun A G ε σ H xs Q hA R h => ?_⟩
  unfold mCons mOwn at h
  cases e1 : ε[i]? with
  | none => rw [e1] at h; exact h.elim
  | some s =>
    cases s with
    | un => rw [e1] at h; exact h.elim
    | vl k d =>
      rw [e1] at h
      obtain ⟨v, l, q1, _, _⟩ := R.at_ e1
      refine ⟨v, q1, ?_⟩
      have h : GaPost X.K C A p2 (some (i, m) :: ws) G H σ xs ((fr ε).bind fun ds ε2 => .ok (.non :: ds) ε2) Q := h
      refine h4 A G ε σ H xs _ hA R ?_
      cases e2 : fr ε with
      | no => rw [e2] at h; exact h
      | er x ε2 => rw [e2] at h; exact h
      | ok d2 ε2 =>
        rw [e2] at h
        exact fun vs H2 G2 R2 r2 s2 hx2 hh2 => h (v :: vs) H2 G2 R2 ⟨d2, v, vs, rfl, rfl, q1, r2⟩ s2 hx2 hh2
end
/-- what is handed on -/
def resolve : Ws → List Dt → Ev → Option (List Dt)
  | [], [], _ => some []
  | none :: ws, d :: ds, ε => (resolve ws ds ε).map fun l => d :: l
  | some (i, m) :: ws, _ :: ds, ε => match ε[i]? with
    | some (.vl k d) => if k = m then (resolve ws ds ε).map fun l => d :: l else none
    | _ => none
  | _, _, _ => none
def putB : Ws → List Dt → Ev → Ev
  | none :: ws, _ :: ds, ε => putB ws ds ε
  | some (i, m) :: ws, d :: ds, ε => putB ws ds (ε.set i (.vl m d))
  | _, _, ε => ε
def putF : Ws → List (List Addr) → List (List Addr) → List (List Addr)
  | none :: ws, _ :: fs, fps => putF ws fs fps
  | some (i, _) :: ws, f :: fs, fps => putF ws fs (fps.set i f)
  | _, _, fps => fps
def mCall (ws : Ws) (F : List Dt → Fo) (fa : Ev → Rs (List Dt)) : Ev → Rs Dt := fun ε => (fa ε).bind fun ds ε1 => match resolve ws ds ε1 with
  | none => .no
  | some as => match F as with
    | .ok d outs => .ok d (putB ws outs ε1)
    | .er x outs => .er x (putB ws outs ε1)
    | .no => .no
def Al : Ws → List (List Addr) → List (List Addr) → Prop
  | [], fC, _ => fC = []
  | none :: ws, fC, fps => ∃ r, fC = [] :: r ∧ Al ws r fps
  | some (i, _) :: ws, fC, fps => ∃ l r, fC = l :: r ∧ fps[i]? = some l ∧ Al ws r fps
def Nn : Ws → List (List Addr) → Prop
  | [], fs => fs = []
  | none :: ws, fs => ∃ r, fs = [] :: r ∧ Nn ws r
  | some _ :: ws, fs => ∃ l r, fs = l :: r ∧ Nn ws r
theorem Al.set {i : Nat} {f : List Addr} : ∀ {ws : Ws} {fC fps : List (List Addr)}, i ∉ slotsOf ws → Al ws fC fps → Al ws fC (fps.set i f)
  | [], _, _, _, h => h
  | none :: ws, _, _, hi, ⟨r, e, t⟩ => ⟨r, e, Al.set (ws := ws) hi t⟩
  | some (j, _) :: ws, _, _, hi, ⟨l, r, e, q, t⟩ => ⟨l, r, e, by rw [List.getElem?_set_ne (fun z => hi (by rw [z]; exact List.mem_cons_self))]; exact q, Al.set (ws := ws) (fun z => hi (List.mem_cons_of_mem _ z)) t⟩
theorem putF_cnt (a : Addr) : ∀ {ws : Ws} {fC fs fps : List (List Addr)}, (slotsOf ws).Nodup → Al ws fC fps → Nn ws fs → cnt a (putF ws fs fps) + cnt a fC = cnt a fps + cnt a fs
  | [], _, _, _, _, hA, hN => by
    obtain rfl : _ = [] := hA
    obtain rfl : _ = [] := hN
    rfl
  | none :: ws, _, _, fps, hn, ⟨r, e, t⟩, ⟨r', e', t'⟩ => by
    subst e e'
    have ih := putF_cnt a (fps := fps) (ws := ws) hn t t'
    show cnt a (putF ws r' fps) + (([] : List Addr).count a + cnt a r) = cnt a fps + (([] : List Addr).count a + cnt a r')
    simp; omega
  | some (i, m) :: ws, _, _, fps, hn, ⟨l, r, e, q, t⟩, ⟨l', r', e', t'⟩ => by
    subst e e'
    have nd : i ∉ slotsOf ws ∧ (slotsOf ws).Nodup := List.nodup_cons.mp hn
    have ih := putF_cnt a (fps := fps.set i l') (ws := ws) nd.2 (t.set nd.1) t'
    have h1 := cnt_set a l' q
    show cnt a (putF ws r' (fps.set i l')) + (l.count a + cnt a r) = cnt a fps + (l'.count a + cnt a r')
    omega
section
variable {K : PySem.W.Frag} {A : Act} {G G' H H' : Hp} {σ : L2.St} {xs : List Addr}
/-- the arguments as the callee has them -/
theorem resolve_ar {ε : Ev} {fps : List (List Addr)} (hs : ∀ (i : Nat) (s : Sl), ε[i]? = some s → ∃ x l, σ[i]? = some x ∧ fps[i]? = some l ∧ SlR K H G s x l) :
    ∀ {ws : Ws} {ds as : List Dt} {vs : List V}, AgL K G σ ws ds vs → resolve ws ds ε = some as → ∃ fC, ArR K H G (msOf ws) as vs fC ∧ Al ws fC fps
  | [], _, _, _, ⟨rfl, rfl⟩, e => by
    cases e
    exact ⟨[], ⟨rfl, rfl, rfl⟩, rfl⟩
  | none :: ws, _, as, _, ⟨d, ds', v, vs', rfl, rfl, h, t⟩, e => by
    have e : (resolve ws ds' ε).map (fun l => d :: l) = some as := e
    cases eo : resolve ws ds' ε with
    | none => rw [eo] at e; cases e
    | some as' =>
      rw [eo] at e; cases e
      obtain ⟨fC, h1, h2⟩ := resolve_ar hs t eo
      exact ⟨[] :: fC, ⟨d, as', v, vs', [], fC, rfl, rfl, rfl, ⟨rfl, h⟩, h1⟩, fC, rfl, h2⟩
  | some (i, m) :: ws, _, as, _, ⟨ds', v, vs', rfl, rfl, h, t⟩, e => by
    unfold resolve at e
    split at e
    · rename_i k d es
      split at e
      · rename_i hk
        subst hk
        cases eo : resolve ws ds' ε with
        | none => rw [eo] at e; cases e
        | some as' =>
          rw [eo] at e; cases e
          obtain ⟨fC, h1, h2⟩ := resolve_ar hs t eo
          obtain ⟨x, l, q1, q2, w, q3, q4⟩ := hs i _ es
          rw [h] at q1
          cases q1
          cases q3
          exact ⟨l :: fC, ⟨d, as', v, vs', l, fC, rfl, rfl, rfl, q4, h1⟩, l, fC, rfl, q2, h2⟩
      · cases e
    · cases e
theorem ou_nn : ∀ {ws : Ws} {os : List Dt} {vs : List V} {fs : List (List Addr)}, OuR K H G (msOf ws) os vs fs → Nn ws fs
  | [], _, _, _, ⟨_, _, e⟩ => e
  | none :: ws, _, _, _, ⟨d, ds', v, vs', fp, fps', e1, e2, e3, h, _, t⟩ => ⟨fps', by rw [e3, h rfl], ou_nn t⟩
  | some (i, m) :: ws, _, _, _, ⟨d, ds', v, vs', fp, fps', e1, e2, e3, _, _, t⟩ => ⟨fp, fps', e3, ou_nn t⟩
def wsOk : Ws → Bool
  | [] => true
  | none :: ws => wsOk ws
  | some (_, m) :: ws => decide (m ≠ 0) && wsOk ws
theorem putF_len : ∀ {ws : Ws} {fs fps : List (List Addr)}, (putF ws fs fps).length = fps.length
  | [], _, _ => rfl
  | none :: ws, [], _ => rfl
  | none :: ws, _ :: fs, fps => putF_len (ws := ws) (fs := fs)
  | some (i, _) :: ws, [], _ => rfl
  | some (i, _) :: ws, f :: fs, fps => by
    show (putF ws fs (fps.set i f)).length = _
    rw [putF_len, List.length_set]
theorem putB_len : ∀ {ws : Ws} {fs : List Dt} {fps : Ev}, (putB ws fs fps).length = fps.length
  | [], _, _ => rfl
  | none :: ws, [], _ => rfl
  | none :: ws, _ :: fs, fps => putB_len (ws := ws) (fs := fs)
  | some (i, _) :: ws, [], _ => rfl
  | some (i, _) :: ws, f :: fs, fps => by
    show (putB ws fs (fps.set i _)).length = _
    rw [putB_len, List.length_set]
/-- the slots behind the call -/
theorem put_rel {Pj : Nat → List Addr → Prop} : ∀ {ws : Ws} {ds os : List Dt} {vs : List V} {fs fps : List (List Addr)} {ε : Ev}, wsOk ws = true → fps.length = ε.length → AgL K G σ ws ds vs → OuR K H' G' (msOf ws) os vs fs →
    (∀ i ∈ slotsOf ws, ∀ l ∈ fs, Pj i l) → (∀ (j : Nat) (s : Sl), j ∉ slotsOf ws → ε[j]? = some s → ∃ x l, σ[j]? = some x ∧ fps[j]? = some l ∧ SlR K H' G' s x l ∧ Pj j l) →
    ∀ (j : Nat) (s : Sl), (putB ws os ε)[j]? = some s → ∃ x l, σ[j]? = some x ∧ (putF ws fs fps)[j]? = some l ∧ SlR K H' G' s x l ∧ Pj j l
  | [], _, _, _, _, _, _, _, _, _, _, _, h => fun j s e => h j s (fun z => nomatch z) e
  | none :: ws, _, _, _, _, _, _, hw, hl, ⟨d, ds', v, vs', e1, e2, h1, t⟩, ⟨o, os', v2, vs2, fp, fs', e3, e4, e5, h2, _, t2⟩, hP, h => by
    subst e1 e2 e3 e5
    cases e4
    exact put_rel (ws := ws) hw hl t t2 (fun i hi l hl => hP i hi l (List.mem_cons_of_mem _ hl)) h
  | some (i, m) :: ws, _, _, _, _, fps, ε, hw, hl, ⟨ds', v, vs', e1, e2, h1, t⟩, ⟨o, os', v2, vs2, fp, fs', e3, e4, e5, _, h2, t2⟩, hP, h => by
    subst e1 e2 e3 e5
    cases e4
    have hw' : m ≠ 0 ∧ wsOk ws = true := by
      have := Bool.and_eq_true_iff.mp hw
      exact ⟨of_decide_eq_true this.1, this.2⟩
    refine put_rel (ws := ws) hw'.2 (by rw [List.length_set, List.length_set]; exact hl) t t2 (fun j hj l hl => hP j (List.mem_cons_of_mem _ hj) l (List.mem_cons_of_mem _ hl)) fun j s nj e => ?_
    by_cases q : i = j
    · subst q
      have hi : i < ε.length := by
        have := (List.getElem?_eq_some_iff.mp e).1
        rwa [List.length_set] at this
      rw [List.getElem?_set_self hi] at e
      cases e
      exact ⟨some v, fp, h1, List.getElem?_set_self (by omega), ⟨v, rfl, h2 hw'.1⟩, hP i List.mem_cons_self fp List.mem_cons_self⟩
    · rw [List.getElem?_set_ne q] at e
      obtain ⟨x, l, a1, a2, a3, a4⟩ := h j s (fun z => by
        rcases List.mem_cons.mp z with z | z
        · exact q z.symm
        · exact nj z) e
      exact ⟨x, l, a1, by rw [List.getElem?_set_ne q]; exact a2, a3, a4⟩
theorem Al.one {a : Addr} : ∀ {ws : Ws} {fC fps : List (List Addr)}, (slotsOf ws).length ≤ 1 → Al ws fC fps → 0 < cnt a fC → ∀ i ∈ slotsOf ws, ∃ l, fps[i]? = some l ∧ a ∈ l
  | [], _, _, _, _, _, i, hi => nomatch hi
  | none :: ws, _, _, h1, ⟨r, e, t⟩, hc, i, hi => by
    subst e
    exact Al.one (ws := ws) h1 t (by
      have : 0 < ([] : List Addr).count a + cnt a r := hc
      simpa using this) i hi
  | some (j, m) :: ws, _, _, h1, ⟨l, r, e, q, t⟩, hc, i, hi => by
    subst e
    have h0 : slotsOf ws = [] := by
      have : (slotsOf ws).length + 1 ≤ 1 := h1
      exact List.length_eq_zero_iff.mp (by omega)
    have hr : cnt a r = 0 := by
      have z : ∀ {ws : Ws} {r : List (List Addr)} {fps : List (List Addr)}, slotsOf ws = [] → Al ws r fps → cnt a r = 0 := by
        intro ws
        induction ws with
        | nil => intro r fps _ h; obtain rfl : _ = [] := h; rfl
        | cons o ws ih =>
          intro r fps h2 h
          cases o with
          | none =>
            obtain ⟨r', e, t⟩ := h
            subst e
            show ([] : List Addr).count a + cnt a r' = 0
            rw [ih h2 t]; rfl
          | some q => cases h2
      exact z h0 t
    have hi : i ∈ j :: slotsOf ws := hi
    rw [h0] at hi
    obtain rfl : i = j := by simpa using hi
    have hc : 0 < l.count a + cnt a r := hc
    exact ⟨l, q, List.count_pos_iff.mp (by omega)⟩
theorem Al.le {a : Addr} : ∀ {ws : Ws} {fC fps : List (List Addr)}, (slotsOf ws).Nodup → Al ws fC fps → cnt a fC ≤ cnt a fps := by
  intro ws fC fps hn h
  have z : ∀ {ws : Ws} {fC fps : List (List Addr)}, Al ws fC fps → ∃ fs, Nn ws fs ∧ cnt a fs = 0 := by
    intro ws
    induction ws with
    | nil => intro fC fps _; exact ⟨[], rfl, rfl⟩
    | cons o ws ih =>
      intro fC fps h
      cases o with
      | none =>
        obtain ⟨r, _, t⟩ := h
        obtain ⟨fs, h1, h2⟩ := ih t
        exact ⟨[] :: fs, ⟨fs, rfl, h1⟩, by show ([] : List Addr).count a + cnt a fs = 0; rw [h2]; rfl⟩
      | some q =>
        obtain ⟨i, m⟩ := q
        obtain ⟨l, r, _, _, t⟩ := h
        obtain ⟨fs, h1, h2⟩ := ih t
        exact ⟨[] :: fs, ⟨[], fs, rfl, h1⟩, by show ([] : List Addr).count a + cnt a fs = 0; rw [h2]; rfl⟩
  obtain ⟨fs, h1, h2⟩ := z h
  have := putF_cnt a hn h h1
  omega
/-- the state behind a call -/
theorem call_rg {ε : Ev} {ws : Ws} {ds os : List Dt} {vs : List V} {fC fs fps : List (List Addr)} {fp : List Addr} (R : RG K A G ε σ H xs) (hw : wsOk ws = true) (h1 : (slotsOf ws).length ≤ 1)
    (hf1 : fps.length = ε.length) (hf2 : ∀ (i : Nat) (s : Sl), ε[i]? = some s → ∃ x l, σ[i]? = some x ∧ fps[i]? = some l ∧ SlR K H G s x l ∧ ((∃ v, (i, v) ∈ A.fix) ∨ ∀ a ∈ l, A.H0 a = none)) (hf3 : ∀ a, cnt a fps + xs.count a ≤ 1)
    (hf4 : ∀ a, 0 < cnt a fps → G a = none ∧ H a ≠ none ∧ (a ∈ A.fp0 ∨ A.H0 a = none)) (hA : AgL K G σ ws ds vs) (al : Al ws fC fps)
    (sg : Same G G') (gs : Same G' H') (c1 : ∀ b o, H b = some o → cnt b fC = 0 → H' b = some o) (c2 : ∀ b, H' b = none → H b = none) (c3 : ∀ b, G' b ≠ none → G b ≠ none ∨ H b = none)
    (ou : OuR K H' G' (msOf ws) os vs fs) (c4 : ∀ a, cnt a fs + fp.count a ≤ 1) (c5 : ∀ a, 0 < cnt a fs → G' a = none ∧ H' a ≠ none ∧ (0 < cnt a fC ∨ H a = none)) (c6 : ∀ a ∈ fp, G' a = none ∧ H' a ≠ none ∧ H a = none) :
    RG K A G' (putB ws os ε) σ H' (fp ++ xs) ∧ ∀ a ∈ xs, H' a = H a := by
  have nd : (slotsOf ws).Nodup := by
    cases e : slotsOf ws with
    | nil => exact List.nodup_nil
    | cons x r =>
      rw [e] at h1
      cases r with
      | nil => exact List.nodup_cons.mpr ⟨(fun z => nomatch z), List.nodup_nil⟩
      | cons y r => simp at h1
  have pc := fun a => putF_cnt a nd al (ou_nn ou)
  have le := fun a => Al.le (a := a) nd al
  have kx : ∀ a ∈ xs, H' a = H a := fun a ha => by
    have h2 := hf3 a
    have h3 := List.count_pos_iff.mpr ha
    have h4 := le a
    cases e : H a with
    | none => exact absurd e (R.xsn ha).2.1
    | some o => exact c1 a o e (by omega)
  have lv : ∀ b, H b ≠ none → H' b ≠ none := fun b hb z => hb (c2 b z)
  have fr : ∀ a, H a = none → cnt a fps = 0 ∧ xs.count a = 0 := fun a ha => ⟨by
    rcases Nat.eq_zero_or_pos (cnt a fps) with z | z
    · exact z
    · exact absurd ha (hf4 a z).2.1, List.count_eq_zero.mpr (R.xsf ha)⟩
  refine ⟨⟨gs, fun b o e nb => c1 b o (R.old b o e nb) ?_, fun b hb => R.live b (c2 b hb), fun b hb => ?_, ⟨putF ws fs fps, ?_, ?_, ?_, fun a => ?_, fun a ha => ?_, fun a ha => ?_⟩, R.fix, fun p hp => ?_⟩, kx⟩
  · rcases Nat.eq_zero_or_pos (cnt b fC) with z | z
    · exact z
    · rcases (hf4 b (Nat.lt_of_lt_of_le z (le b))).2.2 with y | y
      · exact absurd y nb
      · rw [e] at y; cases y
  · rcases c3 b hb with z | z
    · exact R.new b z
    · exact .inr (R.live b z)
  · rw [putF_len, putB_len]; exact hf1
  · rw [putB_len]
    obtain ⟨_, _, l2, _⟩ := R.slots
    exact l2
  · refine put_rel (Pj := fun j l => (∃ v, (j, v) ∈ A.fix) ∨ ∀ a ∈ l, A.H0 a = none) hw hf1 hA ou (fun i hi l hl => ?_) fun j s nj e => ?_
    · by_cases hx : ∃ v, (i, v) ∈ A.fix
      · exact .inl hx
      · refine .inr fun a ha => ?_
        have hp : 0 < cnt a fs := by
          obtain ⟨n, hn⟩ := List.mem_iff_getElem?.mp hl
          exact Nat.lt_of_lt_of_le (List.count_pos_iff.mpr ha) (cnt_ge a hn)
        rcases (c5 a hp).2.2 with z | z
        · obtain ⟨l0, q1, q2⟩ := al.one h1 z i hi
          have hlt : i < ε.length := by
            have := (List.getElem?_eq_some_iff.mp q1).1
            omega
          obtain ⟨x, l', a1, a2, a3, a4⟩ := hf2 i _ (List.getElem?_eq_getElem hlt)
          rw [q1] at a2
          cases a2
          rcases a4 with y | y
          · exact absurd y hx
          · exact y a q2
        · exact R.live a z
    · obtain ⟨x, l, a1, a2, a3, a4⟩ := hf2 j s e
      refine ⟨x, l, a1, a2, a3.frame sg fun a ha => ?_, a4⟩
      have hz : cnt a fC = 0 := by
        rcases Nat.eq_zero_or_pos (cnt a fC) with z | z
        · exact z
        · exfalso
          cases es : slotsOf ws with
          | nil =>
            have := pc a
            have hN := ou_nn ou
            have z0 : ∀ {ws : Ws} {r : List (List Addr)} {fps : List (List Addr)}, slotsOf ws = [] → Al ws r fps → cnt a r = 0 := by
              intro ws
              induction ws with
              | nil => intro r fps _ h; obtain rfl : _ = [] := h; rfl
              | cons o ws ih =>
                intro r fps h2 h
                cases o with
                | none =>
                  obtain ⟨r', e, t⟩ := h
                  subst e
                  show ([] : List Addr).count a + cnt a r' = 0
                  rw [ih h2 t]; rfl
                | some q => cases h2
            have := z0 es al
            omega
          | cons i r =>
            have hi : i ∈ slotsOf ws := by rw [es]; exact List.mem_cons_self
            obtain ⟨l0, q1, q2⟩ := al.one h1 z i hi
            have hij : i ≠ j := fun w => nj (w ▸ hi)
            have := cnt_two a hij q1 a2
            have := hf3 a
            have := List.count_pos_iff.mpr q2
            have := List.count_pos_iff.mpr ha
            omega
      cases e : H a with
      | none => exact absurd e (hf4 a (cnt_mem a a2 ha)).2.1
      | some o => exact c1 a o e hz
  · have h2 := pc a
    have h3 := le a
    have h4 := hf3 a
    have h5 := c4 a
    rw [List.count_append]
    by_cases hn : H a = none
    · have := fr a hn
      omega
    · have hfp : fp.count a = 0 := List.count_eq_zero.mpr fun z => hn (c6 a z).2.2
      rcases Nat.eq_zero_or_pos (cnt a fs) with z | z
      · omega
      · rcases (c5 a z).2.2 with y | y
        · omega
        · exact absurd y hn
  · have h2 := pc a
    have h3 := le a
    have h4 := hf3 a
    rcases Nat.eq_zero_or_pos (cnt a fs) with z | z
    · have h5 : 0 < cnt a fps := by omega
      have h6 : cnt a fC = 0 := by omega
      have h7 := hf4 a h5
      refine ⟨?_, lv a h7.2.1, h7.2.2⟩
      cases e : G' a with
      | none => rfl
      | some o =>
        rcases c3 a (by rw [e]; exact nofun) with y | y
        · exact absurd h7.1 y
        · exact absurd y h7.2.1
    · have h5 := c5 a z
      refine ⟨h5.1, h5.2.1, ?_⟩
      rcases h5.2.2 with y | y
      · exact (hf4 a (Nat.lt_of_lt_of_le y h3)).2.2
      · exact .inr (R.live a y)
  · rcases List.mem_append.mp ha with z | z
    · exact ⟨(c6 a z).1, (c6 a z).2.1, R.live a (c6 a z).2.2⟩
    · have h7 := R.xsn z
      refine ⟨?_, lv a h7.2.1, h7.2.2⟩
      cases e : G' a with
      | none => rfl
      | some o =>
        rcases c3 a (by rw [e]; exact nofun) with y | y
        · exact absurd h7.1 y
        · exact absurd y h7.2.1
  · obtain ⟨ws', q1, q2, q3⟩ := R.xd p hp
    exact ⟨ws', sg _ _ q1, q2, q3.mono sg⟩
end
/-- what is called: a def of the text -/
def Fd (P : Program) (w : World) (K : PySem.W.Frag) (mg : Str → Option Value) (base : Heap) (x : Str) (lv : Nat) (ms : List Nat) (k : Nat) (F : List Dt → Fo) : Prop :=
  ∃ fd ps, FnOk P w K mg base (L2.CX P w) lv (ga K x) fd ps (spD K ms k F) ∧ mg x = some (.ref (ga K x)) ∧ PySem.W.keepIn K (.ref (ga K x)) = true ∧ Binds K fd ps []
def wsPure (ws : Ws) : Bool := (slotsOf ws).isEmpty
section
variable {X : Cx} {C : Cn} {p : Bool} {ws : Ws} {es : List Expr} {e : Expr} {fa : Ev → Rs (List Dt)} {k lv : Nat} {ms : List Nat} {F : List Dt → Fo} {x : Str}
theorem tsat_call {K : PySem.W.Frag} {ta : TA} (ha : TGaSat K C p ws ta fa) (hw : wsOk ws = true) (h1 : (slotsOf ws).length ≤ 1) (hms : ms = msOf ws) : TSat K C (.o k) (p && wsPure ws) (tCallS (spD K ms k F) (WE C.W) ta) (mCall ws F fa) := fun A G ε σ H xs Q hA R h => by
  subst hms
  refine ha A G ε σ H xs _ hA R ?_
  unfold mCall at h
  cases e1 : fa ε with
  | no => rw [e1] at h; exact h
  | er x ε1 => rw [e1] at h; exact h
  | ok ds ε1 =>
    rw [e1] at h
    intro vs H1 G1 R1 hd s1 hx1 hh1
    have h : EPost K C A (.o k) (p && wsPure ws) G H σ xs (match resolve ws ds ε1 with
      | none => .no
      | some as => match F as with
        | .ok d outs => .ok d (putB ws outs ε1)
        | .er x outs => .er x (putB ws outs ε1)
        | .no => .no) Q := h
    cases e2 : resolve ws ds ε1 with
    | none => rw [e2] at h; exact h.elim
    | some as =>
      rw [e2] at h
      obtain ⟨fps, l1, l2, sl, d1, d2, d3⟩ := R1.slots
      have nd : (slotsOf ws).Nodup := by
        cases e : slotsOf ws with
        | nil => exact List.nodup_nil
        | cons x r =>
          rw [e] at h1
          cases r with
          | nil => exact List.nodup_cons.mpr ⟨(fun z => nomatch z), List.nodup_nil⟩
          | cons y r => simp at h1
      obtain ⟨fC, ar, al⟩ := resolve_ar (fun i s e => by
        obtain ⟨x, l, q1, q2, q3, _⟩ := sl i s e
        exact ⟨x, l, q1, q2, q3⟩) hd e2
      have le := fun a => Al.le (a := a) nd al
      refine ⟨as, G1, fC, R1.sub, ar, fun a => by have := le a; have := d1 a; omega, fun a ha => ?_, ?_⟩
      · have := d2 a (Nat.lt_of_lt_of_le ha (le a))
        exact ⟨this.1, this.2.1⟩
      · have h : EPost K C A (.o k) (p && wsPure ws) G H σ xs (match F as with
          | .ok d outs => .ok d (putB ws outs ε1)
          | .er x outs => .er x (putB ws outs ε1)
          | .no => .no) Q := h
        cases e3 : F as with
        | no => rw [e3] at h; exact h.elim
        | ok d os =>
          rw [e3] at h
          intro v H' G' fs fp q1 q2 q3 q4 q5 q6 q7 q8 q9 q10
          obtain ⟨R2, kx⟩ := call_rg R1 hw h1 l1 sl d1 d2 hd al q1 q2 q3 q4 q5 q6 q8 q9 q10
          refine h v H' G' fp R2 q7 (s1.trans q1) (fun a ha => (kx a ha).trans (hx1 a ha)) fun z => ?_
          rw [Bool.and_eq_true] at z
          refine (hh1 z.1).trans fun b o e => q3 b o e ?_
          have zz : slotsOf ws = [] := by simpa [wsPure] using z.2
          have z0 : ∀ {ws : Ws} {r : List (List Addr)} {fps : List (List Addr)}, slotsOf ws = [] → Al ws r fps → cnt b r = 0 := by
            intro ws
            induction ws with
            | nil => intro r fps _ h; obtain rfl : _ = [] := h; rfl
            | cons o ws ih =>
              intro r fps h2 h
              cases o with
              | none =>
                obtain ⟨r', e, t⟩ := h
                subst e
                show ([] : List Addr).count b + cnt b r' = 0
                rw [ih h2 t]; rfl
              | some q => cases h2
          exact z0 zz al
        | er x os =>
          rw [e3] at h
          intro cls dd H' G' fs q1 q2 q3 q4 q5 q6 q7 q8 q9
          obtain ⟨R2, kx⟩ := call_rg (fp := []) R1 hw h1 l1 sl d1 d2 hd al q1 q2 q3 q4 q5 q6 (fun a => by have := q7 a; simpa using this) q8 (fun a ha => nomatch ha)
          exact h cls dd H' G' (by have := RG.drop (xs' := xs) (xs := []) (by rw [List.append_nil]; exact R2); exact this) (s1.trans q1) q9
theorem de_call {pp pos : Pos} (tk : Takes X C.W) (T : Fd X.prog X.w X.K X.mg X.base x lv ms k F) (hr : Room lv X.A) (hg : Gl X x) (hms : ms = msOf ws) (ha : DGa X C p ws (e :: es) fa) (hw : wsOk ws = true := by decide) (h1 : (slotsOf ws).length ≤ 1 := by decide)
    (hdb : (x == ("__debug__" : Str)) = false := by decide) (he : starEach (e :: es) X.env = (false, eval e X.env) :: starEach es X.env := by rfl) (hpl : (backTo pos (starEach es X.env)).any (·.1) = false := by rfl) :
    DE X C (.o k) (p && wsPure ws) (.Call (.Name x pp) (e :: es) [] pos) (mCall ws F fa) := by
  obtain ⟨t, a, b⟩ := ha
  obtain ⟨fd, ps, q1, q2, q3, q4⟩ := T
  exact ⟨_, pe_callS q1 hr hg q2 q3 q4 (fun σ => passAt tk σ) a hdb he hpl, tsat_call b hw h1 hms⟩
end
end Mir

set_option Elab.async false
set_option linter.all false
set_option maxRecDepth 100000
set_option maxHeartbeats 400000
namespace Mir
open PySem PySem.Spec PyProof.Rows L2 He

/-! ### comprehensions -/
def wipeE (ε : Ev) : List Nat → Ev
  | [] => ε
  | v :: vs => (wipeE ε vs).set v .un
/-- what the block's own names were ahead of it is put back (settled values alone) -/
def backE (ε0 ε : Ev) : List Nat → Ev
  | [] => ε
  | v :: vs => match ε0[v]? with
    | some (.vl 0 d) => (backE ε0 ε vs).set v (.vl 0 d)
    | _ => backE ε0 ε vs
def compL (vs : List Nat) (t : Dt → Ev → Rs Unit) (c : Ev → Rs Bool) (e : Ev → Rs Dt) : List Dt → List Dt → Ev → Rs (List Dt)
  | [], acc, ε => .ok acc ε
  | d :: r, acc, ε => match t d ε with
    | .ok _ ε1 => (match c ε1 with
      | .ok true ε2 => (match e ε2 with
        | .ok y ε3 => if acc.length < sizeLine then compL vs t c e r (acc ++ [y]) (wipeE ε3 vs) else .no
        | _ => .no)
      | .ok false ε2 => compL vs t c e r acc (wipeE ε2 vs)
      | _ => .no)
    | _ => .no
def mComp (vs : List Nat) (it : Ev → Rs (List Dt)) (t : Dt → Ev → Rs Unit) (c : Ev → Rs Bool) (e : Ev → Rs Dt) : Ev → Rs Dt := fun ε => (it ε).bind fun ds ε1 =>
  match compL vs t c e ds [] (wipeE ε1 vs) with
    | .ok l ε2 => .ok (.lst l) (backE ε1 (wipeE ε2 vs) vs)
    | _ => .no
def mYes : Ev → Rs Bool := .ok true
section
variable {K : PySem.W.Frag} {C : Cn} {A : Act} {G G' H H' : Hp} {ε : Ev} {σ σ2 : L2.St} {xs : List Addr} {p : Bool}
theorem wipeE_len (ε : Ev) : ∀ vs : List Nat, (wipeE ε vs).length = ε.length
  | [] => rfl
  | v :: vs => by unfold wipeE; rw [List.length_set, wipeE_len ε vs]
theorem wipeE_in {ε : Ev} {i : Nat} : ∀ {vs : List Nat}, i ∈ vs → i < ε.length → (wipeE ε vs)[i]? = some .un
  | [], h, _ => nomatch h
  | v :: vs, h, hl => by
    unfold wipeE
    by_cases q : v = i
    · subst q; exact List.getElem?_set_self (by rw [wipeE_len]; exact hl)
    · rw [List.getElem?_set_ne q]
      exact wipeE_in ((List.mem_cons.mp h).resolve_left fun z => q z.symm) hl
theorem wipeE_out {ε : Ev} {i : Nat} : ∀ {vs : List Nat}, i ∉ vs → (wipeE ε vs)[i]? = ε[i]?
  | [], _ => rfl
  | v :: vs, h => by
    unfold wipeE
    rw [List.getElem?_set_ne fun z => h (by rw [z]; exact List.mem_cons_self)]
    exact wipeE_out fun z => h (List.mem_cons_of_mem _ z)
theorem wipe_in {σ : L2.St} {i : Nat} : ∀ {vs : List Nat}, i ∈ vs → i < σ.length → (wipe σ vs)[i]? = some none
  | [], h, _ => nomatch h
  | v :: vs, h, hl => by
    unfold wipe
    by_cases q : v = i
    · subst q; exact List.getElem?_set_self (by rw [wipe_length]; exact hl)
    · rw [List.getElem?_set_ne q]
      exact wipe_in ((List.mem_cons.mp h).resolve_left fun z => q z.symm) hl
theorem wipe_eq {σ σ2 : L2.St} {vs tv : List Nat} (hl : σ2.length = σ.length) (h : ∀ j, j ∉ tv → σ2[j]? = (wipe σ vs)[j]?) (hv : ∀ j ∈ tv, j ∈ vs) : wipe σ2 vs = wipe σ vs := by
  apply List.ext_getElem?
  intro j
  by_cases q : j ∈ vs
  · by_cases hj : j < σ.length
    · rw [wipe_in q hj, wipe_in q (by omega)]
    · rw [List.getElem?_eq_none (by rw [wipe_length]; omega), List.getElem?_eq_none (by rw [wipe_length]; omega)]
  · rw [wipe_out q, h j fun z => q (hv j z), wipe_out q]
/-- other slots, but for the block's own names -/
theorem RG.reslot {vs : List Nat} (R : RG K A G ε σ2 H xs) (hl : σ.length = σ2.length) (h : ∀ j, j ∉ vs → σ[j]? = σ2[j]?) (hf : ∀ p ∈ A.fix, p.1 ∉ vs) : RG K A G (wipeE ε vs) σ H xs := by
  obtain ⟨fps, l1, l2, sl, c1, c2, c3⟩ := R.slots
  have wf : ∀ (vs : List Nat), ∃ fps' : List (List Addr), fps'.length = fps.length ∧ (∀ i, i ∉ vs → fps'[i]? = fps[i]?) ∧ (∀ i ∈ vs, i < fps.length → fps'[i]? = some []) ∧ ∀ a, cnt a fps' ≤ cnt a fps := by
    intro vs
    induction vs with
    | nil => exact ⟨fps, rfl, fun _ _ => rfl, (fun i z => nomatch z), fun _ => Nat.le_refl _⟩
    | cons v vs ih =>
      obtain ⟨f, h1, h2, h3, h4⟩ := ih
      refine ⟨f.set v [], by rw [List.length_set, h1], fun i hi => ?_, fun i hi hl => ?_, fun a => ?_⟩
      · rw [List.getElem?_set_ne fun z => hi (by rw [z]; exact List.mem_cons_self)]
        exact h2 i fun z => hi (List.mem_cons_of_mem _ z)
      · by_cases q : v = i
        · subst q; exact List.getElem?_set_self (by omega)
        · rw [List.getElem?_set_ne q]
          exact h3 i ((List.mem_cons.mp hi).resolve_left fun z => q z.symm) hl
      · by_cases q : v < f.length
        · have := cnt_set a [] (List.getElem?_eq_getElem q)
          have := h4 a
          simp at this ⊢
          have e : ([] : List Addr).count a = 0 := rfl
          omega
        · rw [List.set_eq_of_length_le (by omega)]; exact h4 a
  obtain ⟨f, h1, h2, h3, h4⟩ := wf vs
  refine ⟨R.sub, R.old, R.live, R.new, ⟨f, by rw [wipeE_len]; omega, by rw [wipeE_len]; omega, fun i s e => ?_, fun a => by have := c1 a; have := h4 a; omega, fun a ha => c2 a (Nat.lt_of_lt_of_le ha (h4 a)), c3⟩, fun q hq => ?_, R.xd⟩
  · have hi : i < ε.length := by
      have := (List.getElem?_eq_some_iff.mp e).1
      rwa [wipeE_len] at this
    by_cases q : i ∈ vs
    · rw [wipeE_in q hi] at e
      cases e
      exact ⟨σ[i]'(by omega), [], List.getElem?_eq_getElem _, h3 i q (by omega), rfl, .inr fun a ha => nomatch ha⟩
    · rw [wipeE_out q] at e
      obtain ⟨x, l, a1, a2, a3, a4⟩ := sl i s e
      exact ⟨x, l, by rw [h i q]; exact a1, by rw [h2 i q]; exact a2, a3, a4⟩
  · rw [h _ (hf q hq)]; exact R.fix q hq
theorem backE_len (ε0 ε : Ev) : ∀ vs : List Nat, (backE ε0 ε vs).length = ε.length
  | [] => rfl
  | v :: vs => by
    unfold backE
    split
    · rw [List.length_set]; exact backE_len ε0 ε vs
    · exact backE_len ε0 ε vs
/-- .. put back -/
theorem RG.back {ε0 : Ev} {G0 H0 : Hp} {xs0 : List Addr} : ∀ {vs : List Nat}, RG K A G ε σ H xs → RG K A G0 ε0 σ H0 xs0 → Same G0 G → (∀ p ∈ A.fix, p.1 ∉ vs) → RG K A G (backE ε0 ε vs) σ H xs
  | [], R, _, _, _ => R
  | v :: vs, R, R0, s, hf => by
    have ih := RG.back (vs := vs) R R0 s fun p hp z => hf p hp (List.mem_cons_of_mem _ z)
    unfold backE
    split
    · rename_i d e
      obtain ⟨w, l, h1, ⟨e2, h2⟩, _⟩ := R0.at_ e
      have R2 := RG.store (fp := []) (i := v) (k := 0) (d := d) (v := w) ih (fun u z => hf _ z List.mem_cons_self) ⟨rfl, h2.mono s⟩
      have es : σ.set v (some w) = σ := by
        apply List.ext_getElem?
        intro j
        by_cases q : v = j
        · subst q; rw [List.getElem?_set_self (List.getElem?_eq_some_iff.mp h1).1, h1]
        · rw [List.getElem?_set_ne q]
      rw [es] at R2
      exact R2
    · exact ih
/-- elements of a list that is one's own, one more -/
theorem LFp.snoc {P : Dt → V → List Addr → Prop} {d : Dt} {v : V} {f : List Addr} : ∀ {ds : List Dt} {ws : List V} {r : List Addr}, LFp P ds ws r → P d v f → LFp P (ds ++ [d]) (ws ++ [v]) (r ++ f)
  | [], _, _, ⟨rfl, rfl⟩, h => ⟨v, [], f, [], rfl, by simp, h, rfl, rfl⟩
  | _ :: _, _, _, ⟨w, ws', r1, r2, rfl, rfl, q, t⟩, h => ⟨w, ws' ++ [v], r1, r2 ++ f, rfl, by simp, q, t.snoc h⟩
theorem tsat_comp {k : Nat} {wi : TI} {tg : TG} {tt : TT} {te : TE} {vs tv : List Nat} {it : Ev → Rs (List Dt)} {t : Dt → Ev → Rs Unit} {c : Ev → Rs Bool} {e : Ev → Rs Dt} {W0 : WX} {p1 p2 : Bool} (hi : TISat K C p wi it) (hg : TGSat K ⟨W0, C.np, C.P⟩ true 0 tv tg t) (hc : TTSat K ⟨W0, C.np, C.P⟩ p1 tt c)
    (he : TSat K ⟨W0, C.np, C.P⟩ (.o k) p2 te e) (hv : ∀ j ∈ tv, j ∈ vs) (hn : ∀ j ∈ vs, j ∉ C.np) : TSat K C (.o (k + 1)) (p && (p1 && p2)) (tLc wi tg tt te vs) (mComp vs it t c e) := fun A G ε σ H xs Q hA R h => by
  have hA' : A.in_ ⟨W0, C.np, C.P⟩ := hA
  have hf : ∀ q ∈ A.fix, q.1 ∉ vs := fun q hq z => hn _ z (hA.1 q hq)
  refine hi A G ε σ H xs _ hA R ?_
  unfold mComp at h
  cases e0 : it ε with
  | no => rw [e0] at h; exact h
  | er x ε1 => rw [e0] at h; exact h
  | ok ds ε1 =>
    rw [e0] at h
    have h : EPost K C A (.o (k + 1)) (p && (p1 && p2)) G H σ xs (match compL vs t c e ds [] (wipeE ε1 vs) with
      | .ok l ε2 => .ok (.lst l) (backE ε1 (wipeE ε2 vs) vs)
      | _ => .no) Q := h
    intro J H1 G1 R1 ok s1 hx1 hh1 D hD
    have sl : (wipe σ vs).length = σ.length := wipe_length σ vs
    have R2 : RG K A G1 (wipeE ε1 vs) (wipe σ vs) H1 xs := R1.reslot sl (fun j hj => wipe_out hj) hf
    have R3 := R2.new_own (o := .lst []) hD
    let Inv : Nat → Hp → Prop := fun i H' => ∃ G' ε' acc dacc fpa, Same G1 G' ∧ RG K A G' ε' (wipe σ vs) H' (D :: (fpa ++ xs)) ∧ H' D = some (.lst acc) ∧ LFp (Ow K H' G' k) dacc acc fpa ∧ (∀ a ∈ xs, H' a = H a) ∧
      ((p && (p1 && p2)) = true → Same H1 (upd H' D (.lst []))) ∧
      EPost K C A (.o (k + 1)) (p && (p1 && p2)) G H σ xs (match compL vs t c e (ds.drop i) dacc ε' with
        | .ok l ε2 => .ok (.lst l) (backE ε1 (wipeE ε2 vs) vs)
        | _ => .no) Q
    refine ⟨fun i m H' => m = ds.length - i ∧ i ≤ ds.length ∧ Inv i H', ⟨_, rfl, Nat.zero_le _, G1, wipeE ε1 vs, [], [], [], Same.refl _, R3, upd_same, ⟨rfl, rfl⟩, fun a ha => (upd_ne (R2.xne hD ha)).trans (hx1 a ha), fun z => by rw [upd_upd]; exact upd_keep hD, h⟩, ?_⟩
    rintro i m H' ⟨rfl, hle, G', ε', acc, dacc, fpa, s', R', eD, lf, hxx, hpp, hq⟩
    by_cases hlt : i < ds.length
    · refine .inr ⟨ok.go i H' hlt (s'.trans R'.sub), Inv (i + 1), fun H2 z => ⟨ds.length - (i + 1), by omega, rfl, hlt, z⟩, fun x H2 y => ?_⟩
      obtain ⟨d, hd, yr⟩ := ok.yld i H' x H2 hlt (s'.trans R'.sub) y
      obtain ⟨G2, R2', s2, hx, fx2, hh2⟩ := yr.step (G' := G1) (H' := H2) R' s'
      refine hg A G2 ε' (wipe σ vs) H2 (D :: (fpa ++ xs)) [] d x _ hA' R2' ⟨rfl, hx⟩ ?_
      have e1 : ds.drop i = d :: ds.drop (i + 1) := by
        rw [List.drop_eq_getElem_cons hlt]
        rw [List.getElem?_eq_getElem hlt] at hd
        rw [Option.some.inj hd]
      rw [e1] at hq
      unfold compL at hq
      cases e2 : t d ε' with
      | no => rw [e2] at hq; exact hq.elim
      | er x ε1 => rw [e2] at hq; exact hq.elim
      | ok u ε2 =>
        rw [e2] at hq
        intro σ3 H3 G3 R3' s3 fx3 hσ3 hh3
        have l3 : σ3.length = σ.length := hσ3.1.trans sl
        refine ⟨wipe_eq l3 hσ3.2 hv, ?_⟩
        have rs : ∀ {ε4 : Ev} {H4 G4 : Hp} {ys : List Addr}, RG K A G4 ε4 σ3 H4 ys → RG K A G4 (wipeE ε4 vs) (wipe σ vs) H4 ys := fun r => r.reslot (sl.trans l3.symm) (fun j hj => (hσ3.2 j fun z => hj (hv j z)).symm) hf
        refine hc A G3 ε2 σ3 H3 (D :: (fpa ++ xs)) _ hA' R3' ?_
        have hq : EPost K C A (.o (k + 1)) (p && (p1 && p2)) G H σ xs (match (match c ε2 with
          | .ok true ε2 => (match e ε2 with
            | .ok y ε3 => if dacc.length < sizeLine then compL vs t c e (ds.drop (i + 1)) (dacc ++ [y]) (wipeE ε3 vs) else .no
            | _ => .no)
          | .ok false ε2 => compL vs t c e (ds.drop (i + 1)) dacc (wipeE ε2 vs)
          | _ => .no) with
          | .ok l ε2 => .ok (.lst l) (backE ε1 (wipeE ε2 vs) vs)
          | _ => .no) Q := hq
        cases e3 : c ε2 with
        | no => rw [e3] at hq; exact hq.elim
        | er x ε1 => rw [e3] at hq; exact hq.elim
        | ok b ε3 =>
          rw [e3] at hq
          intro H4 G4 R4 s4 fx4 hh4
          have fx : ∀ a ∈ D :: (fpa ++ xs), H4 a = H' a := fun a ha => (fx4 a ha).trans ((fx3 a ha).trans (fx2 a ha))
          have hp4 : ∀ {H5 : Hp}, Same H4 H5 → (p && (p1 && p2)) = true → Same H1 (upd H5 D (.lst [])) := fun {H5} s6 z b o eb => by
            have h1 := hpp z b o eb
            have nb : b ≠ D := fun y => by subst y; rw [hD] at eb; cases eb
            rw [upd_ne nb] at h1 ⊢
            have z2 := Bool.and_eq_true_iff.mp (Bool.and_eq_true_iff.mp z).2
            exact s6 b o (hh4 z2.1 b o (hh3 rfl b o (hh2 b o h1)))
          cases b with
          | false =>
            refine iteF ⟨G4, wipeE ε3 vs, acc, dacc, fpa, s'.trans (s2.trans (s3.trans s4)), rs R4, (fx D List.mem_cons_self).trans eD, LFp.mono (fun d v l hl o => o.frame (s2.trans (s3.trans s4)) fun a ha => fx a (List.mem_cons_of_mem _ (List.mem_append_left _ (hl a ha)))) lf,
              fun a ha => (fx a (List.mem_cons_of_mem _ (List.mem_append_right _ ha))).trans (hxx a ha), hp4 (Same.refl _), hq⟩
          | true =>
            refine iteT (he A G4 ε3 σ3 H4 (D :: (fpa ++ xs)) _ hA' R4 ?_)
            have hq : EPost K C A (.o (k + 1)) (p && (p1 && p2)) G H σ xs (match (match e ε3 with
              | .ok y ε3 => if dacc.length < sizeLine then compL vs t c e (ds.drop (i + 1)) (dacc ++ [y]) (wipeE ε3 vs) else .no
              | _ => .no) with
              | .ok l ε2 => .ok (.lst l) (backE ε1 (wipeE ε2 vs) vs)
              | _ => .no) Q := hq
            cases e4 : e ε3 with
            | no => rw [e4] at hq; exact hq.elim
            | er x ε1 => rw [e4] at hq; exact hq.elim
            | ok y ε4 =>
              rw [e4] at hq
              intro v H5 G5 fp R5 o s5 fx5 hh5
              have hq : EPost K C A (.o (k + 1)) (p && (p1 && p2)) G H σ xs (match (if dacc.length < sizeLine then compL vs t c e (ds.drop (i + 1)) (dacc ++ [y]) (wipeE ε4 vs) else .no) with
                | .ok l ε2 => .ok (.lst l) (backE ε1 (wipeE ε2 vs) vs)
                | _ => .no) Q := hq
              have fxx : ∀ a ∈ D :: (fpa ++ xs), H5 a = H' a := fun a ha => (fx5 a ha).trans (fx a ha)
              have lf5 : LFp (Ow K H5 G5 k) dacc acc fpa := LFp.mono (fun d v l hl o => o.frame (s2.trans (s3.trans (s4.trans s5))) fun a ha => fxx a (List.mem_cons_of_mem _ (List.mem_append_left _ (hl a ha)))) lf
              have alen : acc.length = dacc.length := by
                have g : ∀ {P : Dt → V → List Addr → Prop} {ds : List Dt} {vs : List V} {r : List Addr}, LFp P ds vs r → vs.length = ds.length := by
                  intro P ds
                  induction ds with
                  | nil =>
                    intro vs r h
                    rw [h.1]; rfl
                  | cons d ds ih =>
                    rintro vs r ⟨v, vs', r1, r2, rfl, _, _, t⟩
                    rw [List.length_cons, List.length_cons, ih t]
                exact g lf
              by_cases hz : dacc.length < sizeLine
              · rw [if_pos hz] at hq
                have R6 : RG K A G5 ε4 σ3 H5 (D :: ((fpa ++ fp) ++ xs)) := R5.perm fun a => by simp [List.count_append, List.count_cons]; omega
                have R7 := R6.mut_own (o := .lst (acc ++ [v])) (p := D) List.mem_cons_self
                have nD : ∀ a ∈ (fpa ++ fp) ++ xs, a ≠ D := fun a ha z => by
                  subst z
                  have := R6.xs1 a
                  rw [List.count_cons_self] at this
                  have := List.count_pos_iff.mpr ha
                  omega
                refine ⟨acc, (fxx D List.mem_cons_self).trans eD, by rw [alen]; exact hz, G5, wipeE ε4 vs, acc ++ [v], dacc ++ [y], fpa ++ fp, s'.trans (s2.trans (s3.trans (s4.trans s5))), rs R7, upd_same, ?_, ?_, ?_, hq⟩
                · refine LFp.mono (fun d w l hl o => o.frame (Same.refl _) fun a ha => upd_ne (nD a (List.mem_append_left _ (hl a ha)))) (LFp.snoc lf5 o)
                · exact fun a ha => (upd_ne (nD a (List.mem_append_right _ ha))).trans ((fxx a (List.mem_cons_of_mem _ (List.mem_append_right _ ha))).trans (hxx a ha))
                · intro z
                  rw [upd_upd]
                  exact hp4 (hh5 (Bool.and_eq_true_iff.mp (Bool.and_eq_true_iff.mp z).2).2) z
              · rw [if_neg hz] at hq; exact hq.elim
    · have : i = ds.length := by omega
      subst this
      rw [List.drop_length] at hq
      have Rb : RG K A G' (wipeE ε' vs) σ H' ((D :: fpa) ++ xs) := R'.reslot sl.symm (fun j hj => (wipe_out hj).symm) hf
      have Rc := Rb.back R1 s' hf
      exact .inl ⟨ok.stop H' (s'.trans R'.sub), hq (.ref D) H' G' (D :: fpa) Rc (.inl ⟨dacc, D, acc, fpa, rfl, rfl, rfl, eD, lf⟩) (s1.trans s') hxx fun z => (hh1 (Bool.and_eq_true_iff.mp z).1).trans fun b o eb => by
        have := hpp z b o eb
        have nb : b ≠ D := fun y => by subst y; rw [hD] at eb; cases eb
        rw [upd_ne nb] at this
        exact this⟩
end
end Mir

set_option Elab.async false
set_option linter.all false
set_option maxRecDepth 100000
set_option maxHeartbeats 400000
namespace Mir
open PySem PySem.Spec PyProof.Rows L2 He

/-! ### comprehensions, as expressions -/
abbrev Cn.in_ (C : Cn) : Cn := ⟨fun _ _ _ _ => False, C.np, C.P⟩
section
variable {X : Cx} {C : Cn} {k : Nat} {p p1 p2 : Bool} {e : Expr} {pos : Pos} {f : Ev → Rs Dt}
/-- one reading for a family of contexts -/
theorem uni_e {ι : Type} {Xs : ι → Cx} {K : PySem.W.Frag} {m : Md} (hK : ∀ i, (Xs i).K = K) (h : ∀ i, DE (Xs i) C m p e f) : ∃ t, (∀ i, PE (Xs i) e t) ∧ TSat K C m p t f := by
  refine ⟨fun σ H Q => ∀ (i : ι) (t : TE), PE (Xs i) e t → TSat K C m p t f → t σ H Q, fun i => ⟨fun pins s σ H Q I q => ?_⟩, fun A G ε σ H xs Q hA R q i t _ ht => ht A G ε σ H xs Q hA R q⟩
  obtain ⟨t, h1, h2⟩ := h i
  rw [hK i] at h2
  exact h1.run pins s σ H Q I (q i t h1 h2)
theorem uni_g {ι : Type} {Xs : ι → Cx} {K : PySem.W.Frag} {gp : Bool} {tv : List Nat} {tg : Expr} {g : Dt → Ev → Rs Unit} (hK : ∀ i, (Xs i).K = K) (h : ∀ i, DG (Xs i) C gp k tv tg g) : ∃ t, (∀ i, PG (Xs i) tg t) ∧ TGSat K C gp k tv t g := by
  refine ⟨fun v σ H Q => ∀ (i : ι) (t : TG), PG (Xs i) tg t → TGSat K C gp k tv t g → t v σ H Q, fun i => ⟨?_⟩, fun A G ε σ H xs fp d v Q hA R o q i t _ ht => ht A G ε σ H xs fp d v Q hA R o q⟩
  obtain ⟨t, h1, h2⟩ := h i
  rw [hK i] at h2
  intros
  rename_i q
  exact h1.run _ _ _ _ _ _ _ ‹_› ‹_› (q i t h1 h2)
/-- a comprehension's test -/
def DTs (X : Cx) (C : Cn) (p : Bool) (ifs : List Expr) (c : Ev → Rs Bool) : Prop := ∃ t, PTs X ifs t ∧ TTSat X.K C p t c
theorem dts_nil : DTs X C true [] mYes := ⟨_, pts_nil, fun A G ε σ H xs Q hA R q => q H G R (Same.refl G) (fun _ _ => rfl) fun _ => Same.refl H⟩
theorem dts_one {c : Expr} {g : Ev → Rs Bool} (h : DT X C p c g) : DTs X C p [c] g := by
  obtain ⟨t, a, b⟩ := h
  exact ⟨_, pts_one a, b⟩
theorem uni_t {ι : Type} {Xs : ι → Cx} {K : PySem.W.Frag} {ifs : List Expr} {c : Ev → Rs Bool} (hK : ∀ i, (Xs i).K = K) (h : ∀ i, DTs (Xs i) C p ifs c) : ∃ t, (∀ i, PTs (Xs i) ifs t) ∧ TTSat K C p t c := by
  refine ⟨fun σ H Q => ∀ (i : ι) (t : TT), PTs (Xs i) ifs t → TTSat K C p t c → t σ H Q, fun i => ⟨?_⟩, fun A G ε σ H xs Q hA R q i t _ ht => ht A G ε σ H xs Q hA R q⟩
  obtain ⟨t, h1, h2⟩ := h i
  rw [hK i] at h2
  intros
  rename_i q
  exact h1.run _ _ _ _ _ ‹_› (q i t h1 h2)
abbrev Bi := Shared × Hp × Addr × List (Str × Addr) × List Addr
abbrev bx (X : Cx) (scope : Scope) (i : Bi) : Cx := X.blk i.1 i.2.1 scope (compEnvC scope i.2.2.2.1 i.2.2.1 X.env) i.2.2.2.2
theorem de_lc {elt tg iter : Expr} {ifs : List Expr} {scope : Scope} {own : List (Str × Nat)} {tv : List Nat} {it : Ev → Rs (List Dt)} {t : Dt → Ev → Rs Unit} {c : Ev → Rs Bool} (hc : X.calm = true) (hN : X.N.Nodup) (hi : DI X C p tg iter it) (ok : BlkOk X.N X.env.scope scope own)
    (hg : ∀ i : Bi, DG (bx X scope i) C.in_ true 0 tv tg t) (ht : ∀ i : Bi, DTs (bx X scope i) C.in_ p1 ifs c) (he : ∀ i : Bi, DE (bx X scope i) C.in_ (.o k) p2 elt f)
    (hv : ∀ j ∈ tv, j ∈ own.map (·.2) := by decide) (hn : ∀ j ∈ own.map (·.2), j ∉ C.np := by decide) (hs : ∀ x, foldedSetIterable iter X.env x = pure x := by intro _; rfl) :
    DE X C (.o (k + 1)) (p && (p1 && p2)) (.ListComp elt [⟨tg, iter, ifs, 0⟩] scope pos) (mComp (own.map (·.2)) it t c f) := by
  obtain ⟨wi, a1, a2⟩ := hi
  obtain ⟨g, b1, b2⟩ := uni_g (Xs := bx X scope) (K := X.K) (fun _ => rfl) hg
  obtain ⟨tt, c1, c2⟩ := uni_t (Xs := bx X scope) (K := X.K) (fun _ => rfl) ht
  obtain ⟨te, d1, d2⟩ := uni_e (Xs := bx X scope) (K := X.K) (fun _ => rfl) he
  exact ⟨_, pe_lc hc hN a1 ok (fun s H A cl fp => b1 (s, H, A, cl, fp)) (fun s H A cl fp => c1 (s, H, A, cl, fp)) (fun s H A cl fp => d1 (s, H, A, cl, fp)) hs, tsat_comp a2 b2 c2 d2 hv hn⟩
/-- x = [..], as the model has it -/
theorem ds_setLc {i kk : Nat} {y : Str} {py : Pos} {elt tg iter : Expr} {ifs : List Expr} {scope : Scope} {own : List (Str × Nat)} {spos : Pos} {tv : List Nat} {it : Ev → Rs (List Dt)} {t : Dt → Ev → Rs Unit} {c : Ev → Rs Bool} (hc : X.calm = true) (hN : X.N.Nodup)
    (hy : X.N[i]? = some y) (hyl : X.env.scope.names.lookup y = some .local) (hnp : i ∉ C.np) (hsw : swapsWith (.ListComp elt [⟨tg, iter, ifs, 0⟩] scope pos) (some (.Name y py)) spos.line X.env = pure true) (hi : DI X C p tg iter it) (ok : BlkOk X.N X.env.scope scope own)
    (hg : ∀ i : Bi, DG (bx X scope i) C.in_ true 0 tv tg t) (ht : ∀ i : Bi, DTs (bx X scope i) C.in_ p1 ifs c) (he : ∀ i : Bi, DE (bx X scope i) C.in_ (.o k) p2 elt f) (j : Nat) (hj : j = 0 ∨ j = k + 1)
    (hv : ∀ j ∈ tv, j ∈ own.map (·.2) := by decide) (hn : ∀ j ∈ own.map (·.2), j ∉ C.np := by decide) (hs : ∀ x, foldedSetIterable iter X.env x = pure x := by intro _; rfl) :
    DS X C kk (.Assign [.Name y py] (.ListComp elt [⟨tg, iter, ifs, 0⟩] scope pos) spos) (sAsg (mComp (own.map (·.2)) it t c f) (gSet i j)) := by
  obtain ⟨wi, a1, a2⟩ := hi
  obtain ⟨g, b1, b2⟩ := uni_g (Xs := bx X scope) (K := X.K) (fun _ => rfl) hg
  obtain ⟨tt, c1, c2⟩ := uni_t (Xs := bx X scope) (K := X.K) (fun _ => rfl) ht
  obtain ⟨te, d1, d2⟩ := uni_e (Xs := bx X scope) (K := X.K) (fun _ => rfl) he
  have hp := ps_setLc hc hN hy hyl hsw a1 ok (fun s H A cl fp => b1 (s, H, A, cl, fp)) (fun s H A cl fp => c1 (s, H, A, cl, fp)) (fun s H A cl fp => d1 (s, H, A, cl, fp)) hs
  have q : TSat X.K C (.o (k + 1)) (p && (p1 && p2)) (tLc wi g tt te (own.map (·.2))) (mComp (own.map (·.2)) it t c f) := tsat_comp a2 b2 c2 d2 hv hn
  rcases hj with rfl | rfl
  · refine ⟨_, hp, tssat_asg (p := p && (p1 && p2)) ?_ (tgsat_set hnp)⟩
    exact TSat.s q
  · exact ⟨_, hp, tssat_asg q (tgsat_set hnp)⟩
end
end Mir

set_option Elab.async false
set_option linter.all false
set_option maxRecDepth 100000
set_option maxHeartbeats 400000
namespace Mir
open PySem PySem.Spec PyProof.Rows L2 He

/-! ### what is owned, changed -/
section
variable {K : PySem.W.Frag} {A : Act} {G H H' : Hp} {ε : Ev} {σ : L2.St} {xs : List Addr}
theorem RG.mutSlot2 {i k k' : Nat} {d d' : Dt} {fp : List Addr} (R : RG K A G ε σ H (fp ++ xs)) (e : ε[i]? = some (.vl k d))
    (h : ∀ v l, σ[i]? = some (some v) → Ow K H G k d v l → (∀ a ∈ l, a ∉ fp) → (∀ a, l.count a ≤ 1) → ∃ l', (∀ a, l'.count a ≤ l.count a + fp.count a) ∧ Ow K H' G k' d' v l')
    (ch : ∀ v l, σ[i]? = some (some v) → Ow K H G k d v l → ∀ b, b ∉ l → b ∉ fp → H' b = H b) (lv : ∀ b, H b ≠ none → H' b ≠ none) :
    RG K A G (ε.set i (.vl k' d')) σ H' xs ∧ ∀ a ∈ xs, H' a = H a := by
  obtain ⟨fps, l1, l2, sl, c1, c2, c3⟩ := R.slots
  obtain ⟨x, l, h1, h2, ⟨v, rfl, o⟩, h4⟩ := sl i _ e
  have hlf : ∀ a ∈ l, a ∉ fp := fun a ha hb => by
    have := c1 a
    have := cnt_ge a h2
    have := List.count_pos_iff.mpr ha
    have := List.count_pos_iff.mpr hb
    rw [List.count_append] at *
    omega
  obtain ⟨l', q1, q2⟩ := h v l h1 o hlf fun a => by have := c1 a; have := cnt_ge a h2; omega
  have hi : i < ε.length := (List.getElem?_eq_some_iff.mp e).1
  have c := ch v l h1 o
  have kx : ∀ a ∈ xs, H' a = H a := fun a ha => c a (fun hb => by
    have := c1 a
    have := cnt_ge a h2
    have := List.count_pos_iff.mpr ha
    have := List.count_pos_iff.mpr hb
    rw [List.count_append] at *
    omega) fun hb => by
    have := c1 a
    have := List.count_pos_iff.mpr ha
    have := List.count_pos_iff.mpr hb
    rw [List.count_append] at *
    omega
  refine ⟨⟨fun b u hb => ?_, fun b u hb nb => ?_, fun b hb => ?_, R.new, ⟨fps.set i l', by simp [l1], by simp [l2], fun j s ej => ?_, fun a => ?_, fun a ha => ?_, fun a ha => ?_⟩, R.fix, R.xd⟩, kx⟩
  · rw [c b (fun z => by rw [(c2 b (cnt_mem b h2 z)).1] at hb; cases hb) fun z => by rw [(c3 b (List.mem_append_left _ z)).1] at hb; cases hb]
    exact R.sub _ _ hb
  · rw [c b (fun z => by
      rcases (c2 b (cnt_mem b h2 z)).2.2 with y | y
      · exact nb y
      · rw [hb] at y; cases y) fun z => by rw [(c3 b (List.mem_append_left _ z)).2.2] at hb; cases hb]
    exact R.old b u hb nb
  · cases e2 : H b with
    | none => exact R.live b e2
    | some u => exact absurd hb (lv b (by rw [e2]; exact nofun))
  · by_cases q : i = j
    · subst q
      rw [List.getElem?_set_self hi] at ej
      cases ej
      refine ⟨some v, l', h1, List.getElem?_set_self (by omega), ⟨v, rfl, q2⟩, ?_⟩
      rcases h4 with y | y
      · exact .inl y
      · refine .inr fun a ha => ?_
        have := q1 a
        have := List.count_pos_iff.mpr ha
        rcases Nat.eq_zero_or_pos (l.count a) with z | z
        · exact (c3 a (List.mem_append_left _ (List.count_pos_iff.mp (by omega)))).2.2
        · exact y a (List.count_pos_iff.mp z)
    · rw [List.getElem?_set_ne q] at ej
      obtain ⟨x, m, p1, p2, p3, p4⟩ := sl j s ej
      refine ⟨x, m, p1, by rw [List.getElem?_set_ne q]; exact p2, p3.frame (Same.refl G) fun a ha => c a (fun z => ?_) fun z => ?_, p4⟩
      · have := cnt_two a q h2 p2
        have := c1 a
        have := List.count_pos_iff.mpr z
        have := List.count_pos_iff.mpr ha
        omega
      · have := cnt_ge a p2
        have := c1 a
        have := List.count_pos_iff.mpr z
        have := List.count_pos_iff.mpr ha
        rw [List.count_append] at *
        omega
  · have p1 := cnt_set a l' h2
    have p2 := q1 a
    have p3 := c1 a
    rw [List.count_append] at p3
    omega
  · have p1 := cnt_set a l' h2
    have p2 := q1 a
    rcases Nat.eq_zero_or_pos (cnt a fps) with z | z
    · have hz : 0 < fp.count a := by have := cnt_ge a h2; omega
      have m := c3 a (List.mem_append_left _ (List.count_pos_iff.mp hz))
      exact ⟨m.1, lv a m.2.1, .inr m.2.2⟩
    · exact ⟨(c2 a z).1, lv a (c2 a z).2.1, (c2 a z).2.2⟩
  · have m := c3 a (List.mem_append_right _ ha)
    exact ⟨m.1, lv a m.2.1, m.2.2⟩
/-- a slot's list (its own, the items settled), changed -/
theorem RG.mutList {i : Nat} {l l' : List Dt} {xs : List Addr} (R : RG K A G ε σ H xs) (e : ε[i]? = some (.vl 1 (.lst l))) :
    ∃ a vs, σ[i]? = some (some (.ref a)) ∧ H a = some (.lst vs) ∧ DenL K G l vs ∧ ∀ vs', DenL K G l' vs' → RG K A G (ε.set i (.vl 1 (.lst l'))) σ (upd H a (.lst vs')) xs ∧ ∀ b ∈ xs, upd H a (.lst vs') b = H b := by
  obtain ⟨v, fp, h1, o, hfp⟩ := R.at_ e
  rcases o with ⟨ds, a, vs, r, e1, e2, e3, e4, t⟩ | ⟨ks, ds, a, ws, r, e1, _⟩ | ⟨ks, ds, a, ws, r, e1, _⟩ | ⟨c, fs, ds, a, dx, ws, r, e1, _⟩
  · cases e1
    subst e2
    obtain ⟨er, hd⟩ := LFp.zero.mp t
    subst er
    refine ⟨a, vs, h1, e4, hd, fun vs' hd' => ?_⟩
    refine RG.mutSlot2 (fp := []) (xs := xs) R e (fun v l q o _ _ => ?_) (fun v l q o b hb _ => ?_) fun b hb => ?_
    · rw [h1] at q
      cases q
      refine ⟨[a], fun b => ?_, .inl ⟨l', a, vs', [], rfl, rfl, rfl, upd_same, LFp.zero.mpr ⟨rfl, hd'⟩⟩⟩
      rcases o with ⟨_, a', _, r, z1, z2, z3, _⟩ | ⟨_, _, _, _, _, z1, _⟩ | ⟨_, _, _, _, _, z1, _⟩ | ⟨_, _, _, _, _, _, _, z1, _⟩
      · cases z2
        subst z3
        simp [List.count_cons]
      · cases z1
      · cases z1
      · cases z1
    · rw [h1] at q
      cases q
      rcases o with ⟨_, a', _, r, z1, z2, z3, _⟩ | ⟨_, _, _, _, _, z1, _⟩ | ⟨_, _, _, _, _, z1, _⟩ | ⟨_, _, _, _, _, _, _, z1, _⟩
      · cases z2
        subst z3
        exact upd_ne fun z => hb (by rw [z]; exact List.mem_cons_self)
      · cases z1
      · cases z1
      · cases z1
    · by_cases q : b = a
      · subst q; rw [upd_same]; exact nofun
      · rw [upd_ne q]; exact hb
  · cases e1
  · cases e1
  · cases e1
end
/-- a method of a list that changes it: what it gives back, what is left -/
def MtS (K : PySem.W.Frag) (r : V → List V → Hp → VK → Prop) (f : List Dt → List Dt → Option (Dt × List Dt)) : Prop :=
  ∀ (G H : Hp) (a : Addr) (l as : List Dt) (vs us : List V) (z : Dt) (l' : List Dt) (Q : VK), Same G H → H a = some (.lst vs) → DenL K G l vs → DenL K G as us → f l as = some (z, l') →
    (∀ v vs', Den K G z v → DenL K G l' vs' → Q v (upd H a (.lst vs'))) → r (.ref a) us H Q
def mMut (i : Nat) (f : List Dt → List Dt → Option (Dt × List Dt)) (fa : Ev → Rs (List Dt)) : Ev → Rs Dt := fun ε => match ε[i]? with
  | some (.vl 1 (.lst _)) => (fa ε).bind fun as ε1 => (match ε1[i]? with
    | some (.vl 1 (.lst l)) => (match f l as with
      | some (z, l') => .ok z (ε1.set i (.vl 1 (.lst l')))
      | none => .no)
    | _ => .no)
  | _ => .no
section
variable {X : Cx} {C : Cn} {k i : Nat} {p : Bool} {e : Expr} {es : List Expr} {pos apos cpos : Pos} {f : List Dt → List Dt → Option (Dt × List Dt)} {fa : Ev → Rs (List Dt)} {x name : Str} {id : String} {r : V → List V → Hp → VK → Prop}
theorem tsat_mut {K : PySem.W.Frag} {ta : TA} (ha : TASat K C p ta fa) (hm : MtS K r f) : TSat K C (.o 0) false (tBM K "list" r (tVar i) ta) (mMut i f fa) := fun A G ε σ H xs Q hA R h => by
  unfold mMut at h
  cases e0 : ε[i]? with
  | none => rw [e0] at h; exact h.elim
  | some s =>
    cases s with
    | un => rw [e0] at h; exact h.elim
    | vl k d =>
      rw [e0] at h
      match k, d, e0, h with
      | 1, .lst l0, e0, h =>
        obtain ⟨a0, vs0, q1, q2, _⟩ := R.mutList (l' := l0) e0
        refine ⟨.ref a0, q1, .inl ⟨rfl, vs0, .inl (.inl q2)⟩, ha A G ε σ H xs _ hA R ?_⟩
        have h : EPost K C A (.o 0) false G H σ xs ((fa ε).bind fun as ε1 => (match ε1[i]? with
          | some (.vl 1 (.lst l)) => (match f l as with
            | some (z, l') => .ok z (ε1.set i (.vl 1 (.lst l')))
            | none => .no)
          | _ => .no)) Q := h
        cases e1 : fa ε with
        | no => rw [e1] at h; exact h
        | er x ε1 => rw [e1] at h; exact h
        | ok as ε1 =>
          rw [e1] at h
          intro us H1 G1 R1 hd s1 hx1 hh1
          have h : EPost K C A (.o 0) false G H σ xs (match ε1[i]? with
            | some (.vl 1 (.lst l)) => (match f l as with
              | some (z, l') => .ok z (ε1.set i (.vl 1 (.lst l')))
              | none => .no)
            | _ => .no) Q := h
          split at h
          · rename_i l e2
            split at h
            · rename_i z l' e3
              obtain ⟨a, vs, w1, w2, w3, w4⟩ := R1.mutList (l' := l') e2
              rw [q1] at w1
              cases w1
              refine hm G1 H1 a0 l as vs us z l' Q R1.sub w2 w3 hd e3 fun v vs' hz hl => ?_
              obtain ⟨R2, kx⟩ := w4 vs' hl
              exact h v _ G1 [] R2 ⟨rfl, hz⟩ s1 (fun b hb => (kx b hb).trans (hx1 b hb)) nofun
            · exact h.elim
          · exact h.elim
      | 0, _, _, h => exact h.elim
      | _ + 2, _, _, h => exact h.elim
end
end Mir

set_option Elab.async false
set_option linter.all false
set_option maxRecDepth 100000
set_option maxHeartbeats 400000
namespace Mir
open PySem PySem.Spec PyProof.Rows L2 He

section
variable {X : Cx} {C : Cn} {k i : Nat} {p : Bool} {e : Expr} {es : List Expr} {pos apos cpos : Pos} {f : List Dt → List Dt → Option (Dt × List Dt)} {fa : Ev → Rs (List Dt)} {x name : Str} {id : String} {r : V → List V → Hp → VK → Prop}
theorem de_mut (slot : Slot "list" name id) (hty : typeOf (.builtin id) = pure (.type "method_descriptor")) (hm : MtR X id r) (hs : MtS X.K r f) (ho : PE X (.Name x pos) (tVar i)) (ha : DA X C p (e :: es) fa)
    (hbase : attributeBase (.Name x pos) name X.env (eval (.Name x pos) X.env) = eval (.Name x pos) X.env := by rfl)
    (hfew : ((backTo cpos (starEach (e :: es) X.env)).all (fun x => !x.1) && (backToKw cpos (keywordEach [] X.env)).all (fun x => x.1.isSome)
      && decide ((e :: es).length + ([] : List Keyword).length + (if ([] : List Keyword).isEmpty then 0 else 1) < 30)) = true := by rfl)
    (hline : (apos.endLine == cpos.line) = true := by rfl) (hst : starEach (e :: es) X.env = (false, eval e X.env) :: starEach es X.env := by rfl) (hplain : (backTo cpos (starEach es X.env)).any (·.1) = false := by rfl) :
    DE X C (.o 0) false (.Call (.Attribute (.Name x pos) name apos) (e :: es) [] cpos) (mMut i f fa) := by
  obtain ⟨t, a, b⟩ := ha
  exact ⟨_, pe_bm PySem.F.plainAttrs_list slot hty hm ho a hbase hfew hline hst hplain, tsat_mut b hs⟩
theorem de_mut0 (slot : Slot "list" name id) (hty : typeOf (.builtin id) = pure (.type "method_descriptor")) (hm : MtR X id r) (hs : MtS X.K r f) (ho : PE X (.Name x pos) (tVar i))
    (hbase : attributeBase (.Name x pos) name X.env (eval (.Name x pos) X.env) = eval (.Name x pos) X.env := by rfl) (hline : (apos.endLine == cpos.line) = true := by rfl) :
    DE X C (.o 0) false (.Call (.Attribute (.Name x pos) name apos) [] [] cpos) (mMut i f mNil) := by
  refine ⟨_, pe_bm0 PySem.F.plainAttrs_list slot hty hm ho hbase hline, fun A G ε σ H xs Q hA R h => ?_⟩
  have := tsat_mut (C := C) (i := i) (f := f) tasat_nil hs A G ε σ H xs Q hA R h
  exact this
end
/-! the methods -/
def fAppend (l as : List Dt) : Option (Dt × List Dt) := match as with
  | [d] => if l.length < sizeLine then some (.non, l ++ [d]) else none
  | _ => none
def fPop (l as : List Dt) : Option (Dt × List Dt) := match as with
  | [] => (match l[l.length - 1]? with
    | some d => some (d, l.dropLast)
    | none => none)
  | _ => none
def fPopAt (l as : List Dt) : Option (Dt × List Dt) := match int1 as with
  | some i => if smallR i = true then (match seqIndex? i l.length with
    | some j => (match l[j]? with
      | some d => some (d, l.eraseIdx j)
      | none => none)
    | none => none) else none
  | none => none
def fReverse (l as : List Dt) : Option (Dt × List Dt) := match as with
  | [] => some (.non, l.reverse)
  | _ => none
section
variable {K : PySem.W.Frag}
theorem DenL.one {G : Hp} {d : Dt} {us : List V} (h : DenL K G [d] us) : ∃ v, us = [v] ∧ Den K G d v := by
  obtain ⟨v, w, e, h1, e2⟩ := h
  obtain rfl : w = [] := e2
  exact ⟨v, e, h1⟩
theorem DenL.int1 {G : Hp} {ds : List Dt} {j : Int} {us : List V} (h : DenL K G ds us) (e : Mir.int1 ds = some j) : us = [.int j] := by
  rw [int1_eq e] at h
  obtain ⟨v, rfl, h1⟩ := h.one
  obtain rfl : v = .int j := h1
  rfl
theorem mts_append : MtS K rAppend fAppend := fun G H a l as vs us z l' Q s e hl ha hf hq => by
  unfold fAppend at hf
  split at hf
  · rename_i d
    split at hf
    · rename_i hz
      cases hf
      obtain ⟨v, rfl, h1⟩ := ha.one
      exact ⟨a, vs, v, rfl, rfl, e, by rw [hl.length]; exact hz, hq .non _ rfl (hl.append ⟨v, [], rfl, h1, rfl⟩)⟩
    · cases hf
  · cases hf
theorem mts_pop : MtS K rPop fPop := fun G H a l as vs us z l' Q s e hl ha hf hq => by
  unfold fPop at hf
  split at hf
  · split at hf
    · rename_i d ed
      cases hf
      obtain rfl : us = [] := ha
      obtain ⟨v, h1, h2⟩ := hl.get ed
      exact ⟨a, vs, v, rfl, rfl, e, by rw [hl.length]; exact h1, hq v _ h2 hl.dropLast⟩
    · cases hf
  · cases hf
theorem mts_popAt : MtS K rPopAt fPopAt := fun G H a l as vs us z l' Q s e hl ha hf hq => by
  unfold fPopAt at hf
  split at hf
  · rename_i i ei
    split at hf
    · rename_i hz
      split at hf
      · rename_i j ej
        split at hf
        · rename_i d ed
          cases hf
          obtain ⟨v, h1, h2⟩ := hl.get ed
          have := small_of hz
          exact ⟨a, vs, i, j, v, rfl, ha.int1 ei, e, by omega, by omega, by rw [hl.length]; exact ej, h1, hq v _ h2 (hl.eraseIdx j)⟩
        · cases hf
      · cases hf
    · cases hf
  · cases hf
theorem mts_reverse : MtS K rReverse fReverse := fun G H a l as vs us z l' Q s e hl ha hf hq => by
  unfold fReverse at hf
  split at hf
  · cases hf
    obtain rfl : us = [] := ha
    exact ⟨a, vs, rfl, rfl, e, hq .non _ rfl hl.reverse⟩
  · cases hf
end
/-! ### a place stored to: x[i] = v, x one's own list -/
def putAt (i : Nat) (d z : Dt) (ε : Ev) : Rs Unit := match z with
  | .int n => (match ε[i]? with
    | some (.vl 1 (.lst l)) => (match ixN l.length n with
      | some j => .ok () (ε.set i (.vl 1 (.lst (l.set j d))))
      | none => .no)
    | _ => .no)
  | _ => .no
def gPut (i : Nat) (fi : Ev → Rs Dt) : Dt → Ev → Rs Unit := fun d ε => match ε[i]? with
  | some (.vl 1 (.lst _)) => (fi ε).bind fun z ε1 => putAt i d z ε1
  | _ => .no
section
variable {X : Cx} {C : Cn} {k i : Nat} {p : Bool} {e ie : Expr} {pos pos' : Pos} {fi : Ev → Rs Dt} {x : Str}
theorem gpost_of {K : PySem.W.Frag} {A : Act} {gp : Bool} {tv : List Nat} {G H : Hp} {σ : L2.St} {xs : List Addr} {r : Rs Unit} {Q : L2.St → Hp → Prop} (h : GPost K A gp tv G H σ xs r Q) : ∃ u ε, r = .ok u ε ∧ ∀ σ' H' G', RG K A G' ε σ' H' xs → Same G G' → (∀ a ∈ xs, H' a = H a) → (σ'.length = σ.length ∧ ∀ j, j ∉ tv → σ'[j]? = σ[j]?) → (gp = true → Same H H') → Q σ' H' := by
  cases r with
  | ok u ε => exact ⟨u, ε, rfl, h⟩
  | er x ε => exact False.elim h
  | no => exact False.elim h
theorem tgsat_put {K : PySem.W.Frag} {m : Md} {ti : TE} (hi : TSat K C (.o 0) p ti fi) : TGSat K C false 0 [] (gSub (tVar i) ti rSetL) (gPut i fi) := fun A G ε σ H xs fp d v Q hA R o q => by
  obtain ⟨rfl, o⟩ := o
  obtain ⟨u, ε', er, q⟩ := gpost_of q
  unfold gPut at er
  split at er
  · rename_i l0 e0
    obtain ⟨a0, vs0, q1, q2, _⟩ := R.mutList (l' := l0) e0
    refine ⟨.ref a0, q1, hi A G ε σ H xs _ hA R ?_⟩
    cases e1 : fi ε with
    | no => rw [e1] at er; cases er
    | er x ε1 => rw [e1] at er; cases er
    | ok z ε1 =>
      rw [e1] at er
      rintro w H1 G1 fp R1 ⟨rfl, ow⟩ s1 hx1 _
      replace er : putAt i d z ε1 = Rs.ok u ε' := er
      unfold putAt at er
      split at er
      · rename_i n
        split at er
        · rename_i l e2
          split at er
          · rename_i j ej
            cases er
            obtain ⟨a, vs, w1, w2, w3, w4⟩ := R1.mutList (l' := l.set j d) e2
            rw [q1] at w1
            cases w1
            obtain ⟨R2, kx⟩ := w4 (vs.set j v) (w3.set (o.mono s1))
            exact ⟨a0, vs, n, j, rfl, ow, w2, by rw [w3.length]; exact ej, q σ _ G1 R2 s1 (fun b hb => (kx b hb).trans (hx1 b hb)) ⟨rfl, fun _ _ => rfl⟩ nofun⟩
          · cases er
        · cases er
      · cases er
  · cases er
theorem dg_put (ho : PE X (.Name x pos) (tVar i)) (hi : DE X C (.o 0) p ie fi)
    (ha : ∀ v, assign (.Subscript (.Name x pos) ie pos') X.env v = (do
      let ov ← holding [v] (eval (.Name x pos) X.env)
      let iv ← holding [v, ov] (eval ie X.env)
      standAt pos'
      holding [v, ov, iv] (setItem ov iv v)
      release [v, ov, iv] []) := by intro _; rfl) : DG X C false 0 [] (.Subscript (.Name x pos) ie pos') (gPut i fi) := by
  obtain ⟨t, a, b⟩ := hi
  exact ⟨_, pg_sub ho a set_list ha, tgsat_put (m := .b) b⟩
end
end Mir

set_option Elab.async false
set_option linter.all false
set_option maxRecDepth 100000
set_option maxHeartbeats 400000
namespace Mir
open PySem PySem.Spec PyProof.Rows L2 He

/-! ### a row of rows of one's own: x[i][j] = v; x.append(a list of one's own) -/
section
variable {K : PySem.W.Frag} {A : Act} {G H H' : Hp} {ε : Ev} {σ : L2.St} {xs : List Addr}
theorem LFp.at_ {P : Dt → V → List Addr → Prop} : ∀ {ds : List Dt} {vs : List V} {r : List Addr} {i : Nat} {d : Dt}, LFp P ds vs r → ds[i]? = some d → ∃ v r1 r2 r3, vs[i]? = some v ∧ r = r1 ++ (r2 ++ r3) ∧ P d v r2 ∧
    ∀ {P' : Dt → V → List Addr → Prop} {d' : Dt} {r2' : List Addr}, (∀ d v l, (∀ a ∈ l, a ∈ r1 ∨ a ∈ r3) → P d v l → P' d v l) → P' d' v r2' → LFp P' (ds.set i d') vs (r1 ++ (r2' ++ r3))
  | [], _, _, _, _, _, e => by simp at e
  | d :: ds, _, _, 0, _, ⟨v, vs', r1, r2, rfl, rfl, h, t⟩, e => by
    simp at e; subst e
    refine ⟨v, [], r1, r2, rfl, rfl, h, fun {P' d' r2'} m h' => ⟨v, vs', r2', r2, rfl, rfl, h', LFp.mono (fun d v l hl => m d v l fun a ha => .inr (hl a ha)) t⟩⟩
  | d :: ds, _, _, i + 1, _, ⟨v, vs', r1, r2, rfl, rfl, h, t⟩, e => by
    obtain ⟨w, q1, q2, q3, e1, e2, e3, e4⟩ := LFp.at_ (i := i) t (by simpa using e)
    refine ⟨w, r1 ++ q1, q2, q3, by simpa using e1, by rw [e2]; simp, e3, fun {P' d' r2'} m h' => ?_⟩
    refine ⟨v, vs', r1, q1 ++ (r2' ++ q3), rfl, by simp, m _ _ _ (fun a ha => .inl (List.mem_append_left _ ha)) h, e4 (fun d v l hl => m d v l fun a ha => ?_) h'⟩
    rcases hl a ha with z | z
    · exact .inl (List.mem_append_right _ z)
    · exact .inr z
theorem ow2_lst {l : List Dt} {v : V} {fp : List Addr} (h : Ow K H G 2 (.lst l) v fp) : ∃ a vs r, v = .ref a ∧ fp = a :: r ∧ H a = some (.lst vs) ∧ LFp (Ow K H G 1) l vs r := by
  rcases h with ⟨ds, a, vs, r, e1, e2, e3, e4, t⟩ | ⟨_, _, _, _, _, e1, _⟩ | ⟨_, _, _, _, _, e1, _⟩ | ⟨_, _, _, _, _, _, _, e1, _⟩
  · cases e1; exact ⟨a, vs, r, e2, e3, e4, t⟩
  · cases e1
  · cases e1
  · cases e1
theorem ow1_lst {l : List Dt} {v : V} {fp : List Addr} (h : Ow K H G 1 (.lst l) v fp) : ∃ a vs, v = .ref a ∧ fp = [a] ∧ H a = some (.lst vs) ∧ DenL K G l vs := by
  rcases h with ⟨ds, a, vs, r, e1, e2, e3, e4, t⟩ | ⟨_, _, _, _, _, e1, _⟩ | ⟨_, _, _, _, _, e1, _⟩ | ⟨_, _, _, _, _, _, _, e1, _⟩
  · cases e1
    obtain ⟨er, hd⟩ := LFp.zero.mp t
    subst er
    exact ⟨a, vs, e2, e3, e4, hd⟩
  · cases e1
  · cases e1
  · cases e1
/-- a cell of a row of rows -/
theorem RG.mutCell {i n : Nat} {l row row' : List Dt} (R : RG K A G ε σ H xs) (e : ε[i]? = some (.vl 2 (.lst l))) (er : l[n]? = some (.lst row)) :
    ∃ a vs b ws, σ[i]? = some (some (.ref a)) ∧ H a = some (.lst vs) ∧ vs.length = l.length ∧ vs[n]? = some (.ref b) ∧ H b = some (.lst ws) ∧ DenL K G row ws ∧
      ∀ ws', DenL K G row' ws' → RG K A G (ε.set i (.vl 2 (.lst (l.set n (.lst row'))))) σ (upd H b (.lst ws')) xs ∧ ∀ c ∈ xs, upd H b (.lst ws') c = H c := by
  obtain ⟨v, fp, h1, o, hfp⟩ := R.at_ e
  obtain ⟨a, vs, r, rfl, e2, e3, t⟩ := ow2_lst o
  have hlen : vs.length = l.length := by
    have g : ∀ {P : Dt → V → List Addr → Prop} {ds : List Dt} {vs : List V} {r : List Addr}, LFp P ds vs r → vs.length = ds.length := by
      intro P ds
      induction ds with
      | nil =>
        intro vs r h
        rw [h.1]; rfl
      | cons d ds ih =>
        rintro vs r ⟨v, vs', r1, r2, rfl, _, _, t⟩
        rw [List.length_cons, List.length_cons, ih t]
    exact g t
  obtain ⟨w, r1, r2, r3, q1, q2, q3, q4⟩ := t.at_ er
  obtain ⟨b, ws, rfl, eb, hb, hd⟩ := ow1_lst q3
  have dec : ∀ {v : V} {lf : List Addr}, σ[i]? = some (some v) → Ow K H G 2 (.lst l) v lf → ∃ r1 r3, lf = a :: (r1 ++ ([b] ++ r3)) ∧ v = .ref a ∧
      ∀ {P' : Dt → V → List Addr → Prop} {d' : Dt} {r2' : List Addr}, (∀ d v l, (∀ a ∈ l, a ∈ r1 ∨ a ∈ r3) → Ow K H G 1 d v l → P' d v l) → P' d' (.ref b) r2' → LFp P' (l.set n d') vs (r1 ++ (r2' ++ r3)) := by
    intro v lf hs ho
    rw [h1] at hs
    cases hs
    obtain ⟨a', vs', r', z1, z2, z3, z4⟩ := ow2_lst ho
    cases z1
    rw [e3] at z3
    cases z3
    obtain ⟨w, p1, p2, p3, y1, y2, y3, y4⟩ := z4.at_ er
    rw [q1] at y1
    cases y1
    obtain ⟨b', ws2, x1, x2, x3, x4⟩ := ow1_lst y3
    cases x1
    subst x2
    exact ⟨p1, p3, by rw [z2, y2], rfl, y4⟩
  refine ⟨a, vs, b, ws, h1, e3, hlen, q1, hb, hd, fun ws' hd' => ?_⟩
  refine RG.mutSlot2 (fp := []) (xs := xs) R e (fun v lf q o _ nd => ?_) (fun v lf q o c hc _ => ?_) fun c hc => ?_
  · obtain ⟨p1, p3, y1, rfl, y4⟩ := dec q o
    have cb : ∀ c, (p1.count c + (([b] : List Addr).count c + p3.count c)) + (if a = c then 1 else 0) ≤ 1 := fun c => by
      have := nd c
      rw [y1, List.count_cons, List.count_append, List.count_append] at this
      by_cases z : a = c
      · subst z; simpa using this
      · simpa [z] using this
    have c1 : ([b] : List Addr).count b = 1 := by simp
    have nb : ∀ c, c ∈ p1 ∨ c ∈ p3 → c ≠ b := fun c hc z => by
      subst z
      have := cb c
      rcases hc with hc | hc
      · have := List.count_pos_iff.mpr hc; omega
      · have := List.count_pos_iff.mpr hc; omega
    have na : a ≠ b := fun z => by
      subst z
      have := cb a
      rw [if_pos rfl] at this
      omega
    refine ⟨lf, fun c => by simp, .inl ⟨_, a, vs, _, rfl, rfl, y1, by rw [upd_ne na]; exact e3, y4 (fun d v l hl o => o.frame (Same.refl G) fun c hc => upd_ne (nb c (hl c hc))) (.inl ⟨row', b, ws', [], rfl, rfl, rfl, upd_same, LFp.zero.mpr ⟨rfl, hd'⟩⟩)⟩⟩
  · obtain ⟨p1, p3, y1, rfl, y4⟩ := dec q o
    refine upd_ne fun z => hc ?_
    rw [y1, z]
    simp
  · by_cases q : c = b
    · subst q; rw [upd_same]; exact nofun
    · rw [upd_ne q]; exact hc
/-- a list of one's own is put behind -/
theorem RG.mutRow {i k : Nat} {l : List Dt} {d : Dt} {v : V} {fp : List Addr} (R : RG K A G ε σ H (fp ++ xs)) (e : ε[i]? = some (.vl (k + 1) (.lst l))) (hd : Ow K H G k d v fp) :
    ∃ a vs, σ[i]? = some (some (.ref a)) ∧ H a = some (.lst vs) ∧ vs.length = l.length ∧ RG K A G (ε.set i (.vl (k + 1) (.lst (l ++ [d])))) σ (upd H a (.lst (vs ++ [v]))) xs ∧ ∀ c ∈ xs, upd H a (.lst (vs ++ [v])) c = H c := by
  obtain ⟨w, f, h1, o, hfp⟩ := R.at_ e
  have dec : ∀ {v : V} {f : List Addr}, Ow K H G (k + 1) (.lst l) v f → ∃ a vs r, v = .ref a ∧ f = a :: r ∧ H a = some (.lst vs) ∧ LFp (Ow K H G k) l vs r := by
    intro v f h
    rcases h with ⟨ds, a, vs, r, e1, e2, e3, e4, t⟩ | ⟨_, _, _, _, _, e1, _⟩ | ⟨_, _, _, _, _, e1, _⟩ | ⟨_, _, _, _, _, _, _, e1, _⟩
    · cases e1; exact ⟨a, vs, r, e2, e3, e4, t⟩
    · cases e1
    · cases e1
    · cases e1
  obtain ⟨a, vs, r, rfl, e2, e3, t⟩ := dec o
  have hlen : vs.length = l.length := by
    have g : ∀ {P : Dt → V → List Addr → Prop} {ds : List Dt} {vs : List V} {r : List Addr}, LFp P ds vs r → vs.length = ds.length := by
      intro P ds
      induction ds with
      | nil =>
        intro vs r h
        rw [h.1]; rfl
      | cons d ds ih =>
        rintro vs r ⟨v, vs', r1, r2, rfl, _, _, t⟩
        rw [List.length_cons, List.length_cons, ih t]
    exact g t
  refine ⟨a, vs, h1, e3, hlen, ?_⟩
  refine RG.mutSlot2 (fp := fp) (xs := xs) R e (fun u lf q o hdis nd => ?_) (fun u lf q o c hc _ => ?_) fun c hc => ?_
  · rw [h1] at q
    cases q
    obtain ⟨a', vs', r', z1, z2, z3, z4⟩ := dec o
    cases z1
    rw [e3] at z3
    cases z3
    have nr : ∀ c ∈ r', c ≠ a := fun c hc z => by
      subst z
      have := nd c
      rw [z2, List.count_cons_self] at this
      have := List.count_pos_iff.mpr hc
      omega
    have nf : ∀ c ∈ fp, c ≠ a := fun c hc z => by
      subst z
      exact hdis c (by rw [z2]; exact List.mem_cons_self) hc
    refine ⟨a :: (r' ++ fp), fun c => by rw [z2]; simp [List.count_append, List.count_cons]; omega, .inl ⟨_, a, vs ++ [v], _, rfl, rfl, rfl, upd_same, LFp.snoc (LFp.mono (fun d v l hl o => o.frame (Same.refl G) fun c hc => upd_ne (nr c (hl c hc))) z4) (hd.frame (Same.refl G) fun c hc => upd_ne (nf c hc))⟩⟩
  · rw [h1] at q
    cases q
    obtain ⟨a', vs', r', z1, z2, z3, z4⟩ := dec o
    cases z1
    refine upd_ne fun z => hc ?_
    rw [z2, z]
    exact List.mem_cons_self
  · by_cases q : c = a
    · subst q; rw [upd_same]; exact nofun
    · rw [upd_ne q]; exact hc
end
end Mir

set_option Elab.async false
set_option linter.all false
set_option maxRecDepth 100000
set_option maxHeartbeats 400000
namespace Mir
open PySem PySem.Spec PyProof.Rows L2 He

/-! ### subscripts -/
theorem atI_map {α β : Type} {xs : List α} {ys : List β} {i : Int} (h : xs.length = ys.length) {x : α} (e : atI xs i = some x) : ∃ j, ixN ys.length i = some j ∧ xs[j]? = some x := by
  unfold atI at e
  rw [h] at e
  cases q : ixN ys.length i with
  | none => rw [q] at e; cases e
  | some j => rw [q] at e; exact ⟨j, rfl, e⟩
theorem atI_of {α : Type} {ys : List α} {i : Int} {j : Nat} {y : α} (h : ixN ys.length i = some j) (e : ys[j]? = some y) : atI ys i = some y := by
  unfold atI
  rw [h]; exact e
def fIx (d1 d2 : Dt) : Option Rz := match d1, d2 with
  | .lst l, .int i => (match atI l i with
    | some d => some (.el d)
    | none => none)
  | .tup l, .int i => (match atI l i with
    | some d => some (.el d)
    | none => none)
  | .str z, .int i => if z.length ≤ sizeLine then (match atI z.cps.toList i with
    | some c => some (.sc (.str ⟨#[c]⟩))
    | none => none) else none
  | _, _ => none
theorem ops_ix {K : PySem.W.Frag} : OpS K (rIx K) fIx := fun G H d1 d2 v1 v2 z Q s h1 h2 hf q => by
  unfold fIx at hf
  split at hf
  · rename_i l i
    obtain ⟨a, vs, rfl, e, hd⟩ := h1
    obtain rfl : v2 = .int i := h2
    split at hf
    · rename_i d ed
      cases hf
      obtain ⟨j, hj, ej⟩ := atI_map hd.length.symm ed
      obtain ⟨v, ev, hv⟩ := hd.get ej
      exact .inl ⟨a, vs, i, v, rfl, rfl, .inl (.inl e), atI_of hj ev, q v hv⟩
    · cases hf
  · rename_i l i
    obtain ⟨a, vs, rfl, e, hd⟩ := h1
    obtain rfl : v2 = .int i := h2
    split at hf
    · rename_i d ed
      cases hf
      obtain ⟨j, hj, ej⟩ := atI_map hd.length.symm ed
      obtain ⟨v, ev, hv⟩ := hd.get ej
      exact .inr (.inl ⟨a, vs, i, v, rfl, rfl, .inl (.inl (s _ _ e)), atI_of hj ev, q v hv⟩)
    · cases hf
  · rename_i x i
    obtain rfl : v1 = .str x := h1
    obtain rfl : v2 = .int i := h2
    split at hf
    · rename_i hz
      split at hf
      · rename_i c ec
        cases hf
        exact .inr (.inr ⟨x, i, c, rfl, rfl, hz, ec, q⟩)
      · cases hf
    · cases hf
  · cases hf
section
variable {X : Cx} {C : Cn} {k i : Nat} {p p1 p2 : Bool} {a b e : Expr} {pos : Pos} {fa fb : Ev → Rs Dt}
theorem de_ix (ha : DE X C .b p a fa) (hb : DE X C .b true b fb) (hs : PlainIx b) : DE X C (.o 0) p (.Subscript a b pos) (mOp fIx fa fb) := by
  obtain ⟨t, h1, h2⟩ := ha
  obtain ⟨u, h3, h4⟩ := hb
  exact ⟨_, pe_ix ix_seq h1 h3 hs, tsat_op h2 h4 ops_ix⟩
theorem de_ix' (ha : DE X C (.o 0) p1 a fa) (hb : DE X C .b p2 b fb) (hs : PlainIx b) : DE X C (.o 0) false (.Subscript a b pos) (mOp fIx fa fb) := by
  obtain ⟨t, h1, h2⟩ := ha
  obtain ⟨u, h3, h4⟩ := hb
  exact ⟨_, pe_ix ix_seq h1 h3 hs, tsat_op' h2 h4 ops_ix⟩
/-- .. of a deeply borrowed list: the item is borrowed likewise -/
def mOpt {α : Type} (o : Option α) (ε : Ev) : Rs α := match o with
  | some d => .ok d ε
  | none => .no
def ixD (d1 d2 : Dt) : Option Dt := match d1, d2 with
  | .lst l, .int i => atI l i
  | _, _ => none
def mIxD (fa fb : Ev → Rs Dt) : Ev → Rs Dt := fun ε => (fa ε).bind fun d1 ε1 => (fb ε1).bind fun d2 ε2 => mOpt (ixD d1 d2) ε2
theorem de_ixD (ha : DE X C .bd p a fa) (hb : DE X C .bd true b fb) (hs : PlainIx b) : DE X C .bd p (.Subscript a b pos) (mIxD fa fb) := by
  obtain ⟨t, h1, h2⟩ := ha
  obtain ⟨u, h3, h4⟩ := hb
  refine ⟨_, pe_ix ix_list h1 h3 hs, fun A G ε σ H xs Q hA R h => h2 A G ε σ H xs _ hA R ?_⟩
  unfold mIxD at h
  cases e1 : fa ε with
  | no => rw [e1] at h; exact h
  | er x ε1 => rw [e1] at h; exact h
  | ok d1 ε1 =>
    rw [e1] at h
    rintro v1 H1 G1 fp R1 ⟨rfl, r1⟩ s1 hx1 hh1
    have h : EPost X.K C A .bd p G H σ xs ((fb ε1).bind fun d2 ε2 => mOpt (ixD d1 d2) ε2) Q := h
    refine h4 A G1 ε1 σ H1 xs _ hA R1 ?_
    cases e2 : fb ε1 with
    | no => rw [e2] at h; exact h
    | er x ε2 => rw [e2] at h; exact ErP.mono s1 h
    | ok d2 ε2 =>
      rw [e2] at h
      rintro v2 H2 G2 fp R2 ⟨rfl, r2⟩ s2 hx2 hh2
      cases d1 with
      | lst l =>
        cases d2 with
        | int i =>
          obtain ⟨b, vs, rfl, eb, hd⟩ := r1
          obtain rfl : v2 = .int i := r2
          have h : EPost X.K C A .bd p G H σ xs (mOpt (atI l i) ε2) Q := h
          cases ed : atI l i with
          | none => rw [ed] at h; exact h.elim
          | some d =>
            rw [ed] at h
            obtain ⟨j, hj, ej⟩ := atI_map hd.length.symm ed
            obtain ⟨v, ev, hv⟩ := hd.get ej
            exact ⟨b, vs, i, v, rfl, rfl, .inl (.inl (hh2 rfl _ _ eb)), atI_of hj ev, h v H2 G2 [] R2 ⟨rfl, hv.mono (hh2 rfl)⟩ (s1.trans s2) (fun a ha => (hx2 a ha).trans (hx1 a ha)) fun z => (hh1 z).trans (hh2 rfl)⟩
        | _ => exact h.elim
      | _ => exact h.elim
/-! ### slices -/
def cutD (xs : List Dt) (lo hi : Option Int) : List Dt := (xs.drop (HT.sIx xs.length 0 lo)).take (HT.sIx xs.length xs.length hi - HT.sIx xs.length 0 lo)
/-- a slice's end: left out, or an int -/
def mNoP : Ev → Rs (Option Int) := .ok none
def mPart (f : Ev → Rs Dt) : Ev → Rs (Option Int) := fun ε => (f ε).bind fun d ε1 => match d with
  | .int i => .ok (some i) ε1
  | _ => .no
def OPost (K : PySem.W.Frag) (C : Cn) (A : Act) (G H : Hp) (σ : L2.St) (xs : List Addr) (r : Rs (Option Int)) (Q : Option Int → Hp → Prop) : Prop := match r with
  | .ok o ε => ∀ H' G', RG K A G' ε σ H' xs → Same G G' → (∀ a ∈ xs, H' a = H a) → Same H H' → Q o H'
  | .er x ε => ErP K C A G σ x ε
  | .no => False
def DO (X : Cx) (C : Cn) (e : Option Expr) (f : Ev → Rs (Option Int)) : Prop := ∃ t, PO X e t ∧ ∀ (A : Act) (G : Hp) (ε : Ev) (σ : L2.St) (H : Hp) (xs : List Addr) (Q : Option Int → Hp → Prop), A.in_ C → RG X.K A G ε σ H xs → OPost X.K C A G H σ xs (f ε) Q → t σ H Q
theorem do_none : DO X C none mNoP := ⟨_, po_none, fun A G ε σ H xs Q hA R h => h H G R (Same.refl G) (fun _ _ => rfl) (Same.refl H)⟩
theorem do_some (h : DE X C (.o 0) true e fa) : DO X C (some e) (mPart fa) := by
  obtain ⟨t, h1, h2⟩ := h
  refine ⟨_, po_some h1, fun A G ε σ H xs Q hA R h => h2 A G ε σ H xs _ hA R ?_⟩
  unfold mPart at h
  cases e1 : fa ε with
  | no => rw [e1] at h; exact h
  | er x ε1 => rw [e1] at h; exact h
  | ok d1 ε1 =>
    rw [e1] at h
    rintro v1 H1 G1 fp R1 ⟨rfl, r1⟩ s1 hx1 hh1
    cases d1 with
    | int i => exact ⟨i, r1, h H1 G1 R1 s1 hx1 (hh1 rfl)⟩
    | _ => exact h.elim
/-- of lists (the script too), and of tuples -/
def slD (d : Dt) (l r : Option Int) : Option Dt := match d with
  | .lst ds => some (.lst (cutD ds l r))
  | .scr ns => some (.lst (cutD (ns.map Dt.int) l r))
  | _ => none
def mSliceL (fa : Ev → Rs Dt) (fl fh : Ev → Rs (Option Int)) : Ev → Rs Dt := fun ε => (fa ε).bind fun d ε1 => (fl ε1).bind fun l ε2 => (fh ε2).bind fun r ε3 => mOpt (slD d l r) ε3
theorem DenL.cut {K : PySem.W.Frag} {G : Hp} {ds : List Dt} {vs : List V} (h : DenL K G ds vs) (l r : Option Int) : DenL K G (cutD ds l r) (cutV vs l r) := by
  unfold cutD cutV
  rw [h.length]
  exact (h.drop _).take _
theorem de_sliceL {lo hi : Option Expr} {fl fh : Ev → Rs (Option Int)} {p2 : Pos} (ha : DE X C .b p a fa) (hl : DO X C lo fl) (hh : DO X C hi fh) : DE X C (.o 1) p (.Subscript a (.Slice lo hi none p2) pos) (mSliceL fa fl fh) := by
  obtain ⟨t, h1, h2⟩ := ha
  obtain ⟨u, h3, h4⟩ := hl
  obtain ⟨w, h5, h6⟩ := hh
  refine ⟨_, pe_slice sl_list h1 h3 h5, fun A G ε σ H xs Q hA R h => h2 A G ε σ H xs _ hA R ?_⟩
  unfold mSliceL at h
  cases e1 : fa ε with
  | no => rw [e1] at h; exact h
  | er x ε1 => rw [e1] at h; exact h
  | ok d1 ε1 =>
    rw [e1] at h
    rintro v1 H1 G1 fp R1 ⟨rfl, r1⟩ s1 hx1 hh1
    refine h4 A G1 ε1 σ H1 xs _ hA R1 ?_
    have h : EPost X.K C A (.o 1) p G H σ xs ((fl ε1).bind fun l ε2 => (fh ε2).bind fun r ε3 => mOpt (slD d1 l r) ε3) Q := h
    cases e2 : fl ε1 with
    | no => rw [e2] at h; exact h
    | er x ε2 => rw [e2] at h; exact ErP.mono s1 h
    | ok l ε2 =>
      rw [e2] at h
      intro H2 G2 R2 s2 hx2 hh2
      refine h6 A G2 ε2 σ H2 xs _ hA R2 ?_
      have h : EPost X.K C A (.o 1) p G H σ xs ((fh ε2).bind fun r ε3 => mOpt (slD d1 l r) ε3) Q := h
      cases e3 : fh ε2 with
      | no => rw [e3] at h; exact h
      | er x ε2 => rw [e3] at h; exact ErP.mono (s1.trans s2) h
      | ok r ε3 =>
        rw [e3] at h
        intro H3 G3 R3 s3 hx3 hh3
        have fin : ∀ {ds : List Dt} {vs : List V}, DenL X.K G3 ds vs → EPost X.K C A (.o 1) p G H σ xs (.ok (.lst (cutD ds l r)) ε3) Q → ∀ q, H3 q = none → Q (.ref q) (upd H3 q (.lst (cutV vs l r))) := by
          intro ds vs hd h q hq
          exact h _ _ _ [q] (R3.new_own hq) (.inl ⟨_, q, _, [], rfl, rfl, rfl, upd_same, LFp.zero.mpr ⟨rfl, hd.cut l r⟩⟩) (s1.trans (s2.trans s3)) (fun a ha => (upd_ne (R3.xne hq ha)).trans ((hx3 a ha).trans ((hx2 a ha).trans (hx1 a ha)))) fun z => (hh1 z).trans (hh2.trans (hh3.trans (upd_keep hq)))
        cases d1 with
        | lst ds =>
          obtain ⟨b, vs, rfl, eb, hd⟩ := r1
          exact ⟨b, vs, rfl, .inl (.inl (hh3 _ _ (hh2 _ _ eb))), fin (hd.mono (s2.trans s3)) h⟩
        | scr ns =>
          obtain ⟨b, rfl, eb⟩ := r1
          exact ⟨b, ns.map V.int, rfl, ((s2.trans s3).trans R3.sub).seq eb, fin DenL.ints h⟩
        | _ => exact h.elim
end
end Mir

set_option Elab.async false
set_option linter.all false
set_option maxRecDepth 100000
set_option maxHeartbeats 400000
namespace Mir
open PySem PySem.Spec PyProof.Rows L2 He

/-! ### x[i][j] = v, x a row of rows of one's own -/
def cell1 (i : Nat) (z1 : Dt) (ε : Ev) : Option Nat := match z1 with
  | .int n => (match ε[i]? with
    | some (.vl 2 (.lst l)) => (match ixN l.length n with
      | some j => (match l[j]? with
        | some (.lst _) => some j
        | _ => none)
      | none => none)
    | _ => none)
  | _ => none
def cell2 (i j1 : Nat) (z2 d : Dt) (ε : Ev) : Rs Unit := match z2 with
  | .int n2 => (match ε[i]? with
    | some (.vl 2 (.lst l)) => (match l[j1]? with
      | some (.lst row) => (match ixN row.length n2 with
        | some j2 => .ok () (ε.set i (.vl 2 (.lst (l.set j1 (.lst (row.set j2 d))))))
        | none => .no)
      | _ => .no)
    | _ => .no)
  | _ => .no
def gCell (i : Nat) (f1 f2 : Ev → Rs Dt) : Dt → Ev → Rs Unit := fun d ε => match ε[i]? with
  | some (.vl 2 (.lst _)) => (f1 ε).bind fun z1 ε1 => (mOpt (cell1 i z1 ε1) ε1).bind fun j1 ε1 => (f2 ε1).bind fun z2 ε2 => cell2 i j1 z2 d ε2
  | _ => .no
section
variable {X : Cx} {C : Cn} {k i : Nat} {p p1 p2 : Bool} {e i1 i2 : Expr} {pos pos' pos2 : Pos} {f1 f2 : Ev → Rs Dt} {x : Str} {K : PySem.W.Frag}
theorem tgsat_cell {t1 t2 : TE} (h1 : TSat K C (.o 0) true t1 f1) (h2 : TSat K C (.o 0) true t2 f2) : TGSat K C false 0 [] (gSub (tOp (rIxL K) (tVar i) t1) t2 rSetL) (gCell i f1 f2) := fun A G ε σ H xs fp d v Q hA R o q => by
  obtain ⟨rfl, o⟩ := o
  obtain ⟨u, ε', er, q⟩ := gpost_of q
  unfold gCell at er
  split at er
  · rename_i l0 e0
    obtain ⟨v0, fp0, q1, o0, _⟩ := R.at_ e0
    obtain ⟨a0, vs0, r0, rfl, _, q2, _⟩ := ow2_lst o0
    refine ⟨.ref a0, q1, h1 A G ε σ H xs _ hA R ?_⟩
    cases e1 : f1 ε with
    | no => rw [e1] at er; cases er
    | er x ε1 => rw [e1] at er; cases er
    | ok z1 ε1 =>
      rw [e1] at er
      rintro w1 H1 G1 fp R1 ⟨rfl, ow1⟩ s1 hx1 hh1
      replace er : ((mOpt (cell1 i z1 ε1) ε1).bind fun j1 ε1 => (f2 ε1).bind fun z2 ε2 => cell2 i j1 z2 d ε2) = Rs.ok u ε' := er
      cases ec : cell1 i z1 ε1 with
      | none => rw [ec] at er; cases er
      | some j1 =>
        rw [ec] at er
        replace er : ((f2 ε1).bind fun z2 ε2 => cell2 i j1 z2 d ε2) = Rs.ok u ε' := er
        unfold cell1 at ec
        split at ec
        · rename_i n1
          obtain rfl : w1 = .int n1 := ow1
          split at ec
          · rename_i l1 el1
            split at ec
            · rename_i j0 ej0
              split at ec
              · rename_i row0 erow0
                cases ec
                obtain ⟨a, vs, b, ws, z1, z2, z3, z4, z5, z6, _⟩ := R1.mutCell (row' := row0) el1 erow0
                rw [q1] at z1
                cases z1
                refine ⟨a0, vs, n1, .ref b, rfl, rfl, .inl (.inl z2), atI_of (by rw [z3]; exact ej0) z4, h2 A G1 ε1 σ H1 xs _ hA R1 ?_⟩
                cases e2 : f2 ε1 with
                | no => rw [e2] at er; cases er
                | er x ε1 => rw [e2] at er; cases er
                | ok w ε2 =>
                  rw [e2] at er
                  replace er : cell2 i j1 w d ε2 = Rs.ok u ε' := er
                  rintro w2 H2 G2 fp R2 ⟨rfl, ow2⟩ s2 hx2 hh2
                  unfold cell2 at er
                  split at er
                  · rename_i n2
                    obtain rfl : w2 = .int n2 := ow2
                    split at er
                    · rename_i l el
                      split at er
                      · rename_i row erow
                        split at er
                        · rename_i j2 ej2
                          cases er
                          obtain ⟨a, vs2, b', ws2, y1, y2, y3, y4, y5, y6, y7⟩ := R2.mutCell (row' := row.set j2 d) el erow
                          rw [q1] at y1
                          cases y1
                          rw [hh2 rfl _ _ z2] at y2
                          cases y2
                          rw [z4] at y4
                          cases y4
                          obtain ⟨R3, kx⟩ := y7 (ws2.set j2 v) (y6.set (o.mono (s1.trans s2)))
                          exact ⟨b, ws2, n2, j2, rfl, rfl, y5, by rw [y6.length]; exact ej2, q σ _ G2 R3 (s1.trans s2) (fun c hc => (kx c hc).trans ((hx2 c hc).trans (hx1 c hc))) ⟨rfl, fun _ _ => rfl⟩ nofun⟩
                        · cases er
                      · cases er
                    · cases er
                  · cases er
              · cases ec
            · cases ec
          · cases ec
        · cases ec
  · cases er
theorem dg_cell (ho : PE X (.Name x pos) (tVar i)) (h1 : DE X C (.o 0) true i1 f1) (h2 : DE X C (.o 0) true i2 f2) (hs : PlainIx i1)
    (ha : ∀ v, assign (.Subscript (.Subscript (.Name x pos) i1 pos2) i2 pos') X.env v = (do
      let ov ← holding [v] (eval (.Subscript (.Name x pos) i1 pos2) X.env)
      let iv ← holding [v, ov] (eval i2 X.env)
      standAt pos'
      holding [v, ov, iv] (setItem ov iv v)
      release [v, ov, iv] []) := by intro _; rfl) : DG X C false 0 [] (.Subscript (.Subscript (.Name x pos) i1 pos2) i2 pos') (gCell i f1 f2) := by
  obtain ⟨t, a, b⟩ := h1
  obtain ⟨u, a', b'⟩ := h2
  exact ⟨_, pg_sub (pe_ix ix_list ho a hs) a' set_list ha, tgsat_cell b b'⟩
end
/-! ### attributes -/
def lookD (f : Str) : List Str → List Dt → Option Dt
  | g :: gs, d :: ds => if f = g then some d else lookD f gs ds
  | _, _ => none
theorem lookD_ok {K : PySem.W.Frag} {G : Hp} {f : Str} : ∀ {fs : List Str} {ds : List Dt} {ws : List (Str × V)} {d : Dt}, ws.map (·.1) = fs → DenL K G ds (ws.map (·.2)) → lookD f fs ds = some d → ∃ v, ws.lookup f = some v ∧ Den K G d v
  | [], _, _, _, _, _, e => by simp [lookD] at e
  | g :: gs, [], _, _, _, _, e => by simp [lookD] at e
  | g :: gs, d :: ds, [], _, h, _, _ => by simp at h
  | g :: gs, d :: ds, (k, v) :: ws, d', h, hd, e => by
    obtain ⟨w, r, e1, h1, h2⟩ := hd
    have e1 : v :: ws.map (·.2) = w :: r := e1
    obtain ⟨rfl, rfl⟩ := List.cons.inj e1
    have h : k :: ws.map (·.1) = g :: gs := h
    obtain ⟨rfl, hg⟩ := List.cons.inj h
    unfold lookD at e
    by_cases q : f = k
    · rw [if_pos q] at e
      cases e
      subst q
      exact ⟨v, by simp [List.lookup], h1⟩
    · rw [if_neg q] at e
      obtain ⟨u, h3, h4⟩ := lookD_ok hg h2 e
      refine ⟨u, ?_, h4⟩
      have : (f == k) = false := by simpa using q
      simp [List.lookup, this, h3]
/-- the classes that an attribute is read of, with what the written part says of each -/
def ClsF (K : PySem.W.Frag) (f : Str) (cs : List Str) : Prop := ∀ c ∈ cs, Cls K (ga K c) ∧ NoAttr K (ga K c) f
def fFld (cs : List Str) (f : Str) (d : Dt) : Option Dt := match d with
  | .ins c fs ds => if c ∈ cs then lookD f fs ds else none
  | _ => none
def mFld (cs : List Str) (f : Str) (fa : Ev → Rs Dt) : Ev → Rs Dt := fun ε => (fa ε).bind fun d ε1 => mOpt (fFld cs f d) ε1
section
variable {X : Cx} {C : Cn} {k i : Nat} {p p1 p2 : Bool} {e : Expr} {pos pos' : Pos} {fa : Ev → Rs Dt} {f : Str} {cs : List Str}
theorem de_fld (hc : ClsF X.K f cs) (ha : DE X C .b p e fa) (hb : attributeBase e f X.env (eval e X.env) = eval e X.env := by rfl) : DE X C (.o 0) p (.Attribute e f pos) (mFld cs f fa) := by
  obtain ⟨t, h1, h2⟩ := ha
  refine ⟨_, pe_fld h1 hb, fun A G ε σ H xs Q hA R h => h2 A G ε σ H xs _ hA R ?_⟩
  unfold mFld at h
  cases e1 : fa ε with
  | no => rw [e1] at h; exact h
  | er x ε1 => rw [e1] at h; exact h
  | ok d1 ε1 =>
    rw [e1] at h
    rintro v1 H1 G1 fp R1 ⟨rfl, r1⟩ s1 hx1 hh1
    replace h : EPost X.K C A (.o 0) p G H σ xs (mOpt (fFld cs f d1) ε1) Q := h
    cases d1 with
    | ins c fs ds =>
      obtain ⟨a, dx, ws, rfl, ea, hk, hd⟩ := r1
      replace h : EPost X.K C A (.o 0) p G H σ xs (mOpt (if c ∈ cs then lookD f fs ds else none) ε1) Q := h
      by_cases hm : c ∈ cs
      · rw [if_pos hm] at h
        cases el : lookD f fs ds with
        | none => rw [el] at h; exact h.elim
        | some d =>
          rw [el] at h
          obtain ⟨v, q1, q2⟩ := lookD_ok hk hd el
          exact ⟨a, ga X.K c, dx, ws, v, rfl, ea, (hc c hm).1, (hc c hm).2, q1, h v H1 G1 [] R1 ⟨rfl, q2⟩ s1 hx1 hh1⟩
      · rw [if_neg hm] at h; exact h.elim
    | _ => exact h.elim
end
end Mir

set_option Elab.async false
set_option linter.all false
set_option maxRecDepth 100000
set_option maxHeartbeats 400000
namespace Mir
open PySem PySem.Spec PyProof.Rows L2 He

/-! ### one's own object at a slot, changed at its top -/
section
variable {K : PySem.W.Frag} {A : Act} {G H H' : Hp} {ε : Ev} {σ : L2.St} {xs : List Addr}
/-- the top object alone is owned -/
theorem RG.mutTop {i : Nat} {d d' : Dt} {a : Addr} {o : HO} (R : RG K A G ε σ H xs) (e : ε[i]? = some (.vl 1 d)) (hσ : σ[i]? = some (some (.ref a))) (ho : ∀ v l, Ow K H G 1 d v l → ∃ b, v = .ref b ∧ l = [b]) (hn : Ow K (upd H a o) G 1 d' (.ref a) [a]) :
    RG K A G (ε.set i (.vl 1 d')) σ (upd H a o) xs ∧ ∀ b ∈ xs, upd H a o b = H b := by
  refine RG.mutSlot2 (fp := []) (xs := xs) R e (fun v l q o' _ _ => ?_) (fun v l q o' b hb _ => ?_) fun b hb => ?_
  · rw [hσ] at q
    cases q
    obtain ⟨b, e1, e2⟩ := ho _ _ o'
    cases e1
    subst e2
    exact ⟨[a], fun c => by simp, hn⟩
  · rw [hσ] at q
    cases q
    obtain ⟨c, e1, e2⟩ := ho _ _ o'
    cases e1
    subst e2
    exact upd_ne fun z => hb (by rw [z]; exact List.mem_cons_self)
  · by_cases q : b = a
    · subst q; rw [upd_same]; exact nofun
    · rw [upd_ne q]; exact hb
theorem ow1_ins {c : Str} {fs : List Str} {ds : List Dt} {v : V} {fp : List Addr} (h : Ow K H G 1 (.ins c fs ds) v fp) : ∃ a dx ws, v = .ref a ∧ fp = [a] ∧ H a = some (.ins (ga K c) dx ws) ∧ ws.map (·.1) = fs ∧ DenL K G ds (ws.map (·.2)) := by
  rcases h with ⟨_, _, _, _, e1, _⟩ | ⟨_, _, _, _, _, e1, _⟩ | ⟨_, _, _, _, _, e1, _⟩ | ⟨_, _, _, a, dx, ws, r, e1, e2, e3, e4, e5, t⟩
  · cases e1
  · cases e1
  · cases e1
  · cases e1
    obtain ⟨er, hd⟩ := LFp.zero.mp t
    subst er
    exact ⟨a, dx, ws, e2, e3, e4, e5, hd⟩
theorem ow1_dT {ks : List (List Key)} {ds : List Dt} {v : V} {fp : List Addr} (h : Ow K H G 1 (.dT ks ds) v fp) : ∃ a ws, v = .ref a ∧ fp = [a] ∧ H a = some (.dT ws) ∧ ws.map (·.1) = ks ∧ DenL K G ds (ws.map (·.2)) := by
  rcases h with ⟨_, _, _, _, e1, _⟩ | ⟨_, _, a, ws, r, e1, e2, e3, e4, e5, t⟩ | ⟨_, _, _, _, _, e1, _⟩ | ⟨_, _, _, _, _, _, _, e1, _⟩
  · cases e1
  · cases e1
    obtain ⟨er, hd⟩ := LFp.zero.mp t
    subst er
    exact ⟨a, ws, e2, e3, e4, e5, hd⟩
  · cases e1
  · cases e1
theorem ow1_dK {ks : List Key} {ds : List Dt} {v : V} {fp : List Addr} (h : Ow K H G 1 (.dK ks ds) v fp) : ∃ a ws, v = .ref a ∧ fp = [a] ∧ H a = some (.dK ws) ∧ ws.map (·.1) = ks ∧ DenL K G ds (ws.map (·.2)) := by
  rcases h with ⟨_, _, _, _, e1, _⟩ | ⟨_, _, _, _, _, e1, _⟩ | ⟨_, _, a, ws, r, e1, e2, e3, e4, e5, t⟩ | ⟨_, _, _, _, _, _, _, e1, _⟩
  · cases e1
  · cases e1
  · cases e1
    obtain ⟨er, hd⟩ := LFp.zero.mp t
    subst er
    exact ⟨a, ws, e2, e3, e4, e5, hd⟩
  · cases e1
end
/-! fields -/
def putFs (f : Str) : List Str → List Str
  | [] => [f]
  | g :: gs => if g = f then g :: gs else g :: putFs f gs
def putDs (f : Str) (d : Dt) : List Str → List Dt → List Dt
  | [], _ => [d]
  | g :: gs, e :: es => if g = f then d :: es else e :: putDs f d gs es
  | _ :: _, [] => []
theorem putF_den {K : PySem.W.Frag} {G : Hp} {f : Str} {d : Dt} {v : V} : ∀ {fs : List Str} {ds : List Dt} {ws : List (Str × V)}, ws.map (·.1) = fs → DenL K G ds (ws.map (·.2)) → Den K G d v →
    (L2.putF f v ws).map (·.1) = putFs f fs ∧ DenL K G (putDs f d fs ds) ((L2.putF f v ws).map (·.2))
  | [], ds, [], _, h, hd => ⟨rfl, ⟨v, [], rfl, hd, rfl⟩⟩
  | g :: gs, ds, [], e, _, _ => by simp at e
  | [], _, _ :: _, e, _, _ => by simp at e
  | g :: gs, [], (k, w) :: ws, _, h, _ => by
    obtain h : (k, w).2 :: ws.map (·.2) = [] := h
    cases h
  | g :: gs, d' :: ds, (k, w) :: ws, e, ⟨w', r, e1, h1, h2⟩, hd => by
    obtain ⟨rfl, hg⟩ := List.cons.inj (show k :: ws.map (·.1) = g :: gs from e)
    obtain ⟨rfl, rfl⟩ := List.cons.inj (show w :: ws.map (·.2) = w' :: r from e1)
    unfold L2.putF putFs putDs
    by_cases q : k = f
    · subst q
      simp only [if_true]
      exact ⟨by simp [hg], ⟨v, _, rfl, hd, h2⟩⟩
    · simp only [if_neg q]
      obtain ⟨h3, h4⟩ := putF_den (f := f) (d := d) (v := v) hg h2 hd
      exact ⟨by simp [h3], ⟨w, _, rfl, h1, h4⟩⟩
def sFldS (cs : List Str) (i : Nat) (f : Str) (fa : Ev → Rs Dt) : Ev → So := fun ε => So.of (fa ε) fun d ε1 => match ε1[i]? with
  | some (.vl 1 (.ins c fs ds)) => if c ∈ cs ∧ fs.length < 1000 then .nx (ε1.set i (.vl 1 (.ins c (putFs f fs) (putDs f d fs ds)))) else .no
  | _ => .no
section
variable {X : Cx} {C : Cn} {k i : Nat} {p p1 p2 : Bool} {e o ie : Expr} {pos pos' pos2 : Pos} {fa fi : Ev → Rs Dt} {x f : Str} {cs : List Str}
theorem tssat_fldS {K : PySem.W.Frag} {tv : TE} (hc : ClsF K f cs) (ha : TSat K C (.o 0) p tv fa) : TSSat K C k (sFld K (tVar i) tv f) (sFldS cs i f fa) := fun A G ε σ H D hA R h => by
  refine ha A G ε σ H [] _ hA R ?_
  unfold sFldS So.of at h
  cases e1 : fa ε with
  | no => rw [e1] at h; exact h
  | er x ε1 => rw [e1] at h; exact h.err
  | ok d ε1 =>
    rw [e1] at h
    rintro v H1 G1 fp R1 ⟨rfl, ow⟩ s1 _ _
    replace h : SPost K C A k G σ (match ε1[i]? with
      | some (.vl 1 (.ins c fs ds)) => if c ∈ cs ∧ fs.length < 1000 then .nx (ε1.set i (.vl 1 (.ins c (putFs f fs) (putDs f d fs ds)))) else .no
      | _ => .no) D := h
    split at h
    · rename_i c fs ds e2
      split at h
      · rename_i hz
        obtain ⟨u, l, q1, q2, _⟩ := R1.at_ e2
        obtain ⟨a, dx, ws, rfl, q3, q4, q5, q6⟩ := ow1_ins q2
        obtain ⟨w1, w2⟩ := putF_den (f := f) (d := d) (v := v) q5 q6 ow
        obtain ⟨R2, _⟩ := R1.mutTop (o := .ins (ga K c) dx (L2.putF f v ws)) e2 q1 (fun v l o => by
          obtain ⟨a, dx, ws, z1, z2, _⟩ := ow1_ins o
          exact ⟨a, z1, z2⟩) (.inr (.inr (.inr ⟨c, _, _, a, dx, _, [], rfl, rfl, rfl, upd_same, w1, LFp.zero.mpr ⟨rfl, w2⟩⟩)))
        exact ⟨_, q1, a, ga K c, dx, ws, rfl, q4, (hc c hz.1).1, (hc c hz.1).2, by have := congrArg List.length q5; rw [List.length_map] at this; omega, h σ _ G1 R2 s1⟩
      · exact h.elim
    · exact h.elim
theorem ds_fldS (hc : ClsF X.K f cs) (ho : PE X (.Name x pos2) (tVar i)) (ha : DE X C (.o 0) p e fa) (hs : swapsWith e (some (.Attribute (.Name x pos2) f pos')) pos.line X.env = pure false := by rfl) : DS X C k (.Assign [.Attribute (.Name x pos2) f pos'] e pos) (sFldS cs i f fa) := by
  obtain ⟨t, h1, h2⟩ := ha
  exact ⟨_, ps_fld ho h1 hs, tssat_fldS hc h2⟩
/-! ### dicts -/
def keyD : Dt → Option Key
  | .int i => some (.inl i)
  | .str x => some (.inr x)
  | _ => none
def keysD : List Dt → Option (List Key)
  | [] => some []
  | d :: ds => (keyD d).bind fun k => (keysD ds).map fun r => k :: r
theorem keyD_ok {K : PySem.W.Frag} {G : Hp} {d : Dt} {k : Key} {v : V} (h : Den K G d v) (e : keyD d = some k) : v = kV k := by
  cases d with
  | int i => cases e; exact h
  | str x => cases e; exact h
  | _ => cases e
theorem keysD_ok {K : PySem.W.Frag} {G : Hp} : ∀ {ds : List Dt} {ks : List Key} {vs : List V}, DenL K G ds vs → keysD ds = some ks → vs = ks.map kV
  | [], _, _, h, e => by
    cases e; exact h
  | d :: ds, ks, _, ⟨v, r, e1, h1, h2⟩, e => by
    unfold keysD at e
    cases ek : keyD d with
    | none => rw [ek] at e; cases e
    | some k =>
      rw [ek] at e
      cases er : keysD ds with
      | none => rw [er] at e; cases e
      | some r' =>
        rw [er] at e
        cases e
        rw [e1, keyD_ok h1 ek, keysD_ok h2 er]; rfl
def valD {κ : Type} [DecidableEq κ] (k : κ) : List κ → List Dt → Option Dt
  | k' :: ks, d :: ds => if k' = k then some d else valD k ks ds
  | _, _ => none
theorem valD_ok {κ : Type} [DecidableEq κ] {K : PySem.W.Frag} {G : Hp} {k : κ} : ∀ {ks : List κ} {ds : List Dt} {ws : List (κ × V)}, ws.map (·.1) = ks → DenL K G ds (ws.map (·.2)) →
    (valD k ks ds = none → valV ws k = none) ∧ ∀ d, valD k ks ds = some d → ∃ v, valV ws k = some v ∧ Den K G d v
  | [], ds, [], _, _ => ⟨fun _ => rfl, fun d e => by simp [valD] at e⟩
  | [], _, _ :: _, e, _ => by simp at e
  | _ :: _, _, [], e, _ => by simp at e
  | k' :: ks, [], (j, w) :: ws, _, h => by
    obtain h : (j, w).2 :: ws.map (·.2) = [] := h
    cases h
  | k' :: ks, d' :: ds, (j, w) :: ws, e, ⟨w', r, e1, h1, h2⟩ => by
    obtain ⟨rfl, hg⟩ := List.cons.inj (show j :: ws.map (·.1) = k' :: ks from e)
    obtain ⟨rfl, rfl⟩ := List.cons.inj (show w :: ws.map (·.2) = w' :: r from e1)
    obtain ⟨i1, i2⟩ := valD_ok (k := k) hg h2
    unfold valD
    by_cases q : j = k
    · rw [if_pos q, valV_pos (p := (j, w)) q]
      exact ⟨nofun, fun d e => by cases e; exact ⟨w, rfl, h1⟩⟩
    · rw [if_neg q, valV_neg (p := (j, w)) q]
      exact ⟨i1, i2⟩
def putKs {κ : Type} [DecidableEq κ] (k : κ) (ks : List κ) : List κ := if k ∈ ks then ks else ks ++ [k]
def putVs {κ : Type} [DecidableEq κ] (k : κ) (d : Dt) (ks : List κ) (ds : List Dt) : List Dt := if k ∈ ks then (ks.zip ds).map (fun p => if p.1 = k then d else p.2) else ds ++ [d]
theorem any_keys {κ : Type} [DecidableEq κ] (k : κ) : ∀ ws : List (κ × V), (ws.any fun kv => decide (kv.1 = k)) = decide (k ∈ ws.map (·.1))
  | [] => by simp
  | p :: r => by
    rw [List.any_cons, any_keys k r]
    by_cases q : p.1 = k
    · subst q; simp
    · have q' : ¬ k = p.1 := fun z => q z.symm
      simp [q, q']
theorem putK_ok {κ : Type} [DecidableEq κ] {K : PySem.W.Frag} {G : Hp} {k : κ} {d : Dt} {v : V} {ks : List κ} {ds : List Dt} {ws : List (κ × V)} (h : ws.map (·.1) = ks) (hd : DenL K G ds (ws.map (·.2))) (hv : Den K G d v) :
    (putK ws k v).map (·.1) = putKs k ks ∧ DenL K G (putVs k d ks ds) ((putK ws k v).map (·.2)) := by
  have ha : (ws.any fun kv => decide (kv.1 = k)) = decide (k ∈ ks) := by
    rw [← h]; exact any_keys k ws
  unfold putK putKs putVs
  rw [ha]
  by_cases q : k ∈ ks
  · rw [if_pos (decide_eq_true q), if_pos q, if_pos q]
    refine ⟨?_, ?_⟩
    · rw [← h, List.map_map]
      apply List.map_congr_left
      intro p hp
      show (if p.1 = k then (p.1, v) else p).1 = p.1
      split <;> rfl
    · clear ha q
      subst h
      induction ws generalizing ds with
      | nil =>
        cases ds with
        | nil => exact rfl
        | cons d' ds =>
          obtain ⟨_, _, e, _⟩ := hd
          cases e
      | cons p r ih =>
        cases ds with
        | nil =>
          obtain hd : p.2 :: r.map (·.2) = [] := hd
          cases hd
        | cons d' ds =>
          obtain ⟨w, t, e, h1, h2⟩ := hd
          obtain ⟨rfl, rfl⟩ := List.cons.inj (show p.2 :: r.map (·.2) = w :: t from e)
          refine ⟨(if p.1 = k then (p.1, v) else p).2, _, rfl, ?_, ih h2⟩
          show Den K G (if p.1 = k then d else d') _
          by_cases z : p.1 = k
          · rw [if_pos z, if_pos z]; exact hv
          · rw [if_neg z, if_neg z]; exact h1
  · rw [if_neg (by simpa using q), if_neg q, if_neg q, List.map_append, List.map_append, h]
    exact ⟨rfl, hd.append ⟨v, [], rfl, hv, rfl⟩⟩
/-- what stands at a key; none: the key has no such form -/
def getD? (d k : Dt) : Option (Option Dt) := match d with
  | .dT ks ds => (match k with
    | .tup es => (match keysD es with
      | some q => some (valD q ks ds)
      | none => none)
    | _ => none)
  | .dK ks ds => (match keyD k with
    | some q => some (valD q ks ds)
    | none => none)
  | _ => none
theorem dget_ok {K : PySem.W.Frag} {G H : Hp} {d k : Dt} {v y : V} {r : Option Dt} (s : Same G H) (h : Sh K H G d v) (hk : Den K G k y) (e : getD? d k = some r) : ∃ a o, v = .ref a ∧ DGet H a y o ∧ (r = none → o = none) ∧ ∀ z, r = some z → ∃ w, o = some w ∧ Den K G z w := by
  unfold getD? at e
  split at e
  · rename_i ks ds
    split at e
    · rename_i es
      split at e
      · rename_i q eq
        cases e
        obtain ⟨a, ws, rfl, ea, h1, h2⟩ := h
        obtain ⟨b, us, rfl, eb, h3⟩ := hk
        rw [keysD_ok h3 eq] at eb
        obtain ⟨i1, i2⟩ := valD_ok (k := q) h1 h2
        refine ⟨a, valV ws q, rfl, .t ea (s _ _ eb), i1, i2⟩
      · cases e
    · cases e
  · rename_i ks ds
    split at e
    · rename_i q eq
      cases e
      obtain ⟨a, ws, rfl, ea, h1, h2⟩ := h
      obtain ⟨i1, i2⟩ := valD_ok (k := q) h1 h2
      rw [keyD_ok hk eq]
      exact ⟨a, valV ws q, rfl, .k ea, i1, i2⟩
    · cases e
  · cases e
def mDIn (neg : Bool) (fk fd : Ev → Rs Dt) : Ev → Rs Dt := fun ε => (fk ε).bind fun k ε1 => (fd ε1).bind fun d ε2 => (mOpt (getD? d k) ε2).bind fun r ε2 => .ok (.bl (if neg then !r.isSome else r.isSome)) ε2
theorem isSome_of {K : PySem.W.Frag} {G : Hp} {r : Option Dt} {o : Option V} (h1 : r = none → o = none) (h2 : ∀ z, r = some z → ∃ w, o = some w ∧ Den K G z w) : o.isSome = r.isSome := by
  cases r with
  | none => rw [h1 rfl]; rfl
  | some z =>
    obtain ⟨w, e, _⟩ := h2 z rfl
    rw [e]; rfl
theorem din_core {K : PySem.W.Frag} {neg : Bool} {ty td : TE} {fk fd : Ev → Rs Dt} (hk : TSat K C (.o 0) p1 ty fk) (hd : TSat K C .b p2 td fd) {A : Act} {G : Hp} {ε : Ev} {σ : L2.St} {H : Hp} {xs : List Addr} {Q : VK} (hA : A.in_ C) (R : RG K A G ε σ H xs)
    (h : EPost K C A (.o 0) (p1 && p2) G H σ xs (mDIn neg fk fd ε) Q) : ty σ H fun y H1 => td σ H1 fun x H2 => ∃ a o, x = .ref a ∧ DGet H2 a y o ∧ Q (.bl (if neg then !o.isSome else o.isSome)) H2 := by
  refine hk A G ε σ H xs _ hA R ?_
  unfold mDIn at h
  cases e1 : fk ε with
  | no => rw [e1] at h; exact h
  | er x ε1 => rw [e1] at h; exact h
  | ok k ε1 =>
    rw [e1] at h
    rintro y H1 G1 fp R1 ⟨rfl, r1⟩ s1 hx1 hh1
    replace h : EPost K C A (.o 0) (p1 && p2) G H σ xs ((fd ε1).bind fun d ε2 => (mOpt (getD? d k) ε2).bind fun r ε2 => .ok (.bl (if neg then !r.isSome else r.isSome)) ε2) Q := h
    refine hd A G1 ε1 σ H1 xs _ hA R1 ?_
    cases e2 : fd ε1 with
    | no => rw [e2] at h; exact h
    | er x ε2 => rw [e2] at h; exact ErP.mono s1 h
    | ok d ε2 =>
      rw [e2] at h
      replace h : EPost K C A (.o 0) (p1 && p2) G H σ xs ((mOpt (getD? d k) ε2).bind fun r ε2 => .ok (.bl (if neg then !r.isSome else r.isSome)) ε2) Q := h
      rintro x H2 G2 fp R2 ⟨rfl, r2⟩ s2 hx2 hh2
      cases e3 : getD? d k with
      | none => rw [e3] at h; exact h.elim
      | some r =>
        rw [e3] at h
        obtain ⟨a, o, rfl, hg, i1, i2⟩ := dget_ok R2.sub r2 (r1.mono s2) e3
        refine ⟨a, o, rfl, hg, ?_⟩
        rw [isSome_of i1 i2]
        exact h _ H2 G2 [] R2 ⟨rfl, rfl⟩ (s1.trans s2) (fun c hc => (hx2 c hc).trans (hx1 c hc)) fun z => (hh1 (Bool.and_eq_true_iff.mp z).1).trans (hh2 (Bool.and_eq_true_iff.mp z).2)
theorem de_din {fk fd : Ev → Rs Dt} (hu : X.A.units + 1 < cLine) (hk : DE X C (.o 0) p1 ie fk) (hd : DE X C .b p2 o fd) (hb : behindInMarks .In o = false := by first | exact nobehind _ (by decide) (by decide) | rfl) : DE X C (.o 0) (p1 && p2) (.Compare ie [.In] [o] pos) (mDIn false fk fd) := by
  obtain ⟨t, h1, h2⟩ := hk
  obtain ⟨u, h3, h4⟩ := hd
  exact ⟨_, pe_cmp (pc_din hu h1 h3) hb, fun A G ε σ H xs Q hA R h => din_core (neg := false) h2 h4 hA R h⟩
theorem de_dnotin {fk fd : Ev → Rs Dt} (hu : X.A.units + 1 < cLine) (hk : DE X C (.o 0) p1 ie fk) (hd : DE X C .b p2 o fd) (hb : behindInMarks .NotIn o = false := by first | exact nobehind _ (by decide) (by decide) | rfl) : DE X C (.o 0) (p1 && p2) (.Compare ie [.NotIn] [o] pos) (mDIn true fk fd) := by
  obtain ⟨t, h1, h2⟩ := hk
  obtain ⟨u, h3, h4⟩ := hd
  exact ⟨_, pe_cmp (pc_dnotin hu h1 h3) hb, fun A G ε σ H xs Q hA R h => din_core (neg := true) h2 h4 hA R h⟩
theorem ttsat_pcb {K : PySem.W.Frag} {t : TE} (h : TSat K C (.o 0) p t fa) : TTSat K C p (tB t) (mB fa) := fun A G ε σ H xs Q hA R q => by
  refine h A G ε σ H xs _ hA R ?_
  unfold mB at q
  cases e1 : fa ε with
  | no => rw [e1] at q; exact q
  | er x ε1 => rw [e1] at q; exact q
  | ok d1 ε1 =>
    rw [e1] at q
    rintro v1 H1 G1 fp R1 ⟨rfl, r1⟩ s1 hx1 hh1
    cases d1 with
    | bl k => exact ⟨k, r1, q H1 G1 R1 s1 hx1 hh1⟩
    | _ => exact q.elim
theorem dt_din {fk fd : Ev → Rs Dt} (hu : X.A.units + 1 < cLine) (hk : DE X C (.o 0) p1 ie fk) (hd : DE X C .b p2 o fd) (hb : behindInMarks .In o = false := by first | exact nobehind _ (by decide) (by decide) | rfl) : DT X C (p1 && p2) (.Compare ie [.In] [o] pos) (mB (mDIn false fk fd)) := by
  obtain ⟨t, h1, h2⟩ := hk
  obtain ⟨u, h3, h4⟩ := hd
  exact ⟨_, pt_cmp (pc_din hu h1 h3) hb, ttsat_pcb fun A G ε σ H xs Q hA R h => din_core (neg := false) h2 h4 hA R h⟩
theorem dt_dnotin {fk fd : Ev → Rs Dt} (hu : X.A.units + 1 < cLine) (hk : DE X C (.o 0) p1 ie fk) (hd : DE X C .b p2 o fd) (hb : behindInMarks .NotIn o = false := by first | exact nobehind _ (by decide) (by decide) | rfl) : DT X C (p1 && p2) (.Compare ie [.NotIn] [o] pos) (mB (mDIn true fk fd)) := by
  obtain ⟨t, h1, h2⟩ := hk
  obtain ⟨u, h3, h4⟩ := hd
  exact ⟨_, pt_cmp (pc_dnotin hu h1 h3) hb, ttsat_pcb fun A G ε σ H xs Q hA R h => din_core (neg := true) h2 h4 hA R h⟩
/-- {} -/
def mNewT : Ev → Rs Dt := .ok (.dT [] [])
def mNewK : Ev → Rs Dt := .ok (.dK [] [])
theorem de_newT : DE X C (.o 1) true (.Dict [] [] pos) mNewT := ⟨_, pe_dnewT, fun A G ε σ H xs Q hA R h q hq =>
  h _ _ G [q] (R.new_own hq) (.inr (.inl ⟨[], [], q, [], [], rfl, rfl, rfl, upd_same, rfl, LFp.zero.mpr ⟨rfl, rfl⟩⟩)) (Same.refl G) (fun a ha => upd_ne (R.xne hq ha)) fun _ => upd_keep hq⟩
theorem de_newK : DE X C (.o 1) true (.Dict [] [] pos) mNewK := ⟨_, pe_dnewK, fun A G ε σ H xs Q hA R h q hq =>
  h _ _ G [q] (R.new_own hq) (.inr (.inr (.inl ⟨[], [], q, [], [], rfl, rfl, rfl, upd_same, rfl, LFp.zero.mpr ⟨rfl, rfl⟩⟩))) (Same.refl G) (fun a ha => upd_ne (R.xne hq ha)) fun _ => upd_keep hq⟩
/-- x[key] = e, x one's own dict -/
def putD? (k d m : Dt) : Option Dt := match m with
  | .dT ks ds => (match k with
    | .tup es => (match keysD es with
      | some q => if ks.length < sizeLine then some (.dT (putKs q ks) (putVs q d ks ds)) else none
      | none => none)
    | _ => none)
  | .dK ks ds => (match keyD k with
    | some q => if ks.length < sizeLine then some (.dK (putKs q ks) (putVs q d ks ds)) else none
    | none => none)
  | _ => none
def own1? (i : Nat) (ε : Ev) : Option Dt := match ε[i]? with
  | some (.vl 1 d) => some d
  | _ => none
def sDPutS (i : Nat) (fk fv : Ev → Rs Dt) : Ev → So := fun ε => So.of (fv ε) fun d ε1 => So.of (mOpt (own1? i ε1) ε1) fun _ ε1 => So.of (fk ε1) fun k ε2 => So.of (mOpt ((own1? i ε2).bind (putD? k d)) ε2) fun m ε2 => .nx (ε2.set i (.vl 1 m))
theorem own1_eq {ε : Ev} {d : Dt} (h : own1? i ε = some d) : ε[i]? = some (.vl 1 d) := by
  unfold own1? at h
  split at h
  · rename_i e
    cases h; exact e
  · cases h
theorem putD_ok {K : PySem.W.Frag} {A : Act} {G H : Hp} {ε : Ev} {σ : L2.St} {xs : List Addr} {k d m m' : Dt} {y v : V} (R : RG K A G ε σ H xs) (e : ε[i]? = some (.vl 1 m)) (hk : Den K G k y) (hv : Den K G d v) (hp : putD? k d m = some m') :
    ∃ a H', σ[i]? = some (some (.ref a)) ∧ DPut H a y v H' ∧ RG K A G (ε.set i (.vl 1 m')) σ H' xs ∧ ∀ b ∈ xs, H' b = H b := by
  obtain ⟨u, l, q1, q2, _⟩ := R.at_ e
  unfold putD? at hp
  split at hp
  · rename_i ks ds
    split at hp
    · rename_i es
      split at hp
      · rename_i q eq
        split at hp
        · rename_i hz
          cases hp
          obtain ⟨a, ws, rfl, q3, q4, q5, q6⟩ := ow1_dT q2
          obtain ⟨b, us, rfl, eb, h3⟩ := hk
          rw [keysD_ok h3 eq] at eb
          obtain ⟨w1, w2⟩ := putK_ok (k := q) q5 q6 hv
          have hl : ws.length < sizeLine := by rw [← q5, List.length_map] at hz; exact hz
          obtain ⟨R2, kx⟩ := R.mutTop (o := .dT (putK ws q v)) e q1 (fun v l o => by
            obtain ⟨a, ws, z1, z2, _⟩ := ow1_dT o
            exact ⟨a, z1, z2⟩) (.inr (.inl ⟨_, _, a, _, [], rfl, rfl, rfl, upd_same, w1, LFp.zero.mpr ⟨rfl, w2⟩⟩))
          exact ⟨a, _, q1, .t q4 (R.sub _ _ eb) hl, R2, kx⟩
        · cases hp
      · cases hp
    · cases hp
  · rename_i ks ds
    split at hp
    · rename_i q eq
      split at hp
      · rename_i hz
        cases hp
        obtain ⟨a, ws, rfl, q3, q4, q5, q6⟩ := ow1_dK q2
        obtain ⟨w1, w2⟩ := putK_ok (k := q) q5 q6 hv
        have hl : ws.length < sizeLine := by rw [← q5, List.length_map] at hz; exact hz
        obtain ⟨R2, kx⟩ := R.mutTop (o := .dK (putK ws q v)) e q1 (fun v l o => by
          obtain ⟨a, ws, z1, z2, _⟩ := ow1_dK o
          exact ⟨a, z1, z2⟩) (.inr (.inr (.inl ⟨_, _, a, _, [], rfl, rfl, rfl, upd_same, w1, LFp.zero.mpr ⟨rfl, w2⟩⟩)))
        rw [keyD_ok hk eq]
        exact ⟨a, _, q1, .k q4 hl, R2, kx⟩
      · cases hp
    · cases hp
  · cases hp
theorem ds_dput {fk fv : Ev → Rs Dt} {value : Expr} (hu : X.A.units + 1 < cLine) (ho : PE X (.Name x pos2) (tVar i)) (hk : DE X C (.o 0) p1 ie fk) (hv : DE X C (.o 0) p2 value fv) (hs : swapsWith value (some (.Subscript (.Name x pos2) ie pos')) pos.line X.env = pure false := by rfl) :
    DS X C k (.Assign [.Subscript (.Name x pos2) ie pos'] value pos) (sDPutS i fk fv) := by
  obtain ⟨t, h1, h2⟩ := hk
  obtain ⟨u, h3, h4⟩ := hv
  refine ⟨_, ps_dput hu ho h1 h3 hs, fun A G ε σ H D hA R h => h4 A G ε σ H [] _ hA R ?_⟩
  unfold sDPutS at h
  cases e1 : fv ε with
  | no => rw [e1] at h; exact h
  | er x ε1 => rw [e1] at h; exact SPost.err h
  | ok d ε1 =>
    rw [e1] at h
    rintro v H1 G1 fp R1 ⟨rfl, r1⟩ s1 _ _
    replace h : SPost X.K C A k G σ (So.of (mOpt (own1? i ε1) ε1) fun _ ε1 => So.of (fk ε1) fun k ε2 => So.of (mOpt ((own1? i ε2).bind (putD? k d)) ε2) fun m ε2 => .nx (ε2.set i (.vl 1 m))) D := h
    cases e0 : own1? i ε1 with
    | none => rw [e0] at h; exact h.elim
    | some m0 =>
      rw [e0] at h
      replace h : SPost X.K C A k G σ (So.of (fk ε1) fun k ε2 => So.of (mOpt ((own1? i ε2).bind (putD? k d)) ε2) fun m ε2 => .nx (ε2.set i (.vl 1 m))) D := h
      obtain ⟨w, l, hw, _, _⟩ := R1.at_ (own1_eq e0)
      refine ⟨w, hw, h2 A G1 ε1 σ H1 [] _ hA R1 ?_⟩
      cases e2 : fk ε1 with
      | no => rw [e2] at h; exact h
      | er x ε2 => rw [e2] at h; exact ErP.mono s1 (SPost.err h)
      | ok kd ε2 =>
        rw [e2] at h
        rintro y H2 G2 fp R2 ⟨rfl, r2⟩ s2 _ _
        replace h : SPost X.K C A k G σ (So.of (mOpt ((own1? i ε2).bind (putD? kd d)) ε2) fun m ε2 => .nx (ε2.set i (.vl 1 m))) D := h
        cases e3 : own1? i ε2 with
        | none => rw [e3] at h; exact h.elim
        | some m =>
          rw [e3] at h
          replace h : SPost X.K C A k G σ (So.of (mOpt (putD? kd d m) ε2) fun m ε2 => .nx (ε2.set i (.vl 1 m))) D := h
          cases e4 : putD? kd d m with
          | none => rw [e4] at h; exact h.elim
          | some m' =>
            rw [e4] at h
            obtain ⟨a, H3, q1, q2, R3, _⟩ := putD_ok R2 (own1_eq e3) r2 (r1.mono s2) e4
            rw [hw] at q1
            cases q1
            exact ⟨a, H3, rfl, q2, h σ H3 G2 R3 (s1.trans s2)⟩
end
end Mir

set_option Elab.async false
set_option linter.all false
set_option maxRecDepth 100000
set_option maxHeartbeats 400000
namespace Mir
open PySem PySem.Spec PyProof.Rows L2 He

/-! ### new instances -/
def msMk (n : Nat) : List Nat := 1 :: List.replicate n 0
def mMake (c : Str) (F : List Dt → Fo) (fa : Ev → Rs (List Dt)) : Ev → Rs Dt := fun ε => (fa ε).bind fun ds ε1 => match F (.ins c [] [] :: ds) with
  | .ok d (o :: _) => (match d with
    | .non => .ok o ε1
    | _ => .no)
  | .ok _ [] => .no
  | .er x _ => .er x ε1
  | .no => .no
section
variable {K : PySem.W.Frag} {G H : Hp}
theorem ar_zeros : ∀ {ds : List Dt} {vs : List V}, DenL K G ds vs → ArR K H G (List.replicate ds.length 0) ds vs (List.replicate ds.length [])
  | [], _, h => ⟨rfl, h, rfl⟩
  | d :: ds, _, ⟨v, r, e, h1, h2⟩ => ⟨d, ds, v, r, [], _, rfl, e, rfl, ⟨rfl, h1⟩, ar_zeros h2⟩
theorem ou_zeros : ∀ {n : Nat} {ds : List Dt} {vs : List V} {fps : List (List Addr)}, OuR K H G (List.replicate n 0) ds vs fps → ∀ a, cnt a fps = 0
  | 0, _, _, _, ⟨_, _, e⟩, a => by rw [e]; rfl
  | n + 1, _, _, _, ⟨d, ds', v, vs', fp, fps', _, _, e, h, _, t⟩, a => by
    rw [e, h rfl]
    show ([] : List Addr).count a + cnt a fps' = 0
    rw [ou_zeros t a]; rfl
end
section
variable {X : Cx} {C : Cn} {k i lv : Nat} {p : Bool} {e : Expr} {es : List Expr} {pp pos : Pos} {fa : Ev → Rs (List Dt)} {c : Str} {F : List Dt → Fo}
theorem de_make {fd : FuncData} {ps : List Str} {fI : Addr} {n : Nat} {E : XK} (M : Mk X.K (ga X.K c) fI) (T : FnOk X.prog X.w X.K X.mg X.base (L2.CX X.prog X.w) lv fI fd ps (spD X.K (msMk n) 0 F)) (hr : Room (lv + 1) X.A) (hg : Gl X c) (hm : X.mg c = some (.ref (ga X.K c))) (hb : Binds X.K fd ps [])
    (tk : Takes X C.W) (hE : ∀ cls d σ H, C.W cls d σ H ↔ E cls d H) (ha : DA X C p (e :: es) fa) (hn : ∀ ε ds ε', fa ε = .ok ds ε' → ds.length = n)
    (hdb : (c == ("__debug__" : Str)) = false := by decide) (he : starEach (e :: es) X.env = (false, eval e X.env) :: starEach es X.env := by rfl) (hpl : (backTo pos (starEach es X.env)).any (·.1) = false := by rfl) :
    DE X C (.o 1) p (.Call (.Name c pp) (e :: es) [] pos) (mMake c F fa) := by
  obtain ⟨t, a, b⟩ := ha
  refine ⟨_, pe_make M T hr hg hm hb .nil (passes_call tk fun cls d σ H h => (hE cls d σ H).mpr h) a hdb he hpl, fun A G ε σ H xs Q hA R h => b A G ε σ H xs _ hA R ?_⟩
  unfold mMake at h
  cases e1 : fa ε with
  | no => rw [e1] at h; exact h
  | er x ε1 => rw [e1] at h; exact h
  | ok ds ε1 =>
    rw [e1] at h
    intro vs H1 G1 R1 hd s1 hx1 hh1 x dx hx hdx hne
    obtain rfl := hn _ _ _ e1
    rw [List.append_nil]
    have kp : Same H1 (upd (upd H1 dx (.own x)) x (.ins (ga X.K c) dx [])) := fun b o eb => by
      rw [upd_ne (ne_of_none eb hx), upd_ne (ne_of_none eb hdx)]; exact eb
    have nn : ∀ b, upd (upd H1 dx (.own x)) x (.ins (ga X.K c) dx []) b = none → H1 b = none := fun b hb => by
      cases q : H1 b with
      | none => rfl
      | some o => rw [kp b o q] at hb; cases hb
    refine ⟨.ins c [] [] :: ds, G1, [x] :: List.replicate ds.length [], R1.sub.trans kp, ⟨_, _, _, _, _, _, rfl, rfl, rfl, .inr (.inr (.inr ⟨c, [], [], x, dx, [], [], rfl, rfl, rfl, upd_same, rfl, rfl, rfl⟩)), ar_zeros hd⟩, fun b => ?_, fun b hb => ?_, ?_⟩
    · show ([x] : List Addr).count b + cnt b (List.replicate ds.length []) ≤ 1
      rw [cnt_nils]
      have := List.count_le_length (a := b) (l := [x])
      simpa using this
    · have hb : 0 < ([x] : List Addr).count b + cnt b (List.replicate ds.length []) := hb
      rw [cnt_nils] at hb
      have : b ∈ [x] := List.count_pos_iff.mp (by omega)
      obtain rfl : b = x := by simpa using this
      exact ⟨R1.gf hx, by rw [upd_same]; exact nofun⟩
    · have cx : ∀ b, b ≠ x → cnt b ([x] :: List.replicate ds.length []) = 0 := fun b hb => by
        show ([x] : List Addr).count b + cnt b (List.replicate ds.length []) = 0
        rw [cnt_nils, List.count_eq_zero.mpr (by simpa using hb)]
      have step : ∀ {H' G' : Hp} {fp : List Addr}, Same G1 G' → Same G' H' → (∀ b o, upd (upd H1 dx (.own x)) x (.ins (ga X.K c) dx []) b = some o → cnt b ([x] :: List.replicate ds.length []) = 0 → H' b = some o) →
          (∀ b, H' b = none → upd (upd H1 dx (.own x)) x (.ins (ga X.K c) dx []) b = none) → (∀ b, G' b ≠ none → G1 b ≠ none ∨ upd (upd H1 dx (.own x)) x (.ins (ga X.K c) dx []) b = none) → (∀ b, fp.count b ≤ 1) →
          (∀ b ∈ fp, G' b = none ∧ H' b ≠ none ∧ (0 < cnt b ([x] :: List.replicate ds.length []) ∨ upd (upd H1 dx (.own x)) x (.ins (ga X.K c) dx []) b = none)) →
          RG X.K A G' ε1 σ H' (fp ++ xs) ∧ (∀ b ∈ xs, H' b = H1 b) ∧ Same H1 H' := by
        intro H' G' fp q1 q2 q3 q4 q5 q6 q7
        have sm : Same H1 H' := fun b o eb => q3 b o (kp b o eb) (cx b (ne_of_none eb hx))
        have fr : ∀ b ∈ fp, H1 b = none := fun b hb => by
          rcases (q7 b hb).2.2 with z | z
          · by_cases y : b = x
            · rw [y]; exact hx
            · rw [cx b y] at z; omega
          · exact nn b z
        refine ⟨R1.step (fun b o eb _ => sm b o eb) (fun b hb z => (R1.xsn hb).2.1 (nn b (q4 b z))) q1 q2 (fun b hb => ?_) (fun b => ?_) fun b hb => ?_, fun b hb => ?_, sm⟩
        · rcases q5 b hb with z | z
          · exact .inl z
          · exact .inr (.inl (nn b z))
        · rw [List.count_append]
          have h1 := q6 b
          have h2 := R1.xs1 b
          rcases Nat.eq_zero_or_pos (fp.count b) with z | z
          · omega
          · have h3 : xs.count b = 0 := List.count_eq_zero.mpr (R1.xsf (fr b (List.count_pos_iff.mp z)))
            omega
        · rcases List.mem_append.mp hb with z | z
          · exact ⟨(q7 b z).1, (q7 b z).2.1, .inr (fr b z)⟩
          · have h7 := R1.xsn z
            refine ⟨?_, fun y => h7.2.1 (nn b (q4 b y)), .inl z⟩
            cases eg : G' b with
            | none => rfl
            | some o =>
              rcases q5 b (by rw [eg]; exact nofun) with y | y
              · exact absurd h7.1 y
              · exact absurd (nn b y) h7.2.1
        · cases q : H1 b with
          | none => exact absurd q (R1.xsn hb).2.1
          | some o => exact sm b o q
      replace h : EPost X.K C A (.o 1) p G H σ xs (match F (.ins c [] [] :: ds) with
        | .ok d (o :: _) => (match d with
          | .non => .ok o ε1
          | _ => .no)
        | .ok _ [] => .no
        | .er x _ => .er x ε1
        | .no => .no) Q := h
      cases eF : F (.ins c [] [] :: ds) with
      | no => rw [eF] at h; exact h.elim
      | er y os =>
        rw [eF] at h
        intro cls dd H' G' fs q1 q2 q3 q4 q5 q6 q7 q8 q9
        obtain ⟨R2, _, _⟩ := step (fp := []) q1 q2 q3 q4 q5 (fun b => Nat.zero_le _) (fun b hb => nomatch hb)
        exact (hE cls dd σ H').mp (h cls dd H' G' (by have := RG.drop (xs' := xs) (xs := []) (by rw [List.append_nil]; exact R2); exact this) (s1.trans q1) q9)
      | ok d os =>
        rw [eF] at h
        intro v H' G' fs fp q1 q2 q3 q4 q5 q6 q7 q8 q9 q10
        cases os with
        | nil => exact h.elim
        | cons o os =>
          cases d with
          | non =>
            obtain ⟨d', ds', u, us, f1, fr, z1, z2, z3, _, z5, z6⟩ := q6
            cases z1
            cases z2
            subst z3
            have c0 : ∀ a, cnt a fr = 0 := ou_zeros (n := ds.length) z6
            obtain ⟨R2, kx, sm⟩ := step (fp := f1) q1 q2 q3 q4 q5 (fun b => by have := q8 b; have : f1.count b + cnt b fr + fp.count b ≤ 1 := this; omega) (fun b hb => q9 b (by
              show 0 < f1.count b + cnt b fr
              have := List.count_pos_iff.mpr hb
              omega))
            exact ⟨q7.2, h _ H' G' f1 R2 (z5 (by decide)) (s1.trans q1) (fun b hb => (kx b hb).trans (hx1 b hb)) fun z => (hh1 z).trans sm⟩
          | _ => exact h.elim
end
end Mir

set_option Elab.async false
set_option linter.all false
set_option maxRecDepth 100000
set_option maxHeartbeats 400000
namespace Mir
open PySem PySem.Spec PyProof.Rows L2 He

/-! ### own error classes with fields: what the written part must say, as one check -/
def oexB (K : PySem.W.Frag) (c : Str) : Bool := (match K.lookup (ga K c) with
    | some ⟨.type "type", _, .cls cd, sl⟩ => (match cd.mro, sl.toList with
      | .ref C' :: bm, [_, _, _, _, some (.builtin n), _] => decide (C' = ga K c) && (decide (n = "ValueError.__new__") && (cd.hasDict && (!cd.hasDel && HandSPX.refsVE bm)))
      | _, _ => false)
    | _ => false) && (decide (PySem.W.findIn K (.ref (ga K c)) "__setattr__" = some (some (.builtin "object.__setattr__"))) && (decide (PySem.W.subIn K (.ref (ga K c)) (.type "BaseException") = some true) &&
    (decide (PySem.W.typeIn K (.ref (ga K c)) = some (.type "type")) && PySem.W.keepIn K (.ref (ga K c)))))
theorem oexB_ok {K : PySem.W.Frag} {c : Str} (h : oexB K c = true) : OexC K (ga K c) := by
  unfold oexB at h
  rw [Bool.and_eq_true, Bool.and_eq_true, Bool.and_eq_true, Bool.and_eq_true, decide_eq_true_iff, decide_eq_true_iff, decide_eq_true_iff] at h
  obtain ⟨h1, h2, h3, h4, h5⟩ := h
  refine ⟨?_, h2, h3, h4, h5⟩
  split at h1
  · rename_i dd cd sl hl
    split at h1
    · rename_i C' bm k0 k1 k2 k3 n k5 hm hs
      rw [Bool.and_eq_true, Bool.and_eq_true, Bool.and_eq_true, Bool.and_eq_true, decide_eq_true_iff, decide_eq_true_iff] at h1
      obtain ⟨rfl, rfl, a1, a2, a3⟩ := h1
      obtain ⟨nm, bs, mro, ns, qn, hdct, sn, sub, ab, col, hdel⟩ := cd
      obtain rfl : mro = _ := hm
      obtain rfl : hdct = true := a1
      have a2 : (!hdel) = true := a2
      cases hdel with
      | true => cases a2
      | false =>
        have hs' : sl = #[k0, k1, k2, k3, some (.builtin "ValueError.__new__"), k5] := by
          rw [← hs]
        subst hs'
        exact ⟨nm, qn, ns, bs, bm, sn, sub, ab, col, dd, k0, k1, k2, k3, k5, hl, a3⟩
    · cases h1
  · cases h1
def initB (K : PySem.W.Frag) (c : Str) : Bool := decide (PySem.W.findIn K (.ref (ga K c)) "__init__" = some (some (.ref (ma K (ga K c) "__init__")))) && decide (PySem.W.typeIn K (.ref (ma K (ga K c) "__init__")) = some (.type "function"))
theorem initB_ok {K : PySem.W.Frag} {c : Str} (h : initB K c = true) : PySem.W.findIn K (.ref (ga K c)) "__init__" = some (some (.ref (ma K (ga K c) "__init__"))) ∧ PySem.W.typeIn K (.ref (ma K (ga K c) "__init__")) = some (.type "function") := by
  unfold initB at h
  rw [Bool.and_eq_true, decide_eq_true_iff, decide_eq_true_iff] at h
  exact h
/-- an error's __init__ that stores its parameters -/
def spX (K : PySem.W.Frag) (c : Str) (fs : List Str) : Sp := fun vs H Q _ => ∃ (a : Addr) (ws : List V), vs = .ref a :: ws ∧ ws.length = fs.length ∧ H a = some (exo a (ga K c) none) ∧
  ∀ dx H2, H dx = none → dx ≠ a → H2 a = some (exo a (ga K c) (some dx)) → H2 dx = some (exd dx (fs.zip ws).reverse) → (∀ b, b ≠ a → b ≠ dx → H2 b = H b) → Q .non H2
section
variable {P : Program} {w : World} {K : PySem.W.Frag} {mg : Str → Option Value} {base : Heap}
theorem fn_exc {x qual : Str} {st : Stmt} {f : Addr} {fd : FuncData} {dvs : List V} {kws : List (Str × V)} {N : List Str} {lv : Nat} {c : Str} {fs : List Str} {t : TS} (F : FunD K x qual (defArgs st) (defBody st) (defScope st) dvs kws f fd) (S : FnScope N N (defScope st)) (hN : N.length = fs.length + 1)
    (ht : ∀ (cdv : Value) (A : Around) (outer : List Env) (s : Shared) (H : Hp) (E : XK), Room lv (A.deeper (envOfC qual (defScope st) s.heap.objs.size f cdv)) → PSs (cxOf (L2.CX P w) P w K mg base N qual (defScope st) f cdv A outer s H E) (defBody st) t)
    (hq : ∀ vs H Q E, spX K c fs vs H Q E → t { nx := fun _ H' => Q .non H', rt := Q } (L2.start N vs) H) : FnOk P w K mg base (L2.CX P w) (lv + 1) f fd N (spX K c fs) :=
  F.ok S (fun vs H Q E ⟨a, ws, e, h1, _⟩ => by rw [e, List.length_cons, h1, hN]) fun cdv A outer s H vs Q E hr h => ⟨t, ht cdv A outer s H E hr, hq vs H Q E h⟩
theorem exc1_ok (T : OexC K (ga K c)) {p f1 : Str} {fld1 : Str} (n1 : PySem.W.findIn K (.ref (ga K c)) fld1 = some none) : ∀ vs H Q E, spX K c [fld1] vs H Q E → tOst K fld1 (tVar 0) (tVar 1) { nx := fun _ H' => Q .non H', rt := Q } (L2.start [p, f1] vs) H := by
  rintro vs H Q E ⟨a, ws, rfl, hl, ha, hq⟩
  match ws, hl with
  | [v], _ =>
    refine ⟨v, rfl, .ref a, rfl, a, ga K c, rfl, T, n1, .inl ⟨ha, fun dx hdx hne => ?_⟩⟩
    exact hq dx _ hdx hne upd_same (by rw [upd_ne hne, upd_same]; rfl) fun b h1 h2 => by rw [upd_ne h1, upd_ne h2]
theorem exc2_ok (T : OexC K (ga K c)) {p f1 f2 : Str} {fld1 fld2 : Str} (n1 : PySem.W.findIn K (.ref (ga K c)) fld1 = some none) (n2 : PySem.W.findIn K (.ref (ga K c)) fld2 = some none) :
    ∀ vs H Q E, spX K c [fld1, fld2] vs H Q E → tSeq (tOst K fld1 (tVar 0) (tVar 1)) (tOst K fld2 (tVar 0) (tVar 2)) { nx := fun _ H' => Q .non H', rt := Q } (L2.start [p, f1, f2] vs) H := by
  rintro vs H Q E ⟨a, ws, rfl, hl, ha, hq⟩
  match ws, hl with
  | [v, u], _ =>
    refine ⟨v, rfl, .ref a, rfl, a, ga K c, rfl, T, n1, .inl ⟨ha, fun dx hdx hne => ?_⟩⟩
    refine ⟨u, rfl, .ref a, rfl, a, ga K c, rfl, T, n2, .inr ⟨dx, _, upd_same, by rw [upd_ne hne, upd_same], by show 1 ≤ 900; decide, ?_⟩⟩
    exact hq dx _ hdx hne (by rw [upd_ne (Ne.symm hne), upd_same]) (by rw [upd_same]; rfl) fun b h1 h2 => by rw [upd_ne h2, upd_ne h1, upd_ne h2]
theorem exc3_ok (T : OexC K (ga K c)) {p f1 f2 f3 : Str} {fld1 fld2 fld3 : Str} (n1 : PySem.W.findIn K (.ref (ga K c)) fld1 = some none) (n2 : PySem.W.findIn K (.ref (ga K c)) fld2 = some none) (n3 : PySem.W.findIn K (.ref (ga K c)) fld3 = some none) :
    ∀ vs H Q E, spX K c [fld1, fld2, fld3] vs H Q E → tSeq (tOst K fld1 (tVar 0) (tVar 1)) (tSeq (tOst K fld2 (tVar 0) (tVar 2)) (tOst K fld3 (tVar 0) (tVar 3))) { nx := fun _ H' => Q .non H', rt := Q } (L2.start [p, f1, f2, f3] vs) H := by
  rintro vs H Q E ⟨a, ws, rfl, hl, ha, hq⟩
  match ws, hl with
  | [v, u, z], _ =>
    refine ⟨v, rfl, .ref a, rfl, a, ga K c, rfl, T, n1, .inl ⟨ha, fun dx hdx hne => ?_⟩⟩
    refine ⟨u, rfl, .ref a, rfl, a, ga K c, rfl, T, n2, .inr ⟨dx, _, upd_same, by rw [upd_ne hne, upd_same], by show 1 ≤ 900; decide, ?_⟩⟩
    refine ⟨z, rfl, .ref a, rfl, a, ga K c, rfl, T, n3, .inr ⟨dx, _, by rw [upd_ne (Ne.symm hne), upd_same], by rw [upd_same], by show 2 ≤ 900; decide, ?_⟩⟩
    exact hq dx _ hdx hne (by rw [upd_ne (Ne.symm hne), upd_ne (Ne.symm hne), upd_same]) (by rw [upd_same]; rfl) fun b h1 h2 => by rw [upd_ne h2, upd_ne h2, upd_ne h1, upd_ne h2]
end
/-! ### raise -/
def sRaise (c : Str) (fs : List Str) (fa : Ev → Rs (List Dt)) : Ev → So := fun ε => So.of (fa ε) fun ds ε1 => if ds.length = fs.length then .er ⟨c, fs.reverse, ds.reverse⟩ ε1 else .no
/-- what is known of an error's class -/
def Xf (P : Program) (w : World) (K : PySem.W.Frag) (mg : Str → Option Value) (base : Heap) (c : Str) (lv : Nat) (fs : List Str) : Prop :=
  OexC K (ga K c) ∧ PySem.W.findIn K (.ref (ga K c)) "__init__" = some (some (.ref (ma K (ga K c) "__init__"))) ∧ PySem.W.typeIn K (.ref (ma K (ga K c) "__init__")) = some (.type "function") ∧ mg c = some (.ref (ga K c)) ∧
    ∃ fd ps, FnOk P w K mg base (L2.CX P w) lv (ma K (ga K c) "__init__") fd ps (spX K c fs) ∧ Binds K fd ps []
section
variable {X : Cx} {C : Cn} {k i lv : Nat} {p : Bool} {e : Expr} {es : List Expr} {pp pos pos2 : Pos} {fa : Ev → Rs (List Dt)} {c : Str} {fs : List Str}
theorem zip_fst {α β : Type} : ∀ {l : List α} {m : List β}, m.length = l.length → (l.zip m).map (·.1) = l
  | [], _, _ => rfl
  | x :: l, [], h => by simp at h
  | x :: l, y :: m, h => by simp [zip_fst (l := l) (m := m) (by simpa using h)]
theorem zip_snd {α β : Type} : ∀ {l : List α} {m : List β}, m.length = l.length → (l.zip m).map (·.2) = m
  | [], [], _ => rfl
  | [], _ :: _, h => by simp at h
  | x :: l, [], h => by simp at h
  | x :: l, y :: m, h => by simp [zip_snd (l := l) (m := m) (by simpa using h)]
theorem ds_raise (hc : X.calm = true) (tk : Takes X C.W) (T : Xf X.prog X.w X.K X.mg X.base c lv fs) (hr : Room (lv + 1) X.A) (hg : Gl X c) (ha : DA X C p (e :: es) fa) (hfs : fs.length ≤ 900 := by decide)
    (hdb : (c == ("__debug__" : Str)) = false := by decide) (he : starEach (e :: es) X.env = (false, eval e X.env) :: starEach es X.env := by rfl) (hpl : (backTo pos (starEach es X.env)).any (·.1) = false := by rfl) :
    DS X C k (.Raise (some (.Call (.Name c pp) (e :: es) [] pos)) none pos2) (sRaise c fs fa) := by
  obtain ⟨t, a, b⟩ := ha
  obtain ⟨T1, T2, T3, T4, fd, ps, T5, T6⟩ := T
  have hx : Passes (L2.CX X.prog X.w) X (fun _ _ _ => False) := passL
  refine ⟨_, ps_raise hc tk (pmk_oex T1 T2 T3 T5 hr T6 .nil hx hg T4 a hdb he hpl), fun A G ε σ H D hA R h => b A G ε σ H [] _ hA R ?_⟩
  unfold sRaise at h
  cases e1 : fa ε with
  | no => rw [e1] at h; exact h
  | er x ε1 => rw [e1] at h; exact SPost.err h
  | ok ds ε1 =>
    rw [e1] at h
    intro vs H1 G1 R1 hd s1 _ _
    replace h : SPost X.K C A k G σ (if ds.length = fs.length then .er ⟨c, fs.reverse, ds.reverse⟩ ε1 else .no) D := h
    by_cases hl : ds.length = fs.length
    · rw [if_pos hl] at h
      have hvl : vs.length = fs.length := by rw [hd.length, hl]
      refine ⟨by omega, fun x hx => ?_⟩
      rw [List.append_nil]
      refine ⟨x, vs, rfl, hvl, upd_same, fun dx H2 hdx hne h1 h2 h3 => ?_⟩
      have hdx1 : H1 dx = none := by rwa [upd_ne hne] at hdx
      refine ⟨rfl, dx, _, h1, h2, hdx1, ?_⟩
      have eH : upd (del H2 x) dx (.xd (fs.zip vs).reverse) = upd H1 dx (.xd (fs.zip vs).reverse) := by
        funext b
        by_cases q : b = dx
        · subst q; rw [upd_same, upd_same]
        · rw [upd_ne q, upd_ne q]
          by_cases q2 : b = x
          · subst q2; rw [del_same, hx]
          · rw [del_ne q2, h3 b q2 q, upd_ne q2]
      rw [eH]
      have R2 := R1.new_settled (o := .xd (fs.zip vs).reverse) hdx1
      refine h σ (.ref (ga X.K c)) (some dx) _ _ R2 (s1.trans (upd_keep (R1.gf hdx1))) ⟨rfl, .inr ⟨dx, _, rfl, upd_same, ?_, ?_⟩⟩
      · rw [List.map_reverse, zip_fst hvl]
      · rw [List.map_reverse, zip_snd hvl]
        exact (hd.mono (upd_keep (R1.gf hdx1))).reverse
    · rw [if_neg hl] at h; exact h.elim
end
end Mir

set_option Elab.async false
set_option linter.all false
set_option maxRecDepth 100000
set_option maxHeartbeats 400000
namespace Mir
open PySem PySem.Spec PyProof.Rows L2 He

/-! ### try: .. with several clauses, each with a name for the error -/
abbrev Cl := Value × Nat × (Addr → Value → Option Addr → TS)
def unD (D : Ends) (i : Nat) : Ends := ⟨fun τ J => D.nx (τ.set i none) J, D.rt, fun τ J => D.bk (τ.set i none) J, fun τ J => D.ct (τ.set i none) J⟩
def wCl (K : PySem.W.Frag) (Wo : WX) (D : Ends) : List Cl → WX
  | [] => Wo
  | (cv, i, ts) :: r => fun kl dd τ J => ∃ yes, PySem.W.exmOne K kl cv = some yes ∧ (yes = true → ∀ a, J a = none → ts a kl dd (unD D i) (τ.set i (some (.ref a))) J) ∧ (yes = false → wCl K Wo D r kl dd τ J)
inductive ClOk (X : Cx) : List ExceptHandler → List Cl → Prop
  | nil : ClOk X [] []
  | cons {cn nm : Str} {cv : Value} {i : Nat} {ts : Addr → Value → Option Addr → TS} {s₀ : Stmt} {su : List Stmt} {q1 q2 : Pos} {hs : List ExceptHandler} {l : List Cl} (hi : X.N[i]? = some nm) (hk : X.env.kindOf nm = some .local) (hn : Names X cn cv)
      (hsu : ∀ (a : Addr) (ob : Obj) (kl : Value) (dd : Option Addr) (pn : List (Addr × Obj)), Zc kl dd ob → (∃ vs, ob.data = .fields vs) → PSs (X.suite a ((a, ob) :: pn)) (s₀ :: su) (ts a kl dd)) (r : ClOk X hs l) :
      ClOk X (.ExceptHandler (some (.Name cn q1)) (some nm) (s₀ :: su) q2 :: hs) ((cv, i, ts) :: l)
section
variable {X : Cx} {bd : List Stmt} {hs : List ExceptHandler} {h₀ : ExceptHandler} {l : List Cl} {pos : Pos} {tb : WX → TS} {Wo : WX}
theorem sp_of {pins : List (Addr × Obj)} {D : Ends} {fl : Flow} {z : Shared} {pn : List (Addr × Obj)} {xe : Value → Shared → Prop} (ok : X.Ok) (h : SP (X.tr (X.pn ++ pins) xe) [] D fl z) : SP X pins D fl z := by
  cases fl with
  | next => exact let ⟨τ, J, I, q⟩ := h; ⟨τ, J, I.ofTry ok, q⟩
  | brk => exact let ⟨τ, J, I, q⟩ := h; ⟨τ, J, I.ofTry ok, q⟩
  | cont => exact let ⟨τ, J, I, q⟩ := h; ⟨τ, J, I.ofTry ok, q⟩
  | ret u => exact let ⟨w, τ, J, I, r, q⟩ := h; ⟨w, τ, J, I.ofTry ok, r, q⟩
/-- the clauses are looked through, from a landed error on -/
theorem cl_run (hst : X.stack = X.env :: X.outer) (hfr : X.env.frame = some X.env.locals) (hN : X.N.Nodup) (tk : Takes X Wo) {pins : List (Addr × Obj)} {D : Ends} {a : Addr} {B : Heap} {z0 z1 : Shared} {τ : L2.St} {J : Hp} {kl : Value} {dd : Option Addr} {hp : Heap}
    (I0 : Inv X pins τ J z0) (nb : ∀ b o, z0.heap.get? b = some o → b ∉ frs X.stack → B.get? b = some o) (up : z0.heap.UpToSlots hp) (fl : HandSPX.FlyingZ B (X.env :: X.outer) a (Zc kl dd) hp) (na : J a = none) (eos : z1.os = z0.os) (ag : AllBare z1.gens)
    (nL : a ≠ X.env.locals) (nF : a ∉ X.fs) : ∀ {hs : List ExceptHandler} {l : List Cl}, ClOk X hs l → wCl X.K Wo D l kl dd τ J → wpAny (model X.prog X.w) X.A (handleBy (.ref a) X.env hs) (SP X pins D) X.xe { z1 with heap := hp } := by
  intro hs l hc
  have ok := I0.ok
  have I1 : Inv X pins τ J { z1 with heap := hp } := I0.landed nb fl.1 up eos ag
  induction hc with
  | nil =>
    intro wq
    refine wpAny_handleBy_nil ?_
    have fl' := fl
    obtain ⟨_, _, _, ob, vs, T, oT, ts, e1, _, e3, e4, _⟩ := fl'
    unfold PySem.passOn
    refine wpAny_bind (wpAny_field e1 e3 e4 ?_)
    rw [if_neg (show ¬((Value.ref T == Value.none) = true) by simp)]
    have go : wpAny (model X.prog X.w) X.A (setFlight (.ref a) X.env.frame) (fun _ y => wpAny (model X.prog X.w) X.A (throw (.ref a) : Sem Flow) (SP X pins D) X.xe y) X.xe { z1 with heap := hp } := by
      rw [hfr]
      exact HandSPX.setFlight_upZ fl fun h4 hh4 up4 => wpAny_throw (tk _ _ ⟨a, B, z0, pins, τ, J, kl, dd, rfl, I0, nb, up.trans up4, .inr (.inr (by rw [hst]; exact hh4)), na, eos, ag, wq⟩)
    first
      | exact wpAny_bind (wpAny_pure (wpAny_bind go))
      | exact wpAny_bind go
  | @cons cn nm cv i ts s₀ su q1 q2 hs l hi hk hn hsu r ih =>
    rintro ⟨yes, hy, h1, h2⟩
    obtain ⟨ob, vs, g1, g2, g3⟩ := fl.there
    have S1 := I1.suite g1 g3 na nL nF
    have T1 : PySem.W.Looks (model X.prog X.w) hp (typeOf (.ref a)) kl := fun A Q E s kk q => wpAny_typeOf_ref (kk _ _ g1) (by rw [g2.1]; exact q)
    refine wpAny_handleBy_cons (codeAny_handlers_test ?_) (by intro y; cases y)
    have nm1 : ∀ {Q E : Value → Shared → Prop}, Q cv { z1 with heap := hp } → wpAny (model X.prog X.w) (X.A.mark (some (.ref a))) (eval (.Name cn q1) X.env) Q E { z1 with heap := hp } := fun {Q E} q => by
      rcases hn with ⟨b1, b2, b3 | ⟨b3, b4, b5⟩⟩
      · exact ld_glob (X := X.suite a ((a, ob) :: (X.pn ++ pins))) S1 b1 b3 q b2
      · exact ld_blt (X := X.suite a ((a, ob) :: (X.pn ++ pins))) S1 b1 b3 b4 q b5 b2
    refine nm1 ((PySem.W.exm_one (M := model X.prog X.w) I1.kIn T1 hy).here ?_)
    cases yes with
    | false => exact ih (h2 rfl)
    | true =>
      refine codeAny_handlers_suite_as (HandSPX.lands_againZ fl fun h4 fl4 up4 => ?_)
      have I4 : Inv X pins τ J { z1 with heap := h4 } := I0.landed nb fl4.1 (up.trans up4) eos ag
      obtain ⟨o4, v4, k1, k2, k3⟩ := fl4.there
      refine store_ok (X := X.suite a ((a, o4) :: (X.pn ++ pins))) (v := .ref a) (I4.suite k1 k3 na nL nF) hN hi (.inl hk) rfl (fun z5 S5 => ?_) (.inr hk)
      refine wpAny_mono ((hsu a o4 kl dd (X.pn ++ pins) k2 ⟨_, k3⟩).run [] z5 _ J _ S5 (h1 rfl a na)) (fun f z6 sp => ?_) (fun _ _ y => y.elim)
      have fin : ∀ {τ6 : L2.St} {J6 : Hp} {Q : Shared → Prop}, Inv (X.suite a ((a, o4) :: (X.pn ++ pins))) [] τ6 J6 z6 → (∀ z7, Inv X pins (τ6.set i none) J6 z7 → Q z7) →
          wpAny (model X.prog X.w) X.A (do bindName X.env nm .none; unbindBehindTheSuite X.env nm q2) (fun _ z7 => Q z7) X.xe z6 := fun {τ6 J6 Q} S6 hq => gone_ok (S6.unsuite ok) hN hi hk hq
      cases f with
      | next => exact let ⟨_, _, S6, y⟩ := sp; fin S6 fun z7 I7 => ⟨_, _, I7, y⟩
      | brk => exact let ⟨_, _, S6, y⟩ := sp; fin S6 fun z7 I7 => ⟨_, _, I7, y⟩
      | cont => exact let ⟨_, _, S6, y⟩ := sp; fin S6 fun z7 I7 => ⟨_, _, I7, y⟩
      | ret u => exact let ⟨_, _, _, S6, r6, y⟩ := sp; fin S6 fun z7 I7 => ⟨_, _, _, I7, r6, y⟩
theorem ps_tryN (hst : X.stack = X.env :: X.outer) (hfr : X.env.frame = some X.env.locals) (hN : X.N.Nodup) (tk : Takes X Wo)
    (hb : ∀ (W : WX) (pn : List (Addr × Obj)) (xe : Value → Shared → Prop), Takes (X.tr pn xe) W → PassesOwn (model X.prog X.w) X.A X.env xe → PSs (X.tr pn xe) bd (tb W)) (hc : ClOk X (h₀ :: hs) l) :
    PS X (.Try bd (h₀ :: hs) [] [] pos) (fun D τ J => tb (wCl X.K Wo D l) D τ J) := by
  refine ⟨fun pins s τ J D I h => wpAny_Try_except ?_⟩
  have ok := I.ok
  have hfs : X.A.frames = some (X.env :: X.outer) := by rw [ok.frames, hst]
  let xe : Value → Shared → Prop := fun e y1 => wpAny (model X.prog X.w) X.A (noteFrame e X.env) (fun _ y2 => wpAny (model X.prog X.w) X.A (setFlight e none) (fun _ y3 => wpAny (model X.prog X.w) X.A (handleBy e X.env (h₀ :: hs)) (SP X pins D) X.xe y3) X.xe y2) X.xe y1
  refine wpAny_mono ((hb (wCl X.K Wo D l) (X.pn ++ pins) xe (fun u z1 xx => ?_) PassesOwn.looking).run [] s τ J D (I.toTry _) h) (fun f z1 sp => ?_) (fun e z1 he => he)
  · obtain ⟨a, B, z0, pn', τ', J', kl, dd, rfl, I', nb, up, sky, na, eos, ag, wq⟩ := xx
    have I0 : Inv X pins τ' J' z0 := I'.ofTry ok
    have sky2 : Sky B (X.env :: X.outer) a (Zc kl dd) X.env.locals z1.heap := by rw [← hst]; exact sky
    show wpAny (model X.prog X.w) X.A (noteFrame (.ref a) X.env) _ _ _
    refine Sky.land Zc.steady hfs hfr sky2 fun h3 fl3 up3 => ?_
    obtain ⟨ob, vs, g1, g2, g3⟩ := fl3.there
    have nfr : a ∉ frs (X.env :: X.outer) := fun hm => by
      obtain ⟨_, o', e', hnf⟩ := fl3.2.2.1.mem hm
      rw [g1] at e'
      cases e'
      exact hnf _ g3
    refine cl_run hst hfr hN tk I0 nb (up.trans up3) fl3 na eos ag (fun y => nfr (List.mem_filterMap.mpr ⟨X.env, List.mem_cons_self, by rw [hfr, y]⟩)) (fun hm => ?_) hc wq
    obtain ⟨e, he, y⟩ := List.mem_filterMap.mp hm
    exact nfr (List.mem_filterMap.mpr ⟨e, List.mem_cons_of_mem _ he, y⟩)
  · have sp2 := sp_of (pn := []) ok sp
    cases f with
    | next => exact wpAny_execs_nil sp2
    | brk => exact sp2
    | cont => exact sp2
    | ret u => exact sp2
end
end Mir

set_option Elab.async false
set_option linter.all false
set_option maxRecDepth 100000
set_option maxHeartbeats 400000
namespace Mir
open PySem PySem.Spec PyProof.Rows L2 He

def isaD (tb : List (Str × Str × Bool)) (a b : Str) : Option Bool := match tb with
  | [] => none
  | (x, y, v) :: r => if x = a ∧ y = b then some v else isaD r a b
def IsaOk (K : PySem.W.Frag) (tb : List (Str × Str × Bool)) : Prop := ∀ q ∈ tb, PySem.W.exmOne K (.ref (ga K q.1)) (.ref (ga K q.2.1)) = some q.2.2
theorem isaD_ok {K : PySem.W.Frag} : ∀ {tb : List (Str × Str × Bool)} {a b : Str} {v : Bool}, IsaOk K tb → isaD tb a b = some v → PySem.W.exmOne K (.ref (ga K a)) (.ref (ga K b)) = some v
  | [], _, _, _, _, e => by cases e
  | (x, y, u) :: r, a, b, v, h, e => by
    unfold isaD at e
    split at e
    · rename_i q
      cases e
      obtain ⟨rfl, rfl⟩ := q
      exact h _ List.mem_cons_self
    · exact isaD_ok (fun q hq => h q (List.mem_cons_of_mem _ hq)) e
def So.unset (i : Nat) (r : So) : So := match r with
  | .nx ε => .nx (ε.set i .un)
  | .bk ε => .bk (ε.set i .un)
  | .ct ε => .ct (ε.set i .un)
  | .rt d ε => .rt d (ε.set i .un)
  | _ => .no
abbrev Hd := Str × Nat × (Xc → Ev → So)
def handle (tb : List (Str × Str × Bool)) : List Hd → Xc → Ev → So
  | [], x, ε => .er x ε
  | (c, i, h) :: r, x, ε => match isaD tb x.c c with
    | some true => if i < ε.length then (h x (ε.set i .un)).unset i else .no
    | some false => handle tb r x ε
    | none => .no
def sTry (tb : List (Str × Str × Bool)) (g : Ev → So) (l : List Hd) : Ev → So := fun ε => match g ε with
  | .er x ε1 => handle tb l x ε1
  | r => r
/-- the act within a clause's suite -/
def Act.su (A : Act) (i : Nat) (a : Addr) (dd : Option Addr) (x : Xc) : Act := { A with
  fix := (i, .ref a) :: A.fix
  xd := (match dd with
    | some q => [(q, x.fs, x.ds)]
    | none => []) ++ A.xd }
def XD (A : Act) (dd : Option Addr) (x : Xc) : Prop := (x.fs = [] ∧ x.ds = [] ∧ dd = none) ∨ ∃ q, dd = some q ∧ (q, x.fs, x.ds) ∈ A.xd
abbrev Cn.su (C : Cn) (i : Nat) (a : Addr) (dd : Option Addr) (x : Xc) : Cn := ⟨fun _ _ _ _ => False, i :: C.np, fun A => (i, V.ref a) ∈ A.fix ∧ XD A dd x⟩
section
variable {K : PySem.W.Frag} {A : Act} {G H : Hp} {ε : Ev} {σ : L2.St} {xs : List Addr}
theorem RG.enter (R : RG K A G ε σ H []) {i : Nat} {a : Addr} {dd : Option Addr} {x : Xc} {cls : Value} (hi : i < σ.length) (hf : ∀ w, (i, w) ∉ A.fix) (hx : XcR K G x cls dd) : RG K (A.su i a dd x) G (ε.set i .un) (σ.set i (some (.ref a))) H [] := by
  obtain ⟨fps, l1, l2, sl, c1, c2, c3⟩ := R.slots
  have hl : fps[i]? = some (fps[i]'(by omega)) := List.getElem?_eq_getElem (by omega)
  refine ⟨R.sub, R.old, R.live, R.new, ⟨fps.set i [], by simp [l1], by simp [l2], fun j s e => ?_, fun b => ?_, fun b hb => ?_, fun b hb => nomatch hb⟩, fun p hp => ?_, fun p hp => ?_⟩
  · by_cases q : i = j
    · subst q
      rw [List.getElem?_set_self (by omega)] at e
      cases e
      exact ⟨_, [], List.getElem?_set_self hi, List.getElem?_set_self (by omega), rfl, .inr fun b hb => nomatch hb⟩
    · rw [List.getElem?_set_ne q] at e
      obtain ⟨y, l, h1, h2, h3, h4⟩ := sl j s e
      refine ⟨y, l, by rw [List.getElem?_set_ne q]; exact h1, by rw [List.getElem?_set_ne q]; exact h2, h3, ?_⟩
      rcases h4 with ⟨w, h4⟩ | h4
      · exact .inl ⟨w, List.mem_cons_of_mem _ h4⟩
      · exact .inr h4
  · have := cnt_set b [] hl
    have := c1 b
    simp at *
    omega
  · have h1 := cnt_set b [] hl
    simp at h1
    exact c2 b (by omega)
  · rcases List.mem_cons.mp hp with z | z
    · subst z; exact List.getElem?_set_self hi
    · rw [List.getElem?_set_ne (fun y => hf p.2 (by rw [y]; exact z))]
      exact R.fix p z
  · rcases List.mem_append.mp hp with z | z
    · cases dd with
      | none => exact nomatch z
      | some q =>
        obtain rfl : p = (q, x.fs, x.ds) := by simpa using z
        rcases hx.2 with ⟨_, _, h⟩ | ⟨b, ws, h1, h2, h3, h4⟩
        · cases h
        · cases h1
          exact ⟨ws, h2, h3, h4⟩
    · exact R.xd p z
theorem RG.leave' {i : Nat} {a : Addr} {dd : Option Addr} {x : Xc} {σ' : L2.St} (R : RG K (A.su i a dd x) G ε σ H xs) (hf : ∀ w, (i, w) ∉ A.fix) (hl' : σ'.length = σ.length) (hσ : ∀ j, i ≠ j → σ'[j]? = σ[j]?) : RG K A G (ε.set i .un) σ' H xs := by
  obtain ⟨fps, l1, l2, sl, c1, c2, c3⟩ := R.slots
  by_cases hi : i < ε.length
  · have hl : fps[i]? = some (fps[i]'(by omega)) := List.getElem?_eq_getElem (by omega)
    refine ⟨R.sub, R.old, R.live, R.new, ⟨fps.set i [], by simp [l1], by simp [hl', l2], fun j s e => ?_, fun b => ?_, fun b hb => ?_, c3⟩, fun p hp => ?_, fun p hp => R.xd p (List.mem_append_right _ hp)⟩
    · by_cases q : i = j
      · subst q
        rw [List.getElem?_set_self hi] at e
        cases e
        exact ⟨σ'[i]'(by omega), [], List.getElem?_eq_getElem _, List.getElem?_set_self (by omega), rfl, .inr fun b hb => nomatch hb⟩
      · rw [List.getElem?_set_ne q] at e
        obtain ⟨y, l, h1, h2, h3, h4⟩ := sl j s e
        refine ⟨y, l, by rw [hσ j q]; exact h1, by rw [List.getElem?_set_ne q]; exact h2, h3, ?_⟩
        rcases h4 with ⟨w, h4⟩ | h4
        · rcases List.mem_cons.mp h4 with z | z
          · cases z; exact absurd rfl q
          · exact .inl ⟨w, z⟩
        · exact .inr h4
    · have := cnt_set b [] hl
      have := c1 b
      simp at *
      omega
    · have h1 := cnt_set b [] hl
      simp at h1
      exact c2 b (by omega)
    · rw [hσ p.1 (fun y => hf p.2 (by rw [y]; exact hp))]
      exact R.fix p (List.mem_cons_of_mem _ hp)
  · rw [List.set_eq_of_length_le (by omega)]
    refine ⟨R.sub, R.old, R.live, R.new, ⟨fps, l1, by rw [hl']; exact l2, fun j s e => ?_, c1, c2, c3⟩, fun p hp => by rw [hσ p.1 (fun y => hf p.2 (by rw [y]; exact hp))]; exact R.fix p (List.mem_cons_of_mem _ hp), fun p hp => R.xd p (List.mem_append_right _ hp)⟩
    obtain ⟨y, l, h1, h2, h3, h4⟩ := sl j s e
    have q : i ≠ j := fun z => hi (by rw [z]; exact (List.getElem?_eq_some_iff.mp e).1)
    refine ⟨y, l, by rw [hσ j q]; exact h1, h2, h3, ?_⟩
    rcases h4 with ⟨w, h4⟩ | h4
    · rcases List.mem_cons.mp h4 with z | z
      · cases z
        exact absurd (List.getElem?_eq_some_iff.mp e).1 hi
      · exact .inl ⟨w, z⟩
    · exact .inr h4
theorem RG.leave {i : Nat} {a : Addr} {dd : Option Addr} {x : Xc} (R : RG K (A.su i a dd x) G ε σ H xs) (hf : ∀ w, (i, w) ∉ A.fix) : RG K A G (ε.set i .un) (σ.set i none) H xs :=
  R.leave' hf List.length_set fun j q => List.getElem?_set_ne q
end
section
variable {X : Cx} {C : Cn} {k : Nat} {pos : Pos} {tb : List (Str × Str × Bool)} {g : Ev → So}
/-- a clause's suite -/
def SuOk (X : Cx) (C : Cn) (k i : Nat) (su : List Stmt) (h : Xc → Ev → So) : Prop := ∀ (a : Addr) (ob : Obj) (dd : Option Addr) (pn : List (Addr × Obj)) (x : Xc), Zc (.ref (ga X.K x.c)) dd ob → (∃ vs, ob.data = .fields vs) →
  DB (X.suite a ((a, ob) :: pn)) (C.su i a dd x) k su (h x)
inductive HdsD (X : Cx) (C : Cn) (k : Nat) : List ExceptHandler → List Hd → Prop
  | nil : HdsD X C k [] []
  | cons {cn nm : Str} {i : Nat} {h : Xc → Ev → So} {s₀ : Stmt} {su : List Stmt} {q1 q2 : Pos} {hs : List ExceptHandler} {l : List Hd} (hi : X.N[i]? = some nm) (hk : X.env.kindOf nm = some .local) (hn : Gl X cn) (hm : X.mg cn = some (.ref (ga X.K cn)))
      (hnp : i ∉ C.np) (hsu : SuOk X C k i (s₀ :: su) h) (r : HdsD X C k hs l) (hdb : (cn == ("__debug__" : Str)) = false := by decide) : HdsD X C k (.ExceptHandler (some (.Name cn q1)) (some nm) (s₀ :: su) q2 :: hs) ((cn, i, h) :: l)
def tsOf (K : PySem.W.Frag) (C : Cn) (k i : Nat) (h : Xc → Ev → So) : Addr → Value → Option Addr → TS := fun a kl dd D σ H => ∃ x : Xc, kl = .ref (ga K x.c) ∧ ∀ t, TSSat K (C.su i a dd x) k t (h x) → t D σ H
def clsOf (K : PySem.W.Frag) (C : Cn) (k : Nat) : List Hd → List Cl
  | [] => []
  | (c, i, h) :: r => (.ref (ga K c), i, tsOf K C k i h) :: clsOf K C k r
theorem hdsD_ok {hs : List ExceptHandler} {l : List Hd} (h : HdsD X C k hs l) : ClOk X hs (clsOf X.K C k l) := by
  induction h with
  | nil => exact .nil
  | cons hi hk hn hm hnp hsu r hdb ih =>
    refine .cons hi hk ⟨hn, hdb, .inl hm⟩ (fun a ob kl dd pn hz hv => ⟨fun pins s σ H D I q => ?_⟩) ih
    obtain ⟨x, e, q⟩ := q
    subst e
    obtain ⟨t, h1, h2⟩ := hsu a ob dd pn x hz hv
    exact h1.run pins s σ H D I (q t h2)
theorem handle_ok {hs : List ExceptHandler} {l : List Hd} {A : Act} {x : Xc} {ε : Ev} {D : Ends} {G G' H' : Hp} {σ0 σ : L2.St} {cls : Value} {dd : Option Addr} (hd : HdsD X C k hs l) (hA : A.in_ C) (hI : IsaOk X.K tb) (R : RG X.K A G' ε σ H' []) (s : Same G G') (hx : XcR X.K G' x cls dd)
    (q : SPost X.K C A k G σ0 (handle tb l x ε) D) : wCl X.K C.W D (clsOf X.K C k l) cls dd σ H' := by
  induction hd with
  | nil => exact q σ cls dd H' G' R s hx
  | @cons cn nm i h s₀ su q1 q2 hs l hi hk hn hm hnp hsu r hdb ih =>
    unfold handle at q
    cases ei : isaD tb x.c cn with
    | none => rw [ei] at q; exact q.elim
    | some b =>
      rw [ei] at q
      refine ⟨b, by rw [hx.1]; exact isaD_ok hI ei, fun hb a ha => ?_, fun hb => ?_⟩
      · subst hb
        have q : SPost X.K C A k G σ0 (if i < ε.length then (h x (ε.set i .un)).unset i else .no) D := q
        by_cases hil' : i < ε.length
        case neg => rw [if_neg hil'] at q; exact q.elim
        rw [if_pos hil'] at q
        have hil : i < σ.length := by
          obtain ⟨_, _, l2, _⟩ := R.slots
          omega
        refine ⟨x, hx.1, fun t ht => ht (A.su i a dd x) G' (ε.set i .un) _ H' _ ⟨fun p hp => ?_, List.mem_cons_self, ?_⟩ (R.enter hil (hA.no hnp) hx) ?_⟩
        · rcases List.mem_cons.mp hp with z | z
          · rw [z]; exact List.mem_cons_self
          · exact List.mem_cons_of_mem _ (hA.1 p z)
        · rcases hx.2 with ⟨z1, z2, z3⟩ | ⟨b, ws, z1, _⟩
          · exact .inl ⟨z1, z2, z3⟩
          · subst z1
            exact .inr ⟨b, rfl, List.mem_append_left _ List.mem_cons_self⟩
        · have q : SPost X.K C A k G σ0 ((h x (ε.set i .un)).unset i) D := q
          have hf := hA.no hnp
          cases eh : h x (ε.set i .un) with
          | no => rw [eh] at q; exact q
          | nx ε1 => rw [eh] at q; exact fun σ1 H1 G1 R1 s1 => q _ H1 G1 (R1.leave hf) (s.trans s1)
          | bk ε1 => rw [eh] at q; exact fun σ1 H1 G1 R1 s1 => q _ H1 G1 (R1.leave hf) (s.trans s1)
          | ct ε1 => rw [eh] at q; exact fun σ1 H1 G1 R1 s1 => q _ H1 G1 (R1.leave hf) (s.trans s1)
          | er y ε1 => rw [eh] at q; exact q.elim
          | rt d ε1 => rw [eh] at q; exact fun σ1 v H1 G1 fp R1 o s1 => q σ1 v H1 G1 fp (R1.leave' hf rfl fun _ _ => rfl) o (s.trans s1)
      · subst hb
        exact ih q
theorem ds_try {bd : List Stmt} {h₀ : ExceptHandler} {hs : List ExceptHandler} {l : List Hd} (hst : X.stack = X.env :: X.outer) (hfr : X.env.frame = some X.env.locals) (hN : X.N.Nodup) (tk : Takes X C.W) (hI : IsaOk X.K tb)
    (hb : ∀ (W : WX) (pn : List (Addr × Obj)) (xe : Value → Shared → Prop), Takes (X.tr pn xe) W → PassesOwn (model X.prog X.w) X.A X.env xe → DB (X.tr pn xe) ⟨W, C.np, C.P⟩ k bd g) (hd : HdsD X C k (h₀ :: hs) l) :
    DS X C k (.Try bd (h₀ :: hs) [] [] pos) (sTry tb g l) := by
  refine ⟨_, ps_tryN (tb := fun W D σ H => ∀ t, TSSat X.K ⟨W, C.np, C.P⟩ k t g → t D σ H) hst hfr hN tk (fun W pn xe h1 h2 => ⟨fun pins s σ H D I q => ?_⟩) (hdsD_ok hd), fun A G ε σ H D hA R q t ht => ?_⟩
  · obtain ⟨t, a, b⟩ := hb W pn xe h1 h2
    exact a.run pins s σ H D I (q t b)
  · refine ht A G ε σ H D hA R ?_
    unfold sTry at q
    cases e : g ε with
    | er x ε1 =>
      rw [e] at q
      exact fun σ1 cls dd H1 G1 R1 s1 hx => handle_ok hd hA hI R1 s1 hx q
    | no => rw [e] at q; exact q
    | nx ε1 => rw [e] at q; exact q
    | bk ε1 => rw [e] at q; exact q
    | ct ε1 => rw [e] at q; exact q
    | rt d ε1 => rw [e] at q; exact q
end
end Mir

set_option Elab.async false
set_option linter.all false
set_option maxRecDepth 100000
set_option maxHeartbeats 400000
namespace Mir
open PySem PySem.Spec PyProof.Rows L2 He

/-! ### an error's field, within a clause -/
def XfK (K : PySem.W.Frag) (f : Str) (cs : List Str) : Prop := ∀ c ∈ cs, XfC K (ga K c) ∧ PySem.W.findIn K (.ref (ga K c)) f = some none
def mXf (cs : List Str) (f : Str) (x : Xc) : Ev → Rs Dt := fun ε => mOpt (if x.c ∈ cs then lookD f x.fs x.ds else none) ε
theorem de_xf {X : Cx} {C : Cn} {i : Nat} {a : Addr} {ob : Obj} {dd : Option Addr} {pn : List (Addr × Obj)} {x : Xc} {nm f : Str} {cs : List Str} {pos pos2 : Pos} (T : XfK X.K f cs) (hz : Zc (.ref (ga X.K x.c)) dd ob) (hf : ∃ vs, ob.data = .fields vs)
    (hv : PE (X.suite a ((a, ob) :: pn)) (.Name nm pos2) (tVar i)) (hb : attributeBase (.Name nm pos2) f X.env (eval (.Name nm pos2) X.env) = eval (.Name nm pos2) X.env := by rfl) :
    DE (X.suite a ((a, ob) :: pn)) (C.su i a dd x) (.o 0) true (.Attribute (.Name nm pos2) f pos) (mXf cs f x) := by
  by_cases hm : x.c ∈ cs
  · refine ⟨_, pe_xf (T _ hm).1 (T _ hm).2 hz hf hv hb, fun A G ε σ H xs Q hA R h => ?_⟩
    unfold mXf at h
    rw [if_pos hm] at h
    cases el : lookD f x.fs x.ds with
    | none => rw [el] at h; exact h.elim
    | some d =>
      rw [el] at h
      refine ⟨_, R.fix _ hA.2.1, rfl, rfl, ?_⟩
      rcases hA.2.2 with ⟨h1, _, _⟩ | ⟨q, rfl, hq⟩
      · rw [h1] at el; cases el
      · obtain ⟨ws, w1, w2, w3⟩ := R.xd _ hq
        obtain ⟨v, e1, e2⟩ := lookD_ok w2 w3 el
        exact ⟨q, ws, v, rfl, R.sub _ _ w1, e1, h v H G [] R ⟨rfl, e2⟩ (Same.refl G) (fun _ _ => rfl) fun _ => Same.refl H⟩
  · refine ⟨fun _ _ _ => False, ⟨fun _ _ _ _ _ _ q => q.elim⟩, fun A G ε σ H xs Q hA R h => ?_⟩
    unfold mXf at h
    rw [if_neg hm] at h
    exact h.elim

/-! ### data as the library's own PyData -/
mutual
def toPy : Dt → Option PyData
  | .non => some .none
  | .bl b => some (.bool b)
  | .int i => some (.int i)
  | .str x => some (.str x)
  | .tup l => (toPys l).map .tuple
  | .lst l => (toPys l).map .list
  | .dT _ _ => none
  | .dK _ _ => none
  | .ins _ _ _ => none
  | .scr _ => none
def toPys : List Dt → Option (List PyData)
  | [] => some []
  | d :: ds => (toPy d).bind fun p => (toPys ds).map fun r => p :: r
end
mutual
theorem toPy_dp {K : PySem.W.Frag} {H : Hp} : ∀ {d : Dt} {v : V} {q : PyData}, Den K H d v → toPy d = some q → Dp K H v q
  | .non, v, q, h, e => by
    obtain rfl : v = .non := h
    obtain rfl : PyData.none = q := Option.some.inj e
    exact .non
  | .bl b, v, q, h, e => by
    obtain rfl : v = .bl b := h
    obtain rfl : PyData.bool b = q := Option.some.inj e
    exact .bl b
  | .int i, v, q, h, e => by
    obtain rfl : v = .int i := h
    obtain rfl : PyData.int i = q := Option.some.inj e
    exact .int i
  | .str x, v, q, h, e => by
    obtain rfl : v = .str x := h
    obtain rfl : PyData.str x = q := Option.some.inj e
    exact .str x
  | .tup l, v, q, h, e => by
    obtain ⟨a, vs, rfl, ea, hd⟩ := h
    have e : (toPys l).map PyData.tuple = some q := e
    cases el : toPys l with
    | none => rw [el] at e; cases e
    | some r =>
      rw [el] at e
      obtain rfl : PyData.tuple r = q := Option.some.inj e
      exact .tup (.inl (.inl ea)) (toPys_dp hd el)
  | .lst l, v, q, h, e => by
    obtain ⟨a, vs, rfl, ea, hd⟩ := h
    have e : (toPys l).map PyData.list = some q := e
    cases el : toPys l with
    | none => rw [el] at e; cases e
    | some r =>
      rw [el] at e
      obtain rfl : PyData.list r = q := Option.some.inj e
      exact .lst (.inl (.inl ea)) (toPys_dp hd el)
  | .dT _ _, _, _, _, e => nomatch e
  | .dK _ _, _, _, _, e => nomatch e
  | .ins _ _ _, _, _, _, e => nomatch e
  | .scr _, _, _, _, e => nomatch e
theorem toPys_dp {K : PySem.W.Frag} {H : Hp} : ∀ {ds : List Dt} {vs : List V} {qs : List PyData}, DenL K H ds vs → toPys ds = some qs → DpAll K H vs qs
  | [], vs, qs, h, e => by
    obtain rfl : vs = [] := h
    obtain rfl : [] = qs := Option.some.inj e
    exact .nil
  | d :: ds, vs, qs, h, e => by
    obtain ⟨v, r, rfl, h1, h2⟩ := h
    have e : ((toPy d).bind fun p => (toPys ds).map fun r => p :: r) = some qs := e
    cases e1 : toPy d with
    | none => rw [e1] at e; cases e
    | some p =>
      cases e2 : toPys ds with
      | none => rw [e1, e2] at e; cases e
      | some r' =>
        rw [e1, e2] at e
        obtain rfl : p :: r' = qs := Option.some.inj e
        exact .cons (toPy_dp h1 e1) (toPys_dp h2 e2)
end
def shp (d : Dt) : Option PyData := match toPy d with
  | some q => if SeqAt.shaped q = true then some q else none
  | none => none
theorem shp_ok {d : Dt} {q : PyData} (h : shp d = some q) : toPy d = some q ∧ SeqAt.shaped q = true := by
  unfold shp at h
  split at h
  · rename_i q' e
    split at h
    · rename_i hs
      cases h; exact ⟨e, hs⟩
    · cases h
  · cases h
def fEq (d1 d2 : Dt) : Option Sc := (shp d1).bind fun a => (shp d2).map fun b => .bl (PyData.eqv a b)
def fNe (d1 d2 : Dt) : Option Sc := (shp d1).bind fun a => (shp d2).map fun b => .bl (!PyData.eqv a b)
theorem two_of {α β γ : Type} {x : Option α} {y : Option β} {f : α → β → γ} {z : γ} (h : (x.bind fun a => y.map fun b => f a b) = some z) : ∃ a b, x = some a ∧ y = some b ∧ z = f a b := by
  cases x with
  | none => cases h
  | some a =>
    cases y with
    | none => cases h
    | some b => exact ⟨a, b, rfl, rfl, (Option.some.inj h).symm⟩
section
variable {K : PySem.W.Frag}
theorem ops_eq : OpSD K (rEqD K) fEq := fun H d1 d2 v1 v2 z Q h1 h2 hf q => by
  obtain ⟨a, b, e1, e2, rfl⟩ := two_of hf
  exact ⟨a, b, toPy_dp h1 (shp_ok e1).1, toPy_dp h2 (shp_ok e2).1, (shp_ok e1).2, (shp_ok e2).2, q⟩
theorem ops_ne : OpSD K (rNeD K) fNe := fun H d1 d2 v1 v2 z Q h1 h2 hf q => by
  obtain ⟨a, b, e1, e2, rfl⟩ := two_of hf
  exact ⟨a, b, toPy_dp h1 (shp_ok e1).1, toPy_dp h2 (shp_ok e2).1, (shp_ok e1).2, (shp_ok e2).2, q⟩
/-- ints in two places -/
def fI (g : Int → Int → Bool) (d1 d2 : Dt) : Option Sc := match d1, d2 with
  | .int i, .int j => some (.bl (g i j))
  | _, _ => none
theorem ops_I {g : Int → Int → Bool} : OpSD K (rI0 fun i j => .bl (g i j)) (fI g) := fun H d1 d2 v1 v2 z Q h1 h2 hf q => by
  unfold fI at hf
  split at hf
  · rename_i i j
    cases hf
    exact ⟨i, j, h1, h2, q⟩
  · cases hf
/-- < of ints, of tuples of ints, of texts -/
def intsD : List Dt → Option (List Int)
  | [] => some []
  | .int i :: ds => (intsD ds).map fun r => i :: r
  | _ :: _ => none
theorem intsD_eq : ∀ {ds : List Dt} {ns : List Int}, intsD ds = some ns → ds = ns.map Dt.int
  | [], _, e => by cases e; rfl
  | .int i :: ds, ns, e => by
    have e : (intsD ds).map (fun r => i :: r) = some ns := e
    cases er : intsD ds with
    | none => rw [er] at e; cases e
    | some r =>
      rw [er] at e; cases e
      rw [intsD_eq er]; rfl
  | .non :: _, _, e => nomatch e
  | .bl _ :: _, _, e => nomatch e
  | .str _ :: _, _, e => nomatch e
  | .tup _ :: _, _, e => nomatch e
  | .lst _ :: _, _, e => nomatch e
  | .dT _ _ :: _, _, e => nomatch e
  | .dK _ _ :: _, _, e => nomatch e
  | .ins _ _ _ :: _, _, e => nomatch e
  | .scr _ :: _, _, e => nomatch e
def rLtU (K : PySem.W.Frag) : R2 := fun x y H Q => (rI0 (fun i j => .bl (decide (i < j)))) x y H Q ∨ rLtT K x y H Q ∨ (∃ i j, x = .str i ∧ y = .str j ∧ Q (.bl (decide (i.cps.toList < j.cps.toList))) H)
theorem op_ltU {X : Cx} (hu : X.A.units < cLine) : OpR X (compareOp .Lt) (rLtU X.K) := fun pins s σ H x y v u Q I r1 r2 h => by
  rcases h with h | h | h
  · exact op_lt pins s σ H x y v u Q I r1 r2 h
  · exact op_ltT hu pins s σ H x y v u Q I r1 r2 h
  · exact op_lt_str pins s σ H x y v u Q I r1 r2 h
def fLt (d1 d2 : Dt) : Option Sc := match d1, d2 with
  | .int i, .int j => some (.bl (decide (i < j)))
  | .str x, .str y => some (.bl (decide (x.cps.toList < y.cps.toList)))
  | .tup l, .tup m => (intsD l).bind fun a => (intsD m).map fun b => .bl (HT.lexLt a b)
  | _, _ => none
theorem ops_lt : OpSD K (rLtU K) fLt := fun H d1 d2 v1 v2 z Q h1 h2 hf q => by
  unfold fLt at hf
  split at hf
  · rename_i i j
    cases hf
    exact .inl ⟨i, j, h1, h2, q⟩
  · rename_i i j
    cases hf
    exact .inr (.inr ⟨i, j, h1, h2, q⟩)
  · rename_i l m
    obtain ⟨a, b, e1, e2, rfl⟩ := two_of hf
    obtain ⟨p, vs, rfl, ep, hd⟩ := h1
    obtain ⟨r, us, rfl, er, hd2⟩ := h2
    rw [intsD_eq e1] at hd
    rw [intsD_eq e2] at hd2
    rw [hd.ints_of] at ep
    rw [hd2.ints_of] at er
    exact .inr (.inl ⟨p, r, a, b, rfl, rfl, .inl (.inl ep), .inl (.inl er), q⟩)
  · cases hf
/-- in, not in: a list of data; a tuple of flat things -/
def eqSc : Dt → Dt → Bool
  | .non, .non => true
  | .bl a, .bl b => a == b
  | .bl a, .int b => (if a then 1 else 0) == b
  | .int a, .bl b => a == (if b then 1 else 0)
  | .int a, .int b => a == b
  | .str a, .str b => a == b
  | _, _ => false
def scD : Dt → Option V
  | .non => some .non
  | .bl b => some (.bl b)
  | .int i => some (.int i)
  | .str x => some (.str x)
  | _ => none
def scDs : List Dt → Option (List V)
  | [] => some []
  | d :: ds => (scD d).bind fun v => (scDs ds).map fun r => v :: r
theorem scD_eq {H : Hp} {d : Dt} {v w : V} (h : Den K H d v) (e : scD d = some w) : v = w ∧ flatV w = true := by
  cases d with
  | non => cases e; exact ⟨h, rfl⟩
  | bl b => cases e; exact ⟨h, rfl⟩
  | int i => cases e; exact ⟨h, rfl⟩
  | str x => cases e; exact ⟨h, rfl⟩
  | _ => cases e
theorem scDs_eq {H : Hp} : ∀ {ds : List Dt} {vs ws : List V}, DenL K H ds vs → scDs ds = some ws → vs = ws ∧ ws.all flatV = true
  | [], vs, ws, h, e => by
    cases e; exact ⟨h, rfl⟩
  | d :: ds, vs, ws, ⟨v, r, e0, h1, h2⟩, e => by
    have e : ((scD d).bind fun v => (scDs ds).map fun r => v :: r) = some ws := e
    obtain ⟨a, b, e1, e2, rfl⟩ := two_of e
    obtain ⟨rfl, f1⟩ := scD_eq h1 e1
    obtain ⟨rfl, f2⟩ := scDs_eq h2 e2
    exact ⟨e0, by simp [f1]; simpa using f2⟩
def rInT (K : PySem.W.Frag) (neg : Bool) : R2 := fun x y H Q => ∃ d ds, Dp K H x d ∧ Dp K H y (.tuple ds) ∧ SeqAt.shaped d = true ∧ SeqAt.shaped (.tuple ds) = true ∧ Q (.bl (if neg then !ds.any (fun z => PyData.eqv z d) else ds.any fun z => PyData.eqv z d)) H
def rInU (K : PySem.W.Frag) (neg : Bool) : R2 := fun x y H Q => (if neg then rNotInD K else rInD K) x y H Q ∨ rInT K neg x y H Q
theorem room_tup {A : Around} {ds : List PyData} {d : PyData} (h : SeqAt.shaped d = true) (hu : A.units + 65 < cLine) : A.units + 1 + min (PyData.depthAll ds) d.depth < cLine := by
  have h1 := SeqAt.depth_of_shaped h
  have h2 : min (PyData.depthAll ds) d.depth ≤ d.depth := Nat.min_le_right _ _
  omega
theorem op_inU {X : Cx} (hu : X.A.units + 65 < cLine) : OpR X (compareOp .In) (rInU X.K false) := fun pins s σ H x y v u Q I r1 r2 h => by
  rcases h with h | ⟨d, ds, hd, he, sd, se, q⟩
  · exact op_inD hu pins s σ H x y v u Q I r1 r2 h
  · obtain ⟨as, w1⟩ := Dp.reads I d x v hd r1
    obtain ⟨bs, w2⟩ := Dp.reads I (.tuple ds) y u he r2
    exact SeqAt.in_tuple_reads w2 w1 (SeqAt.canLay_of_shaped se) (SeqAt.canLay_of_shaped sd) (room_tup sd hu) ⟨.bl _, H, I, rfl, q⟩
theorem op_notInU {X : Cx} (hu : X.A.units + 65 < cLine) : OpR X (compareOp .NotIn) (rInU X.K true) := fun pins s σ H x y v u Q I r1 r2 h => by
  rcases h with h | ⟨d, ds, hd, he, sd, se, q⟩
  · exact op_notInD hu pins s σ H x y v u Q I r1 r2 h
  · obtain ⟨as, w1⟩ := Dp.reads I d x v hd r1
    obtain ⟨bs, w2⟩ := Dp.reads I (.tuple ds) y u he r2
    exact SeqAt.notIn_tuple_reads w2 w1 (SeqAt.canLay_of_shaped se) (SeqAt.canLay_of_shaped sd) (room_tup sd hu) ⟨.bl _, H, I, rfl, q⟩
def seqPy : PyData → Option (List PyData)
  | .list bs => some bs
  | .tuple bs => some bs
  | _ => none
def fIn (neg : Bool) (d1 d2 : Dt) : Option Sc := (shp d1).bind fun a => ((shp d2).bind seqPy).map fun bs => .bl (if neg then !bs.any (fun z => PyData.eqv z a) else bs.any fun z => PyData.eqv z a)
theorem ops_in {neg : Bool} : OpSD K (rInU K neg) (fIn neg) := fun H d1 d2 v1 v2 z Q h1 h2 hf q => by
  obtain ⟨a, bs, e1, e2, rfl⟩ := two_of hf
  cases e3 : shp d2 with
  | none => rw [e3] at e2; cases e2
  | some p =>
    rw [e3] at e2
    replace e2 : seqPy p = some bs := e2
    have dp1 := toPy_dp h1 (shp_ok e1).1
    have dp2 := toPy_dp h2 (shp_ok e3).1
    have s2 := (shp_ok e3).2
    unfold seqPy at e2
    split at e2
    · cases e2
      cases neg with
      | false => exact .inl ⟨a, bs, dp1, dp2, (shp_ok e1).2, s2, q⟩
      | true => exact .inl ⟨a, bs, dp1, dp2, (shp_ok e1).2, s2, q⟩
    · cases e2
      exact .inr ⟨a, bs, dp1, dp2, (shp_ok e1).2, s2, q⟩
    · cases e2
def isNon : Dt → Bool
  | .non => true
  | _ => false
def fIsN (neg : Bool) (d1 d2 : Dt) : Option Sc := match d2 with
  | .non => some (.bl (if neg then !isNon d1 else isNon d1))
  | _ => none
theorem isN_den {H : Hp} {d : Dt} {v : V} (h : Den K H d v) : decide (v = .non) = isNon d := by
  cases d with
  | non => exact decide_eq_true h
  | bl b =>
    obtain rfl : v = .bl b := h
    rfl
  | int i =>
    obtain rfl : v = .int i := h
    rfl
  | str x =>
    obtain rfl : v = .str x := h
    rfl
  | tup l => obtain ⟨a, _, rfl, _⟩ := h; rfl
  | lst l => obtain ⟨a, _, rfl, _⟩ := h; rfl
  | dT _ _ => obtain ⟨a, _, rfl, _⟩ := h; rfl
  | dK _ _ => obtain ⟨a, _, rfl, _⟩ := h; rfl
  | ins _ _ _ => obtain ⟨a, _, _, rfl, _⟩ := h; rfl
  | scr _ => obtain ⟨a, rfl, _⟩ := h; rfl
theorem ops_isN : OpSD K (fun x y H Q => y = .non ∧ Q (.bl (decide (x = .non))) H) (fIsN false) := fun H d1 d2 v1 v2 z Q h1 h2 hf q => by
  unfold fIsN at hf
  split at hf
  · cases hf
    refine ⟨h2, ?_⟩
    rw [isN_den h1]
    exact q
  · cases hf
theorem ops_notN : OpSD K (fun x y H Q => y = .non ∧ Q (.bl (!decide (x = .non))) H) (fIsN true) := fun H d1 d2 v1 v2 z Q h1 h2 hf q => by
  unfold fIsN at hf
  split at hf
  · cases hf
    refine ⟨h2, ?_⟩
    rw [isN_den h1]
    exact q
  · cases hf
end
end Mir

set_option Elab.async false
set_option linter.all false
set_option maxRecDepth 100000
set_option maxHeartbeats 400000
namespace Mir
open PySem PySem.Spec PyProof.Rows L2 He

/-! ### arithmetic -/
section
variable {K : PySem.W.Frag}
def rAddU (K : PySem.W.Frag) : R2 := fun x y H Q => (rI0 (fun i j => .int (i + j))) x y H Q ∨ rCat x y H Q ∨ rCatT K x y H Q ∨ (∃ i j, x = .str i ∧ y = .str j ∧ i.length + j.length ≤ sizeLine ∧ Q (.str (i ++ j)) H)
theorem op_addU {X : Cx} : OpR X (binaryOp .Add) (rAddU X.K) := fun pins s σ H x y v u Q I r1 r2 h => by
  rcases h with h | h | h | h
  · exact op_add pins s σ H x y v u Q I r1 r2 h
  · exact op_cat pins s σ H x y v u Q I r1 r2 h
  · exact op_catT pins s σ H x y v u Q I r1 r2 h
  · exact op_add_str pins s σ H x y v u Q I r1 r2 h
def fAdd (d1 d2 : Dt) : Option Rz := match d1, d2 with
  | .int i, .int j => some (.sc (.int (i + j)))
  | .lst l, .lst m => if l.length + m.length ≤ sizeLine then some (.lst (l ++ m)) else none
  | .tup l, .tup m => if l.isEmpty = false ∧ l.length + m.length ≤ sizeLine then (if m.isEmpty = true then some (.el (.tup l)) else some (.tup (l ++ m))) else none
  | .str x, .str y => if x.length + y.length ≤ sizeLine then some (.sc (.str (x ++ y))) else none
  | _, _ => none
theorem ops_add : OpS K (rAddU K) fAdd := fun G H d1 d2 v1 v2 z Q s h1 h2 hf q => by
  unfold fAdd at hf
  split at hf
  · rename_i i j
    cases hf
    exact .inl ⟨i, j, h1, h2, q⟩
  · rename_i l m
    split at hf
    · rename_i hz
      cases hf
      obtain ⟨a, vs, rfl, ea, hd⟩ := h1
      obtain ⟨b, us, rfl, eb, hd2⟩ := h2
      exact .inr (.inl ⟨a, b, vs, us, rfl, rfl, ea, eb, by rw [hd.length, hd2.length]; exact hz, fun p hp => q _ p (hd.append hd2) hp⟩)
    · cases hf
  · rename_i l m
    split at hf
    · rename_i hz
      obtain ⟨a, vs, rfl, ea, hd⟩ := h1
      obtain ⟨b, us, rfl, eb, hd2⟩ := h2
      have hne : vs ≠ [] := fun z => by
        subst z
        have := hd.length
        cases l with
        | nil => exact absurd hz.1 (by decide)
        | cons d r => simp at this
      refine .inr (.inr (.inl ⟨a, b, vs, us, rfl, rfl, .inl (.inl (s _ _ ea)), .inl (.inl (s _ _ eb)), hne, by rw [hd.length, hd2.length]; exact hz.2, fun hu => ?_, fun hu p hp => ?_⟩))
      · have hm : m.isEmpty = true := by
          have := hd2.length
          rw [hu] at this
          cases m with
          | nil => rfl
          | cons d r => simp at this
        rw [if_pos hm] at hf
        cases hf
        exact q _ ⟨a, vs, rfl, ea, hd⟩
      · have hm : ¬ m.isEmpty = true := fun z => hu (by
          have := hd2.length
          cases m with
          | nil => exact List.length_eq_zero_iff.mp this
          | cons d r => cases z)
        rw [if_neg hm] at hf
        cases hf
        exact q _ p (hd.append hd2) hp
    · cases hf
  · rename_i x y
    split at hf
    · rename_i hz
      cases hf
      exact .inr (.inr (.inr ⟨x, y, h1, h2, hz, q⟩))
    · cases hf
  · cases hf
/-- ints in, under a condition, an int out -/
def fII (c : Int → Int → Bool) (g : Int → Int → Int) (d1 d2 : Dt) : Option Rz := match d1, d2 with
  | .int i, .int j => if c i j = true then some (.sc (.int (g i j))) else none
  | _, _ => none
theorem ops_II {c : Int → Int → Bool} {P : Int → Int → Prop} {g : Int → Int → Int} (hc : ∀ i j, c i j = true → P i j) : OpS K (rI P fun i j => .int (g i j)) (fII c g) := fun G H d1 d2 v1 v2 z Q s h1 h2 hf q => by
  unfold fII at hf
  split at hf
  · rename_i i j
    split at hf
    · rename_i hz
      cases hf
      exact ⟨i, j, h1, h2, hc i j hz, q⟩
    · cases hf
  · cases hf
def cYes (_ _ : Int) : Bool := true
def cMulB (i j : Int) : Bool := (decide (-(2 ^ 64) < i) && decide (i < 2 ^ 64)) || (decide (-(2 ^ 64) < j) && decide (j < 2 ^ 64))
def cDivB (_ j : Int) : Bool := decide (0 < j) && decide (j < 1073741824)
def cModB (_ j : Int) : Bool := decide (0 < j)
def cPowB (i j : Int) : Bool := decide (0 ≤ j) && (decide (j ≤ 1000000) && decide (i.natAbs < 2 ^ 64))
theorem cMulB_ok (i j : Int) (h : cMulB i j = true) : CMul i j := by
  unfold cMulB at h
  rw [Bool.or_eq_true, Bool.and_eq_true, Bool.and_eq_true, decide_eq_true_iff, decide_eq_true_iff, decide_eq_true_iff, decide_eq_true_iff] at h
  exact h
theorem cDivB_ok (i j : Int) (h : cDivB i j = true) : CDiv i j := by
  unfold cDivB at h
  rw [Bool.and_eq_true, decide_eq_true_iff, decide_eq_true_iff] at h
  exact h
theorem cModB_ok (i j : Int) (h : cModB i j = true) : 0 < j := of_decide_eq_true h
theorem cPowB_ok (i j : Int) (h : cPowB i j = true) : CPow i j := by
  unfold cPowB at h
  rw [Bool.and_eq_true, Bool.and_eq_true, decide_eq_true_iff, decide_eq_true_iff, decide_eq_true_iff] at h
  exact h
def fSub (d1 d2 : Dt) : Option Rz := match d1, d2 with
  | .int i, .int j => some (.sc (.int (i - j)))
  | _, _ => none
theorem ops_sub : OpS K (rI0 fun i j => .int (i - j)) fSub := fun G H d1 d2 v1 v2 z Q s h1 h2 hf q => by
  unfold fSub at hf
  split at hf
  · rename_i i j
    cases hf
    exact ⟨i, j, h1, h2, q⟩
  · cases hf
/-- ints multiplied; a list repeated -/
def rMulU : R2 := fun x y H Q => (rI CMul fun i j => .int (i * j)) x y H Q ∨ rRep x y H Q
theorem op_mulU {X : Cx} : OpR X (binaryOp .Mult) rMulU := fun pins s σ H x y v u Q I r1 r2 h => by
  rcases h with h | h
  · exact op_mul pins s σ H x y v u Q I r1 r2 h
  · exact op_rep pins s σ H x y v u Q I r1 r2 h
def fMul (d1 d2 : Dt) : Option Rz := match d1, d2 with
  | .int i, .int j => if cMulB i j = true then some (.sc (.int (i * j))) else none
  | .lst l, .int k => if smallR k = true ∧ l.length * k.toNat ≤ sizeLine then some (.lst (List.replicate k.toNat l).flatten) else none
  | _, _ => none
theorem DenL.flat {G : Hp} {l : List Dt} {vs : List V} (h : DenL K G l vs) : ∀ n : Nat, DenL K G (List.replicate n l).flatten (List.replicate n vs).flatten
  | 0 => rfl
  | n + 1 => by
    rw [List.replicate_succ, List.replicate_succ, List.flatten_cons, List.flatten_cons]
    exact h.append (DenL.flat h n)
theorem ops_mul : OpS K rMulU fMul := fun G H d1 d2 v1 v2 z Q s h1 h2 hf q => by
  unfold fMul at hf
  split at hf
  · rename_i i j
    split at hf
    · rename_i hz
      cases hf
      exact .inl ⟨i, j, h1, h2, cMulB_ok i j hz, q⟩
    · cases hf
  · rename_i l k
    split at hf
    · rename_i hz
      cases hf
      obtain ⟨a, vs, rfl, ea, hd⟩ := h1
      have := small_of hz.1
      exact .inr ⟨a, k, vs, rfl, h2, ea, by omega, by omega, by rw [hd.length]; exact hz.2, fun p hp => q _ p (hd.flat _) hp⟩
    · cases hf
  · cases hf
def fNeg (d : Dt) : Option Rz := match d with
  | .int i => some (.sc (.int (-i)))
  | _ => none
theorem opu_neg : OpU K (rU fun i => .int (-i)) fNeg := fun G H d v z Q s h hf q => by
  unfold fNeg at hf
  split at hf
  · rename_i i
    cases hf
    exact ⟨i, h, q⟩
  · cases hf
/-! ### built-ins -/
def fLen (ds : List Dt) : Option Rz := match ds with
  | [.lst l] => some (.sc (.int (l.length : Int)))
  | [.tup l] => some (.sc (.int (l.length : Int)))
  | [.str x] => if x.length ≤ sizeLine then some (.sc (.int (x.length : Int))) else none
  | _ => none
theorem opa_len : OpA K (fun xs H Q => ∃ x n, xs = [x] ∧ LenV K x H n ∧ Q (.int n) H) fLen := fun G H ds vs z Q s h hf q => by
  unfold fLen at hf
  split at hf
  · rename_i l
    cases hf
    obtain ⟨v, rfl, h1⟩ := h.one
    obtain ⟨a, us, rfl, ea, hd⟩ := h1
    exact ⟨_, l.length, rfl, .inl ⟨us, .inl (.inl (s _ _ ea)), hd.length.symm⟩, q⟩
  · rename_i l
    cases hf
    obtain ⟨v, rfl, h1⟩ := h.one
    obtain ⟨a, us, rfl, ea, hd⟩ := h1
    exact ⟨_, l.length, rfl, .inr ⟨us, .inl (.inl (s _ _ ea)), hd.length.symm⟩, q⟩
  · rename_i x
    split at hf
    · rename_i hz
      cases hf
      obtain ⟨v, rfl, h1⟩ := h.one
      obtain rfl : v = .str x := h1
      exact ⟨_, x.length, rfl, ⟨hz, rfl⟩, q⟩
    · cases hf
  · cases hf
def fInt (ds : List Dt) : Option Rz := match ds with
  | [.int i] => some (.sc (.int i))
  | [.bl b] => some (.sc (.int (if b then 1 else 0)))
  | _ => none
theorem opa_int : OpA K (fun xs H Q => (∃ i, xs = [.int i] ∧ Q (.int i) H) ∨ ∃ k, xs = [.bl k] ∧ Q (.int (if k then 1 else 0)) H) fInt := fun G H ds vs z Q s h hf q => by
  unfold fInt at hf
  split at hf
  · rename_i i
    cases hf
    obtain ⟨v, rfl, h1⟩ := h.one
    obtain rfl : v = .int i := h1
    exact .inl ⟨i, rfl, q⟩
  · rename_i b
    cases hf
    obtain ⟨v, rfl, h1⟩ := h.one
    obtain rfl : v = .bl b := h1
    exact .inr ⟨b, rfl, q⟩
  · cases hf
def seqD : Dt → Option (List Dt)
  | .lst l => some l
  | .tup l => some l
  | _ => none
def fList (ds : List Dt) : Option Rz := match ds with
  | [d] => (seqD d).map .lst
  | _ => none
theorem opa_list : OpA K (fun xs H Q => ∃ p ys, xs = [.ref p] ∧ (SqL K H p ys ∨ SqT K H p ys) ∧ ∀ l, H l = none → Q (.ref l) (upd H l (.lst ys))) fList := fun G H ds vs z Q s h hf q => by
  unfold fList at hf
  split at hf
  · rename_i d
    obtain ⟨v, rfl, h1⟩ := h.one
    cases d with
    | lst l =>
      cases hf
      obtain ⟨a, us, rfl, ea, hd⟩ := h1
      exact ⟨a, us, rfl, .inl (.inl (.inl (s _ _ ea))), fun p hp => q us p hd hp⟩
    | tup l =>
      cases hf
      obtain ⟨a, us, rfl, ea, hd⟩ := h1
      exact ⟨a, us, rfl, .inr (.inl (.inl (s _ _ ea))), fun p hp => q us p hd hp⟩
    | _ => cases hf
  · cases hf
def fTuple (ds : List Dt) : Option Rz := match ds with
  | [.lst l] => some (.tup l)
  | [.tup l] => some (.el (.tup l))
  | _ => none
theorem opa_tuple : OpA K (fun xs H Q => ∃ p ys, xs = [.ref p] ∧ ((SqL K H p ys ∧ ∀ l, H l = none → Q (.ref l) (upd H l (.tup ys))) ∨ (SqT K H p ys ∧ Q (.ref p) H))) fTuple := fun G H ds vs z Q s h hf q => by
  unfold fTuple at hf
  split at hf
  · rename_i l
    cases hf
    obtain ⟨v, rfl, h1⟩ := h.one
    obtain ⟨a, us, rfl, ea, hd⟩ := h1
    exact ⟨a, us, rfl, .inl ⟨.inl (.inl (s _ _ ea)), fun p hp => q us p hd hp⟩⟩
  · rename_i l
    cases hf
    obtain ⟨v, rfl, h1⟩ := h.one
    obtain ⟨a, us, rfl, ea, hd⟩ := h1
    exact ⟨a, us, rfl, .inr ⟨.inl (.inl (s _ _ ea)), q _ ⟨a, us, rfl, ea, hd⟩⟩⟩
  · cases hf
def fMin (ds : List Dt) : Option Rz := (int2 ds).map fun p => .sc (.int (if p.2 < p.1 then p.2 else p.1))
def fMax (ds : List Dt) : Option Rz := (int2 ds).map fun p => .sc (.int (if p.2 > p.1 then p.2 else p.1))
theorem DenL.int2 {G : Hp} {ds : List Dt} {i j : Int} {us : List V} (h : DenL K G ds us) (e : Mir.int2 ds = some (i, j)) : us = [.int i, .int j] := by
  rw [int2_eq e] at h
  obtain ⟨v, w, rfl, h1, h2⟩ := h
  obtain ⟨u, rfl, h3⟩ := h2.one
  obtain rfl : v = .int i := h1
  obtain rfl : u = .int j := h3
  rfl
theorem opa_min : OpA K (fun xs H Q => ∃ i j, xs = [.int i, .int j] ∧ Q (.int (if j < i then j else i)) H) fMin := fun G H ds vs z Q s h hf q => by
  unfold fMin at hf
  cases e : int2 ds with
  | none => rw [e] at hf; cases hf
  | some p =>
    rw [e] at hf
    cases hf
    exact ⟨p.1, p.2, h.int2 e, q⟩
theorem opa_max : OpA K (fun xs H Q => ∃ i j, xs = [.int i, .int j] ∧ Q (.int (if j > i then j else i)) H) fMax := fun G H ds vs z Q s h hf q => by
  unfold fMax at hf
  cases e : int2 ds with
  | none => rw [e] at hf; cases hf
  | some p =>
    rw [e] at hf
    cases hf
    exact ⟨p.1, p.2, h.int2 e, q⟩
def blsD : List Dt → Option (List Bool)
  | [] => some []
  | .bl b :: ds => (blsD ds).map fun r => b :: r
  | _ :: _ => none
theorem blsD_ok {G : Hp} : ∀ {ds : List Dt} {bs : List Bool} {vs : List V}, DenL K G ds vs → blsD ds = some bs → vs = bs.map V.bl
  | [], _, _, h, e => by cases e; exact h
  | .bl b :: ds, bs, _, ⟨v, r, e0, h1, h2⟩, e => by
    have e : (blsD ds).map (fun r => b :: r) = some bs := e
    cases er : blsD ds with
    | none => rw [er] at e; cases e
    | some r' =>
      rw [er] at e; cases e
      obtain rfl : v = .bl b := h1
      rw [e0, blsD_ok h2 er]; rfl
  | .non :: _, _, _, _, e => nomatch e
  | .int _ :: _, _, _, _, e => nomatch e
  | .str _ :: _, _, _, _, e => nomatch e
  | .tup _ :: _, _, _, _, e => nomatch e
  | .lst _ :: _, _, _, _, e => nomatch e
  | .dT _ _ :: _, _, _, _, e => nomatch e
  | .dK _ _ :: _, _, _, _, e => nomatch e
  | .ins _ _ _ :: _, _, _, _, e => nomatch e
  | .scr _ :: _, _, _, _, e => nomatch e
def fAll (ds : List Dt) : Option Rz := match ds with
  | [.lst l] => (blsD l).map fun bs => .sc (.bl (bs.all id))
  | _ => none
def fAny (ds : List Dt) : Option Rz := match ds with
  | [.lst l] => (blsD l).map fun bs => .sc (.bl (bs.any id))
  | _ => none
theorem opa_all : OpA K (rAll K) fAll := fun G H ds vs z Q s h hf q => by
  unfold fAll at hf
  split at hf
  · rename_i l
    cases e : blsD l with
    | none => rw [e] at hf; cases hf
    | some bs =>
      rw [e] at hf; cases hf
      obtain ⟨v, rfl, h1⟩ := h.one
      obtain ⟨a, us, rfl, ea, hd⟩ := h1
      rw [blsD_ok hd e] at ea
      exact ⟨a, bs, rfl, .inl (.inl (s _ _ ea)), q⟩
  · cases hf
theorem opa_any : OpA K (rAny K) fAny := fun G H ds vs z Q s h hf q => by
  unfold fAny at hf
  split at hf
  · rename_i l
    cases e : blsD l with
    | none => rw [e] at hf; cases hf
    | some bs =>
      rw [e] at hf; cases hf
      obtain ⟨v, rfl, h1⟩ := h.one
      obtain ⟨a, us, rfl, ea, hd⟩ := h1
      rw [blsD_ok hd e] at ea
      exact ⟨a, bs, rfl, .inl (.inl (s _ _ ea)), q⟩
  · cases hf
end
end Mir

set_option Elab.async false
set_option linter.all false
set_option maxRecDepth 100000
set_option maxHeartbeats 400000
namespace Mir
open PySem PySem.Spec PyProof.Rows L2 He

/-! ### sorted: of ints, of pairs of ints -/
def insI (x : Int) : List Int → List Int
  | [] => [x]
  | y :: r => if x ≤ y then x :: y :: r else y :: insI x r
def srtI : List Int → List Int
  | [] => []
  | x :: r => insI x (srtI r)
def lexb (p q : Int × Int) : Bool := decide (p.1 < q.1) || (decide (p.1 = q.1) && decide (p.2 < q.2))
def insP (x : Int × Int) : List (Int × Int) → List (Int × Int)
  | [] => [x]
  | y :: r => if lexb y x = true then y :: insP x r else x :: y :: r
def srtP : List (Int × Int) → List (Int × Int)
  | [] => []
  | x :: r => insP x (srtP r)
theorem insI_perm (x : Int) : ∀ l : List Int, (insI x l).Perm (x :: l)
  | [] => List.Perm.refl _
  | y :: r => by
    unfold insI
    split
    · exact List.Perm.refl _
    · exact ((insI_perm x r).cons y).trans (List.Perm.swap x y r)
theorem srtI_perm : ∀ l : List Int, (srtI l).Perm l
  | [] => List.Perm.refl _
  | x :: r => (insI_perm x _).trans ((srtI_perm r).cons x)
theorem insI_sorted (x : Int) : ∀ l : List Int, l.Pairwise (· ≤ ·) → (insI x l).Pairwise (· ≤ ·)
  | [], _ => List.pairwise_singleton _ _
  | y :: r, h => by
    obtain ⟨h1, h2⟩ := List.pairwise_cons.mp h
    unfold insI
    split
    · rename_i hx
      exact List.pairwise_cons.mpr ⟨fun z hz => by
        rcases List.mem_cons.mp hz with e | e
        · rw [e]; exact hx
        · exact Int.le_trans hx (h1 z e), h⟩
    · rename_i hx
      refine List.pairwise_cons.mpr ⟨fun z hz => ?_, insI_sorted x r h2⟩
      rcases List.mem_cons.mp ((insI_perm x r).mem_iff.mp hz) with e | e
      · rw [e]; omega
      · exact h1 z e
theorem srtI_sorted : ∀ l : List Int, (srtI l).Pairwise (· ≤ ·)
  | [] => List.Pairwise.nil
  | x :: r => insI_sorted x _ (srtI_sorted r)
theorem lexb_iff {p q : Int × Int} : lexb p q = true ↔ p.1 < q.1 ∨ (p.1 = q.1 ∧ p.2 < q.2) := by
  unfold lexb
  rw [Bool.or_eq_true, Bool.and_eq_true, decide_eq_true_iff, decide_eq_true_iff, decide_eq_true_iff]
theorem lexb_no {p q : Int × Int} : lexb p q = false ↔ ¬(p.1 < q.1 ∨ (p.1 = q.1 ∧ p.2 < q.2)) := by
  rw [← lexb_iff]; cases lexb p q <;> simp
abbrev SP (l : List (Int × Int)) : Prop := l.Pairwise fun x y => lexb y x = false
theorem insP_perm (x : Int × Int) : ∀ l, (insP x l).Perm (x :: l)
  | [] => List.Perm.refl _
  | y :: r => by
    unfold insP
    split
    · exact ((insP_perm x r).cons y).trans (List.Perm.swap x y r)
    · exact List.Perm.refl _
theorem srtP_perm : ∀ l, (srtP l).Perm l
  | [] => List.Perm.refl _
  | x :: r => (insP_perm x _).trans ((srtP_perm r).cons x)
theorem insP_sorted (x : Int × Int) : ∀ l, SP l → SP (insP x l)
  | [], _ => List.pairwise_singleton _ _
  | y :: r, h => by
    obtain ⟨h1, h2⟩ := List.pairwise_cons.mp h
    unfold insP
    split
    · rename_i hx
      refine List.pairwise_cons.mpr ⟨fun z hz => ?_, insP_sorted x r h2⟩
      rcases List.mem_cons.mp ((insP_perm x r).mem_iff.mp hz) with e | e
      · rw [e]
        have := lexb_iff.mp hx
        exact lexb_no.mpr (by omega)
      · exact h1 z e
    · rename_i hx
      have hx : lexb y x = false := by simpa using hx
      refine List.pairwise_cons.mpr ⟨fun z hz => ?_, h⟩
      rcases List.mem_cons.mp hz with e | e
      · rw [e]; exact hx
      · have a := lexb_no.mp hx
        have b := lexb_no.mp (h1 z e)
        exact lexb_no.mpr (by omega)
theorem srtP_sorted : ∀ l, SP (srtP l)
  | [] => List.Pairwise.nil
  | x :: r => insP_sorted x _ (srtP_sorted r)
theorem sp_uniq {a b : List (Int × Int)} (hp : a.Perm b) (ha : SP a) (hb : SP b) : a = b := by
  refine hp.eq_of_pairwise (fun x y _ _ h1 h2 => ?_) ha hb
  have p := lexb_no.mp h1
  have q := lexb_no.mp h2
  exact Prod.ext (by omega) (by omega)
def pairsD : List Dt → Option (List (Int × Int))
  | [] => some []
  | .tup [.int a, .int b] :: ds => (pairsD ds).map fun r => (a, b) :: r
  | _ :: _ => none
def pD (p : Int × Int) : Dt := .tup [.int p.1, .int p.2]
theorem pairsD_eq : ∀ {ds : List Dt} {ps : List (Int × Int)}, pairsD ds = some ps → ds = ps.map pD
  | [], _, e => by cases e; rfl
  | d :: ds, ps, e => by
    unfold pairsD at e
    split at e
    · rename_i e2
      exact nomatch e2
    · rename_i a b ds' e2
      obtain ⟨rfl, rfl⟩ := List.cons.inj e2
      cases er : pairsD ds with
      | none => rw [er] at e; cases e
      | some r =>
        rw [er] at e; cases e
        rw [pairsD_eq er]; rfl
    · cases e
def fSorted (ds : List Dt) : Option Rz := match ds with
  | [.lst l] => (match intsD l with
    | some ns => some (.lst ((srtI ns).map Dt.int))
    | none => (pairsD l).map fun ps => .lst ((srtP ps).map pD))
  | _ => none
def rSortU (K : PySem.W.Frag) : List V → Hp → VK → Prop := fun xs H Q => rSortedI K xs H Q ∨ rSortedPO K xs H Q
theorem call_sortU {X : Cx} : CallR X (.builtin "sorted") (rSortU X.K) := fun pins s σ H xs us Q I r h => by
  rcases h with h | h
  · exact cr_sortedI pins s σ H xs us Q I r h
  · exact cr_sortedPO pins s σ H xs us Q I r h
theorem DenL.mem {K : PySem.W.Frag} {G : Hp} : ∀ {ds : List Dt} {vs : List V} {v : V}, DenL K G ds vs → v ∈ vs → ∃ d ∈ ds, Den K G d v
  | [], _, _, h, hv => by
    obtain rfl : _ = [] := h
    exact nomatch hv
  | d :: ds, _, w, ⟨v, r, rfl, h1, h2⟩, hv => by
    rcases List.mem_cons.mp hv with e | e
    · rw [e]; exact ⟨d, List.mem_cons_self, h1⟩
    · obtain ⟨d', a, b⟩ := DenL.mem h2 e
      exact ⟨d', List.mem_cons_of_mem _ a, b⟩
theorem pD_den {K : PySem.W.Frag} {G : Hp} {p : Int × Int} {v : V} : Den K G (pD p) v ↔ ∃ a, v = .ref a ∧ G a = some (.tup [.int p.1, .int p.2]) := by
  constructor
  · rintro ⟨a, vs, e, h, x, r, e2, h2, y, r2, e3, h3, e4⟩
    obtain rfl : x = .int p.1 := h2
    obtain rfl : y = .int p.2 := h3
    obtain rfl : r2 = [] := e4
    subst e3 e2
    exact ⟨a, e, h⟩
  · rintro ⟨a, e, h⟩
    exact ⟨a, _, e, h, _, _, rfl, rfl, _, _, rfl, rfl, rfl⟩
theorem opa_sorted {K : PySem.W.Frag} : OpA K (rSortU K) fSorted := fun G H ds vs z Q s h hf q => by
  unfold fSorted at hf
  split at hf
  · rename_i l
    obtain ⟨v, rfl, h1⟩ := h.one
    obtain ⟨a, us, rfl, ea, hd⟩ := h1
    split at hf
    · rename_i ns en
      cases hf
      rw [intsD_eq en] at hd
      have := hd.ints_of
      subst this
      refine .inl ⟨a, ns, rfl, .inl (.inl (s _ _ ea)), fun ns' p hp hs hn => ?_⟩
      have e : ns' = srtI ns := PySem.W.ksm_same (hp.trans (srtI_perm ns).symm) hs (srtI_sorted ns)
      subst e
      exact q _ p DenL.ints hn
    · cases ep : pairsD l with
      | none => rw [ep] at hf; cases hf
      | some ps =>
        rw [ep] at hf
        cases hf
        rw [pairsD_eq ep] at hd
        -- the pair that stands at a value
        let k : V → Int × Int := fun v => match v with
          | .ref t => (match G t with
            | some (.tup [.int x, .int y]) => (x, y)
            | _ => (0, 0))
          | _ => (0, 0)
        have hk : ∀ {p : Int × Int} {v : V}, Den K G (pD p) v → k v = p := fun {p v} h => by
          obtain ⟨t, rfl, et⟩ := pD_den.mp h
          show (match G t with
            | some (.tup [.int x, .int y]) => (x, y)
            | _ => (0, 0)) = p
          rw [et]
        have hm : ∀ {qs : List (Int × Int)} {ws : List V}, DenL K G (qs.map pD) ws → ws.map k = qs := by
          intro qs
          induction qs with
          | nil => intro ws h; obtain rfl : ws = [] := h; rfl
          | cons p r ih =>
            rintro ws ⟨v, t, rfl, h1, h2⟩
            rw [List.map_cons, hk h1, ih h2]
        have he : ∀ v ∈ us, ∃ p, Den K G (pD p) v := fun v hv => by
          obtain ⟨d, hd1, hd2⟩ := hd.mem hv
          obtain ⟨p, _, rfl⟩ := List.mem_map.mp hd1
          exact ⟨p, hd2⟩
        refine .inr ⟨a, us, k, rfl, .inl (.inl (s _ _ ea)), fun x hx => ?_, fun ys p h1 h2 hn => ?_⟩
        · obtain ⟨p, hp⟩ := he x hx
          obtain ⟨t, rfl, et⟩ := pD_den.mp hp
          rw [hk hp]
          exact ⟨t, rfl, s _ _ et⟩
        · have hys : ∀ v ∈ ys, Den K G (pD (k v)) v := fun v hv => by
            obtain ⟨p, hp⟩ := he v (h2.perm.mem_iff.mp hv)
            rw [hk hp]; exact hp
          have e : ys.map k = srtP ps := by
            refine sp_uniq ?_ ?_ (srtP_sorted ps)
            · have := h2.perm.map k
              rw [hm hd] at this
              exact this.trans (srtP_perm ps).symm
            · rw [SP, List.pairwise_map]
              refine h1.imp fun {x y} hxy => ?_
              have hxy : SrtO.lexB (k y) (k x) = false := hxy
              have := SrtO.lexB_no.mp hxy
              exact lexb_no.mpr (by omega)
          refine q ys p ?_ hn
          rw [← e]
          clear e h1 h2 hn q
          induction ys with
          | nil => exact rfl
          | cons y r ih => exact ⟨y, r, rfl, hys y List.mem_cons_self, ih fun v hv => hys v (List.mem_cons_of_mem _ hv)⟩
  · cases hf
end Mir

set_option Elab.async false
set_option linter.all false
set_option maxRecDepth 100000
set_option maxHeartbeats 400000
namespace Mir
open PySem PySem.Spec PyProof.Rows L2 He

/-! ### built-ins called; one-argument borrowed (len, list, tuple ..) -/
section
variable {X : Cx} {C : Cn} {k i : Nat} {p p1 p2 p3 : Bool} {e a b c : Expr} {es : List Expr} {pp pos : Pos} {fa fb fc : Ev → Rs Dt} {fs : Ev → Rs (List Dt)} {x id T : Str}
/-- one argument, its top object read where it stands -/
def OpB (K : PySem.W.Frag) (r : List V → Hp → VK → Prop) (f : Dt → Option Rz) : Prop :=
  ∀ (G H : Hp) (d : Dt) (v : V) (z : Rz) (Q : VK), Same G H → Sh K H G d v → f d = some z → RzP K G H z Q → r [v] H Q
theorem tsat_cbB {K : PySem.W.Frag} {ta : TE} {r : List V → Hp → VK → Prop} {f : Dt → Option Rz} (ha : TSat K C .b p ta fa) (ho : OpB K r f) : TSat K C (.o 0) p (tCB r (tCons ta tNil)) (mUn f fa) := fun A G ε σ H xs Q hA R h => by
  refine ha A G ε σ H xs _ hA R ?_
  unfold mUn at h
  cases e1 : fa ε with
  | no => rw [e1] at h; exact h
  | er x ε1 => rw [e1] at h; exact h
  | ok d1 ε1 =>
    rw [e1] at h
    rintro v1 H1 G1 fp R1 ⟨rfl, r1⟩ s1 hx1 hh1
    replace h : EPost K C A (.o 0) p G H σ xs (mRz (f d1) ε1) Q := h
    obtain ⟨y, ey, hy⟩ := rz_end R1 (h.ahead (p1 := p) (p2 := true) (fun z => ⟨z, rfl⟩) s1 hx1 hh1)
    exact ho G1 H1 d1 v1 y _ R1.sub r1 ey hy
def mUn1 (f : Dt → Option Rz) (fa : Ev → Rs Dt) : Ev → Rs Dt := fun ε => (fa ε).bind fun d1 ε1 => mRz1 (f d1) ε1
theorem tsat_cbB1 {K : PySem.W.Frag} {ta : TE} {r : List V → Hp → VK → Prop} {f : Dt → Option Rz} (ha : TSat K C .b p ta fa) (ho : OpB K r f) : TSat K C (.o 1) p (tCB r (tCons ta tNil)) (mUn1 f fa) := fun A G ε σ H xs Q hA R h => by
  refine ha A G ε σ H xs _ hA R ?_
  unfold mUn1 at h
  cases e1 : fa ε with
  | no => rw [e1] at h; exact h
  | er x ε1 => rw [e1] at h; exact h
  | ok d1 ε1 =>
    rw [e1] at h
    rintro v1 H1 G1 fp R1 ⟨rfl, r1⟩ s1 hx1 hh1
    replace h : EPost K C A (.o 1) p G H σ xs (mRz1 (f d1) ε1) Q := h
    obtain ⟨y, ey, hy⟩ := rz_end1 R1 (h.ahead (p1 := p) (p2 := true) (fun z => ⟨z, rfl⟩) s1 hx1 hh1)
    exact ho G1 H1 d1 v1 y _ R1.sub r1 ey hy
def bLen : Dt → Option Rz := fun d => fLen [d]
def bList : Dt → Option Rz := fun d => fList [d]
def bTuple : Dt → Option Rz := fun d => fTuple [d]
def bSorted : Dt → Option Rz := fun d => fSorted [d]
def bAll : Dt → Option Rz := fun d => fAll [d]
def bAny : Dt → Option Rz := fun d => fAny [d]
theorem opb_len {K : PySem.W.Frag} : OpB K (fun xs H Q => ∃ x n, xs = [x] ∧ LenV K x H n ∧ Q (.int n) H) bLen := fun G H d v z Q s h hf q => by
  unfold bLen fLen at hf
  split at hf
  · rename_i l e
    cases e; cases hf
    obtain ⟨a, us, rfl, ea, hd⟩ := h
    exact ⟨_, l.length, rfl, .inl ⟨us, .inl (.inl ea), hd.length.symm⟩, q⟩
  · rename_i l e
    cases e; cases hf
    obtain ⟨a, us, rfl, ea, hd⟩ := h
    exact ⟨_, l.length, rfl, .inr ⟨us, .inl (.inl (s _ _ ea)), hd.length.symm⟩, q⟩
  · rename_i y e
    cases e
    split at hf
    · rename_i hz
      cases hf
      obtain rfl : v = .str y := h
      exact ⟨_, y.length, rfl, ⟨hz, rfl⟩, q⟩
    · cases hf
  · cases hf
/-- what reads its argument where it is, and the argument's top read in H: as a settled one of a larger G -/
theorem opb_list {K : PySem.W.Frag} : OpB K (fun xs H Q => ∃ p ys, xs = [.ref p] ∧ (SqL K H p ys ∨ SqT K H p ys) ∧ ∀ l, H l = none → Q (.ref l) (upd H l (.lst ys))) bList := fun G H d v z Q s h hf q => by
  have hf : (seqD d).map Rz.lst = some z := hf
  cases d with
  | lst l =>
    cases hf
    obtain ⟨a, us, rfl, ea, hd⟩ := h
    exact ⟨a, us, rfl, .inl (.inl (.inl ea)), fun p hp => q us p hd hp⟩
  | tup l =>
    cases hf
    obtain ⟨a, us, rfl, ea, hd⟩ := h
    exact ⟨a, us, rfl, .inr (.inl (.inl (s _ _ ea))), fun p hp => q us p hd hp⟩
  | _ => cases hf
theorem opb_tuple {K : PySem.W.Frag} : OpB K (fun xs H Q => ∃ p ys, xs = [.ref p] ∧ ((SqL K H p ys ∧ ∀ l, H l = none → Q (.ref l) (upd H l (.tup ys))) ∨ (SqT K H p ys ∧ Q (.ref p) H))) bTuple := fun G H d v z Q s h hf q => by
  unfold bTuple fTuple at hf
  split at hf
  · rename_i l e
    cases e; cases hf
    obtain ⟨a, us, rfl, ea, hd⟩ := h
    exact ⟨a, us, rfl, .inl ⟨.inl (.inl ea), fun p hp => q us p hd hp⟩⟩
  · rename_i l e
    cases e; cases hf
    obtain ⟨a, us, rfl, ea, hd⟩ := h
    exact ⟨a, us, rfl, .inr ⟨.inl (.inl (s _ _ ea)), q _ ⟨a, us, rfl, ea, hd⟩⟩⟩
  · cases hf
theorem opb_all {K : PySem.W.Frag} : OpB K (rAll K) bAll := fun G H d v z Q s h hf q => by
  unfold bAll fAll at hf
  split at hf
  · rename_i l e
    cases e
    cases eb : blsD l with
    | none => rw [eb] at hf; cases hf
    | some bs =>
      rw [eb] at hf; cases hf
      obtain ⟨a, us, rfl, ea, hd⟩ := h
      rw [blsD_ok hd eb] at ea
      exact ⟨a, bs, rfl, .inl (.inl ea), q⟩
  · cases hf
theorem opb_any {K : PySem.W.Frag} : OpB K (rAny K) bAny := fun G H d v z Q s h hf q => by
  unfold bAny fAny at hf
  split at hf
  · rename_i l e
    cases e
    cases eb : blsD l with
    | none => rw [eb] at hf; cases hf
    | some bs =>
      rw [eb] at hf; cases hf
      obtain ⟨a, us, rfl, ea, hd⟩ := h
      rw [blsD_ok hd eb] at ea
      exact ⟨a, bs, rfl, .inl (.inl ea), q⟩
  · cases hf
theorem de_b1 {bid : String} {r : List V → Hp → VK → Prop} {f : Dt → Option Rz} (ho : CallR X (.builtin bid) r) (hs : OpB X.K r f) (hg : Gl X x) (hm : X.mg x = none) (hv : bootBuiltins x = some (.builtin bid)) (ha : DE X C .b p e fa)
    (hn : x ≠ "__name__" := by decide) (hdb : (x == ("__debug__" : Str)) = false := by decide) (he : starEach (e :: []) X.env = (false, eval e X.env) :: starEach [] X.env := by rfl) (hpl : (backTo pos (starEach [] X.env)).any (·.1) = false := by rfl) :
    DE X C (.o 0) p (.Call (.Name x pp) (e :: []) [] pos) (mUn f fa) := by
  obtain ⟨t, h1, h2⟩ := ha
  exact ⟨_, pe_callB ho hg hm hv (pa_cons h1 pa_nil he) hn hdb he hpl, tsat_cbB h2 hs⟩
theorem de_t1 {bid : String} {r : List V → Hp → VK → Prop} {f : Dt → Option Rz} (ho : CallR X (.type bid) r) (hs : OpB X.K r f) (hg : Gl X x) (hm : X.mg x = none) (hv : bootBuiltins x = some (.type bid)) (ha : DE X C .b p e fa)
    (hn : x ≠ "__name__" := by decide) (hdb : (x == ("__debug__" : Str)) = false := by decide) (he : starEach (e :: []) X.env = (false, eval e X.env) :: starEach [] X.env := by rfl) (hpl : (backTo pos (starEach [] X.env)).any (·.1) = false := by rfl) :
    DE X C (.o 0) p (.Call (.Name x pp) (e :: []) [] pos) (mUn f fa) := by
  obtain ⟨t, h1, h2⟩ := ha
  exact ⟨_, pe_callTy ho hg hm hv (pa_cons h1 pa_nil he) hn hdb he hpl, tsat_cbB h2 hs⟩
theorem de_t11 {bid : String} {r : List V → Hp → VK → Prop} {f : Dt → Option Rz} (ho : CallR X (.type bid) r) (hs : OpB X.K r f) (hg : Gl X x) (hm : X.mg x = none) (hv : bootBuiltins x = some (.type bid)) (ha : DE X C .b p e fa)
    (hn : x ≠ "__name__" := by decide) (hdb : (x == ("__debug__" : Str)) = false := by decide) (he : starEach (e :: []) X.env = (false, eval e X.env) :: starEach [] X.env := by rfl) (hpl : (backTo pos (starEach [] X.env)).any (·.1) = false := by rfl) :
    DE X C (.o 1) p (.Call (.Name x pp) (e :: []) [] pos) (mUn1 f fa) := by
  obtain ⟨t, h1, h2⟩ := ha
  exact ⟨_, pe_callTy ho hg hm hv (pa_cons h1 pa_nil he) hn hdb he hpl, tsat_cbB1 h2 hs⟩
/-- several settled arguments -/
theorem de_bn {bid : String} {r : List V → Hp → VK → Prop} {f : List Dt → Option Rz} (ho : CallR X (.builtin bid) r) (hs : OpA X.K r f) (hg : Gl X x) (hm : X.mg x = none) (hv : bootBuiltins x = some (.builtin bid)) (ha : DA X C p (e :: es) fs)
    (hn : x ≠ "__name__" := by decide) (hdb : (x == ("__debug__" : Str)) = false := by decide) (he : starEach (e :: es) X.env = (false, eval e X.env) :: starEach es X.env := by rfl) (hpl : (backTo pos (starEach es X.env)).any (·.1) = false := by rfl) :
    DE X C (.o 0) p (.Call (.Name x pp) (e :: es) [] pos) (mCB f fs) := by
  obtain ⟨t, h1, h2⟩ := ha
  exact ⟨_, pe_callB ho hg hm hv h1 hn hdb he hpl, tsat_cb h2 hs⟩
theorem de_bn1 {bid : String} {r : List V → Hp → VK → Prop} {f : List Dt → Option Rz} (ho : CallR X (.builtin bid) r) (hs : OpA X.K r f) (hg : Gl X x) (hm : X.mg x = none) (hv : bootBuiltins x = some (.builtin bid)) (ha : DA X C p (e :: es) fs)
    (hn : x ≠ "__name__" := by decide) (hdb : (x == ("__debug__" : Str)) = false := by decide) (he : starEach (e :: es) X.env = (false, eval e X.env) :: starEach es X.env := by rfl) (hpl : (backTo pos (starEach es X.env)).any (·.1) = false := by rfl) :
    DE X C (.o 1) p (.Call (.Name x pp) (e :: es) [] pos) (mCB1 f fs) := by
  obtain ⟨t, h1, h2⟩ := ha
  exact ⟨_, pe_callB ho hg hm hv h1 hn hdb he hpl, tsat_cb1 h2 hs⟩
theorem de_tn {bid : String} {r : List V → Hp → VK → Prop} {f : List Dt → Option Rz} (ho : CallR X (.type bid) r) (hs : OpA X.K r f) (hg : Gl X x) (hm : X.mg x = none) (hv : bootBuiltins x = some (.type bid)) (ha : DA X C p (e :: es) fs)
    (hn : x ≠ "__name__" := by decide) (hdb : (x == ("__debug__" : Str)) = false := by decide) (he : starEach (e :: es) X.env = (false, eval e X.env) :: starEach es X.env := by rfl) (hpl : (backTo pos (starEach es X.env)).any (·.1) = false := by rfl) :
    DE X C (.o 0) p (.Call (.Name x pp) (e :: es) [] pos) (mCB f fs) := by
  obtain ⟨t, h1, h2⟩ := ha
  exact ⟨_, pe_callTy ho hg hm hv h1 hn hdb he hpl, tsat_cb h2 hs⟩
/-! list(range(..)): the range is no value of its own here -/
/-! ### a < b < c -/
def mChain (f g : Dt → Dt → Option Sc) (fa fb fc : Ev → Rs Dt) : Ev → Rs Dt := fun ε => (fa ε).bind fun d1 ε1 => (fb ε1).bind fun d2 ε2 => match f d1 d2 with
  | some (.bl true) => (fc ε2).bind fun d3 ε3 => mSc? (g d2 d3) ε3
  | some (.bl false) => .ok (.bl false) ε2
  | _ => .no
theorem tsat_chain {K : PySem.W.Frag} {ta tb tc : TE} {r r' : R2} {f g : Dt → Dt → Option Sc} (ha : TSat K C (.o 0) p1 ta fa) (hb : TSat K C (.o 0) p2 tb fb) (hc : TSat K C (.o 0) p3 tc fc) (h1 : OpSD K r f) (h2 : OpSD K r' g) :
    TSat K C (.o 0) (p1 && (p2 && p3)) (tChain r r' ta tb tc) (mChain f g fa fb fc) := fun A G ε σ H xs Q hA R h => by
  refine ha A G ε σ H xs _ hA R ?_
  unfold mChain at h
  cases e1 : fa ε with
  | no => rw [e1] at h; exact h
  | er x ε1 => rw [e1] at h; exact h
  | ok d1 ε1 =>
    rw [e1] at h
    rintro v1 H1 G1 fp R1 ⟨rfl, r1⟩ s1 hx1 hh1
    replace h : EPost K C A (.o 0) (p1 && (p2 && p3)) G H σ xs ((fb ε1).bind fun d2 ε2 => match f d1 d2 with
      | some (.bl true) => (fc ε2).bind fun d3 ε3 => mSc? (g d2 d3) ε3
      | some (.bl false) => .ok (.bl false) ε2
      | _ => .no) Q := h
    refine hb A G1 ε1 σ H1 xs _ hA R1 ?_
    cases e2 : fb ε1 with
    | no => rw [e2] at h; exact h
    | er x ε2 => rw [e2] at h; exact ErP.mono s1 h
    | ok d2 ε2 =>
      rw [e2] at h
      rintro v2 H2 G2 fp R2 ⟨rfl, r2⟩ s2 hx2 hh2
      replace h : EPost K C A (.o 0) (p1 && (p2 && p3)) G H σ xs (match f d1 d2 with
        | some (.bl true) => (fc ε2).bind fun d3 ε3 => mSc? (g d2 d3) ε3
        | some (.bl false) => .ok (.bl false) ε2
        | _ => .no) Q := h
      split at h
      · rename_i e3
        refine h1 H2 d1 d2 v1 v2 (.bl true) _ ((r1.mono s2).mono R2.sub) (r2.mono R2.sub) e3 ⟨true, rfl, iteT ?_⟩
        refine hc A G2 ε2 σ H2 xs _ hA R2 ?_
        cases e4 : fc ε2 with
        | no => rw [e4] at h; exact h
        | er x ε2 => rw [e4] at h; exact ErP.mono (s1.trans s2) h
        | ok d3 ε3 =>
          rw [e4] at h
          rintro v3 H3 G3 fp R3 ⟨rfl, r3⟩ s3 hx3 hh3
          replace h : EPost K C A (.o 0) (p1 && (p2 && p3)) G H σ xs (mSc? (g d2 d3) ε3) Q := h
          cases e5 : g d2 d3 with
          | none => rw [e5] at h; exact h.elim
          | some z =>
            rw [e5] at h
            exact h2 H3 d2 d3 v2 v3 z _ ((r2.mono s3).mono R3.sub) (r3.mono R3.sub) e5 (h z.v H3 G3 [] R3 ⟨rfl, z.den⟩ (s1.trans (s2.trans s3)) (fun c hc => (hx3 c hc).trans ((hx2 c hc).trans (hx1 c hc))) fun z => (hh1 (Bool.and_eq_true_iff.mp z).1).trans ((hh2 (Bool.and_eq_true_iff.mp (Bool.and_eq_true_iff.mp z).2).1).trans (hh3 (Bool.and_eq_true_iff.mp (Bool.and_eq_true_iff.mp z).2).2)))
      · rename_i e3
        exact h1 H2 d1 d2 v1 v2 (.bl false) _ ((r1.mono s2).mono R2.sub) (r2.mono R2.sub) e3 ⟨false, rfl, iteF (h (.bl false) H2 G2 [] R2 ⟨rfl, rfl⟩ (s1.trans s2) (fun c hc => (hx2 c hc).trans (hx1 c hc)) fun z => (hh1 (Bool.and_eq_true_iff.mp z).1).trans (hh2 (Bool.and_eq_true_iff.mp (Bool.and_eq_true_iff.mp z).2).1))⟩
      · exact h.elim
theorem de_chain {o1 o2 : CmpOp} {r r' : R2} {f g : Dt → Dt → Option Sc} (ho : OpR X (compareOp o1) r) (ho' : OpR X (compareOp o2) r') (h1 : OpSD X.K r f) (h2 : OpSD X.K r' g) (ha : DE X C (.o 0) p1 a fa) (hb : DE X C (.o 0) p2 b fb) (hc : DE X C (.o 0) p3 c fc)
    (hm : lastMarks [o1, o2] [b, c] = false := by with_unfolding_all rfl) : DE X C (.o 0) (p1 && (p2 && p3)) (.Compare a [o1, o2] [b, c] pos) (mChain f g fa fb fc) := by
  obtain ⟨t, q1, q2⟩ := ha
  obtain ⟨u, q3, q4⟩ := hb
  obtain ⟨w, q5, q6⟩ := hc
  exact ⟨_, pe_chain ho ho' q1 q3 q5 hm, tsat_chain q2 q4 q6 h1 h2⟩
theorem dt_chain {o1 o2 : CmpOp} {r r' : R2} {f g : Dt → Dt → Option Sc} (ho : OpR X (compareOp o1) r) (ho' : OpR X (compareOp o2) r') (h1 : OpSD X.K r f) (h2 : OpSD X.K r' g) (ha : DE X C (.o 0) p1 a fa) (hb : DE X C (.o 0) p2 b fb) (hc : DE X C (.o 0) p3 c fc)
    (hm : lastMarks [o1, o2] [b, c] = false := by with_unfolding_all rfl) : DT X C (p1 && (p2 && p3)) (.Compare a [o1, o2] [b, c] pos) (mB (mChain f g fa fb fc)) := by
  obtain ⟨t, q1, q2⟩ := ha
  obtain ⟨u, q3, q4⟩ := hb
  obtain ⟨w, q5, q6⟩ := hc
  exact ⟨_, pt_chain ho ho' q1 q3 q5 hm, ttsat_b (tsat_chain q2 q4 q6 h1 h2)⟩
/-! ### enumerate(a list) -/
def enumD : Nat → List Dt → List Dt
  | _, [] => []
  | n, d :: ds => .tup [.int (n : Int), d] :: enumD (n + 1) ds
theorem enumD_get : ∀ {ds : List Dt} {n i : Nat} {d : Dt}, ds[i]? = some d → (enumD n ds)[i]? = some (.tup [.int ((n + i : Nat) : Int), d])
  | [], _, _, _, e => by simp at e
  | d :: ds, n, 0, _, e => by simp at e; subst e; rfl
  | d :: ds, n, i + 1, _, e => by
    have := enumD_get (ds := ds) (n := n + 1) (i := i) (by simpa using e)
    show (enumD (n + 1) ds)[i]? = _
    rw [this]
    congr 5
    omega
theorem enumD_len : ∀ {ds : List Dt} {n : Nat}, (enumD n ds).length = ds.length
  | [], _ => rfl
  | _ :: ds, n => by simp [enumD, enumD_len (ds := ds)]
def lst1 (as : List Dt) : Option (List Dt) := match as with
  | [.lst ds] => some ds
  | _ => none
theorem lst1_eq {as ds : List Dt} (h : lst1 as = some ds) : as = [.lst ds] := by
  unfold lst1 at h
  split at h
  · cases h; rfl
  · cases h
def mEnum (f : Ev → Rs (List Dt)) : Ev → Rs (List Dt) := fun ε => (f ε).bind fun as ε1 => mOpt ((lst1 as).map (enumD 0)) ε1
theorem di_enum {eps : List Expr} {kk : Nat} {tpos : Pos} (hg : Gl X "enumerate") (hm : X.mg "enumerate" = none) (ha : DA X C p [e] fs) (hs : starEach [e] X.env = [(false, eval e X.env)] := by rfl) : DI X C p (.Tuple eps kk tpos) (.Call (.Name "enumerate" pp) [e] [] pos) (mEnum fs) := by
  obtain ⟨t, h1, h2⟩ := ha
  refine ⟨_, pi_enum hg hm h1 hs, fun A G ε σ H xs R hA hR q => h2 A G ε σ H xs _ hA hR ?_⟩
  unfold mEnum at q
  cases r : fs ε with
  | no => rw [r] at q; exact q
  | er x ε' => rw [r] at q; exact q
  | ok as ε' =>
    rw [r] at q
    intro vs H1 G1 R1 hd s1 hx1 hh1
    replace q : IPost X.K C A p G H σ xs (mOpt ((lst1 as).map (enumD 0)) ε') R := q
    cases el : lst1 as with
    | none => rw [el] at q; exact q.elim
    | some ds =>
      rw [el] at q
      replace q : IPost X.K C A p G H σ xs (.ok (enumD 0 ds) ε') R := q
      rw [lst1_eq el] at hd
      obtain ⟨v, rfl, h3⟩ := hd.one
      obtain ⟨a, us, rfl, ea, he⟩ := h3
      refine ⟨a, us, rfl, .inl (.inl (R1.sub _ _ ea)), q _ H1 G1 R1 ⟨fun i H hi s => ?_, fun H s => ?_, fun i H x H' hi s y => ?_⟩ s1 hx1 hh1⟩
      · rw [enumD_len] at hi
        exact ⟨us, us[i]'(by rw [he.length]; exact hi), .inl (.inl (s _ _ ea)), List.getElem?_eq_getElem _⟩
      · exact ⟨us, .inl (.inl (s _ _ ea)), by rw [enumD_len, he.length]; exact Nat.le_refl _⟩
      · obtain ⟨T, u, rfl, hT, rfl, hu⟩ := y
        obtain ⟨d, hd1, hd2⟩ := he.getV (hu us (.inl (.inl (s _ _ ea))))
        refine ⟨_, enumD_get hd1, .inr ⟨T, _, _, rfl, hT, rfl, rfl, ?_⟩⟩
        exact ⟨_, _, rfl, by rw [Nat.zero_add]; rfl, _, _, rfl, hd2, rfl⟩
end
end Mir

set_option Elab.async false
set_option linter.all false
set_option maxRecDepth 100000
set_option maxHeartbeats 400000
namespace Mir
open PySem PySem.Spec PyProof.Rows L2 He

/-! ### isinstance(e, T), T a built-in class or a written tuple of such, or an own class -/
/-- the class of a value: a built-in's name, or an own class -/
def kindD : Dt → Sum String Str
  | .non => .inl "NoneType"
  | .bl _ => .inl "bool"
  | .int _ => .inl "int"
  | .str _ => .inl "str"
  | .tup _ => .inl "tuple"
  | .lst _ => .inl "list"
  | .dT _ _ => .inl "dict"
  | .dK _ _ => .inl "dict"
  | .ins c _ _ => .inr c
  | .scr _ => .inl "list"
def kindV (K : PySem.W.Frag) : Sum String Str → Value
  | .inl n => .type n
  | .inr c => .ref (ga K c)
/-- what an instance of the text's class wants to be asked for its class -/
def InsF (K : PySem.W.Frag) (c : Str) : Prop := Cls K (ga K c) ∧ PySem.W.findIn K (.ref (ga K c)) "__class__" = some (some (.builtin "object.__class__")) ∧ PySem.W.specialIn K (.builtin "object.__class__") "__get__" = some (some (.builtin "getset_descriptor.__get__")) ∧
  PySem.W.takesIn K (.builtin "object.__class__") = some true ∧ PySem.W.mroIn K (ga K c) (.type "object") = some true
theorem kind_ty {K : PySem.W.Frag} {H : Hp} {d : Dt} {v : V} (h : Den K H d v) (hs : ∀ l, d ≠ .scr l) (hi : ∀ c fs ds, d = .ins c fs ds → InsF K c) : TyX K H v (kindV K (kindD d)) := by
  cases d with
  | non =>
    obtain rfl : v = .non := h
    exact .base .non
  | bl b =>
    obtain rfl : v = .bl b := h
    exact .base (.bl b)
  | int i =>
    obtain rfl : v = .int i := h
    exact .base (.int i)
  | str x =>
    obtain rfl : v = .str x := h
    exact .base (.str x)
  | tup l => obtain ⟨a, _, rfl, e, _⟩ := h; exact .base (.tup e)
  | lst l => obtain ⟨a, _, rfl, e, _⟩ := h; exact .base (.lst e)
  | dT _ _ => obtain ⟨a, _, rfl, e, _⟩ := h; exact .base (.dT e)
  | dK _ _ => obtain ⟨a, _, rfl, e, _⟩ := h; exact .base (.dK e)
  | ins c fs ds =>
    obtain ⟨a, _, _, rfl, e, _⟩ := h
    obtain ⟨h1, h2, h3, h4, h5⟩ := hi c fs ds rfl
    exact .base (.ins e h1 h2 h3 h4 h5)
  | scr l => exact absurd rfl (hs l)
/-- a table of answers: a value's class, the class asked for -/
abbrev IsiT := List (Sum String Str × Bool)
def IsiOk (K : PySem.W.Frag) (cv : Value) (tb : IsiT) : Prop := ∀ q ∈ tb, PySem.W.kitOne K (kindV K q.1) cv = some q.2 ∧ ∀ c, q.1 = .inr c → InsF K c
def lookI (k : Sum String Str) : IsiT → Option Bool
  | [] => none
  | (k', b) :: r => if k' = k then some b else lookI k r
theorem lookI_mem {k : Sum String Str} : ∀ {tb : IsiT} {b : Bool}, lookI k tb = some b → (k, b) ∈ tb
  | [], _, e => by cases e
  | (k', b') :: r, b, e => by
    unfold lookI at e
    split at e
    · rename_i q
      cases e
      rw [q]
      exact List.mem_cons_self
    · exact List.mem_cons_of_mem _ (lookI_mem e)
def isScr : Dt → Bool
  | .scr _ => true
  | _ => false
/-- the answer by the tables of all the classes asked for -/
def isiR (d : Dt) : List IsiT → Option Bool
  | [] => some false
  | tb :: r => (match lookI (kindD d) tb with
    | some true => some true
    | some false => isiR d r
    | none => none)
def isiD (tbs : List IsiT) (d : Dt) : Option Bool := if isScr d = true then none else isiR d tbs
def mIsi (tbs : List IsiT) (fa : Ev → Rs Dt) : Ev → Rs Dt := fun ε => (fa ε).bind fun d ε1 => (mOpt (isiD tbs d) ε1).bind fun b ε1 => .ok (.bl b) ε1
/-- a class as it is named in the text: its value -/
inductive ClE (X : Cx) : Expr → V → Value → Prop
  | ty {x : Str} {pos : Pos} (n : String) (hg : Gl X x) (hm : X.mg x = none) (hv : bootBuiltins x = some (.type n)) (hn : x ≠ "__name__") (hd : (x == ("__debug__" : Str)) = false) : ClE X (.Name x pos) (.ty n) (.type n)
  | own {x : Str} {pos : Pos} (hg : Gl X x) (hm : X.mg x = some (.ref (ga X.K x))) (hd : (x == ("__debug__" : Str)) = false) : ClE X (.Name x pos) (.ref (ga X.K x)) (.ref (ga X.K x))
theorem ClE.pe {X : Cx} {e : Expr} {v : V} {u : Value} (h : ClE X e v u) : PE X e (tC v) := by
  cases h with
  | ty n hg hm hv hn hd => exact pe_bltn (v := .ty n) hg hm hv rfl hn hd
  | own hg hm hd => exact pe_glob (v := .ref _) hg hm rfl hd
theorem ClE.cv {X : Cx} {e : Expr} {v : V} {u : Value} (h : ClE X e v u) : ClsV v u := by
  cases h with
  | ty n _ _ _ _ _ => exact .ty n
  | own _ _ _ => exact .own _
/-- several -/
inductive ClEs (X : Cx) : List Expr → List V → List Value → List IsiT → Prop
  | nil : ClEs X [] [] [] []
  | cons {e : Expr} {es : List Expr} {v : V} {vs : List V} {u : Value} {us : List Value} {tb : IsiT} {tbs : List IsiT} (h : ClE X e v u) (ht : IsiOk X.K u tb) (r : ClEs X es vs us tbs) (hs : starEach (e :: es) X.env = (false, eval e X.env) :: starEach es X.env := by rfl) : ClEs X (e :: es) (v :: vs) (u :: us) (tb :: tbs)
def tCs : List V → TA
  | [] => tNil
  | v :: vs => tCons (tC v) (tCs vs)
theorem ClEs.pa {X : Cx} {es : List Expr} {vs : List V} {us : List Value} {tbs : List IsiT} (h : ClEs X es vs us tbs) : PA X es (tCs vs) := by
  induction h with
  | nil => exact pa_nil
  | cons h ht r hs ih => exact pa_cons h.pe ih hs
theorem tCs_run {vs : List V} {σ : L2.St} {H : Hp} {Q : List V → Hp → Prop} (h : Q vs H) : tCs vs σ H Q := by
  induction vs generalizing Q with
  | nil => exact h
  | cons v vs ih => exact ih (Q := fun xs H2 => Q (v :: xs) H2) h
theorem ClEs.cv {X : Cx} {es : List Expr} {vs : List V} {us : List Value} {tbs : List IsiT} (h : ClEs X es vs us tbs) : Paired ClsV vs us := by
  induction h with
  | nil => exact .nil
  | cons h ht r hs ih => exact .cons h.cv ih
theorem ClEs.len {X : Cx} {es : List Expr} {vs : List V} {us : List Value} {tbs : List IsiT} (h : ClEs X es vs us tbs) : vs.length = es.length := by
  induction h with
  | nil => rfl
  | cons h ht r hs ih => simp [ih]
theorem isi_all {X : Cx} {es : List Expr} {vs : List V} {us : List Value} {tbs : List IsiT} {d : Dt} {b : Bool} (h : ClEs X es vs us tbs) (e : isiD tbs d = some b) : PySem.W.kitAny X.K (kindV X.K (kindD d)) us = some b := by
  unfold isiD at e
  split at e
  · cases e
  · clear ‹¬_›
    induction h generalizing b with
    | nil => cases e; rfl
    | cons h ht r hs ih =>
      unfold isiR at e
      split at e
      · rename_i el
        cases e
        exact kitAny_cons (ht _ (lookI_mem el)).1 nofun fun _ => rfl
      · rename_i el
        exact kitAny_cons (ht _ (lookI_mem el)).1 (fun _ => ih e) nofun
      · cases e
theorem isi_kind {X : Cx} {es : List Expr} {vs : List V} {us : List Value} {tbs : List IsiT} {d : Dt} {b : Bool} (h : ClEs X es vs us tbs) (hne : es ≠ []) (e : isiD tbs d = some b) : (∀ l, d ≠ .scr l) ∧ ∀ c fs ds, d = .ins c fs ds → InsF X.K c := by
  cases h with
  | nil => exact absurd rfl hne
  | cons h ht r hs =>
    unfold isiD at e
    split at e
    · cases e
    · rename_i hscr
      refine ⟨fun l z => by subst z; exact hscr rfl, fun c fs ds z => ?_⟩
      unfold isiR at e
      split at e
      · rename_i el
        exact (ht _ (lookI_mem el)).2 c (by rw [z]; rfl)
      · rename_i el
        exact (ht _ (lookI_mem el)).2 c (by rw [z]; rfl)
      · cases e
section
variable {X : Cx} {C : Cn} {p : Bool} {e c : Expr} {es : List Expr} {pp pos pos2 : Pos} {fa : Ev → Rs Dt}
theorem de_isi1 {v : V} {u : Value} {tb : IsiT} (hg : Gl X "isinstance") (hm : X.mg "isinstance" = none) (ha : DE X C .bd p e fa) (hc : ClEs X [c] [v] [u] [tb])
    (he : starEach (e :: [c]) X.env = (false, eval e X.env) :: starEach [c] X.env := by rfl) (hpl : (backTo pos (starEach [c] X.env)).any (·.1) = false := by rfl) : DE X C (.o 0) p (.Call (.Name "isinstance" pp) (e :: [c]) [] pos) (mIsi [tb] fa) := by
  obtain ⟨t, h1, h2⟩ := ha
  refine ⟨_, pe_callB call_isi hg hm (by decide +kernel) (pa_cons h1 hc.pa he) (by decide) (by decide) he hpl, fun A G ε σ H xs Q hA R h => h2 A G ε σ H xs _ hA R ?_⟩
  unfold mIsi at h
  cases e1 : fa ε with
  | no => rw [e1] at h; exact h
  | er x ε1 => rw [e1] at h; exact h
  | ok d1 ε1 =>
    rw [e1] at h
    rintro v1 H1 G1 fp R1 ⟨rfl, r1⟩ s1 hx1 hh1
    replace h : EPost X.K C A (.o 0) p G H σ xs ((mOpt (isiD [tb] d1) ε1).bind fun b ε1 => .ok (.bl b) ε1) Q := h
    cases eb : isiD [tb] d1 with
    | none => rw [eb] at h; exact h.elim
    | some b =>
      rw [eb] at h
      have hk := isi_kind hc (by simp) eb
      have ha := isi_all hc eb
      refine tCs_run (vs := [v]) ?_
      have hone : PySem.W.kitOne X.K (kindV X.K (kindD d1)) u = some b := by
        unfold PySem.W.kitAny at ha
        cases hq : PySem.W.kitOne X.K (kindV X.K (kindD d1)) u with
        | none => rw [hq] at ha; cases ha
        | some b' =>
          rw [hq] at ha
          cases b' with
          | true => exact ha
          | false => exact ha
      cases hc.cv with
      | cons hcv _ => exact ⟨v1, v, _, u, b, rfl, hcv, kind_ty r1 hk.1 hk.2, hone, h (.bl b) H1 G1 [] R1 ⟨rfl, rfl⟩ s1 hx1 hh1⟩
theorem de_isiT {k : Nat} {vs : List V} {us : List Value} {tbs : List IsiT} (hg : Gl X "isinstance") (hm : X.mg "isinstance" = none) (ha : DE X C .bd p e fa) (hne : es ≠ []) (hc : ClEs X es vs us tbs) (hl : es.length ≤ 1000)
    (he : starEach (e :: [.Tuple es k pos2]) X.env = (false, eval e X.env) :: starEach [.Tuple es k pos2] X.env := by rfl) (he2 : starEach (.Tuple es k pos2 :: []) X.env = (false, eval (.Tuple es k pos2) X.env) :: starEach [] X.env := by rfl) (hpl : (backTo pos (starEach [.Tuple es k pos2] X.env)).any (·.1) = false := by rfl) :
    DE X C (.o 0) p (.Call (.Name "isinstance" pp) (e :: [.Tuple es k pos2]) [] pos) (mIsi tbs fa) := by
  obtain ⟨t, h1, h2⟩ := ha
  refine ⟨_, pe_callB call_isiT hg hm (by decide +kernel) (pa_cons h1 (pa_cons (pe_tup hc.pa) pa_nil he2) he) (by decide) (by decide) he hpl, fun A G ε σ H xs Q hA R h => h2 A G ε σ H xs _ hA R ?_⟩
  unfold mIsi at h
  cases e1 : fa ε with
  | no => rw [e1] at h; exact h
  | er x ε1 => rw [e1] at h; exact h
  | ok d1 ε1 =>
    rw [e1] at h
    rintro v1 H1 G1 fp R1 ⟨rfl, r1⟩ s1 hx1 hh1
    replace h : EPost X.K C A (.o 0) p G H σ xs ((mOpt (isiD tbs d1) ε1).bind fun b ε1 => .ok (.bl b) ε1) Q := h
    cases eb : isiD tbs d1 with
    | none => rw [eb] at h; exact h.elim
    | some b =>
      rw [eb] at h
      have hk := isi_kind hc hne eb
      refine tCs_run (vs := vs) ⟨by rw [hc.len]; exact Nat.le_of_lt (small1000 hl), fun q hq => ?_⟩
      have R2 := R1.new_settled (o := .tup vs) hq
      refine ⟨v1, q, vs, _, us, b, rfl, upd_same, hc.cv, kind_ty (r1.mono (upd_keep hq)) hk.1 hk.2, isi_all hc eb, h (.bl b) _ _ [] R2 ⟨rfl, rfl⟩ (s1.trans (upd_keep (R1.gf hq))) (fun c hc => (upd_ne (R1.xne hq hc)).trans (hx1 c hc)) fun z => (hh1 z).trans (upd_keep hq)⟩
end
/-! ### a list's index(x), a flat x -/
def eqIx (y : V) : List V → Option Nat
  | [] => none
  | z :: r => if eqV z y = true then some 0 else (eqIx y r).map (· + 1)
theorem eqIx_ok {y : V} : ∀ {l : List V} {j : Nat}, eqIx y l = some j → ∃ z, l[j]? = some z ∧ eqV z y = true ∧ ∀ (m : Nat) (z' : V), m < j → l[m]? = some z' → eqV z' y = false
  | [], _, e => by cases e
  | z :: r, j, e => by
    unfold eqIx at e
    split at e
    · rename_i h
      cases e
      exact ⟨z, rfl, h, fun m _ hm => absurd hm (Nat.not_lt_zero m)⟩
    · rename_i h
      cases er : eqIx y r with
      | none => rw [er] at e; cases e
      | some j' =>
        rw [er] at e; cases e
        obtain ⟨w, h1, h2, h3⟩ := eqIx_ok er
        refine ⟨w, by simpa using h1, h2, fun m z' hm hz => ?_⟩
        cases m with
        | zero =>
          simp at hz
          subst hz
          simpa using h
        | succ m => exact h3 m z' (Nat.lt_of_succ_lt_succ hm) (by simpa using hz)
def lstD : Dt → Option (List Dt)
  | .lst l => some l
  | _ => none
theorem lstD_eq {d : Dt} {l : List Dt} (h : lstD d = some l) : d = .lst l := by
  unfold lstD at h
  split at h
  · cases h; rfl
  · cases h
def one1 (as : List Dt) : Option Dt := match as with
  | [a] => some a
  | _ => none
theorem one1_eq {as : List Dt} {a : Dt} (h : one1 as = some a) : as = [a] := by
  unfold one1 at h
  split at h
  · cases h; rfl
  · cases h
def fIndex (l as : List Dt) : Option Dt := (one1 as).bind fun a => (scD a).bind fun y => (scDs l).bind fun ys => (eqIx y ys).map fun j => .int (j : Int)
def mIndex (fo : Ev → Rs Dt) (fa : Ev → Rs (List Dt)) : Ev → Rs Dt := fun ε => (fo ε).bind fun d ε1 => (mOpt (lstD d) ε1).bind fun l ε1 => (fa ε1).bind fun as ε2 => mOpt (fIndex l as) ε2
section
variable {X : Cx} {C : Cn} {p p1 : Bool} {o e : Expr} {es : List Expr} {apos cpos : Pos} {fo : Ev → Rs Dt} {fa : Ev → Rs (List Dt)}
theorem de_index (ho : DE X C (.o 0) p1 o fo) (ha : DA X C p [e] fa)
    (hbase : attributeBase o "index" X.env (eval o X.env) = eval o X.env := by rfl)
    (hfew : ((backTo cpos (starEach (e :: []) X.env)).all (fun x => !x.1) && (backToKw cpos (keywordEach [] X.env)).all (fun x => x.1.isSome)
      && decide ((e :: ([] : List Expr)).length + ([] : List Keyword).length + (if ([] : List Keyword).isEmpty then 0 else 1) < 30)) = true := by rfl)
    (hline : (apos.endLine == cpos.line) = true := by rfl) (hst : starEach (e :: []) X.env = (false, eval e X.env) :: starEach [] X.env := by rfl) (hplain : (backTo cpos (starEach [] X.env)).any (·.1) = false := by rfl) :
    DE X C (.o 0) (p1 && p) (.Call (.Attribute o "index" apos) (e :: []) [] cpos) (mIndex fo fa) := by
  obtain ⟨t, h1, h2⟩ := ho
  obtain ⟨u, h3, h4⟩ := ha
  refine ⟨_, pe_bm PySem.F.plainAttrs_list PySem.F.slot_list_index PySem.F.type_list_index mt_index h1 h3 hbase hfew hline hst hplain, fun A G ε σ H xs Q hA R h => h2 A G ε σ H xs _ hA R ?_⟩
  unfold mIndex at h
  cases e1 : fo ε with
  | no => rw [e1] at h; exact h
  | er x ε1 => rw [e1] at h; exact h
  | ok d1 ε1 =>
    rw [e1] at h
    rintro v1 H1 G1 fp R1 ⟨rfl, r1⟩ s1 hx1 hh1
    replace h : EPost X.K C A (.o 0) (p1 && p) G H σ xs ((mOpt (lstD d1) ε1).bind fun l ε1 => (fa ε1).bind fun as ε2 => mOpt (fIndex l as) ε2) Q := h
    cases el : lstD d1 with
    | none => rw [el] at h; exact h.elim
    | some l =>
      rw [el] at h
      replace h : EPost X.K C A (.o 0) (p1 && p) G H σ xs ((fa ε1).bind fun as ε2 => mOpt (fIndex l as) ε2) Q := h
      obtain rfl := lstD_eq el
      obtain ⟨a, vs, rfl, ea, hd⟩ := r1
      refine ⟨.inl ⟨rfl, vs, .inl (.inl (R1.sub _ _ ea))⟩, h4 A G1 ε1 σ H1 xs _ hA R1 ?_⟩
      cases e2 : fa ε1 with
      | no => rw [e2] at h; exact h
      | er x ε2 => rw [e2] at h; exact ErP.mono s1 h
      | ok as ε2 =>
        rw [e2] at h
        intro us H2 G2 R2 ha s2 hx2 hh2
        replace h : EPost X.K C A (.o 0) (p1 && p) G H σ xs (mOpt (fIndex l as) ε2) Q := h
        unfold fIndex at h
        cases e0 : one1 as with
        | none => rw [e0] at h; exact h.elim
        | some b =>
          cases e3 : scD b with
          | none => rw [e0] at h; replace h : EPost X.K C A (.o 0) (p1 && p) G H σ xs (mOpt ((scD b).bind fun y => (scDs l).bind fun ys => (eqIx y ys).map fun j => Dt.int (j : Int)) ε2) Q := h; rw [e3] at h; exact h.elim
          | some y =>
            rw [e0] at h
            replace h : EPost X.K C A (.o 0) (p1 && p) G H σ xs (mOpt ((scD b).bind fun y => (scDs l).bind fun ys => (eqIx y ys).map fun j => Dt.int (j : Int)) ε2) Q := h
            rw [e3] at h
            replace h : EPost X.K C A (.o 0) (p1 && p) G H σ xs (mOpt ((scDs l).bind fun ys => (eqIx y ys).map fun j => Dt.int (j : Int)) ε2) Q := h
            cases e4 : scDs l with
            | none => rw [e4] at h; exact h.elim
            | some ys =>
              rw [e4] at h
              replace h : EPost X.K C A (.o 0) (p1 && p) G H σ xs (mOpt ((eqIx y ys).map fun j => Dt.int (j : Int)) ε2) Q := h
              cases e5 : eqIx y ys with
              | none => rw [e5] at h; exact h.elim
              | some j =>
                rw [e5] at h
                rw [one1_eq e0] at ha
                obtain ⟨w, rfl, hw⟩ := ha.one
                obtain ⟨rfl, f1⟩ := scD_eq hw e3
                obtain ⟨rfl, f2⟩ := scDs_eq hd e4
                obtain ⟨z, z1, z2, z3⟩ := eqIx_ok e5
                exact ⟨a, vs, w, j, z, rfl, rfl, .inl (.inl (R2.sub _ _ (s2 _ _ ea))), f1, f2, z1, z2, z3, h (.int (j : Int)) H2 G2 [] R2 ⟨rfl, rfl⟩ (s1.trans s2) (fun c hc => (hx2 c hc).trans (hx1 c hc)) fun z => (hh1 (Bool.and_eq_true_iff.mp z).1).trans (hh2 (Bool.and_eq_true_iff.mp z).2)⟩
end
end Mir

set_option Elab.async false
set_option linter.all false
set_option maxRecDepth 100000
set_option maxHeartbeats 400000
namespace Mir
open PySem PySem.Spec PyProof.Rows L2 He

/-! ### list(range(..)) -/
def rgB (a b : Int) : Bool := smallR a && (smallR b && decide ((b - a).toNat ≤ 2 ^ 24))
theorem rgB_ok {a b : Int} (h : rgB a b = true) : RgOk a b := by
  unfold rgB at h
  rw [Bool.and_eq_true, Bool.and_eq_true, decide_eq_true_iff] at h
  exact ⟨(small_of h.1).1, (small_of h.1).2, (small_of h.2.1).1, (small_of h.2.1).2, h.2.2⟩
def mLR (a b : Int) (ε : Ev) : Rs Dt := if rgB a b = true then .ok (.lst (rangeD a (b - a).toNat)) ε else .no
def intD : Dt → Option Int
  | .int i => some i
  | _ => none
theorem intD_eq {d : Dt} {i : Int} (h : intD d = some i) : d = .int i := by
  unfold intD at h
  split at h
  · cases h; rfl
  · cases h
def mLR1 (fa : Ev → Rs Dt) : Ev → Rs Dt := fun ε => (fa ε).bind fun d ε1 => (mOpt (intD d) ε1).bind fun n ε1 => mLR 0 n ε1
section
variable {X : Cx} {C : Cn} {p : Bool} {e : Expr} {p1 p2 pos pos2 : Pos} {fa : Ev → Rs Dt}
theorem rg_den {K : PySem.W.Frag} {G : Hp} {a b : Int} : DenL K G (rangeD a (b - a).toNat) (rgV a b) := by
  unfold rangeD rgV
  induction (b - a).toNat with
  | zero => exact rfl
  | succ n ih =>
    rw [List.range_succ, List.map_append, List.map_append]
    exact ih.append ⟨_, [], rfl, rfl, rfl⟩
theorem de_listRg1 (hc : X.calm = true) (hl : Gl X "list") (hml : X.mg "list" = none) (hr : Gl X "range") (hmr : X.mg "range" = none) (ha : DE X C (.o 0) p e fa) (na : starEach [e] X.env = (false, eval e X.env) :: starEach [] X.env := by rfl)
    (nb : starEach [.Call (.Name "range" p2) [e] [] pos2] X.env = (false, eval (.Call (.Name "range" p2) [e] [] pos2) X.env) :: starEach [] X.env := by rfl) :
    DE X C (.o 1) p (.Call (.Name "list" p1) [.Call (.Name "range" p2) [e] [] pos2] [] pos) (mLR1 fa) := by
  obtain ⟨t, h1, h2⟩ := ha
  refine ⟨_, pe_listRg hc hl hml (prg_1 hr hmr h1 na) nb, fun A G ε σ H xs Q hA R h => h2 A G ε σ H xs _ hA R ?_⟩
  unfold mLR1 at h
  cases e1 : fa ε with
  | no => rw [e1] at h; exact h
  | er x ε1 => rw [e1] at h; exact h
  | ok d1 ε1 =>
    rw [e1] at h
    rintro v1 H1 G1 fp R1 ⟨rfl, r1⟩ s1 hx1 hh1
    replace h : EPost X.K C A (.o 1) p G H σ xs ((mOpt (intD d1) ε1).bind fun n ε1 => mLR 0 n ε1) Q := h
    cases ei : intD d1 with
    | none => rw [ei] at h; exact h.elim
    | some n =>
      rw [ei] at h
      replace h : EPost X.K C A (.o 1) p G H σ xs (mLR 0 n ε1) Q := h
      obtain rfl := intD_eq ei
      unfold mLR at h
      split at h
      · rename_i hz
        exact ⟨n, r1, rgB_ok hz, fun q hq => h _ _ _ [q] (R1.new_own hq) (.inl ⟨_, q, _, [], rfl, rfl, rfl, upd_same, LFp.zero.mpr ⟨rfl, rg_den⟩⟩) s1 (fun c hc => (upd_ne (R1.xne hq hc)).trans (hx1 c hc)) fun z => (hh1 z).trans (upd_keep hq)⟩
      · exact h.elim
/-- x.append(a list of one's own): a row of rows -/
def mApp (i k : Nat) (fa : Ev → Rs Dt) : Ev → Rs Dt := fun ε => match ε[i]? with
  | some (.vl (_ + 1) (.lst _)) => (fa ε).bind fun d ε1 => (match ε1[i]? with
    | some (.vl j (.lst l)) => if j = k + 1 ∧ l.length < sizeLine then .ok .non (ε1.set i (.vl (k + 1) (.lst (l ++ [d])))) else .no
    | _ => .no)
  | _ => .no
end
end Mir

set_option Elab.async false
set_option linter.all false
set_option maxRecDepth 100000
set_option maxHeartbeats 400000
/-! What the printed walks lean on: the contexts of a def, the list methods by name. -/
namespace Mir
open PySem PySem.Spec PyProof.Rows L2 He

theorem sl_pop : Slot "list" "pop" "list.pop" :=
  .of (owner := "list") (n := "pop") (by rw [typeLookup_type, builtinLookup_eq_fast]; kernel_rfl) (by decide +kernel) (by decide +kernel) (by decide +kernel) (by first | exact .inl (by decide +kernel) | exact .inr (by decide +kernel)) (by rw [isSubtype_type]; kernel_rfl)
theorem sl_reverse : Slot "list" "reverse" "list.reverse" :=
  .of (owner := "list") (n := "reverse") (by rw [typeLookup_type, builtinLookup_eq_fast]; kernel_rfl) (by decide +kernel) (by decide +kernel) (by decide +kernel) (by first | exact .inl (by decide +kernel) | exact .inr (by decide +kernel)) (by rw [isSubtype_type]; kernel_rfl)

section
variable {X : Cx} {C : Cn} {k i : Nat} {p : Bool} {e : Expr} {es : List Expr} {pos apos cpos : Pos} {fa : Ev → Rs (List Dt)} {x : Str}
theorem de_append (ho : PE X (.Name x pos) (tVar i)) (ha : DA X C p [e] fa)
    (hbase : attributeBase (.Name x pos) "append" X.env (eval (.Name x pos) X.env) = eval (.Name x pos) X.env := by rfl)
    (hfew : ((backTo cpos (starEach (e :: []) X.env)).all (fun x => !x.1) && (backToKw cpos (keywordEach [] X.env)).all (fun x => x.1.isSome)
      && decide ((e :: ([] : List Expr)).length + ([] : List Keyword).length + (if ([] : List Keyword).isEmpty then 0 else 1) < 30)) = true := by rfl)
    (hline : (apos.endLine == cpos.line) = true := by rfl) (hst : starEach (e :: []) X.env = (false, eval e X.env) :: starEach [] X.env := by rfl) (hplain : (backTo cpos (starEach [] X.env)).any (·.1) = false := by rfl) :
    DE X C (.o 0) false (.Call (.Attribute (.Name x pos) "append" apos) (e :: []) [] cpos) (mMut i fAppend fa) := de_mut slot_list_append (by rfl) mt_append mts_append ho ha hbase hfew hline hst hplain
theorem de_popAt (ho : PE X (.Name x pos) (tVar i)) (ha : DA X C p [e] fa)
    (hbase : attributeBase (.Name x pos) "pop" X.env (eval (.Name x pos) X.env) = eval (.Name x pos) X.env := by rfl)
    (hfew : ((backTo cpos (starEach (e :: []) X.env)).all (fun x => !x.1) && (backToKw cpos (keywordEach [] X.env)).all (fun x => x.1.isSome)
      && decide ((e :: ([] : List Expr)).length + ([] : List Keyword).length + (if ([] : List Keyword).isEmpty then 0 else 1) < 30)) = true := by rfl)
    (hline : (apos.endLine == cpos.line) = true := by rfl) (hst : starEach (e :: []) X.env = (false, eval e X.env) :: starEach [] X.env := by rfl) (hplain : (backTo cpos (starEach [] X.env)).any (·.1) = false := by rfl) :
    DE X C (.o 0) false (.Call (.Attribute (.Name x pos) "pop" apos) (e :: []) [] cpos) (mMut i fPopAt fa) := de_mut sl_pop (by rfl) mt_popAt mts_popAt ho ha hbase hfew hline hst hplain
theorem de_pop (ho : PE X (.Name x pos) (tVar i))
    (hbase : attributeBase (.Name x pos) "pop" X.env (eval (.Name x pos) X.env) = eval (.Name x pos) X.env := by rfl) (hline : (apos.endLine == cpos.line) = true := by rfl) :
    DE X C (.o 0) false (.Call (.Attribute (.Name x pos) "pop" apos) [] [] cpos) (mMut i fPop mNil) := de_mut0 sl_pop (by rfl) mt_pop mts_pop ho hbase hline
theorem de_reverse (ho : PE X (.Name x pos) (tVar i))
    (hbase : attributeBase (.Name x pos) "reverse" X.env (eval (.Name x pos) X.env) = eval (.Name x pos) X.env := by rfl) (hline : (apos.endLine == cpos.line) = true := by rfl) :
    DE X C (.o 0) false (.Call (.Attribute (.Name x pos) "reverse" apos) [] [] cpos) (mMut i fReverse mNil) := de_mut0 sl_reverse (by rfl) mt_reverse mts_reverse ho hbase hline
end

section
variable {P : Program} {w : World} {K : PySem.W.Frag} {mg : Str → Option Value} {base : Heap} {N : List Str} {qual : Str} {scope : Scope} {f : Addr} {cd : Value} {A : Around} {outer : List Env} {s : Shared} {H : Hp} {E : XK}
/-- a def's context -/
abbrev cxD (P : Program) (w : World) (K : PySem.W.Frag) (mg : Str → Option Value) (base : Heap) (N : List Str) (qual : Str) (scope : Scope) (f : Addr) (cd : Value) (A : Around) (outer : List Env) (s : Shared) (H : Hp) (E : XK) : Cx :=
  cxOf (L2.CX P w) P w K mg base N qual scope f cd A outer s H E
theorem tkD : Takes (cxD P w K mg base N qual scope f cd A outer s H E) (fun cls d _ H' => E cls d H') := takes_of rfl rfl rfl rfl
theorem hpD : PassesOwn (model (cxD P w K mg base N qual scope f cd A outer s H E).prog (cxD P w K mg base N qual scope f cd A outer s H E).w) (cxD P w K mg base N qual scope f cd A outer s H E).A (cxD P w K mg base N qual scope f cd A outer s H E).env (cxD P w K mg base N qual scope f cd A outer s H E).xe := passes_of rfl
theorem tkF {X : Cx} : Takes X (fun _ _ _ _ => False) := takes0
theorem u65 {k : Nat} {A : Around} (r : Room k A) : A.units + 65 < cLine := by have := r.un; omega
theorem u64 {k : Nat} {A : Around} (r : Room k A) : A.units + 64 < cLine := by have := r.un; omega
theorem u1 {k : Nat} {A : Around} (r : Room k A) : A.units + 1 < cLine := by have := r.un; omega
theorem u0 {k : Nat} {A : Around} (r : Room k A) : A.units < cLine := by have := r.un; omega
end

section
variable {P : Program} {w : World} {K : PySem.W.Frag} {mg : Str → Option Value} {base : Heap}
/-- a def by its name: what the head tells -/
def Dn (K : PySem.W.Frag) (mg : Str → Option Value) (x : Str) (st : Stmt) : Prop := (∃ fd, FunD K x x (defArgs st) (defBody st) (defScope st) [] [] (ga K x) fd) ∧ mg x = some (.ref (ga K x))
theorem fd_of {x : Str} {st : Stmt} {N ps : List Str} {lv k n : Nat} {ms : List Nat} {g : Ev → So} (D : Dn K mg x st) (S : FnScope N ps (defScope st)) (hp : ps.length = ms.length) (hN : N.length = ms.length + n)
    (hbd : ∀ (kV doc pm : Value) (an : Option Addr) (cdv ct : Value) (us : List Value), us.length = ps.length → bindArgs (PySem.W.fnOf x x (defArgs st) (defBody st) (defScope st) .none kV doc pm an cdv ct) ⟨us, []⟩ = pure (ps.zip us))
    (hk : ∀ ε ε', g ε = .nx ε' → k = 0)
    (hb : ∀ (cdv : Value) (A : Around) (outer : List Env) (s : Shared) (H : Hp) (E : XK), Room lv (A.deeper (envOfC x (defScope st) s.heap.objs.size (ga K x) cdv)) →
      DB (cxD P w K mg base N x (defScope st) (ga K x) cdv A outer s H E) ⟨fun cls d _ H' => E cls d H', npOf 0 ms, fun _ => True⟩ k (defBody st) g) :
    Fd P w K mg base x (lv + 1) ms k (mFn ms n g) := by
  obtain ⟨⟨fd, F⟩, hm⟩ := D
  exact ⟨fd, ps, fn_dd F S hp hN hk hb, hm, F.kp, F.bindsN hbd⟩
end
end Mir

set_option Elab.async false
set_option linter.all false
set_option maxRecDepth 100000
set_option maxHeartbeats 400000
/-! Names for the printed walks. -/
namespace Mir
open PySem PySem.Spec PyProof.Rows L2 He

variable {pos : Pos}
theorem DE.tt {X : Cx} {C : Cn} {m : Md} {p : Bool} {e : Expr} {f : Ev → Rs Dt} (h : DE X C m p e f) (hp : p = true := by rfl) : DE X C m true e f := by
  subst hp
  exact h
theorem ds_setLcj {X : Cx} {C : Cn} {k : Nat} {p p1 p2 : Bool} {f : Ev → Rs Dt} {j i kk : Nat} {y : Str} {py : Pos} {elt tg iter : Expr} {ifs : List Expr} {scope : Scope} {own : List (Str × Nat)} {spos : Pos} {tv : List Nat} {it : Ev → Rs (List Dt)} {t : Dt → Ev → Rs Unit} {c : Ev → Rs Bool} (hj : j = 0 ∨ j = k + 1) (hc : X.calm = true) (hN : X.N.Nodup)
    (hy : X.N[i]? = some y) (hyl : X.env.scope.names.lookup y = some .local) (hnp : i ∉ C.np) (hsw : swapsWith (.ListComp elt [⟨tg, iter, ifs, 0⟩] scope pos) (some (.Name y py)) spos.line X.env = pure true) (hi : DI X C p tg iter it) (ok : BlkOk X.N X.env.scope scope own)
    (hg : ∀ i : Bi, DG (bx X scope i) C.in_ true 0 tv tg t) (ht : ∀ i : Bi, DTs (bx X scope i) C.in_ p1 ifs c) (he : ∀ i : Bi, DE (bx X scope i) C.in_ (.o k) p2 elt f)
    (hv : ∀ j ∈ tv, j ∈ own.map (·.2)) (hn : ∀ j ∈ own.map (·.2), j ∉ C.np) (hs : ∀ x, foldedSetIterable iter X.env x = pure x := by intro _; rfl) :
    DS X C kk (.Assign [.Name y py] (.ListComp elt [⟨tg, iter, ifs, 0⟩] scope pos) spos) (sAsg (mComp (own.map (·.2)) it t c f) (gSet i j)) := ds_setLc hc hN hy hyl hnp hsw hi ok hg ht he j hj hv hn hs
/-! ### operators of ints -/
def fDiv : Dt → Dt → Option Rz := fII cDivB fun i j => i / j
def fMod : Dt → Dt → Option Rz := fII cModB fun i j => i % j
def fPow : Dt → Dt → Option Rz := fII cPowB fun i j => i ^ j.toNat
def fLe : Dt → Dt → Option Sc := fI fun i j => decide (i ≤ j)
def fGt : Dt → Dt → Option Sc := fI fun i j => decide (j < i)
def fGe : Dt → Dt → Option Sc := fI fun i j => decide (j ≤ i)
theorem ops_div {K : PySem.W.Frag} : OpS K (rI CDiv fun i j => .int (i / j)) fDiv := ops_II cDivB_ok
theorem ops_mod {K : PySem.W.Frag} : OpS K (rI (fun _ j => 0 < j) fun i j => .int (i % j)) fMod := ops_II cModB_ok
theorem ops_pow {K : PySem.W.Frag} : OpS K (rI CPow fun i j => .int (i ^ j.toNat)) fPow := ops_II cPowB_ok
theorem ops_le {K : PySem.W.Frag} : OpSD K (rI0 fun i j => .bl (decide (i ≤ j))) fLe := ops_I
theorem ops_gt {K : PySem.W.Frag} : OpSD K (rI0 fun i j => .bl (decide (j < i))) fGt := ops_I
theorem ops_ge {K : PySem.W.Frag} : OpSD K (rI0 fun i j => .bl (decide (j ≤ i))) fGe := ops_I
/-! ### what the head tells of the builtins' names -/
structure Bs (mg : Str → Option Value) : Prop where
  len : mg "len" = none
  list : mg "list" = none
  tuple : mg "tuple" = none
  range : mg "range" = none
  int : mg "int" = none
  bool : mg "bool" = none
  str : mg "str" = none
  isinstance : mg "isinstance" = none
  sorted : mg "sorted" = none
  all : mg "all" = none
  any : mg "any" = none
  min : mg "min" = none
  max : mg "max" = none
  enumerate : mg "enumerate" = none
/-! ### isinstance of builtin kinds -/
def tbTy (n : String) : IsiT := (["NoneType", "bool", "int", "str", "tuple", "list", "dict"] : List String).map fun k => (.inl k, decide (k = n) || (decide (k = "bool") && decide (n = "int")))
theorem isi_int {K : PySem.W.Frag} : IsiOk K (.type "int") (tbTy "int") := fun q h => by
  simp only [tbTy, List.map_cons, List.map_nil, List.mem_cons, List.not_mem_nil, or_false] at h
  rcases h with rfl | rfl | rfl | rfl | rfl | rfl | rfl <;> exact ⟨kit_ty (by decide +kernel), fun c e => by cases e⟩
theorem isi_bool {K : PySem.W.Frag} : IsiOk K (.type "bool") (tbTy "bool") := fun q h => by
  simp only [tbTy, List.map_cons, List.map_nil, List.mem_cons, List.not_mem_nil, or_false] at h
  rcases h with rfl | rfl | rfl | rfl | rfl | rfl | rfl <;> exact ⟨kit_ty (by decide +kernel), fun c e => by cases e⟩
theorem isi_str {K : PySem.W.Frag} : IsiOk K (.type "str") (tbTy "str") := fun q h => by
  simp only [tbTy, List.map_cons, List.map_nil, List.mem_cons, List.not_mem_nil, or_false] at h
  rcases h with rfl | rfl | rfl | rfl | rfl | rfl | rfl <;> exact ⟨kit_ty (by decide +kernel), fun c e => by cases e⟩
theorem isi_tuple {K : PySem.W.Frag} : IsiOk K (.type "tuple") (tbTy "tuple") := fun q h => by
  simp only [tbTy, List.map_cons, List.map_nil, List.mem_cons, List.not_mem_nil, or_false] at h
  rcases h with rfl | rfl | rfl | rfl | rfl | rfl | rfl <;> exact ⟨kit_ty (by decide +kernel), fun c e => by cases e⟩
theorem isi_list {K : PySem.W.Frag} : IsiOk K (.type "list") (tbTy "list") := fun q h => by
  simp only [tbTy, List.map_cons, List.map_nil, List.mem_cons, List.not_mem_nil, or_false] at h
  rcases h with rfl | rfl | rfl | rfl | rfl | rfl | rfl <;> exact ⟨kit_ty (by decide +kernel), fun c e => by cases e⟩
/-! ### a body that gives something back -/
theorem nx_ret {k : Nat} {f : Ev → Rs Dt} : ∀ ε ε', sRet f ε = .nx ε' → k = 0 := fun ε ε' h => by
  unfold sRet So.of at h
  split at h <;> cases h
theorem nx_seq {k : Nat} {g h : Ev → So} (hh : ∀ ε ε', h ε = .nx ε' → k = 0) : ∀ ε ε', sSeq g h ε = .nx ε' → k = 0 := fun ε ε' e => by
  unfold sSeq So.seq at e
  split at e
  · exact hh _ _ e
  · rename_i x
    exact absurd e (x ε')
theorem nx_if {k : Nat} {c : Ev → Rs Bool} {g h : Ev → So} (hg : ∀ ε ε', g ε = .nx ε' → k = 0) (hh : ∀ ε ε', h ε = .nx ε' → k = 0) : ∀ ε ε', sIf c g h ε = .nx ε' → k = 0 := fun ε ε' e => by
  unfold sIf So.of at e
  split at e
  · dsimp only at e
    split at e
    · exact hg _ _ e
    · exact hh _ _ e
  · cases e
  · cases e
end Mir

set_option Elab.async false
set_option linter.all false
set_option maxRecDepth 100000
set_option maxHeartbeats 400000
/-! Constructors and own errors by name, for the printed walks. -/
namespace Mir
open PySem PySem.Spec PyProof.Rows L2 He
section
variable {P : Program} {w : World} {K : PySem.W.Frag} {mg : Str → Option Value} {base : Heap}
/-- a class's `__init__` -/
def Ini (P : Program) (w : World) (K : PySem.W.Frag) (mg : Str → Option Value) (base : Heap) (c : Str) (lv n : Nat) (F : List Dt → Fo) : Prop :=
  Mk K (ga K c) (ma K (ga K c) "__init__") ∧ mg c = some (.ref (ga K c)) ∧ ∃ fd ps, FnOk P w K mg base (L2.CX P w) lv (ma K (ga K c) "__init__") fd ps (spD K (msMk n) 0 F) ∧ Binds K fd ps []
theorem binds_dfl {x qual : Str} {st : Stmt} {dvs : List V} {f : Addr} {fd : FuncData} {ps : List Str} (F : FunD K x qual (defArgs st) (defBody st) (defScope st) dvs [] f fd) (hd : dvs ≠ [])
    (h : ∀ (T : Addr) (kV doc pm : Value) (an : Option Addr) (cdv ct : Value) (us its : List Value), us.length = ps.length → its.length = dvs.length →
      ∃ k, bindArgs (PySem.W.fnOf x qual (defArgs st) (defBody st) (defScope st) (.ref T) kV doc pm an cdv ct) ⟨us, []⟩ = seqItems? (.ref T) >>= k ∧ k (some its.toArray) = pure (ps.zip us)) : Binds K fd ps [] := by
  obtain ⟨ds, h1, h2⟩ := F.binds1 (ps := ps) ps.length dvs.length hd (by omega) fun T kV doc pm an cdv ct us its hl hi => by
    obtain ⟨k, e1, e2⟩ := h T kV doc pm an cdv ct us its hl hi
    refine ⟨k, e1, ?_⟩
    rw [← hi, List.drop_length, List.append_nil]
    exact e2
  rw [List.drop_length] at h1
  cases h1
  exact h2
theorem ini_of {c qual : Str} {st : Stmt} {N ps : List Str} {dvs : List V} {lv na n : Nat} {g : Ev → So} (D : ∃ fd, FunD K "__init__" qual (defArgs st) (defBody st) (defScope st) dvs [] (ma K (ga K c) "__init__") fd) (M : Mk K (ga K c) (ma K (ga K c) "__init__")) (hm : mg c = some (.ref (ga K c)))
    (S : FnScope N ps (defScope st)) (hp : ps.length = (msMk na).length) (hN : N.length = (msMk na).length + n) (hbd : ∀ fd, FunD K "__init__" qual (defArgs st) (defBody st) (defScope st) dvs [] (ma K (ga K c) "__init__") fd → Binds K fd ps []) (hk : ∀ ε ε', g ε = .nx ε' → 0 = 0)
    (hb : ∀ (cdv : Value) (A : Around) (outer : List Env) (s : Shared) (H : Hp) (E : XK), Room lv (A.deeper (envOfC qual (defScope st) s.heap.objs.size (ma K (ga K c) "__init__") cdv)) →
      DB (cxD P w K mg base N qual (defScope st) (ma K (ga K c) "__init__") cdv A outer s H E) ⟨fun cls d _ H' => E cls d H', npOf 0 (msMk na), fun _ => True⟩ 0 (defBody st) g) :
    Ini P w K mg base c (lv + 1) na (mFn (msMk na) n g) := by
  obtain ⟨fd, F⟩ := D
  exact ⟨M, hm, fd, ps, fn_dd F S hp hN hk hb, hbd fd F⟩
/-- what the head tells of an own error's class -/
structure Ec (K : PySem.W.Frag) (mg : Str → Option Value) (c : Str) (fs : List Str) : Prop where
  ox : OexC K (ga K c)
  fi : PySem.W.findIn K (.ref (ga K c)) "__init__" = some (some (.ref (ma K (ga K c) "__init__")))
  ti : PySem.W.typeIn K (.ref (ma K (ga K c) "__init__")) = some (.type "function")
  g : mg c = some (.ref (ga K c))
  no : ∀ f ∈ fs, PySem.W.findIn K (.ref (ga K c)) f = some none
theorem xf1 {c qual p f1 fld1 : Str} {st : Stmt} (T : Ec K mg c [fld1]) (D : ∃ fd, FunD K "__init__" qual (defArgs st) (defBody st) (defScope st) [] [] (ma K (ga K c) "__init__") fd) (S : FnScope [p, f1] [p, f1] (defScope st))
    (ht : ∀ (cdv : Value) (A : Around) (outer : List Env) (s : Shared) (H : Hp) (E : XK), PSs (cxD P w K mg base [p, f1] qual (defScope st) (ma K (ga K c) "__init__") cdv A outer s H E) (defBody st) (tOst K fld1 (tVar 0) (tVar 1)))
    (hbd : ∀ (kV doc pm : Value) (an : Option Addr) (cdv ct : Value) (us : List Value), us.length = [p, f1].length → bindArgs (PySem.W.fnOf "__init__" qual (defArgs st) (defBody st) (defScope st) .none kV doc pm an cdv ct) ⟨us, []⟩ = pure ([p, f1].zip us)) : Xf P w K mg base c 1 [fld1] := by
  obtain ⟨fd, F⟩ := D
  exact ⟨T.ox, T.fi, T.ti, T.g, fd, [p, f1], fn_exc F S rfl (fun cdv A outer s H E _ => ht cdv A outer s H E) (exc1_ok T.ox (T.no _ (List.mem_cons_self ..))), F.bindsN hbd⟩
theorem xf2 {c qual p f1 f2 fld1 fld2 : Str} {st : Stmt} (T : Ec K mg c [fld1, fld2]) (D : ∃ fd, FunD K "__init__" qual (defArgs st) (defBody st) (defScope st) [] [] (ma K (ga K c) "__init__") fd) (S : FnScope [p, f1, f2] [p, f1, f2] (defScope st))
    (ht : ∀ (cdv : Value) (A : Around) (outer : List Env) (s : Shared) (H : Hp) (E : XK), PSs (cxD P w K mg base [p, f1, f2] qual (defScope st) (ma K (ga K c) "__init__") cdv A outer s H E) (defBody st) (tSeq (tOst K fld1 (tVar 0) (tVar 1)) (tOst K fld2 (tVar 0) (tVar 2))))
    (hbd : ∀ (kV doc pm : Value) (an : Option Addr) (cdv ct : Value) (us : List Value), us.length = [p, f1, f2].length → bindArgs (PySem.W.fnOf "__init__" qual (defArgs st) (defBody st) (defScope st) .none kV doc pm an cdv ct) ⟨us, []⟩ = pure ([p, f1, f2].zip us)) : Xf P w K mg base c 1 [fld1, fld2] := by
  obtain ⟨fd, F⟩ := D
  exact ⟨T.ox, T.fi, T.ti, T.g, fd, [p, f1, f2], fn_exc F S rfl (fun cdv A outer s H E _ => ht cdv A outer s H E) (exc2_ok T.ox (T.no _ (List.mem_cons_self ..)) (T.no _ (List.mem_cons_of_mem _ (List.mem_cons_self ..)))), F.bindsN hbd⟩
theorem xf3 {c qual p f1 f2 f3 fld1 fld2 fld3 : Str} {st : Stmt} (T : Ec K mg c [fld1, fld2, fld3]) (D : ∃ fd, FunD K "__init__" qual (defArgs st) (defBody st) (defScope st) [] [] (ma K (ga K c) "__init__") fd) (S : FnScope [p, f1, f2, f3] [p, f1, f2, f3] (defScope st))
    (ht : ∀ (cdv : Value) (A : Around) (outer : List Env) (s : Shared) (H : Hp) (E : XK), PSs (cxD P w K mg base [p, f1, f2, f3] qual (defScope st) (ma K (ga K c) "__init__") cdv A outer s H E) (defBody st) (tSeq (tOst K fld1 (tVar 0) (tVar 1)) (tSeq (tOst K fld2 (tVar 0) (tVar 2)) (tOst K fld3 (tVar 0) (tVar 3)))))
    (hbd : ∀ (kV doc pm : Value) (an : Option Addr) (cdv ct : Value) (us : List Value), us.length = [p, f1, f2, f3].length → bindArgs (PySem.W.fnOf "__init__" qual (defArgs st) (defBody st) (defScope st) .none kV doc pm an cdv ct) ⟨us, []⟩ = pure ([p, f1, f2, f3].zip us)) : Xf P w K mg base c 1 [fld1, fld2, fld3] := by
  obtain ⟨fd, F⟩ := D
  exact ⟨T.ox, T.fi, T.ti, T.g, fd, [p, f1, f2, f3], fn_exc F S rfl (fun cdv A outer s H E _ => ht cdv A outer s H E) (exc3_ok T.ox (T.no _ (List.mem_cons_self ..)) (T.no _ (List.mem_cons_of_mem _ (List.mem_cons_self ..))) (T.no _ (List.mem_cons_of_mem _ (List.mem_cons_of_mem _ (List.mem_cons_self ..))))), F.bindsN hbd⟩
end
section
variable {X : Cx} {C : Cn} {p : Bool} {e : Expr} {es : List Expr} {pp pos : Pos} {fa : Ev → Rs (List Dt)} {c : Str} {F : List Dt → Fo} {lv n : Nat} {E : XK}
theorem de_mk (hE : ∀ cls d σ H, C.W cls d σ H ↔ E cls d H) (tk : Takes X C.W) (T : Ini X.prog X.w X.K X.mg X.base c lv n F) (hr : Room (lv + 1) X.A) (hg : Gl X c) (ha : DA X C p (e :: es) fa) (hn : ArgN fa n)
    (hdb : (c == ("__debug__" : Str)) = false := by decide) (he : starEach (e :: es) X.env = (false, eval e X.env) :: starEach es X.env := by rfl) (hpl : (backTo pos (starEach es X.env)).any (·.1) = false := by rfl) :
    DE X C (.o 1) p (.Call (.Name c pp) (e :: es) [] pos) (mMake c F fa) := by
  obtain ⟨M, hm, fd, ps, h1, h2⟩ := T
  exact de_make M h1 hr hg hm h2 tk hE ha (ArgN.len hn) hdb he hpl
end
end Mir

set_option Elab.async false
set_option linter.all false
set_option maxRecDepth 100000
set_option maxHeartbeats 400000
/-! The end of a law by its mirror. -/
namespace Mir
open PySem PySem.Spec PyProof.Rows L2 He
/-- own errors with their fields: looked at when the head has run -/
def exL (l : List (Str × List Str)) (K : PySem.W.Frag) : Bool :=
  l.all fun q => oexB K q.1 && (initB K q.1 && (xfB K (ga K q.1) && q.2.all fun f => decide (PySem.W.findIn K (.ref (ga K q.1)) f = some none)))
section
variable {K : PySem.W.Frag} {mg : Str → Option Value} {l : List (Str × List Str)} {c : Str} {fs : List Str}
theorem exL_ec (h : exL l K = true) (m : (c, fs) ∈ l) (g : mg c = some (.ref (ga K c))) : Ec K mg c fs := by
  have q := List.all_eq_true.mp h _ m
  obtain ⟨q1, q⟩ := Bool.and_eq_true_iff.mp q
  obtain ⟨q2, q⟩ := Bool.and_eq_true_iff.mp q
  obtain ⟨q3, q4⟩ := Bool.and_eq_true_iff.mp q
  obtain ⟨i1, i2⟩ := initB_ok q2
  exact ⟨oexB_ok q1, i1, i2, g, fun f hf => of_decide_eq_true (List.all_eq_true.mp q4 f hf)⟩
theorem exL_xf (h : exL l K = true) (m : (c, fs) ∈ l) {f : Str} (hf : f ∈ fs) : XfC K (ga K c) ∧ PySem.W.findIn K (.ref (ga K c)) f = some none := by
  have q := List.all_eq_true.mp h _ m
  obtain ⟨q1, q⟩ := Bool.and_eq_true_iff.mp q
  obtain ⟨q2, q⟩ := Bool.and_eq_true_iff.mp q
  obtain ⟨q3, q4⟩ := Bool.and_eq_true_iff.mp q
  exact ⟨xfB_ok q3, of_decide_eq_true (List.all_eq_true.mp q4 f hf)⟩
end
theorem sp_law {K : PySem.W.Frag} {F : List Dt → Fo} {H : Hp} {a : Addr} {ns : List Int} (hS : SqL K H a (ns.map V.int)) (h : ∃ os, F [.scr ns] = .ok (.bl true) os) : spD K [0] 0 F [.ref a] H (fun v _ => v = .bl true) fun _ _ _ => False := by
  obtain ⟨os, e⟩ := h
  refine ⟨[.scr ns], H, [[]], Same.refl H, ⟨.scr ns, [], .ref a, [], [], [], rfl, rfl, rfl, ow0 ⟨a, rfl, hS⟩, rfl, rfl, rfl⟩, fun b => by simp [cnt], fun b hb => by simp [cnt] at hb, ?_⟩
  rw [e]
  intro v H' G' fps' fp _ _ _ _ _ _ o _ _ _
  exact o.2
/-- THE END: the law's def at a script gives back true, as its mirror tells -/
theorem walkW {l : PySem.W.OpenLaw} {n k : Nat} {q : Program} {loose : List Str} {XP : (Str → Option Value) → Heap → Prop} {YP : World → Heap → Prop} {d : DefRec} {x : Str} {F : List Dt → Fo}
    (hn : l.most = some n) (hn2 : n ≤ sizeLine) (hdf : d.params.defaults = []) (hr : Room k callerA)
    (hF : ∀ (w : World) (mg : Str → Option Value) (fa : Addr) (h : Heap), YP w h → h.Ns mainGlobals mg → mg d.name = some (.ref fa) → ∃ (K : PySem.W.Frag) (fd : FuncData), K.In h ∧ (∀ (s : Shared) (u : Value), BindsTo s fd ⟨[u], []⟩ [(x, u)]) ∧
      ∀ base : Heap, K.In base → base.Ns mainGlobals mg → FnOk l.prog w K mg base (L2.CX l.prog w) k fa fd [x] (spD K [0] 0 F))
    (law : ∀ ns : List Int, ns.length ≤ n → ∃ os, F [.scr ns] = .ok (.bl true) os) : PySem.W.WalkO q loose XP YP l.row.toRowW d [] (fun f vs => PySem.call f vs) := by
  refine Att.attach_call hn hdf fun w s₀ s₁ mg mb fa o pm cd doc a vs ns Gd Yd ho hd hcd hmg hob hin hle hgl => ?_
  obtain ⟨K, fd, KX, hb, hf⟩ := hF w mg fa _ Yd Gd.T.g hmg
  exact law_call KX Gd.T.g Gd.T.b Gd.T.builtins Gd.T.nolimit hgl hob hin (Nat.le_trans hle hn2) hr hf hb (fun H _ hS => sp_law hS (law ns hle)) fun H e s' z => by
    obtain ⟨_, _, _, _, _, _, _, _, _, _, _, _, w⟩ := z
    exact w
end Mir

set_option Elab.async false
set_option linter.all false
set_option maxRecDepth 100000
set_option maxHeartbeats 400000
/-! More rules: d[k], xs[::-1], a written dict of one entry with a tuple as its key. -/
namespace Mir
open PySem PySem.Spec PyProof.Rows L2 He
section
variable {X : Cx} {C : Cn} {p p1 p2 : Bool} {o ie e ke ve : Expr} {pos pos2 q1 q2 q3 : Pos} {fa fd fk fv : Ev → Rs Dt}
/-- d[k] -/
def mDGet (fd fk : Ev → Rs Dt) : Ev → Rs Dt := fun ε => (fd ε).bind fun d ε1 => (fk ε1).bind fun k ε2 => (mOpt (getD? d k) ε2).bind fun r ε2 => mOpt r ε2
theorem de_dget (hu : X.A.units + 1 < cLine) (hd : DE X C .b p o fd) (hk : DE X C (.o 0) true ie fk) (hs : NoSl ie) : DE X C (.o 0) p (.Subscript o ie pos) (mDGet fd fk) := by
  obtain ⟨u, h3, h4⟩ := hd
  obtain ⟨t, h1, h2⟩ := hk
  refine ⟨_, pe_dget hu h3 h1 hs, fun A G ε σ H xs Q hA R h => h4 A G ε σ H xs _ hA R ?_⟩
  unfold mDGet at h
  cases e1 : fd ε with
  | no => rw [e1] at h; exact h
  | er x ε1 => rw [e1] at h; exact h
  | ok d ε1 =>
    rw [e1] at h
    rintro x H1 G1 fp R1 ⟨rfl, r1⟩ s1 hx1 hh1
    replace h : EPost X.K C A (.o 0) p G H σ xs ((fk ε1).bind fun k ε2 => (mOpt (getD? d k) ε2).bind fun r ε2 => mOpt r ε2) Q := h
    refine h2 A G1 ε1 σ H1 xs _ hA R1 ?_
    cases e2 : fk ε1 with
    | no => rw [e2] at h; exact h
    | er x ε2 => rw [e2] at h; exact ErP.mono s1 h
    | ok k ε2 =>
      rw [e2] at h
      replace h : EPost X.K C A (.o 0) p G H σ xs ((mOpt (getD? d k) ε2).bind fun r ε2 => mOpt r ε2) Q := h
      rintro y H2 G2 fp R2 ⟨rfl, r2⟩ s2 hx2 hh2
      cases e3 : getD? d k with
      | none => rw [e3] at h; exact h.elim
      | some r =>
        rw [e3] at h
        obtain ⟨a, o, rfl, hg, i1, i2⟩ := dget_ok R2.sub (r1.mono s2 (hh2 rfl)) r2 e3
        cases r with
        | none => exact h.elim
        | some z =>
          obtain ⟨w, rfl, hw⟩ := i2 z rfl
          exact ⟨a, w, rfl, hg, h w H2 G2 [] R2 ⟨rfl, hw⟩ (s1.trans s2) (fun c hc => (hx2 c hc).trans (hx1 c hc)) fun z => (hh1 z).trans (hh2 rfl)⟩
/-- xs[::-1] -/
def revD (d : Dt) : Option Dt := match d with
  | .lst ds => some (.lst ds.reverse)
  | _ => none
def mRevL (fa : Ev → Rs Dt) : Ev → Rs Dt := fun ε => (fa ε).bind fun d ε1 => mOpt (revD d) ε1
theorem de_revL {k : Nat} (ha : DE X C .b p e fa) : DE X C (.o 1) p (.Subscript e (.Slice none none (some (.UnaryOp .USub (.Constant (.int 1) k q1) q2)) q3) pos) (mRevL fa) := by
  obtain ⟨u, h3, h4⟩ := ha
  refine ⟨_, pe_revL h3, fun A G ε σ H xs Q hA R h => h4 A G ε σ H xs _ hA R ?_⟩
  unfold mRevL at h
  cases e1 : fa ε with
  | no => rw [e1] at h; exact h
  | er x ε1 => rw [e1] at h; exact h
  | ok d ε1 =>
    rw [e1] at h
    rintro x H1 G1 fp R1 ⟨rfl, r1⟩ s1 hx1 hh1
    cases d with
    | lst ds =>
      obtain ⟨a, vs, rfl, e, t⟩ := r1
      refine ⟨a, vs, rfl, .inl (.inl e), fun q hq => ?_⟩
      exact h _ _ G1 [q] (R1.new_own hq) (.inl ⟨_, q, _, [], rfl, rfl, rfl, upd_same, LFp.zero.mpr ⟨rfl, t.reverse⟩⟩) s1 (fun a ha => (upd_ne (R1.xne hq ha)).trans (hx1 a ha)) fun z => (hh1 z).trans (upd_keep hq)
    | _ => exact h.elim
/-- {k: v}, k a tuple of ints and texts -/
def tDisp1T (tk tv : TE) : TE := fun σ H Q => ∀ p, H p = none → tPairs [(tk, tv)] σ (upd H p (.dT [])) fun ps H2 => ∃ x y, ps = [(x, y)] ∧ H2 p = some (.dT []) ∧ ∃ (b : Addr) (k : List Key), x = .ref b ∧ H2 b = some (.tup (k.map kV)) ∧ Q (.ref p) (upd H2 p (.dT [(k, y)]))
theorem pe_disp1T {tk tv : TE} (hu : X.A.units + 1 < cLine) (hk : PE X ke tk) (hv : PE X ve tv) : PE X (.Dict [some ke] [ve] pos) (tDisp1T tk tv) := by
  refine ⟨fun pins s σ H Q I q => ?_⟩
  have hn := I.hok.fresh (Nat.le_refl s.heap.objs.size)
  have I1 := I.laid (a := s.heap.objs.size) (o := .dT []) (h' := s.heap.push { cls := .type "dict", data := .dict #[] }) (t' := s.toks) (fun _ _ q => Heap.get?_push_of_some _ q) (Nat.le_refl _) (dt_empty s.heap I.big)
  have hsh := zip_pairTrees [some ke] [ve] X.env pos (by rfl) rfl
  have hpl := pairTrees_length [some ke] [ve] X.env pos (by rfl) rfl
  rw [arm_eval_Dict, hsh, dictDisplay_pairs (pairTrees [some ke] [ve] X.env pos) (fun z => by rw [z] at hpl; cases hpl) (by rw [hpl]; show 1 < 17; decide)]
  have pp : PPs X pos [some ke] [ve] [(tk, tv)] := pps_cons hk hv pps_nil
  refine wpAny_bind (wpAny_standAt (wpAny_bind (wpAny_subDictH (knd := tupleKind (mixKind X.prog X.w)) (Q := fun d s' => wpAny (model X.prog X.w) X.A (pure (Value.ref d)) _ X.xe s') (Nat.lt_of_succ_lt hu) (by rw [hpl]; show 1 ≤ 15; decide) ?_)))
  refine thn (pp.run pins _ σ _ _ I1 (q _ hn)) fun ws s2 ⟨ps, H2, I2, rel, x, y, ep, e, b, k, ex, eb, qq⟩ => ?_
  subst ep ex
  cases rel with
  | @cons a0 b0 as bs h t =>
    cases t
    obtain ⟨u, r⟩ := b0
    obtain ⟨h1, h2⟩ := h
    obtain rfl : u = Value.ref b := h1
    obtain ⟨z, hd, xs, rel, dd⟩ := dt_of I2.hok e
    cases rel
    refine ⟨[(k, b, r)], ⟨rfl, rfl, key_of I2.hok eb, True.intro⟩, dd, fun h' tk dd' hs => wpAny_pure ⟨.ref s.heap.objs.size, _, ?_, rfl, qq⟩⟩
    obtain ⟨q, es, ep, hq, h3, h4, h5, _, h6⟩ := dd'
    have r0 : KT H2 (putK [] k y) (storedH [] k b r) := (show KT H2 [] [] from .nil).put k eb h2
    refine d_write I2 (by rw [e]; exact True.intro) hs ⟨q, hq⟩ ⟨by show 1 ≤ sizeLine; decide, hd, _, KT.keeps (H := H2) r0 fun c ys ec => ?_, q, es, ep, hq, h3, h4, h5, h6⟩
    rw [upd_ne (ne_of ec e (fun z => nomatch z))]
    exact ec
def disp1D (k d : Dt) : Option Dt := match k with
  | .tup es => (keysD es).map fun q => .dT [q] [d]
  | _ => none
def mDisp1 (fk fv : Ev → Rs Dt) : Ev → Rs Dt := fun ε => (fk ε).bind fun k ε1 => (fv ε1).bind fun d ε2 => mOpt (disp1D k d) ε2
theorem de_disp1 (hu : X.A.units + 1 < cLine) (hk : DE X C (.o 0) p1 ke fk) (hv : DE X C (.o 0) p2 ve fv) : DE X C (.o 1) (p1 && p2) (.Dict [some ke] [ve] pos) (mDisp1 fk fv) := by
  obtain ⟨t, h1, h2⟩ := hk
  obtain ⟨u, h3, h4⟩ := hv
  refine ⟨_, pe_disp1T hu h1 h3, fun A G ε σ H xs Q hA R h q hq => h2 A G ε σ _ (q :: xs) _ hA (R.new_own hq) ?_⟩
  unfold mDisp1 at h
  cases e1 : fk ε with
  | no => rw [e1] at h; exact h
  | er x ε1 => rw [e1] at h; exact h
  | ok k ε1 =>
    rw [e1] at h
    rintro x H1 G1 fp R1 ⟨rfl, r1⟩ s1 hx1 hh1
    replace h : EPost X.K C A (.o 1) (p1 && p2) G H σ xs ((fv ε1).bind fun d ε2 => mOpt (disp1D k d) ε2) Q := h
    refine h4 A G1 ε1 σ H1 (q :: xs) _ hA R1 ?_
    cases e2 : fv ε1 with
    | no => rw [e2] at h; exact h
    | er x ε2 => rw [e2] at h; exact ErP.mono s1 h
    | ok d ε2 =>
      rw [e2] at h
      replace h : EPost X.K C A (.o 1) (p1 && p2) G H σ xs (mOpt (disp1D k d) ε2) Q := h
      rintro y H2 G2 fp R2 ⟨rfl, r2⟩ s2 hx2 hh2
      cases k with
      | tup es =>
        cases e3 : keysD es with
        | none => simp only [disp1D, e3, Option.map_none] at h; exact h.elim
        | some ks =>
          simp only [disp1D, e3, Option.map_some] at h
          obtain ⟨b, us, rfl, eb, h5⟩ := r1
          have hb : H2 b = some (.tup (ks.map kV)) := by
            rw [R2.sub _ _ (s2 _ _ eb), keysD_ok h5 e3]
          have hp : H2 q = some (.dT []) := by rw [hx2 q (List.mem_cons_self ..), hx1 q (List.mem_cons_self ..), upd_same]
          refine ⟨_, y, rfl, hp, b, ks, rfl, hb, ?_⟩
          refine h _ _ G2 [q] (R2.mut_own (List.mem_cons_self ..)) (.inr (.inl ⟨[ks], [d], q, _, [], rfl, rfl, rfl, upd_same, rfl, LFp.zero.mpr ⟨rfl, y, [], rfl, r2, rfl⟩⟩)) (s1.trans s2) (fun a ha => ?_) fun z => ?_
          · rw [upd_ne (R.xne hq ha), hx2 a (List.mem_cons_of_mem _ ha), hx1 a (List.mem_cons_of_mem _ ha), upd_ne (R.xne hq ha)]
          · rw [Bool.and_eq_true] at z
            intro b o hb
            have hn : b ≠ q := ne_of_none hb hq
            rw [upd_ne hn]
            exact hh2 z.2 _ _ (hh1 z.1 _ _ (by rw [upd_ne hn]; exact hb))
      | _ => exact h.elim
end
end Mir

set_option Elab.async false
set_option linter.all false
set_option maxRecDepth 100000
set_option maxHeartbeats 400000
/-! More rules: what is walked is a list or a tuple; slices of tuples. -/
namespace Mir
open PySem PySem.Spec PyProof.Rows L2 He
section
variable {X : Cx} {C : Cn} {p p1 p2 : Bool} {e a : Expr} {pos : Pos} {f fa : Ev → Rs Dt}
def mIterA (f : Ev → Rs Dt) : Ev → Rs (List Dt) := fun ε => (f ε).bind fun d ε1 => match d with
  | .lst ds => .ok ds ε1
  | .tup ds => .ok ds ε1
  | _ => .no
theorem pi_or {tg : Expr} {u v : TI} (h1 : PI X tg e u) (h2 : PI X tg e v) : PI X tg e (fun σ H R => u σ H R ∨ v σ H R) := by
  refine ⟨fun pins s σ H R I h => ?_⟩
  rcases h with h | h
  · exact h1.run pins s σ H R I h
  · exact h2.run pins s σ H R I h
theorem di_any {tg : Expr} (he : DE X C (.o 0) p e f) : DI X C p tg e (mIterA f) := by
  obtain ⟨u, a, b⟩ := he
  refine ⟨_, pi_or (pi_list a) (pi_tup a), fun A G ε σ H xs R hA hR q => ?_⟩
  unfold mIterA Rs.bind at q
  cases r : f ε with
  | no => rw [r] at q; exact q.elim
  | er x ε' => rw [r] at q; exact .inl (b A G ε σ H xs _ hA hR (by rw [r]; exact q))
  | ok d ε' =>
    rw [r] at q
    cases d with
    | lst ds =>
      refine .inl (b A G ε σ H xs _ hA hR ?_)
      rw [r]
      rintro v1 H1 G1 fp R1 ⟨rfl, r1⟩ s1 hx1 hh1
      obtain ⟨a, vs, rfl, e1, hd⟩ := r1
      exact ⟨a, rfl, ⟨vs, .inl (.inl (R1.sub _ _ e1))⟩, q _ H1 G1 R1 (itOk_list e1 hd) s1 hx1 hh1⟩
    | tup ds =>
      refine .inr (b A G ε σ H xs _ hA hR ?_)
      rw [r]
      rintro v1 H1 G1 fp R1 ⟨rfl, r1⟩ s1 hx1 hh1
      obtain ⟨a, vs, rfl, e1, hd⟩ := r1
      exact ⟨a, rfl, ⟨vs, .inl (.inl (R1.sub _ _ e1))⟩, q _ H1 G1 R1 (itOk_tup e1 hd) s1 hx1 hh1⟩
    | _ => exact q.elim
/-- t[lo:hi] -/
def slT (d : Dt) (l r : Option Int) : Option Dt := match d with
  | .tup ds => some (.tup (cutD ds l r))
  | _ => none
def mSliceT (fa : Ev → Rs Dt) (fl fh : Ev → Rs (Option Int)) : Ev → Rs Dt := fun ε => (fa ε).bind fun d ε1 => (fl ε1).bind fun l ε2 => (fh ε2).bind fun r ε3 => mOpt (slT d l r) ε3
theorem de_sliceT {lo hi : Option Expr} {fl fh : Ev → Rs (Option Int)} {q : Pos} (ha : DE X C (.o 0) p a fa) (hl : DO X C lo fl) (hh : DO X C hi fh) : DE X C (.o 0) p (.Subscript a (.Slice lo hi none q) pos) (mSliceT fa fl fh) := by
  obtain ⟨t, h1, h2⟩ := ha
  obtain ⟨u, h3, h4⟩ := hl
  obtain ⟨w, h5, h6⟩ := hh
  refine ⟨_, pe_slice sl_tupA h1 h3 h5, fun A G ε σ H xs Q hA R h => h2 A G ε σ H xs _ hA R ?_⟩
  unfold mSliceT at h
  cases e1 : fa ε with
  | no => rw [e1] at h; exact h
  | er x ε1 => rw [e1] at h; exact h
  | ok d1 ε1 =>
    rw [e1] at h
    rintro v1 H1 G1 fp R1 ⟨rfl, r1⟩ s1 hx1 hh1
    replace h : EPost X.K C A (.o 0) p G H σ xs ((fl ε1).bind fun l ε2 => (fh ε2).bind fun r ε3 => mOpt (slT d1 l r) ε3) Q := h
    refine h4 A G1 ε1 σ H1 xs _ hA R1 ?_
    cases e2 : fl ε1 with
    | no => rw [e2] at h; exact h
    | er x ε2 => rw [e2] at h; exact ErP.mono s1 h
    | ok l ε2 =>
      rw [e2] at h
      rintro H2 G2 R2 s2 hx2 hh2
      replace h : EPost X.K C A (.o 0) p G H σ xs ((fh ε2).bind fun r ε3 => mOpt (slT d1 l r) ε3) Q := h
      refine h6 A G2 ε2 σ H2 xs _ hA R2 ?_
      cases e3 : fh ε2 with
      | no => rw [e3] at h; exact h
      | er x ε3 => rw [e3] at h; exact ErP.mono (s1.trans s2) h
      | ok r ε3 =>
        rw [e3] at h
        rintro H3 G3 R3 s3 hx3 hh3
        replace h : EPost X.K C A (.o 0) p G H σ xs (mOpt (slT d1 l r) ε3) Q := h
        cases d1 with
        | tup ds =>
          obtain ⟨b, vs, rfl, eb, hd⟩ := r1
          have eb3 := s3 _ _ (s2 _ _ eb)
          have hd3 := hd.mono (s2.trans s3)
          have sx : ∀ c ∈ xs, H3 c = H c := fun c hc => (hx3 c hc).trans ((hx2 c hc).trans (hx1 c hc))
          have sh : p = true → Same H H3 := fun z => (hh1 z).trans (hh2.trans hh3)
          refine ⟨b, vs, rfl, .inl (.inl (R3.sub _ _ eb3)), fun hw => ?_, fun _ q hq => ?_⟩
          · have ec : cutD ds l r = ds := by
              unfold cutD
              rw [hd.length] at hw
              rw [hw.1, hw.2]
              simp
            refine h _ H3 G3 [] R3 ⟨rfl, ?_⟩ (s1.trans (s2.trans s3)) sx sh
            rw [ec]
            exact ⟨b, vs, rfl, eb3, hd3⟩
          · exact h _ _ _ [] (R3.new_settled hq) ⟨rfl, q, _, rfl, upd_same, (hd3.cut l r).mono (upd_keep (R3.gf hq))⟩ (s1.trans (s2.trans (s3.trans (upd_keep (R3.gf hq))))) (fun c hc => (upd_ne (R3.xne hq hc)).trans (sx c hc)) fun z => (sh z).trans (upd_keep hq)
        | _ => exact h.elim
end
end Mir

set_option Elab.async false
set_option linter.all false
set_option maxRecDepth 100000
set_option maxHeartbeats 400000
/-! A list's index(x), x data of any depth. -/
namespace Mir
open PySem PySem.Spec PyProof.Rows L2 He
def eqIxD (y : PyData) : List PyData → Option Nat
  | [] => none
  | z :: r => if PyData.eqv z y = true then some 0 else (eqIxD y r).map (· + 1)
theorem eqIxD_ok {y : PyData} : ∀ {l : List PyData} {j : Nat}, eqIxD y l = some j → ∃ z, l[j]? = some z ∧ PyData.eqv z y = true ∧ ∀ (m : Nat) (z' : PyData), m < j → l[m]? = some z' → PyData.eqv z' y = false
  | [], _, e => by cases e
  | z :: r, j, e => by
    unfold eqIxD at e
    split at e
    · rename_i h
      cases e
      exact ⟨z, rfl, h, fun m _ hm => absurd hm (Nat.not_lt_zero m)⟩
    · rename_i h
      cases er : eqIxD y r with
      | none => rw [er] at e; cases e
      | some j' =>
        rw [er] at e; cases e
        obtain ⟨w, h1, h2, h3⟩ := eqIxD_ok er
        refine ⟨w, by simpa using h1, h2, fun m z' hm hz => ?_⟩
        cases m with
        | zero =>
          simp at hz
          subst hz
          simpa using h
        | succ m => exact h3 m z' (Nat.lt_of_succ_lt_succ hm) (by simpa using hz)
def lsPy : PyData → Option (List PyData)
  | .list ds => some ds
  | _ => none
def fIndexD (l as : List Dt) : Option Dt := (one1 as).bind fun a => (shp a).bind fun y => ((shp (.lst l)).bind lsPy).bind fun ys => (eqIxD y ys).map fun j : Nat => Dt.int (j : Int)
def mIndexD (fo : Ev → Rs Dt) (fa : Ev → Rs (List Dt)) : Ev → Rs Dt := fun ε => (fo ε).bind fun d ε1 => (mOpt (lstD d) ε1).bind fun l ε1 => (fa ε1).bind fun as ε2 => mOpt (fIndexD l as) ε2
section
variable {X : Cx} {C : Cn} {p p1 : Bool} {o e : Expr} {es : List Expr} {apos cpos : Pos} {fo : Ev → Rs Dt} {fa : Ev → Rs (List Dt)}
theorem de_indexD (hu : X.A.units + 65 < cLine) (ho : DE X C (.o 0) p1 o fo) (ha : DA X C p [e] fa)
    (hbase : attributeBase o "index" X.env (eval o X.env) = eval o X.env := by rfl)
    (hfew : ((backTo cpos (starEach (e :: []) X.env)).all (fun x => !x.1) && (backToKw cpos (keywordEach [] X.env)).all (fun x => x.1.isSome)
      && decide ((e :: ([] : List Expr)).length + ([] : List Keyword).length + (if ([] : List Keyword).isEmpty then 0 else 1) < 30)) = true := by rfl)
    (hline : (apos.endLine == cpos.line) = true := by rfl) (hst : starEach (e :: []) X.env = (false, eval e X.env) :: starEach [] X.env := by rfl) (hplain : (backTo cpos (starEach [] X.env)).any (·.1) = false := by rfl) :
    DE X C (.o 0) (p1 && p) (.Call (.Attribute o "index" apos) (e :: []) [] cpos) (mIndexD fo fa) := by
  obtain ⟨t, h1, h2⟩ := ho
  obtain ⟨u, h3, h4⟩ := ha
  refine ⟨_, pe_bm PySem.F.plainAttrs_list PySem.F.slot_list_index PySem.F.type_list_index (mt_indexD hu) h1 h3 hbase hfew hline hst hplain, fun A G ε σ H xs Q hA R h => h2 A G ε σ H xs _ hA R ?_⟩
  unfold mIndexD at h
  cases e1 : fo ε with
  | no => rw [e1] at h; exact h
  | er x ε1 => rw [e1] at h; exact h
  | ok d1 ε1 =>
    rw [e1] at h
    rintro v1 H1 G1 fp R1 ⟨rfl, r1⟩ s1 hx1 hh1
    replace h : EPost X.K C A (.o 0) (p1 && p) G H σ xs ((mOpt (lstD d1) ε1).bind fun l ε1 => (fa ε1).bind fun as ε2 => mOpt (fIndexD l as) ε2) Q := h
    cases el : lstD d1 with
    | none => rw [el] at h; exact h.elim
    | some l =>
      rw [el] at h
      replace h : EPost X.K C A (.o 0) (p1 && p) G H σ xs ((fa ε1).bind fun as ε2 => mOpt (fIndexD l as) ε2) Q := h
      obtain rfl := lstD_eq el
      have r0 := r1
      obtain ⟨a, vs, rfl, ea, hd⟩ := r1
      refine ⟨.inl ⟨rfl, vs, .inl (.inl (R1.sub _ _ ea))⟩, h4 A G1 ε1 σ H1 xs _ hA R1 ?_⟩
      cases e2 : fa ε1 with
      | no => rw [e2] at h; exact h
      | er x ε2 => rw [e2] at h; exact ErP.mono s1 h
      | ok as ε2 =>
        rw [e2] at h
        intro us H2 G2 R2 ha s2 hx2 hh2
        replace h : EPost X.K C A (.o 0) (p1 && p) G H σ xs (mOpt (fIndexD l as) ε2) Q := h
        cases ef : fIndexD l as with
        | none => rw [ef] at h; exact h.elim
        | some z0 =>
          rw [ef] at h
          unfold fIndexD at ef
          obtain ⟨b, e0, ef⟩ := Option.bind_eq_some_iff.mp ef
          obtain ⟨y, e3, ef⟩ := Option.bind_eq_some_iff.mp ef
          obtain ⟨ys, e4, ef⟩ := Option.bind_eq_some_iff.mp ef
          obtain ⟨q, e5, e6⟩ := Option.bind_eq_some_iff.mp e4
          obtain ⟨j, e7, rfl⟩ := Option.map_eq_some_iff.mp ef
          rw [one1_eq e0] at ha
          obtain ⟨w, rfl, hw⟩ := ha.one
          obtain ⟨z, z1, z2, z3⟩ := eqIxD_ok e7
          cases q with
          | list ds =>
            cases e6
            exact ⟨a, w, y, ys, j, z, rfl, rfl, toPy_dp ((r0.mono s2).mono R2.sub) (shp_ok e5).1, toPy_dp (hw.mono R2.sub) (shp_ok e3).1, (shp_ok e5).2, (shp_ok e3).2, z1, z2, z3, h (.int (j : Int)) H2 G2 [] R2 ⟨rfl, rfl⟩ (s1.trans s2) (fun c hc => (hx2 c hc).trans (hx1 c hc)) fun z => (hh1 (Bool.and_eq_true_iff.mp z).1).trans (hh2 (Bool.and_eq_true_iff.mp z).2)⟩
          | _ => cases e6
end
end Mir

set_option Elab.async false
set_option linter.all false
set_option maxRecDepth 100000
set_option maxHeartbeats 1000000
/-! A set of ints written as a comprehension over two sources: own rule, after the library's pattern for lists. -/
namespace Mir
open PySem PySem.Spec PyProof.Rows L2 He
section
variable {pr : Program} {wd : World} {Ar : Around} {Z : Result → Shared → Prop} {s0 : Shared} {el ga ia gb ib : Expr} {sc : Scope} {ps : Pos} {itr dst : Value} {ev : Env}
/-- the comprehension's expression -/
abbrev sc2 (el ga ia gb ib : Expr) (sc : Scope) (ps : Pos) : Expr := .SetComp el [⟨ga, ia, [], 0⟩, ⟨gb, ib, [], 0⟩] sc ps
/-- what an error there does -/
abbrev nby (pr : Program) (wd : World) (Ar : Around) (ev : Env) (Z : Result → Shared → Prop) : Value → Shared → Prop := notedBy (model pr wd) Ar ev fun x q => Z (.error x) q
theorem sc2_turn0 : compTurn (sc2 el ga ia gb ib sc ps) 0 itr dst ev = (do
      standAt ia.pos
      match ← pyNext itr with
      | none => pure (.done .next)
      | some v => do
        letOwnedTupleGo ga itr v
        assign ga ev v
        let y ← eval ib ev
        standAt ib.pos
        let y ← foldedSetIterable ib ev y
        let _ ← runOwn (.compStart (sc2 el ga ia gb ib sc ps) 1 (← holding [y] (pyIter y)) dst ev) ev
        again (.compLoop (sc2 el ga ia gb ib sc ps) 0 itr dst ev)) := by rfl
theorem sc2_turn1 : compTurn (sc2 el ga ia gb ib sc ps) 1 itr dst ev = (do
      standAt ib.pos
      match ← pyNext itr with
      | none => pure (.done .next)
      | some v => do
        letOwnedTupleGo gb itr v
        assign gb ev v
        (do let y ← eval el ev; standAt el.pos; let _ ← call (.builtin "set.add") [dst, y])
        again (.compLoop (sc2 el ga ia gb ib sc ps) 1 itr dst ev)) := by rfl
/-- the first source's turns -/
theorem sc2_loop0 (hf : ∀ x, foldedSetIterable ib ev x = pure x) (Iv : Nat → Shared → Prop)
    (step : ∀ k q, Iv k q → wpAny (model pr wd) Ar (pyNext itr) (fun r q1 => match r with
      | none => Z (.ok .next) q1
      | some v => wpAny (model pr wd) Ar (letOwnedTupleGo ga itr v) (fun _ q2 => wpAny (model pr wd) Ar (assign ga ev v) (fun _ q3 => wpAny (model pr wd) Ar (eval ib ev) (fun y q4 =>
          wpAny (model pr wd) Ar (pyIter y) (fun jt q5 => codeAny (model pr wd) Ar (.compStart (sc2 el ga ia gb ib sc ps) 1 jt dst ev) (fun r q6 => match r with
            | .ok _ => ∃ j, j < k ∧ Iv j q6
            | .error _ => False) q5) (nby pr wd Ar ev Z) q4) (nby pr wd Ar ev Z) q3) (nby pr wd Ar ev Z) q2) (nby pr wd Ar ev Z) q1) (nby pr wd Ar ev Z) q)
    (k0 : Nat) (h0 : Iv k0 s0) : codeAny (model pr wd) Ar (.compLoop (sc2 el ga ia gb ib sc ps) 0 itr dst ev) Z s0 := by
  refine codeAny_loop rfl Iv (fun k q hk => ?_) k0 h0
  show wpAny _ Ar ((compTurn (sc2 el ga ia gb ib sc ps) 0 itr dst ev).onRaise (fun e => do noteFrame e ev; theTreesLotGoes e)) _ _ q
  refine wpAny_noted ?_
  rw [sc2_turn0]
  refine wpAny_bind (wpAny_standAt (wpAny_bind (wpAny_mono (step k q hk) (fun r q1 h1 => ?_) fun _ _ z => z)))
  cases r with
  | none => exact wpAny_pure h1
  | some v =>
    refine wpAny_bind (wpAny_mono h1 (fun _ q2 h2 => wpAny_bind (wpAny_mono h2 (fun _ q3 h3 => wpAny_bind (wpAny_mono h3 (fun y q4 h4 => ?_) fun _ _ z => z)) fun _ _ z => z)) fun _ _ z => z)
    refine wpAny_bind (wpAny_standAt (wpAny_bind (wpAny_of_eq (hf y) (wpAny_bind (wpAny_holding (wpAny_mono h4 (fun jt q5 h5 => wpAny_bind (wpAny_runOwn ?_)) fun _ _ z => z))))))
    rw [Around.mark_none]
    refine codeAny_mono h5 fun o q6 ho => ?_
    cases o with
    | ok f => exact wpAny_pure ⟨rfl, ho⟩
    | error e => exact ho.elim
/-- the second source's turns -/
theorem sc2_loop1 (Iv : Nat → Shared → Prop)
    (step : ∀ k q, Iv k q → wpAny (model pr wd) Ar (pyNext itr) (fun r q1 => match r with
      | none => Z (.ok .next) q1
      | some v => wpAny (model pr wd) Ar (letOwnedTupleGo gb itr v) (fun _ q2 => wpAny (model pr wd) Ar (assign gb ev v) (fun _ q3 => wpAny (model pr wd) Ar (eval el ev) (fun y q4 =>
          wpAny (model pr wd) Ar (call (.builtin "set.add") [dst, y]) (fun _ q5 => ∃ j, j < k ∧ Iv j q5) (nby pr wd Ar ev Z) q4) (nby pr wd Ar ev Z) q3) (nby pr wd Ar ev Z) q2) (nby pr wd Ar ev Z) q1) (nby pr wd Ar ev Z) q)
    (k0 : Nat) (h0 : Iv k0 s0) : codeAny (model pr wd) Ar (.compLoop (sc2 el ga ia gb ib sc ps) 1 itr dst ev) Z s0 := by
  refine codeAny_loop rfl Iv (fun k q hk => ?_) k0 h0
  show wpAny _ Ar ((compTurn (sc2 el ga ia gb ib sc ps) 1 itr dst ev).onRaise (fun e => do noteFrame e ev; theTreesLotGoes e)) _ _ q
  refine wpAny_noted ?_
  rw [sc2_turn1]
  refine wpAny_bind (wpAny_standAt (wpAny_bind (wpAny_mono (step k q hk) (fun r q1 h1 => ?_) fun _ _ z => z)))
  cases r with
  | none => exact wpAny_pure h1
  | some v =>
    refine wpAny_bind (wpAny_mono h1 (fun _ q2 h2 => wpAny_bind (wpAny_mono h2 (fun _ q3 h3 => ?_) fun _ _ z => z)) fun _ _ z => z)
    exact wpAny_bind (wpAny_bind (wpAny_mono h3 (fun y q4 h4 => wpAny_bind (wpAny_standAt (wpAny_bind (wpAny_mono h4 (fun _ q5 h5 => wpAny_pure (wpAny_pure ⟨rfl, h5⟩)) fun _ _ z => z)))) fun _ _ z => z))
/-- the second source's start -/
theorem sc2_start1 (h0 : codeAny (model pr wd) Ar (.compLoop (sc2 el ga ia gb ib sc ps) 1 itr dst ev) Z s0)
    (h1 : wpAny (model pr wd) Ar (pyIter itr) (fun jt q => codeAny (model pr wd) Ar (.compLoop (sc2 el ga ia gb ib sc ps) 1 jt dst ev) Z q) (nby pr wd Ar ev Z) s0) :
    codeAny (model pr wd) Ar (.compStart (sc2 el ga ia gb ib sc ps) 1 itr dst ev) Z s0 := by
  refine codeAny_of_tree ?_
  show wpAny _ _ ((compStart (sc2 el ga ia gb ib sc ps) 1 itr dst ev).onRaise (fun e => do noteFrame e ev; standAt theWindowsPlace)) _ _ s0
  refine wpAny_notedAt ?_
  unfold compStart
  show wpAny _ _ (ask >>= _) _ _ s0
  refine wpAny_bind (wpAny_askSetting (wpAny_ite ?_))
  split
  · first
      | exact wpAny_pure ⟨rfl, h0⟩
      | exact wpAny_bind (wpAny_pure (wpAny_pure ⟨rfl, h0⟩))
  · first
      | exact wpAny_bind (wpAny_rule (wpAny_bind (wpAny_standAt (wpAny_bind (wpAny_mono h1 (fun jt q z => wpAny_pure ⟨rfl, z⟩) fun _ _ z => z)))))
      | (refine wpAny_bind (wpAny_rule ?_); show wpAny _ _ (standAt ib.pos >>= _) _ _ s0; exact wpAny_bind (wpAny_standAt (wpAny_bind (wpAny_mono h1 (fun jt q z => wpAny_pure ⟨rfl, z⟩) fun _ _ z => z))))
end
/-- what such a set asks: behind the first source's store the second source's own loop -/
def tSet2 (w : World) (wi : TI) (g : TG) (wj : TI) (gj : TG) (te : TE) (vs ws : List Nat) : TE := fun σ H Q => wi σ H fun J Ha => ∀ D, Ha D = none → ∃ Wo : Nat → Nat → Hp → Prop, (∃ m, Wo 0 m (upd Ha D (SetO w D (fun _ => false) 0))) ∧ ∀ i m Hb, Wo i m Hb →
  (J.stop i Hb ∧ Q (.ref D) Hb) ∨ (J.go i Hb ∧ ∃ Na : Hp → Prop, (∀ Hc, Na Hc → ∃ l, l < m ∧ Wo (i + 1) l Hc) ∧ ∀ x Hc, J.yld i Hb x Hc → g x (wipe σ vs) Hc fun σa Hd => wipe σa vs = wipe σ vs ∧ wj σa Hd fun Jj He =>
    ∃ Wi : Nat → Nat → Hp → Prop, (∃ m, Wi 0 m He) ∧ ∀ j k Hf, Wi j k Hf → (Jj.stop j Hf ∧ Na Hf) ∨ (Jj.go j Hf ∧ ∃ Nb : Hp → Prop, (∀ Hg, Nb Hg → ∃ l, l < k ∧ Wi (j + 1) l Hg) ∧ ∀ y Hg, Jj.yld j Hf y Hg → gj y (wipe σa ws) Hg fun σb Hh => wipe σb ws = wipe σa ws ∧
      te σb Hh fun z Hk => ∃ (c : Int) (S : Int → Bool) (n : Nat), z = .int c ∧ Hk D = some (SetO w D S n) ∧ n + 1 < scanBound ∧ Nb (upd Hk D (SetO w D (fun j => S j || decide (j = c)) (if S c = true then n else n + 1)))))
section
variable {X : Cx}
theorem set2_core {pn : List (Addr × Obj)} {sh : Shared} {σ : L2.St} {H : Hp} {Q : VK} {el ga ia gb ib : Expr} {sc : Scope} {own : List (Str × Nat)} {ws : List Nat} {ps ps' : Pos} {wi wj : TI} {g gj : TG} {te : TE} {use : Option (Value → Sem Unit)} {Qf : Value → Shared → Prop}
    (hc : X.calm = true) (hN : X.N.Nodup) (I0 : Inv X pn σ H sh) (hi : PI X ga ia wi) (ok : BlkOk X.N X.env.scope sc own) (hv : ∀ i ∈ ws, i ∈ own.map (·.2))
    (cg : ∀ (q : Shared) (Hq : Hp) (c : Addr) (cl : List (Str × Addr)) (fp : List Addr), PG (X.blk q Hq sc (compEnvC sc cl c X.env) fp) ga g)
    (cj : ∀ (q : Shared) (Hq : Hp) (c : Addr) (cl : List (Str × Addr)) (fp : List Addr), PI (X.blk q Hq sc (compEnvC sc cl c X.env) fp) gb ib wj)
    (cgj : ∀ (q : Shared) (Hq : Hp) (c : Addr) (cl : List (Str × Addr)) (fp : List Addr), PG (X.blk q Hq sc (compEnvC sc cl c X.env) fp) gb gj)
    (ce : ∀ (q : Shared) (Hq : Hp) (c : Addr) (cl : List (Str × Addr)) (fp : List Addr), PE (X.blk q Hq sc (compEnvC sc cl c X.env) fp) el te)
    (hf : ∀ x, foldedSetIterable ia X.env x = pure x) (hf1 : ∀ e x, foldedSetIterable ib e x = pure x)
    (h : tSet2 X.w wi g wj gj te (own.map (·.2)) ws σ H Q)
    (back : ∀ D c q m Hq, Inv X pn σ Hq q → Q (.ref D) Hq → q.heap.Ns c m → FpOk X pn Hq c → compPost (model X.prog X.w) X.A X.xe use Qf (.ref D) c (.ok .next) q) :
    wpAny (model X.prog X.w) X.A (comprehension (sc2 el ga ia gb ib sc ps) sc X.env ps' (newSet (.type "set")) false (eval ia X.env) use) Qf X.xe sh := by
  have seen : ∀ y ∈ sc.names, y.2 = .free → ∃ c, X.env.cells.lookup y.1 = some c := fun y hy e => (ok.free y hy e).elim (fun k => I0.ok.has _ (.inl k)) fun k => I0.ok.has _ (.inr k)
  refine wpAny_comprehension_free (use := use) rfl hf (closure_ok seen) ok.kind (fun y hy e => by rw [ok.uniq y hy, e]) (thn (hi.run pn sh σ H _ I0 h) fun _ q1 hx => thn hx fun _ q2 hx2 => ?_)
  obtain ⟨it, fp, tn, J, H2, rfl, I2, T, t2, f2, ask⟩ := hx2
  refine PpSet.newSet_ok (newEnv_comp ?_)
  obtain ⟨D, eD⟩ : ∃ D, q2.heap.objs.size = D := ⟨_, rfl⟩
  rw [eD]
  have fD : H2 D = none := I2.hok.fresh (Nat.le_of_eq eD)
  obtain ⟨Wo, ⟨m0, w0⟩, turn⟩ := ask D fD
  obtain ⟨q3, e3⟩ : ∃ q3 : Shared, { q2 with heap := q2.heap.push { cls := .type "set", dict := none, data := .set #[] 0 (.fresh 0 0 (!X.w.params.followText "set-order")) } } = q3 := ⟨_, rfl⟩
  rw [e3]
  have hp3 : q3.heap = q2.heap.push { cls := .type "set", dict := none, data := .set #[] 0 (.fresh 0 0 (!X.w.params.followText "set-order")) } := by rw [← e3]
  obtain ⟨H3, eH3⟩ : ∃ H3, H3 = upd H2 D (SetO X.w D (fun _ => false) 0) := ⟨_, rfl⟩
  have I3 : Inv X pn σ H3 q3 := by
    rw [eH3, ← e3]
    exact I2.laid (t' := q2.toks) (fun b o z => Heap.get?_push_of_some _ z) (Nat.le_of_eq eD) (by rw [← eD]; exact setO_new (setR_fresh X.w))
  have lt2 : ∀ b ∈ fp, b < q2.heap.objs.size := fun b hb => let ⟨_, z, _⟩ := T.obj _ _ t2 b hb; Heap.lt_size z
  have f3 : ∀ b ∈ fp, FpOk X pn H3 b ∧ b < q3.heap.objs.size := fun b hb => by
    have l := lt2 b hb
    refine ⟨⟨?_, (f2 b hb).2⟩, by rw [hp3, Heap.size_push]; exact Nat.lt_succ_of_lt l⟩
    rw [eH3, upd_ne (by rw [← eD]; exact Nat.ne_of_lt l)]
    exact (f2 b hb).1
  have t3 : tn 0 q3.heap := T.keep _ _ _ t2 fun b _ o z => by rw [hp3]; exact Heap.get?_push_of_some _ z
  have I4 := block_start I3 ok hN f3
  obtain ⟨cl, ecl⟩ : ∃ cl, cl = cellsFrom (q3.heap.objs.size + 1) sc.names (cloFrom X.env.cells sc.names []) := ⟨_, rfl⟩
  obtain ⟨en, een⟩ : ∃ en, en = compEnvC sc cl q3.heap.objs.size X.env := ⟨_, rfl⟩
  obtain ⟨q4, e4⟩ : ∃ q4 : Shared, q4 = { q3 with heap := pushCells (q3.heap.push { cls := .type "dict", data := .dict #[] }) sc.names } := ⟨_, rfl⟩
  rw [← ecl, ← een, ← e4] at I4
  have Pg := cg q3 H3 q3.heap.objs.size cl fp
  have Pj := cj q3 H3 q3.heap.objs.size cl fp
  have Pgj := cgj q3 H3 q3.heap.objs.size cl fp
  have Pe := ce q3 H3 q3.heap.objs.size cl fp
  rw [← een] at Pg Pj Pgj Pe
  have loc : en.locals = q3.heap.objs.size := by rw [een]; rfl
  have none3 : ∀ b ∈ fp, H3 b = none := fun b hb => (f3 b hb).1.1
  have t4 : tn 0 q4.heap := T.keep _ _ _ t3 fun b _ o z => by rw [e4]; exact pushCells_keeps _ _ _ _ (Heap.get?_push_of_some _ z)
  have still : ∀ {τ : L2.St} {Hq : Hp} {q : Shared}, Inv (X.blk q3 H3 sc en fp) [] τ Hq q → (∀ b ∈ fp, Hq b = none) → ∀ b ∈ fp, FpOk (X.blk q3 H3 sc en fp) [] Hq b := fun {τ Hq q} Iq hn b hb =>
    ⟨hn b hb, (Iq.ok.exf b hb).1, Iq.ok.exfs b hb, .inl hb, fun x c z => (Iq.ok.exf b hb).2 x c z, fun p hp => absurd (show p ∈ ([] : List (Addr × Obj)) ++ [] from hp) (by simp)⟩
  show codeAny _ _ (.compStart (sc2 el ga ia gb ib sc ps) 0 (.ref it) (.ref D) (compEnvC sc (cellsFrom (q3.heap.objs.size + 1) sc.names (cloFrom X.env.cells sc.names [])) q3.heap.objs.size X.env)) (compPost (model X.prog X.w) X.A X.xe use Qf (.ref D) q3.heap.objs.size) { q3 with heap := pushCells (q3.heap.push { cls := .type "dict", data := .dict #[] }) sc.names }
  rw [← ecl, ← een, ← e4]
  have turns : codeAny (model X.prog X.w) X.A (.compLoop (sc2 el ga ia gb ib sc ps) 0 (.ref it) (.ref D) en) (compPost (model X.prog X.w) X.A X.xe use Qf (.ref D) q3.heap.objs.size) q4 := by
    refine sc2_loop0 (hf1 en) (fun k q => ∃ i Hq, Inv (X.blk q3 H3 sc en fp) [] (wipe σ (own.map (·.2))) Hq q ∧ tn i q.heap ∧ (∀ b ∈ fp, Hq b = none) ∧ Wo i k Hq) ?_ m0 ⟨0, H3, I4, t4, none3, by rw [eH3]; exact w0⟩
    rintro k q5 ⟨i, H5, I5, t5, n5, w5⟩
    rcases turn i k H5 w5 with ⟨stop, fine⟩ | ⟨go, Na, hNa, each⟩
    · refine thnF (T.done (X.blk q3 H3 sc en fp) rfl rfl rfl hc i [] q5 _ H5 (fun _ _ => False) I5 (still I5 n5) t5 stop) fun r q6 ⟨hr, I6⟩ => ?_
      subst hr
      have I7 : Inv X pn σ H5 q6 := I3.call' (ch := fp) I6.os I6.base I6.hok I6.bare fun b hb => let z := (f3 b hb).1.2; ⟨z.2.2.1, z.1, z.2.2.2.1, z.2.2.2.2⟩
      have fr : H5 q3.heap.objs.size = none := loc ▸ (show H5 en.locals = none from I6.free)
      obtain ⟨m, hn, _⟩ := I6.loc
      exact back D q3.heap.objs.size q6 m H5 I7 fine (loc ▸ (show q6.heap.Ns en.locals m from hn)) (I3.fpOk (Nat.le_refl _) fr)
    · refine thnF (T.item (X.blk q3 H3 sc en fp) rfl rfl rfl hc i [] q5 _ H5 (fun _ _ => False) I5 (still I5 n5) t5 go) fun r q6 ⟨u, hr, h6⟩ => ?_
      subst hr
      refine thnF h6 fun _ q7 ⟨x, H7, I7, rx, yx, t7, n7⟩ => ?_
      have I7p := I7.pinned (still I7 n7) (T.obj _ _ t7)
      obtain ⟨pa, epa⟩ : ∃ pa, pa = [] ++ pinsAt fp q7.heap := ⟨_, rfl⟩
      rw [← epa] at I7p
      refine thnF (Pg.run pa q7 _ H7 x u _ I7p rx (each x H7 yx)) fun _ q8 ⟨σ8, H8, I8, hw8, ask8⟩ => ?_
      -- back to a turn's start
      have fin : ∀ {τ : L2.St} {q : Shared} {Hq : Hp}, Inv (X.blk q3 H3 sc en fp) pa τ Hq q → (wipe σ (own.map (·.2))).length = τ.length → (∀ (j : Nat) v, (wipe σ (own.map (·.2)))[j]? = some (some v) → τ[j]? = some (some v)) → Na Hq →
          ∃ l, l < k ∧ ∃ i Hr, Inv (X.blk q3 H3 sc en fp) [] (wipe σ (own.map (·.2))) Hr q ∧ tn i q.heap ∧ (∀ b ∈ fp, Hr b = none) ∧ Wo i l Hr := fun {τ q Hq} Iq hl hk hna => by
        obtain ⟨l, hl2, hw⟩ := hNa Hq hna
        rw [epa] at Iq
        have kept : ∀ b ∈ fp, ∀ o, q7.heap.get? b = some o → q.heap.get? b = some o ∧ Hq b = none := fun b hb o z =>
          let y := Iq.pin (b, o) (List.mem_append_right _ (List.mem_append_right _ (mem_pinsAt hb z)))
          ⟨y.1, y.2.1⟩
        exact ⟨l, hl2, i + 1, Hq, (Iq.unpinned (pins := [])).weak hl hk, T.keep _ _ _ t7 fun b hb o z => (kept b hb o z).1, fun b hb => let ⟨o, z, _⟩ := T.obj _ _ t7 b hb; (kept b hb o z).2, hw⟩
      have len8 : (wipe σ (own.map (·.2))).length = σ8.length := by rw [← hw8, wipe_length]
      have kn8 : ∀ (j : Nat) v, (wipe σ (own.map (·.2)))[j]? = some (some v) → (wipe σ8 ws)[j]? = some (some v) := fun j v z => by
        rw [← hw8] at z
        have y := wipe_some z
        rw [wipe_out fun w => y.2 (hv j w)]
        exact y.1
      refine thnF (Pj.run pa q8 σ8 H8 _ I8 ask8) fun _ q9 hx => thnF hx fun _ q10 hx2 => ?_
      obtain ⟨jt, fq, tm, Jj, H10, rfl, I10, Tj, t10, f10, Wi, ⟨m1, w1⟩, turn1⟩ := hx2
      have stillj : ∀ {Hq : Hp}, (∀ b ∈ fq, Hq b = none) → ∀ b ∈ fq, FpOk (X.blk q3 H3 sc en fp) pa Hq b := fun hn b hb => ⟨hn b hb, (f10 b hb).2⟩
      have inner : codeAny (model X.prog X.w) X.A (.compLoop (sc2 el ga ia gb ib sc ps) 1 (.ref jt) (.ref D) en) (fun r q => match r with
          | .ok _ => ∃ l, l < k ∧ ∃ i Hr, Inv (X.blk q3 H3 sc en fp) [] (wipe σ (own.map (·.2))) Hr q ∧ tn i q.heap ∧ (∀ b ∈ fp, Hr b = none) ∧ Wo i l Hr
          | .error _ => False) q10 := by
        refine sc2_loop1 (fun c q => ∃ j Hq, Inv (X.blk q3 H3 sc en fp) pa (wipe σ8 ws) Hq q ∧ tm j q.heap ∧ (∀ b ∈ fq, Hq b = none) ∧ Wi j c Hq) ?_ m1 ⟨0, H10, I10.weak (wipe_length _ _) (fun j v z => (wipe_some z).1), t10, fun b hb => (f10 b hb).1, w1⟩
        rintro c q11 ⟨j, H11, I11, t11, n11, w11⟩
        rcases turn1 j c H11 w11 with ⟨stopj, nx⟩ | ⟨goj, Nb, hNb, eachj⟩
        · refine thnF (Tj.done (X.blk q3 H3 sc en fp) rfl rfl rfl hc j pa q11 (wipe σ8 ws) H11 (fun _ _ => False) I11 (stillj n11) t11 stopj) fun r q12 ⟨hr, I12⟩ => ?_
          subst hr
          exact fin I12 (len8.trans (wipe_length σ8 ws).symm) kn8 nx
        · refine thnF (Tj.item (X.blk q3 H3 sc en fp) rfl rfl rfl hc j pa q11 (wipe σ8 ws) H11 (fun _ _ => False) I11 (stillj n11) t11 goj) fun r q12 ⟨v1, hr, h12⟩ => ?_
          subst hr
          refine thnF h12 fun _ q13 ⟨y, H13, I13, ry, yy, t13, n13⟩ => ?_
          have I13p := I13.pinned (stillj n13) (Tj.obj _ _ t13)
          refine thnF (Pgj.run _ q13 (wipe σ8 ws) H13 y v1 _ I13p ry (eachj y H13 yy)) fun _ q14 ⟨σ14, H14, I14, hw14, ask14⟩ => ?_
          refine thnF (Pe.run _ q14 σ14 H14 _ I14 ask14) fun zv q15 ⟨z, H15, I15, rz, cI, S, nS, ez, hD, room, nx⟩ => ?_
          subst ez
          refine thnF (mt_sadd (X := (X.blk q3 H3 sc en fp)) _ q15 σ14 H15 (.ref D) [.int cI] (.ref D) [zv] (fun _ Hq => Nb Hq) I15 rfl (.cons rz .nil) ⟨D, cI, S, nS, rfl, rfl, hD, room, nx⟩) fun _ q16 ⟨_, H16, I16, _, nx16⟩ => ?_
          obtain ⟨l, hl2, hw⟩ := hNb H16 nx16
          have kept : ∀ b ∈ fq, ∀ o, q13.heap.get? b = some o → q16.heap.get? b = some o ∧ H16 b = none := fun b hb o z =>
            let y := I16.pin (b, o) (List.mem_append_right _ (List.mem_append_right _ (mem_pinsAt hb z)))
            ⟨y.1, y.2.1⟩
          exact ⟨l, hl2, j + 1, H16, I16.unpinned.weak (by rw [← hw14, wipe_length]) (fun j v z => by rw [← hw14] at z; exact (wipe_some z).1), Tj.keep _ _ _ t13 fun b hb o z => (kept b hb o z).1, fun b hb => let ⟨o, z, _⟩ := Tj.obj _ _ t13 b hb; (kept b hb o z).2, hw⟩
      exact sc2_start1 inner (Tj.self X.A 0 _ _ _ t10 inner)
  exact PpSet.codeAny_compStart_set turns (T.self X.A 0 _ _ _ t4 turns)
end
end Mir

set_option Elab.async false
set_option linter.all false
set_option maxRecDepth 100000
set_option maxHeartbeats 1000000
/-! sorted of a set of ints that is made over two sources. -/
namespace Mir
open PySem PySem.Spec PyProof.Rows L2 He
section
variable {X : Cx} {pn : List (Addr × Obj)}
theorem pe_set2 {el ga ia gb ib : Expr} {sc : Scope} {own : List (Str × Nat)} {ws : List Nat} {ps : Pos} {wi wj : TI} {g gj : TG} {te : TE} (hc : X.calm = true) (hN : X.N.Nodup) (hi : PI X ga ia wi) (ok : BlkOk X.N X.env.scope sc own) (hv : ∀ i ∈ ws, i ∈ own.map (·.2))
    (cg : ∀ (q : Shared) (Hq : Hp) (c : Addr) (cl : List (Str × Addr)) (fp : List Addr), PG (X.blk q Hq sc (compEnvC sc cl c X.env) fp) ga g)
    (cj : ∀ (q : Shared) (Hq : Hp) (c : Addr) (cl : List (Str × Addr)) (fp : List Addr), PI (X.blk q Hq sc (compEnvC sc cl c X.env) fp) gb ib wj)
    (cgj : ∀ (q : Shared) (Hq : Hp) (c : Addr) (cl : List (Str × Addr)) (fp : List Addr), PG (X.blk q Hq sc (compEnvC sc cl c X.env) fp) gb gj)
    (ce : ∀ (q : Shared) (Hq : Hp) (c : Addr) (cl : List (Str × Addr)) (fp : List Addr), PE (X.blk q Hq sc (compEnvC sc cl c X.env) fp) el te)
    (hf : ∀ x, foldedSetIterable ia X.env x = pure x) (hf1 : ∀ e x, foldedSetIterable ib e x = pure x) : PE X (sc2 el ga ia gb ib sc ps) (tSet2 X.w wi g wj gj te (own.map (·.2)) ws) := by
  refine ⟨fun pn q σ H Q I h => ?_⟩
  rw [PpSet.eval_SetComp]
  refine set2_core hc hN I hi ok hv cg cj cgj ce hf hf1 h fun D c r m Hq Iq hq hn z => ⟨m, hn, fun h'' sb => ?_⟩
  obtain ⟨z0, z1, z2, z3, z4, z5⟩ := z
  exact ⟨.ref D, Hq, Iq.turned (t' := r.toks) (fun b o hb e => (sb.2 b hb).trans e) z0 z1 z3 z4 z5, rfl, hq⟩
end
def addI (c : Int) (dis : List Int) : List Int := if c ∈ dis then dis else dis ++ [c]
def asI : Dt → Option Int
  | .int c => some c
  | _ => none
def setL1 (ws : List Nat) (tj : Dt → Ev → Rs Unit) (f : Ev → Rs Dt) : List Dt → List Int → Ev → Rs (List Int)
  | [], dis, ε => .ok dis ε
  | d :: r, dis, ε => (tj d ε).bind fun _ ε1 => (f ε1).bind fun y ε2 => (mOpt (asI y) ε2).bind fun c ε2 => if dis.length + 1 < scanBound then setL1 ws tj f r (addI c dis) (wipeE ε2 ws) else .no
def setL0 (vs ws : List Nat) (t : Dt → Ev → Rs Unit) (jt : Ev → Rs (List Dt)) (tj : Dt → Ev → Rs Unit) (f : Ev → Rs Dt) : List Dt → List Int → Ev → Rs (List Int)
  | [], dis, ε => .ok dis ε
  | d :: r, dis, ε => (t d ε).bind fun _ ε1 => (jt ε1).bind fun es ε2 => (setL1 ws tj f es dis (wipeE ε2 ws)).bind fun dis' ε3 => setL0 vs ws t jt tj f r dis' (wipeE ε3 vs)
def sfin (vs : List Nat) (ε1 : Ev) (r : Rs (List Int)) : Rs Dt := match r with
  | .ok dis ε2 => if dis.length < 64 then .ok (.lst ((srtI dis).map Dt.int)) (backE ε1 (wipeE ε2 vs) vs) else .no
  | _ => .no
def mSortSet2 (vs ws : List Nat) (it : Ev → Rs (List Dt)) (t : Dt → Ev → Rs Unit) (jt : Ev → Rs (List Dt)) (tj : Dt → Ev → Rs Unit) (f : Ev → Rs Dt) : Ev → Rs Dt := fun ε => (it ε).bind fun ds ε1 => sfin vs ε1 (setL0 vs ws t jt tj f ds [] (wipeE ε1 vs))
theorem addI_nd {c : Int} {dis : List Int} (h : dis.Nodup) : (addI c dis).Nodup := by
  unfold addI
  split
  · exact h
  · rename_i hc
    exact List.nodup_append.mpr ⟨h, by simp, fun a ha b hb z => by
      subst z
      obtain rfl : a = c := by simpa using hb
      exact hc ha⟩
theorem addI_mem {c j : Int} {dis : List Int} : j ∈ addI c dis ↔ j ∈ dis ∨ j = c := by
  unfold addI
  split
  · rename_i hc
    constructor
    · exact .inl
    · rintro (h | h)
      · exact h
      · rw [h]; exact hc
  · simp
theorem srtI_of {ns dis : List Int} (h1 : ns.Pairwise (· < ·)) (h2 : dis.Nodup) (h3 : ∀ k, k ∈ ns ↔ k ∈ dis) : ns = srtI dis := by
  have hn : ns.Nodup := h1.imp fun h z => by omega
  have hp : ns.Perm (srtI dis) := ((List.perm_ext_iff_of_nodup hn h2).mpr h3).trans (srtI_perm dis).symm
  exact List.Perm.eq_of_pairwise (fun a b _ _ x y => Int.le_antisymm x y) (h1.imp fun h => Int.le_of_lt h) (srtI_sorted dis) hp
section
variable {K : PySem.W.Frag} {C : Cn} {p p1 p2 : Bool}
theorem tsat_set2 {w : World} {wi wj : TI} {tg tgj : TG} {te : TE} {vs ws tv tw : List Nat} {it jt : Ev → Rs (List Dt)} {t tj : Dt → Ev → Rs Unit} {f : Ev → Rs Dt} {W0 : WX} (hi : TISat K C p wi it) (hg : TGSat K ⟨W0, C.np, C.P⟩ true 0 tv tg t) (hj : TISat K ⟨W0, C.np, C.P⟩ p1 wj jt) (hgj : TGSat K ⟨W0, C.np, C.P⟩ true 0 tw tgj tj)
    (he : TSat K ⟨W0, C.np, C.P⟩ (.o 0) p2 te f) (hv : ∀ j ∈ tv, j ∈ vs) (hw : ∀ j ∈ tw, j ∈ ws) (hws : ∀ j ∈ ws, j ∈ vs) (hn : ∀ j ∈ vs, j ∉ C.np) :
    TSat K C (.o 1) false (tCB (rSortedSet w) (tCons (tSet2 w wi tg wj tgj te vs ws) tNil)) (mSortSet2 vs ws it t jt tj f) := fun A G ε σ H xs Q hA R h => by
  have hA' : A.in_ ⟨W0, C.np, C.P⟩ := hA
  have hf : ∀ q ∈ A.fix, q.1 ∉ vs := fun q hq z => hn _ z (hA.1 q hq)
  have hfw : ∀ q ∈ A.fix, q.1 ∉ ws := fun q hq z => hf q hq (hws _ z)
  refine hi A G ε σ H xs _ hA R ?_
  unfold mSortSet2 at h
  cases e0 : it ε with
  | no => rw [e0] at h; exact h
  | er x ε1 => rw [e0] at h; exact h
  | ok ds ε1 =>
    rw [e0] at h
    replace h : EPost K C A (.o 1) false G H σ xs (sfin vs ε1 (setL0 vs ws t jt tj f ds [] (wipeE ε1 vs))) Q := h
    intro J H1 G1 R1 okI s1 hx1 _ D hD
    have sl : (wipe σ vs).length = σ.length := wipe_length σ vs
    have R2 : RG K A G1 (wipeE ε1 vs) (wipe σ vs) H1 xs := R1.reslot sl (fun j hj => wipe_out hj) hf
    have R3 := R2.new_own (o := SetO w D (fun _ => false) 0) hD
    let OI : Nat → Hp → Prop := fun i H' => ∃ G' ε' dis S n, Same G1 G' ∧ RG K A G' ε' (wipe σ vs) H' (D :: xs) ∧ H' D = some (SetO w D S n) ∧ (∀ j, S j = decide (j ∈ dis)) ∧ n = dis.length ∧ dis.Nodup ∧ (∀ a ∈ xs, H' a = H a) ∧
      EPost K C A (.o 1) false G H σ xs (sfin vs ε1 (setL0 vs ws t jt tj f (ds.drop i) dis ε')) Q
    refine ⟨fun i m H' => m = ds.length - i ∧ i ≤ ds.length ∧ OI i H', ⟨_, rfl, Nat.zero_le _, G1, wipeE ε1 vs, [], fun _ => false, 0, Same.refl _, R3, upd_same, fun j => by simp, rfl, List.nodup_nil, fun a ha => (upd_ne (R2.xne hD ha)).trans (hx1 a ha), h⟩, ?_⟩
    rintro i m H' ⟨rfl, hle, G', ε', dis, S, n, s', R', eD, hS, rfl, hnd, hxx, hq⟩
    by_cases hlt : i < ds.length
    · refine .inr ⟨okI.go i H' hlt (s'.trans R'.sub), OI (i + 1), fun H2 z => ⟨ds.length - (i + 1), by omega, rfl, hlt, z⟩, fun x H2 y => ?_⟩
      obtain ⟨d, hd, yr⟩ := okI.yld i H' x H2 hlt (s'.trans R'.sub) y
      obtain ⟨G2, R2', s2, hx, fx2, _⟩ := yr.step (G' := G1) (H' := H2) R' s'
      refine hg A G2 ε' (wipe σ vs) H2 (D :: xs) [] d x _ hA' R2' ⟨rfl, hx⟩ ?_
      have e1 : ds.drop i = d :: ds.drop (i + 1) := by
        rw [List.drop_eq_getElem_cons hlt]
        rw [List.getElem?_eq_getElem hlt] at hd
        rw [Option.some.inj hd]
      rw [e1] at hq
      unfold setL0 at hq
      cases e2 : t d ε' with
      | no => rw [e2] at hq; exact hq.elim
      | er x ε1 => rw [e2] at hq; exact hq.elim
      | ok u ε2 =>
        rw [e2] at hq
        intro σ3 H3 G3 R3' s3 fx3 hσ3 _
        have l3 : σ3.length = σ.length := hσ3.1.trans sl
        refine ⟨wipe_eq l3 hσ3.2 hv, ?_⟩
        refine hj A G3 ε2 σ3 H3 (D :: xs) _ hA' R3' ?_
        replace hq : EPost K C A (.o 1) false G H σ xs (sfin vs ε1 ((jt ε2).bind fun es ε2 => (setL1 ws tj f es dis (wipeE ε2 ws)).bind fun dis' ε3 => setL0 vs ws t jt tj f (ds.drop (i + 1)) dis' (wipeE ε3 vs))) Q := hq
        cases e3 : jt ε2 with
        | no => rw [e3] at hq; exact hq.elim
        | er x ε1 => rw [e3] at hq; exact hq.elim
        | ok es ε3 =>
          rw [e3] at hq
          replace hq : EPost K C A (.o 1) false G H σ xs (sfin vs ε1 ((setL1 ws tj f es dis (wipeE ε3 ws)).bind fun dis' ε3 => setL0 vs ws t jt tj f (ds.drop (i + 1)) dis' (wipeE ε3 vs))) Q := hq
          intro J1 H4 G4 R4 ok1 s4 fx4 _
          have lw : (wipe σ3 ws).length = σ3.length := wipe_length σ3 ws
          have R5 : RG K A G4 (wipeE ε3 ws) (wipe σ3 ws) H4 (D :: xs) := R4.reslot lw (fun j hj => wipe_out hj) hfw
          have fx : ∀ a ∈ D :: xs, H4 a = H' a := fun a ha => (fx4 a ha).trans ((fx3 a ha).trans (fx2 a ha))
          have s14 : Same G1 G4 := s'.trans (s2.trans (s3.trans s4))
          let II : Nat → Hp → Prop := fun j Hq => ∃ Gq εq dis S n, Same G4 Gq ∧ RG K A Gq εq (wipe σ3 ws) Hq (D :: xs) ∧ Hq D = some (SetO w D S n) ∧ (∀ j, S j = decide (j ∈ dis)) ∧ n = dis.length ∧ dis.Nodup ∧ (∀ a ∈ xs, Hq a = H a) ∧
            EPost K C A (.o 1) false G H σ xs (sfin vs ε1 ((setL1 ws tj f (es.drop j) dis εq).bind fun dis' ε3 => setL0 vs ws t jt tj f (ds.drop (i + 1)) dis' (wipeE ε3 vs))) Q
          refine ⟨fun j m Hq => m = es.length - j ∧ j ≤ es.length ∧ II j Hq, ⟨_, rfl, Nat.zero_le _, G4, wipeE ε3 ws, dis, S, dis.length, Same.refl _, R5, (fx D List.mem_cons_self).trans eD, hS, rfl, hnd, fun a ha => (fx a (List.mem_cons_of_mem _ ha)).trans (hxx a ha), hq⟩, ?_⟩
          rintro j mj Hq ⟨rfl, hlej, Gq, εq, dis2, S2, n2, sq, Rq, eDq, hS2, rfl, hnd2, hxq, hqq⟩
          by_cases hltj : j < es.length
          · refine .inr ⟨ok1.go j Hq hltj (sq.trans Rq.sub), II (j + 1), fun H2 z => ⟨es.length - (j + 1), by omega, rfl, hltj, z⟩, fun xj H6 yj => ?_⟩
            obtain ⟨dj, hdj, yrj⟩ := ok1.yld j Hq xj H6 hltj (sq.trans Rq.sub) yj
            obtain ⟨G6, R6, s6, hxj, fx6, _⟩ := yrj.step (G' := G4) (H' := H6) Rq sq
            refine hgj A G6 εq (wipe σ3 ws) H6 (D :: xs) [] dj xj _ hA' R6 ⟨rfl, hxj⟩ ?_
            have e4 : es.drop j = dj :: es.drop (j + 1) := by
              rw [List.drop_eq_getElem_cons hltj]
              rw [List.getElem?_eq_getElem hltj] at hdj
              rw [Option.some.inj hdj]
            rw [e4] at hqq
            unfold setL1 at hqq
            cases e5 : tj dj εq with
            | no => rw [e5] at hqq; exact hqq.elim
            | er x ε1 => rw [e5] at hqq; exact hqq.elim
            | ok uj ε7 =>
              rw [e5] at hqq
              intro σ7 H7 G7 R7 s7 fx7 hσ7 _
              have l7 : σ7.length = σ3.length := hσ7.1.trans lw
              refine ⟨wipe_eq l7 hσ7.2 hw, ?_⟩
              refine he A G7 ε7 σ7 H7 (D :: xs) _ hA' R7 ?_
              replace hqq : EPost K C A (.o 1) false G H σ xs (sfin vs ε1 (((f ε7).bind fun y ε2 => (mOpt (asI y) ε2).bind fun c ε2 => if dis2.length + 1 < scanBound then setL1 ws tj f (es.drop (j + 1)) (addI c dis2) (wipeE ε2 ws) else .no).bind fun dis' ε3 => setL0 vs ws t jt tj f (ds.drop (i + 1)) dis' (wipeE ε3 vs))) Q := hqq
              cases e6 : f ε7 with
              | no => rw [e6] at hqq; exact hqq.elim
              | er x ε1 => rw [e6] at hqq; exact hqq.elim
              | ok y ε8 =>
                rw [e6] at hqq
                replace hqq : EPost K C A (.o 1) false G H σ xs (sfin vs ε1 (((mOpt (asI y) ε8).bind fun c ε2 => if dis2.length + 1 < scanBound then setL1 ws tj f (es.drop (j + 1)) (addI c dis2) (wipeE ε2 ws) else .no).bind fun dis' ε3 => setL0 vs ws t jt tj f (ds.drop (i + 1)) dis' (wipeE ε3 vs))) Q := hqq
                rintro v H8 G8 fp R8 ⟨rfl, hy⟩ s8 fx8 _
                cases y with
                | int c =>
                  replace hqq : EPost K C A (.o 1) false G H σ xs (sfin vs ε1 ((if dis2.length + 1 < scanBound then setL1 ws tj f (es.drop (j + 1)) (addI c dis2) (wipeE ε8 ws) else .no).bind fun dis' ε3 => setL0 vs ws t jt tj f (ds.drop (i + 1)) dis' (wipeE ε3 vs))) Q := hqq
                  by_cases room : dis2.length + 1 < scanBound
                  · rw [if_pos room] at hqq
                    have fq : ∀ a ∈ D :: xs, H8 a = Hq a := fun a ha => (fx8 a ha).trans ((fx7 a ha).trans (fx6 a ha))
                    have R8' : RG K A G8 ε8 σ7 H8 (D :: xs) := R8
                    have R9 := (R8'.mut_own (p := D) (o := SetO w D (fun j => S2 j || decide (j = c)) (if S2 c = true then dis2.length else dis2.length + 1)) List.mem_cons_self).reslot (σ := wipe σ3 ws) (vs := ws) (lw.trans l7.symm) (fun j hj => (hσ7.2 j fun z => hj (hw j z)).symm) hfw
                    refine ⟨c, S2, dis2.length, hy, (fq D List.mem_cons_self).trans eDq, room, G8, wipeE ε8 ws, addI c dis2, _, _, sq.trans (s6.trans (s7.trans s8)), R9, upd_same, fun k => ?_, ?_, addI_nd hnd2, fun a ha => ?_, hqq⟩
                    · rw [hS2 k, Bool.eq_iff_iff, Bool.or_eq_true, decide_eq_true_eq, decide_eq_true_eq, decide_eq_true_eq, addI_mem]
                    · rw [hS2 c]
                      unfold addI
                      by_cases hc : c ∈ dis2
                      · simp [hc]
                      · simp [hc]
                    · have na : a ≠ D := fun z => by
                        subst z
                        have := R8'.xs1 a
                        rw [List.count_cons_self] at this
                        have := List.count_pos_iff.mpr ha
                        omega
                      rw [upd_ne na]
                      exact (fq a (List.mem_cons_of_mem _ ha)).trans (hxq a ha)
                  · rw [if_neg room] at hqq; exact hqq.elim
                | _ => exact hqq.elim
          · have ej : j = es.length := by omega
            subst ej
            rw [List.drop_length] at hqq
            refine .inl ⟨ok1.stop Hq (sq.trans Rq.sub), Gq, wipeE εq vs, dis2, S2, dis2.length, s14.trans sq, ?_, eDq, hS2, rfl, hnd2, hxq, hqq⟩
            refine Rq.reslot (σ := wipe σ vs) (vs := vs) (by rw [lw, l3, sl]) (fun j hj => ?_) hf
            rw [wipe_out (fun z => hj (hws j z)), hσ3.2 j fun z => hj (hv j z)]
    · have ei : i = ds.length := by omega
      subst ei
      rw [List.drop_length] at hq
      replace hq : EPost K C A (.o 1) false G H σ xs (if dis.length < 64 then .ok (.lst ((srtI dis).map Dt.int)) (backE ε1 (wipeE ε' vs) vs) else .no) Q := hq
      by_cases h64 : dis.length < 64
      · rw [if_pos h64] at hq
        have Rb : RG K A G' (wipeE ε' vs) σ H' ([D] ++ xs) := R'.reslot sl.symm (fun j hj => (wipe_out hj).symm) hf
        have Rc : RG K A G' (backE ε1 (wipeE ε' vs) vs) σ H' xs := (Rb.back R1 s' hf).drop
        refine .inl ⟨okI.stop H' (s'.trans R'.sub), D, S, dis.length, rfl, eD, h64, fun ns q hs hm hl hp => ?_⟩
        have en : ns = srtI dis := srtI_of hs hnd fun k => by rw [hm k, hS k, decide_eq_true_eq]
        refine hq (.ref q) _ G' [q] (Rc.new_own hp) (.inl ⟨_, q, ns.map V.int, [], rfl, rfl, rfl, upd_same, LFp.zero.mpr ⟨rfl, ?_⟩⟩) (s1.trans s') (fun a ha => (upd_ne (Rc.xne hp ha)).trans (hxx a ha)) (fun z => nomatch z)
        rw [en]
        exact DenL.ints
      · rw [if_neg h64] at hq; exact hq.elim
end
section
variable {X : Cx} {C : Cn} {p p1 p2 : Bool}
theorem uni_i {ι : Type} {Xs : ι → Cx} {K : PySem.W.Frag} {tg iter : Expr} {f : Ev → Rs (List Dt)} (hK : ∀ i, (Xs i).K = K) (h : ∀ i, DI (Xs i) C p tg iter f) : ∃ wi, (∀ i, PI (Xs i) tg iter wi) ∧ TISat K C p wi f := by
  refine ⟨fun σ H R => ∀ (i : ι) (wi : TI), PI (Xs i) tg iter wi → TISat K C p wi f → wi σ H R, fun i => ⟨fun pn q σ H R I z => ?_⟩, fun A G ε σ H xs R hA hR q i wi _ hw => hw A G ε σ H xs R hA hR q⟩
  obtain ⟨wi, h1, h2⟩ := h i
  rw [hK i] at h2
  exact h1.run pn q σ H R I (z i wi h1 h2)
theorem de_sortSet2 {el ga ia gb ib : Expr} {sc : Scope} {own : List (Str × Nat)} {ws tv tw : List Nat} {pos pp ps : Pos} {it jt : Ev → Rs (List Dt)} {t tj : Dt → Ev → Rs Unit} {f : Ev → Rs Dt} (hc : X.calm = true) (hN : X.N.Nodup) (hs0 : Gl X "sorted") (hm0 : X.mg "sorted" = none)
    (hi : DI X C p ga ia it) (ok : BlkOk X.N X.env.scope sc own) (hg : ∀ i : Bi, DG (bx X sc i) C.in_ true 0 tv ga t) (hj : ∀ i : Bi, DI (bx X sc i) C.in_ p1 gb ib jt) (hgj : ∀ i : Bi, DG (bx X sc i) C.in_ true 0 tw gb tj) (he : ∀ i : Bi, DE (bx X sc i) C.in_ (.o 0) p2 el f)
    (hv : ∀ j ∈ tv, j ∈ own.map (·.2) := by decide) (hw : ∀ j ∈ tw, j ∈ ws := by decide) (hws : ∀ j ∈ ws, j ∈ own.map (·.2) := by decide) (hn : ∀ j ∈ own.map (·.2), j ∉ C.np := by decide) (hf : ∀ x, foldedSetIterable ia X.env x = pure x := by intro _; rfl) (hf1 : ∀ e x, foldedSetIterable ib e x = pure x := by intro _ _; rfl)
    (hst : starEach [sc2 el ga ia gb ib sc ps] X.env = (false, eval (sc2 el ga ia gb ib sc ps) X.env) :: starEach [] X.env := by rfl) :
    DE X C (.o 1) false (.Call (.Name "sorted" pp) [sc2 el ga ia gb ib sc ps] [] pos) (mSortSet2 (own.map (·.2)) ws it t jt tj f) := by
  obtain ⟨wi, a1, a2⟩ := hi
  obtain ⟨g, b1, b2⟩ := uni_g (Xs := bx X sc) (K := X.K) (fun _ => rfl) hg
  obtain ⟨wj, c1, c2⟩ := uni_i (Xs := bx X sc) (K := X.K) (fun _ => rfl) hj
  obtain ⟨gj, d1, d2⟩ := uni_g (Xs := bx X sc) (K := X.K) (fun _ => rfl) hgj
  obtain ⟨te, e1, e2⟩ := uni_e (Xs := bx X sc) (K := X.K) (fun _ => rfl) he
  have pe := pe_set2 (ps := ps) hc hN a1 ok hws (fun s H A cl fp => b1 (s, H, A, cl, fp)) (fun s H A cl fp => c1 (s, H, A, cl, fp)) (fun s H A cl fp => d1 (s, H, A, cl, fp)) (fun s H A cl fp => e1 (s, H, A, cl, fp)) hf hf1
  exact ⟨_, pe_callB (cr_sortedSet hc) hs0 hm0 boot_sorted (pa_cons pe pa_nil hst) (by decide) (by decide) hst (by rfl), tsat_set2 a2 b2 c2 d2 e2 hv hw hws hn⟩
end
end Mir

set_option Elab.async false
set_option linter.all false
set_option maxRecDepth 100000
set_option maxHeartbeats 400000
/-! sorted(xs), xs a list of tuples of alike data of any depth. -/
namespace Mir
open PySem PySem.Spec PyProof.Rows L2 He PySem.W
def tupC : PyData → Bool
  | .tuple (_ :: _) => true
  | _ => false
/-- the order of the sorted list -/
def leZ {α : Type} : α × PyData → α × PyData → Bool := dataLe false fun p => p.2
def okZ (ps : List PyData) : Bool := ps.all fun d => tupC d && decide (d.depth ≤ 60) && ps.all fun d' => alike d d'
theorem okZ_spec {ps : List PyData} (h : okZ ps = true) : AllAlike ps ∧ Sortable ps ∧ ∀ d ∈ ps, d.depth ≤ 60 := by
  unfold okZ at h
  rw [List.all_eq_true] at h
  refine ⟨fun d hd d' hd' => ?_, .inl fun d hd => ?_, fun d hd => ?_⟩
  · have := h d hd
    rw [Bool.and_eq_true, List.all_eq_true] at this
    exact this.2 d' hd'
  · have := h d hd
    rw [Bool.and_eq_true, Bool.and_eq_true] at this
    have t := this.1.1
    unfold tupC at t
    split at t
    · exact ⟨_, _, rfl⟩
    · cases t
  · have := h d hd
    rw [Bool.and_eq_true, Bool.and_eq_true, decide_eq_true_eq] at this
    exact this.1.2
def fSortedD (ds : List Dt) : Option Rz := match ds with
  | [.lst l] => (toPys l).bind fun ps => if okZ ps = true then some (.lst (((l.zip ps).mergeSort leZ).map (·.1))) else none
  | _ => none
def rSortZ (K : PySem.W.Frag) : List V → Hp → VK → Prop := fun vs H Q => ∃ (a : Addr) (ps : List (V × PyData)), vs = [V.ref a] ∧ SqL K H a (ps.map (·.1)) ∧ (∀ p ∈ ps, Dp K H p.1 p.2) ∧ okZ (ps.map (·.2)) = true ∧
  ∀ q, H q = none → Q (.ref q) (upd H q (.lst ((ps.mergeSort leZ).map (·.1))))
theorem vals_each {ps : List (V × PyData)} : ∀ {us : List Value}, Vals (ps.map (·.1)) us → EachIs (fun u (p : V × PyData) => RelV p.1 u) us ps := by
  induction ps with
  | nil => intro us h; cases h; exact .nil
  | cons p r ih =>
    intro us h
    cases h with
    | cons h1 h2 => exact .cons h1 (ih h2)
theorem each_vals {ps : List (V × PyData)} : ∀ {us : List Value}, EachIs (fun u (p : V × PyData) => RelV p.1 u) us ps → Vals (ps.map (·.1)) us := by
  induction ps with
  | nil => intro us h; cases h; exact .nil
  | cons p r ih =>
    intro us h
    cases h with
    | cons h1 h2 => exact .cons h1 (ih h2)
section
variable {X : Cx}
theorem cr_sortedZ (hu : X.A.units + 65 < cLine) : CallR X (.builtin "sorted") (rSortZ X.K) := by
  intro pins s σ H vs us Q I r h
  obtain ⟨a, ps, rfl, hs, hx, ok, q⟩ := h
  obtain ⟨its, rv, hl, hz⟩ := I.list hs
  obtain ⟨u, rfl, ru⟩ := vals1 r
  obtain rfl : u = Value.ref a := ru
  obtain ⟨k1, k2, k3⟩ := okZ_spec ok
  rw [List.length_map] at hz
  have ev := vals_each rv
  refine sorted_data (enc := fun p : V × PyData => p.2) (bs := ps) (vs := its) (R := fun u p => RelV p.1 u) hl.isList ev ?_ k1 k2 hz (fun b hb => ?_) fun out ho eo => ?_
  · exact (each_mem ev).mono fun u p hp => Dp.reads I p.2 p.1 u (hx p hp.2) hp.1
  · have := k3 b.2 (List.mem_map.mpr ⟨b, hb, rfl⟩)
    omega
  · obtain ⟨n, hn⟩ := sortedAll_at s.heap its out.toArray
    refine ⟨.ref (s.heap.objs.size + 1), upd H (s.heap.objs.size + 1) (.lst ((ps.mergeSort leZ).map (·.1))), I.laid (t' := s.toks) (fun b o e => sortedAll_old e) (Nat.le_succ _) ⟨?_, out, n, each_vals eo, hn⟩, rfl, q _ (I.hok.fresh (Nat.le_succ _))⟩
    rw [List.length_map, List.length_mergeSort]
    exact hz
end
theorem toPys_len : ∀ {l : List Dt} {ps : List PyData}, toPys l = some ps → ps.length = l.length
  | [], ps, h => by
    have h : some [] = some ps := h
    cases h; rfl
  | d :: ds, ps, h => by
    have h : ((toPy d).bind fun p => (toPys ds).map fun r => p :: r) = some ps := h
    obtain ⟨p, _, h⟩ := Option.bind_eq_some_iff.mp h
    obtain ⟨r, hr, rfl⟩ := Option.map_eq_some_iff.mp h
    rw [List.length_cons, List.length_cons, toPys_len hr]
theorem trip {K : PySem.W.Frag} {G : Hp} : ∀ {l : List Dt} {vs : List V} {ps : List PyData}, DenL K G l vs → toPys l = some ps →
    ∃ T : List (Dt × V × PyData), T.map (fun t => (t.1, t.2.2)) = l.zip ps ∧ T.map (fun t => t.2.1) = vs ∧ T.map (fun t => t.2.2) = ps ∧ ∀ t ∈ T, Den K G t.1 t.2.1 ∧ toPy t.1 = some t.2.2
  | [], vs, ps, h, e => by
    obtain rfl : vs = [] := h
    have e : some [] = some ps := e
    cases e
    exact ⟨[], rfl, rfl, rfl, fun t ht => nomatch ht⟩
  | d :: ds, vs, ps, ⟨v, r, hv, h1, h2⟩, e => by
    subst hv
    have e : ((toPy d).bind fun p => (toPys ds).map fun r => p :: r) = some ps := e
    obtain ⟨p, e1, e⟩ := Option.bind_eq_some_iff.mp e
    obtain ⟨r', e2, rfl⟩ := Option.map_eq_some_iff.mp e
    obtain ⟨T, t1, t2, t3, t4⟩ := trip h2 e2
    refine ⟨(d, v, p) :: T, by rw [List.map_cons, t1]; rfl, by rw [List.map_cons, t2], by rw [List.map_cons, t3], fun t ht => ?_⟩
    rcases List.mem_cons.mp ht with rfl | ht
    · exact ⟨h1, e1⟩
    · exact t4 t ht
theorem denL_of {K : PySem.W.Frag} {G : Hp} : ∀ {T : List (Dt × V × PyData)}, (∀ t ∈ T, Den K G t.1 t.2.1) → DenL K G (T.map (·.1)) (T.map fun t => t.2.1)
  | [], _ => rfl
  | t :: T, h => ⟨_, _, rfl, h t List.mem_cons_self, denL_of fun t' h' => h t' (List.mem_cons_of_mem _ h')⟩
theorem opa_sortZ {K : PySem.W.Frag} : OpA K (rSortZ K) fSortedD := fun G H ds vs z Q s h hf q => by
  unfold fSortedD at hf
  split at hf
  · rename_i l
    obtain ⟨v, rfl, h1⟩ := h.one
    obtain ⟨a, us, rfl, ea, hd⟩ := h1
    obtain ⟨ps, e1, hf⟩ := Option.bind_eq_some_iff.mp hf
    split at hf
    · rename_i ok
      cases hf
      obtain ⟨T, t1, t2, t3, t4⟩ := trip hd e1
      have m1 : ((l.zip ps).mergeSort leZ).map (·.1) = (T.mergeSort fun a b => leZ (a.1, a.2.2) (b.1, b.2.2)).map (·.1) := by
        rw [← t1, ← List.map_mergeSort (r := fun a b : Dt × V × PyData => leZ (a.1, a.2.2) (b.1, b.2.2)) (fun _ _ _ _ => rfl), List.map_map]
        rfl
      have m2 : (((T.map fun t => t.2).mergeSort leZ).map (·.1)) = (T.mergeSort fun a b => leZ (a.1, a.2.2) (b.1, b.2.2)).map fun t => t.2.1 := by
        rw [← List.map_mergeSort (f := fun t : Dt × V × PyData => t.2) (s := leZ) (r := fun a b : Dt × V × PyData => leZ (a.1, a.2.2) (b.1, b.2.2)) (fun _ _ _ _ => rfl), List.map_map]
        rfl
      refine ⟨a, T.map (·.2), rfl, ?_, fun p hp => ?_, ?_, fun d hn => ?_⟩
      · rw [List.map_map]
        have : List.map ((fun x : V × PyData => x.1) ∘ fun x : Dt × V × PyData => x.2) T = us := t2
        rw [this]
        exact .inl (.inl (s _ _ ea))
      · obtain ⟨t, ht, rfl⟩ := List.mem_map.mp hp
        exact toPy_dp ((t4 t ht).1.mono s) (t4 t ht).2
      · rw [List.map_map]
        have : List.map ((fun x : V × PyData => x.2) ∘ fun x : Dt × V × PyData => x.2) T = ps := t3
        rw [this]; exact ok
      · rw [m2]
        refine q _ d ?_ hn
        rw [m1]
        exact denL_of fun t ht => (t4 t (List.mem_mergeSort.mp ht)).1
    · cases hf
  · cases hf
/-- len(d), d a dict with tuples as keys -/
def bLenT : Dt → Option Rz
  | .dT ks _ => some (.sc (.int (ks.length : Int)))
  | _ => none
theorem opb_lenT {K : PySem.W.Frag} : OpB K rLenT bLenT := fun G H d v z Q s h hf q => by
  cases d with
  | dT ks ds =>
    cases hf
    obtain ⟨a, ws, rfl, ea, rfl, hd⟩ := h
    refine ⟨a, ws, rfl, ea, ?_⟩
    rw [List.length_map] at q
    exact q
  | _ => cases hf
end Mir

set_option Elab.async false
set_option linter.all false
set_option maxRecDepth 100000
set_option maxHeartbeats 400000
/-! A list of one's own is walked over while it is kept as it is, and is one's own again behind the walk. -/
namespace Mir
open PySem PySem.Spec PyProof.Rows L2 He
mutual
/-- no list within -/
def noL : Dt → Bool
  | .lst _ => false
  | .scr _ => false
  | .tup l => noLs l
  | .dT _ l => noLs l
  | .dK _ l => noLs l
  | .ins _ _ l => noLs l
  | _ => true
def noLs : List Dt → Bool
  | [] => true
  | d :: ds => noL d && noLs ds
end
/-- no list within, but for the top -/
def noL1 : Dt → Bool
  | .lst l => noLs l
  | d => noL d
def slN : Sl → Bool
  | .un => true
  | .vl 0 d => noL d
  | .vl 1 d => noL1 d
  | _ => false
def lone (i : Nat) (ε : Ev) : Bool := (List.range ε.length).all fun j => j == i || (match ε[j]? with
  | some s => slN s
  | none => true)
theorem lone_at {i j : Nat} {ε : Ev} {s : Sl} (h : lone i ε = true) (hj : j ≠ i) (e : ε[j]? = some s) : slN s = true := by
  unfold lone at h
  rw [List.all_eq_true] at h
  have := h j (List.mem_range.mpr (List.getElem?_eq_some_iff.mp e).1)
  rw [e, Bool.or_eq_true] at this
  rcases this with z | z
  · exact absurd (by simpa using z) hj
  · exact z
def sKeep (i : Nat) (g : Ev → So) : Ev → So := fun ε => match ε[i]? with
  | some (.vl 1 (.lst ds)) => (match g (ε.set i (.vl 0 (.lst ds))) with
    | .nx ε' => (match ε'[i]? with
      | some (.vl 0 (.lst ds')) => if (noLs ds' && lone i ε') = true then .nx (ε'.set i (.vl 1 (.lst ds'))) else .no
      | _ => .no)
    | _ => .no)
  | _ => .no
def cutH (G : Hp) (a : Addr) : Hp := fun b => if b = a then none else G b
section
variable {K : PySem.W.Frag} {G G2 : Hp} {a : Addr} {vs0 : List V}
mutual
theorem noL_den (ha : G a = some (.lst vs0)) (h2 : ∀ b, b ≠ a → G2 b = G b) : ∀ {d : Dt} {v : V}, noL d = true → Den K G d v → Den K G2 d v
  | .non, _, _, h => h
  | .bl _, _, _, h => h
  | .int _, _, _, h => h
  | .str _, _, _, h => h
  | .lst _, _, n, _ => nomatch n
  | .scr _, _, n, _ => nomatch n
  | .tup ds, v, n, ⟨x, vs, e, g, t⟩ => ⟨x, vs, e, by rw [h2 x fun z => by subst z; rw [ha] at g; cases g]; exact g, noL_denL ha h2 n t⟩
  | .dT ks ds, v, n, ⟨x, ws, e, g, k, t⟩ => ⟨x, ws, e, by rw [h2 x fun z => by subst z; rw [ha] at g; cases g]; exact g, k, noL_denL ha h2 n t⟩
  | .dK ks ds, v, n, ⟨x, ws, e, g, k, t⟩ => ⟨x, ws, e, by rw [h2 x fun z => by subst z; rw [ha] at g; cases g]; exact g, k, noL_denL ha h2 n t⟩
  | .ins c fs ds, v, n, ⟨x, dx, ws, e, g, k, t⟩ => ⟨x, dx, ws, e, by rw [h2 x fun z => by subst z; rw [ha] at g; cases g]; exact g, k, noL_denL ha h2 n t⟩
theorem noL_denL (ha : G a = some (.lst vs0)) (h2 : ∀ b, b ≠ a → G2 b = G b) : ∀ {ds : List Dt} {vs : List V}, noLs ds = true → DenL K G ds vs → DenL K G2 ds vs
  | [], _, _, h => h
  | d :: ds, _, n, ⟨v, r, e, h, t⟩ => by
    unfold noLs at n
    rw [Bool.and_eq_true] at n
    exact ⟨v, r, e, noL_den ha h2 n.1 h, noL_denL ha h2 n.2 t⟩
end
theorem noL1_ow {H : Hp} {d : Dt} {v : V} {l : List Addr} (ha : G a = some (.lst vs0)) (h2 : ∀ b, b ≠ a → G2 b = G b) (n : noL1 d = true) (h : Ow K H G 1 d v l) : Ow K H G2 1 d v l := by
  rcases h with ⟨ds, x, vs, r, rfl, e2, e3, e4, t⟩ | ⟨ks, ds, x, ws, r, rfl, e2, e3, e4, e5, t⟩ | ⟨ks, ds, x, ws, r, rfl, e2, e3, e4, e5, t⟩ | ⟨c, fs, ds, x, dx, ws, r, rfl, e2, e3, e4, e5, t⟩
  · obtain ⟨z, t⟩ := LFp.zero.mp t
    exact .inl ⟨ds, x, vs, r, rfl, e2, e3, e4, LFp.zero.mpr ⟨z, noL_denL ha h2 n t⟩⟩
  · obtain ⟨z, t⟩ := LFp.zero.mp t
    exact .inr (.inl ⟨ks, ds, x, ws, r, rfl, e2, e3, e4, e5, LFp.zero.mpr ⟨z, noL_denL ha h2 n t⟩⟩)
  · obtain ⟨z, t⟩ := LFp.zero.mp t
    exact .inr (.inr (.inl ⟨ks, ds, x, ws, r, rfl, e2, e3, e4, e5, LFp.zero.mpr ⟨z, noL_denL ha h2 n t⟩⟩))
  · obtain ⟨z, t⟩ := LFp.zero.mp t
    exact .inr (.inr (.inr ⟨c, fs, ds, x, dx, ws, r, rfl, e2, e3, e4, e5, LFp.zero.mpr ⟨z, noL_denL ha h2 n t⟩⟩))
end
def Act.kp (A : Act) (i : Nat) (a : Addr) : Act := { A with fix := (i, V.ref a) :: A.fix }
abbrev Cn.kp (C : Cn) (i : Nat) : Cn := ⟨C.W, i :: C.np, fun _ => True⟩
section
variable {K : PySem.W.Frag} {A : Act} {G G' H : Hp} {ε : Ev} {σ : L2.St} {i : Nat} {a : Addr}
theorem RG.pin (R : RG K A G ε σ H []) (h : σ[i]? = some (some (.ref a))) : RG K (A.kp i a) G ε σ H [] := by
  obtain ⟨fps, l1, l2, sl, c1, c2, c3⟩ := R.slots
  refine ⟨R.sub, R.old, R.live, R.new, ⟨fps, l1, l2, fun j s e => ?_, c1, c2, c3⟩, fun p hp => ?_, R.xd⟩
  · obtain ⟨x, l, h1, h2, h3, h4⟩ := sl j s e
    refine ⟨x, l, h1, h2, h3, ?_⟩
    rcases h4 with ⟨w, h4⟩ | h4
    · exact .inl ⟨w, List.mem_cons_of_mem _ h4⟩
    · exact .inr h4
  · rcases List.mem_cons.mp hp with z | z
    · subst z; exact h
    · exact R.fix p z
theorem RG.thaw {ds : List Dt} (R : RG K (A.kp i a) G' ε σ H []) (e : ε[i]? = some (.vl 0 (.lst ds))) (hn : noLs ds = true) (hl : lone i ε = true) (s : Same G G') (ga : G a = none) (h0 : A.H0 a = none)
    (hx : ∀ p ∈ A.xd, ∃ ws : List (Str × V), G p.1 = some (.xd ws) ∧ ws.map (·.1) = p.2.1 ∧ DenL K G p.2.2 (ws.map (·.2))) : RG K A (cutH G' a) (ε.set i (.vl 1 (.lst ds))) σ H [] ∧ Same G (cutH G' a) := by
  obtain ⟨fps, l1, l2, sl, c1, c2, c3⟩ := R.slots
  have hi : i < ε.length := (List.getElem?_eq_some_iff.mp e).1
  have sc : Same G (cutH G' a) := fun b o q => by
    have hb : b ≠ a := fun z => by subst z; rw [ga] at q; cases q
    unfold cutH
    rw [if_neg hb]; exact s _ _ q
  obtain ⟨x, l, p1, p2, ⟨v, rfl, o⟩, p4⟩ := sl i _ e
  have pf : σ[i]? = some (some (.ref a)) := R.fix (i, .ref a) List.mem_cons_self
  rw [pf] at p1
  cases p1
  obtain ⟨rfl, hd⟩ := o
  obtain ⟨a', vs, ea, g, t⟩ := hd
  cases ea
  have h2 : ∀ b, b ≠ a → cutH G' a b = G' b := fun b hb => if_neg hb
  have ca : cnt a fps = 0 := by
    rcases Nat.eq_zero_or_pos (cnt a fps) with z | z
    · exact z
    · have := (c2 a z).1
      rw [g] at this; cases this
  refine ⟨⟨fun b o q => ?_, R.old, R.live, fun b q => ?_, ⟨fps.set i [a], by simp [l1], by simp [l2], fun j sl' ej => ?_, fun b => ?_, fun b hb => ?_, fun b hb => nomatch hb⟩, fun p hp => R.fix p (List.mem_cons_of_mem _ hp), fun p hp => ?_⟩, sc⟩
  · unfold cutH at q
    split at q
    · cases q
    · exact R.sub _ _ q
  · unfold cutH at q
    split at q
    · exact absurd rfl q
    · exact R.new b q
  · by_cases q : i = j
    · subst q
      rw [List.getElem?_set_self hi] at ej
      cases ej
      exact ⟨_, [a], pf, List.getElem?_set_self (by omega), ⟨_, rfl, .inl ⟨ds, a, vs, [], rfl, rfl, rfl, R.sub _ _ g, LFp.zero.mpr ⟨rfl, noL_denL g h2 hn t⟩⟩⟩, .inr fun b hb => by rw [List.mem_singleton.mp hb]; exact h0⟩
    · rw [List.getElem?_set_ne q] at ej
      obtain ⟨x, l, q1, q2, q3, q4⟩ := sl j sl' ej
      have sn := lone_at hl (fun z => q z.symm) ej
      refine ⟨x, l, q1, by rw [List.getElem?_set_ne q]; exact q2, ?_, ?_⟩
      · cases sl' with
        | un => exact q3
        | vl k d =>
          obtain ⟨w, ew, ow⟩ := q3
          refine ⟨w, ew, ?_⟩
          match k, sn, ow with
          | 0, sn, ow => exact ⟨ow.1, noL_den g h2 sn ow.2⟩
          | 1, sn, ow => exact noL1_ow g h2 sn ow
          | k + 2, sn, _ => exact nomatch sn
      · rcases q4 with ⟨w, q4⟩ | q4
        · rcases List.mem_cons.mp q4 with z | z
          · cases z; exact absurd rfl q
          · exact .inl ⟨w, z⟩
        · exact .inr q4
  · have k1 := cnt_set b [a] p2
    have k2 := c1 b
    by_cases q : b = a
    · subst q
      simp at k1 k2 ⊢
      omega
    · have k3 : List.count b [a] = 0 := List.count_eq_zero.mpr fun z => q (List.mem_singleton.mp z)
      simp at k1 k2 k3 ⊢
      omega
  · have k1 := cnt_set b [a] p2
    by_cases q : b = a
    · subst q
      refine ⟨if_pos rfl, by rw [R.sub _ _ g]; exact nofun, .inr h0⟩
    · have k3 : List.count b [a] = 0 := List.count_eq_zero.mpr fun z => q (List.mem_singleton.mp z)
      simp at k1 k3
      have := c2 b (by omega)
      exact ⟨by rw [h2 b q]; exact this.1, this.2⟩
  · obtain ⟨ws, w1, w2, w3⟩ := hx p hp
    exact ⟨ws, sc _ _ w1, w2, w3.mono sc⟩
end
section
variable {X : Cx} {C : Cn} {k i : Nat} {st : Stmt} {g : Ev → So}
theorem ds_keep (hi : i ∉ C.np) (h : DS X (C.kp i) k st g) : DS X C k st (sKeep i g) := by
  obtain ⟨t, a, b⟩ := h
  refine ⟨t, a, fun A G ε σ H D hA R q => ?_⟩
  unfold sKeep at q
  split at q
  · rename_i ds e
    obtain ⟨v, l, h1, o, R1⟩ := R.take (hA.no hi) e
    have ol := o
    obtain ⟨x, rfl, rfl⟩ : ∃ x, v = .ref x ∧ l = [x] := by
      rcases ol with ⟨ds, x, vs, r, e1, e2, e3, e4, t⟩ | ⟨ks, ds, x, ws, r, e1, e2, e3, e4, e5, t⟩ | ⟨ks, ds, x, ws, r, e1, e2, e3, e4, e5, t⟩ | ⟨c, fs, ds, x, dx, ws, r, e1, e2, e3, e4, e5, t⟩
      · obtain ⟨z, t⟩ := LFp.zero.mp t
        exact ⟨x, e2, by rw [e3, z]⟩
      · cases e1
      · cases e1
      · cases e1
    have hx := R1.xsn (a := x) (by simp)
    obtain ⟨R2, sm⟩ := R1.settle
    have hd := o.den sm fun c hc => addF_in hc
    have R3 := R2.store (fp := []) (hA.no hi) (ow0 hd)
    rw [List.set_set] at R3
    have es : σ.set i (some (.ref x)) = σ := by
      apply List.ext_getElem?
      intro j
      by_cases q : i = j
      · subst q; rw [List.getElem?_set_self (List.getElem?_eq_some_iff.mp h1).1, h1]
      · rw [List.getElem?_set_ne q]
    rw [es] at R3
    have R4 := R3.pin h1
    refine b (A.kp i x) _ _ σ H D ⟨fun p hp => ?_, trivial⟩ R4 ?_
    · rcases List.mem_cons.mp hp with z | z
      · subst z; exact List.mem_cons_self
      · exact List.mem_cons_of_mem _ (hA.1 p z)
    · cases eg : g (ε.set i (.vl 0 (.lst ds))) with
      | nx ε' =>
        rw [eg] at q
        replace q : SPost X.K C A k G σ (match ε'[i]? with
          | some (.vl 0 (.lst ds')) => if (noLs ds' && lone i ε') = true then .nx (ε'.set i (.vl 1 (.lst ds'))) else .no
          | _ => .no) D := q
        intro σ' H' G' R5 s5
        split at q
        · rename_i ds' e'
          split at q
          · rename_i hn
            rw [Bool.and_eq_true] at hn
            obtain ⟨R6, s6⟩ := R5.thaw e' hn.1 hn.2 (sm.trans s5) hx.1 hx.2.2 R.xd
            exact q σ' H' _ R6 s6
          · exact q.elim
        · exact q.elim
      | rt d ε' => rw [eg] at q; exact q.elim
      | bk ε' => rw [eg] at q; exact q.elim
      | ct ε' => rw [eg] at q; exact q.elim
      | er y ε' => rw [eg] at q; exact q.elim
      | no => rw [eg] at q; exact q.elim
  · exact q.elim
end
end Mir

set_option Elab.async false
set_option linter.all false
set_option maxRecDepth 100000
set_option maxHeartbeats 1000000
namespace Mir
open PySem PySem.Spec PyProof.Rows L2 He
def topS (i : Nat) : Stmt := PySem.Challenge.pw_ordersbehind_k10_whole_triangle_step.main.body.getD i (.Pass ⟨0, 0, 0, 0⟩)
abbrev s_BadNumber_init : Stmt := inClass (topS 3) 0
abbrev s_BadThing_init : Stmt := inClass (topS 4) 0
abbrev s_BadPair_init : Stmt := inClass (topS 5) 0
abbrev s_NotTied_init : Stmt := inClass (topS 6) 0
abbrev s_is_integer : Stmt := topS 8
abbrev s_is_thing : Stmt := topS 9
abbrev s_is_pair : Stmt := topS 10
abbrev s_thing_of : Stmt := topS 11
abbrev s_number_of_kind : Stmt := topS 12
abbrev s_pair_of : Stmt := topS 13
abbrev s_several_pairs : Stmt := topS 14
abbrev s_ties_of : Stmt := topS 15
abbrev s_arrow_in : Stmt := topS 17
abbrev s_two_arrows : Stmt := topS 18
abbrev s_Web_init : Stmt := inClass (topS 21) 0
abbrev s_Web_tied : Stmt := inClass (topS 21) 2
abbrev s_Web_invert : Stmt := inClass (topS 21) 8
abbrev s_Web_eq : Stmt := inClass (topS 21) 9
abbrev s_Web_len : Stmt := inClass (topS 21) 10
abbrev s_Web_contains : Stmt := inClass (topS 21) 11
abbrev s_Web_iter : Stmt := inClass (topS 21) 12
abbrev s_Web_or : Stmt := inClass (topS 21) 13
abbrev s_Web_and : Stmt := inClass (topS 21) 14
abbrev s_moved_by : Stmt := topS 22
abbrev s_reach_from : Stmt := topS 23
abbrev s_alike_at : Stmt := topS 25
abbrev s_class_numbers : Stmt := topS 26
abbrev s_class_of : Stmt := topS 27
abbrev s_classes : Stmt := topS 28
abbrev s_touched : Stmt := topS 29
abbrev s_same_class : Stmt := topS 30
abbrev s__law_draws : Stmt := topS 32
abbrev s__law_take : Stmt := topS 33
abbrev s__law_row : Stmt := topS 34
abbrev s__law_blank : Stmt := topS 35
abbrev s__law_near : Stmt := topS 36
abbrev s__law_ties : Stmt := topS 37
abbrev s__law_contrary : Stmt := topS 38
abbrev s__law_renamed : Stmt := topS 39
abbrev s__law_graft : Stmt := topS 40
abbrev s__law_path : Stmt := topS 41
abbrev s__law_round : Stmt := topS 42
abbrev s__law_agree : Stmt := topS 43
abbrev s__law_any_ties : Stmt := topS 44
abbrev s__law_int : Stmt := topS 45
abbrev s__law_ints : Stmt := topS 46
abbrev s__law_lot : Stmt := topS 47
abbrev s__law_pairs : Stmt := topS 48
abbrev s__law_steps : Stmt := topS 49
abbrev s__law_class : Stmt := topS 50
abbrev s__law_drawn : Stmt := topS 51
abbrev s__law_with_all : Stmt := topS 52
abbrev s__law_homes : Stmt := topS 53
abbrev s__law_one_triangle : Stmt := topS 54
abbrev s__law_drawn_triangle : Stmt := topS 55
abbrev s_law : Stmt := topS 56
section
variable {P : Program} {w : World} {K : PySem.W.Frag} {mg : Str → Option Value} {base : Heap}
theorem sc_BadNumber : FnScope ["self", "name"] ["self", "name"] (defScope s_BadNumber_init) := ⟨rfl, rfl, rfl, by decide +kernel, rfl, by decide +kernel, by decide +kernel⟩
theorem x_BadNumber (T : Ec K mg "BadNumber" ["name"]) (D : ∃ fd, FunD K "__init__" "BadNumber.__init__" (defArgs s_BadNumber_init) (defBody s_BadNumber_init) (defScope s_BadNumber_init) [] [] (ma K (ga K "BadNumber") "__init__") fd) : Xf P w K mg base "BadNumber" 1 ["name"] :=
  xf1 T D sc_BadNumber (fun _ _ _ _ _ _ => (pss_one (ps_ost (pv 0) (pv 1)))) (fun _ _ _ _ _ _ us hl => match us, hl with | [_, _], _ => rfl)
theorem sc_BadPair : FnScope ["self", "place"] ["self", "place"] (defScope s_BadPair_init) := ⟨rfl, rfl, rfl, by decide +kernel, rfl, by decide +kernel, by decide +kernel⟩
theorem x_BadPair (T : Ec K mg "BadPair" ["place"]) (D : ∃ fd, FunD K "__init__" "BadPair.__init__" (defArgs s_BadPair_init) (defBody s_BadPair_init) (defScope s_BadPair_init) [] [] (ma K (ga K "BadPair") "__init__") fd) : Xf P w K mg base "BadPair" 1 ["place"] :=
  xf1 T D sc_BadPair (fun _ _ _ _ _ _ => (pss_one (ps_ost (pv 0) (pv 1)))) (fun _ _ _ _ _ _ us hl => match us, hl with | [_, _], _ => rfl)
theorem sc_BadThing : FnScope ["self", "name"] ["self", "name"] (defScope s_BadThing_init) := ⟨rfl, rfl, rfl, by decide +kernel, rfl, by decide +kernel, by decide +kernel⟩
theorem x_BadThing (T : Ec K mg "BadThing" ["name"]) (D : ∃ fd, FunD K "__init__" "BadThing.__init__" (defArgs s_BadThing_init) (defBody s_BadThing_init) (defScope s_BadThing_init) [] [] (ma K (ga K "BadThing") "__init__") fd) : Xf P w K mg base "BadThing" 1 ["name"] :=
  xf1 T D sc_BadThing (fun _ _ _ _ _ _ => (pss_one (ps_ost (pv 0) (pv 1)))) (fun _ _ _ _ _ _ us hl => match us, hl with | [_, _], _ => rfl)
theorem sc_NotTied : FnScope ["self", "first", "second"] ["self", "first", "second"] (defScope s_NotTied_init) := ⟨rfl, rfl, rfl, by decide +kernel, rfl, by decide +kernel, by decide +kernel⟩
theorem x_NotTied (T : Ec K mg "NotTied" ["first", "second"]) (D : ∃ fd, FunD K "__init__" "NotTied.__init__" (defArgs s_NotTied_init) (defBody s_NotTied_init) (defScope s_NotTied_init) [] [] (ma K (ga K "NotTied") "__init__") fd) : Xf P w K mg base "NotTied" 1 ["first", "second"] :=
  xf2 T D sc_NotTied (fun _ _ _ _ _ _ => (pss_cons (ps_ost (pv 0) (pv 1)) (pss_one (ps_ost (pv 0) (pv 2))))) (fun _ _ _ _ _ _ us hl => match us, hl with | [_, _, _], _ => rfl)
def isaT : List (Str × Str × Bool) := []
/-! _law_draws -/
def l__law_draws_0 : Ev → So := (sIf (mB (mOpD fGt (mVarD 4) (mSc (.int 0)))) (sSeq (sDrop (mMut 1 fAppend (mCons (mOp fMod (mCB fInt (mCons (mVar 4) mNil)) (mSc (.int 24))) mNil))) (sAsg (mOp fDiv (mVar 4) (mSc (.int 24))) (gSet 4 0))) sNx)
def l__law_draws_1 : Ev → So := (sSeq (sAsg (mOp fMod (mCB fInt (mCons (mOp fAdd (mOp fAdd (mOp fMul (mVar 6) (mOp fAdd (mOp fAdd (mVar 6) (mOp fMul (mSc (.int 2)) (mVar 5))) (mSc (.int 3)))) (mOp fMul (mVar 2) (mSc (.int 7919)))) (mSc (.int 11))) mNil)) (mSc (.int 2147483587))) (gSet 6 0)) (sDrop (mMut 1 fAppend (mCons (mOp fDiv (mVar 6) (mSc (.int 64))) mNil))))
def l__law_draws_2 : Ev → So := (sSeq (sAsg (mCB fInt (mCons (mVar 3) mNil)) (gSet 4 0)) (sSeq (sAsg (mOp fAdd (mVar 2) (mSc (.int 1))) (gSet 2 0)) (sSeq (sIf (mB (mOpD fLt (mVarD 4) (mSc (.int 0)))) (sAsg (mOp fSub (mSc (.int 3)) (mOp fMul (mSc (.int 2)) (mVar 4))) (gSet 4 0)) sNx) (sIf (mB (mOpD fGe (mVarD 4) (mOp fPow (mSc (.int 10)) (mSc (.int 18))))) (sFor (mRange1 (mCons (mSc (.int 60)) mNil)) (gSet 5 0) l__law_draws_0) (sSeq (sAsg (mOp fMod (mCB fInt (mCons (mOp fAdd (mOp fAdd (mOp fMul (mVar 4) (mSc (.int 69069))) (mOp fMul (mVar 2) (mSc (.int 40503)))) (mSc (.int 17))) mNil)) (mSc (.int 2147483629))) (gSet 6 0)) (sFor (mRange1 (mCons (mSc (.int 5)) mNil)) (gSet 5 0) l__law_draws_1))))))
def b__law_draws : Ev → So := (sSeq (sAsg (mLst mNil) (gSet 1 1)) (sSeq (sAsg (mSc (.int 0)) (gSet 2 0)) (sSeq (sFor (mIter (mSliceL (mVar 0) mNoP (mPart (mSc (.int 63))))) (gSet 3 0) l__law_draws_2) (sSeq (sDrop (mMut 1 fReverse mNil)) (sRet (mMov 1 1))))))
def m__law_draws : List Dt → Fo := mFn [0] 6 b__law_draws
theorem sc__law_draws : FnScope ["_law_script", "_law_draws_here", "_law_place", "_law_raw", "_law_cell", "_law_k", "_law_mixed"] ["_law_script"] (defScope s__law_draws) := ⟨rfl, rfl, rfl, by decide +kernel, rfl, by decide +kernel, by decide +kernel⟩
theorem t__law_draws (B : Bs mg) (D : Dn K mg "_law_draws" s__law_draws) : Fd P w K mg base "_law_draws" 1 [0] 1 m__law_draws := by
  refine fd_of (lv := 0) (N := ["_law_script", "_law_draws_here", "_law_place", "_law_raw", "_law_cell", "_law_k", "_law_mixed"]) (ps := ["_law_script"]) (g := b__law_draws) D sc__law_draws rfl rfl (fun _ _ _ _ _ _ us hl => match us, hl with | [_], _ => rfl) ((nx_seq (nx_seq (nx_seq (nx_seq nx_ret))))) (fun cdv A outer s H E hr => ?_)
  exact (db_cons (ds_set (i := 1) sc__law_draws.nd rfl (by first | exact .inl rfl | exact .inr rfl) (of_decide_eq_true rfl) (de_lst da_nil ArgN.nil))
  (db_cons (ds_set (i := 2) sc__law_draws.nd rfl (by first | exact .inl rfl | exact .inr rfl) (of_decide_eq_true rfl) de_int)
  (db_cons (ds_for hpD rfl (di_list (DE.s (de_sliceL (DE.b (m := .b) (de_var (pv 0))) do_none (do_some (DE.tt de_int))))) (dg_name (i := 3) sc__law_draws.nd rfl (by first | exact .inl rfl | exact .inr rfl) (of_decide_eq_true rfl)) (db_cons (ds_set (i := 4) sc__law_draws.nd rfl (by first | exact .inl rfl | exact .inr rfl) (of_decide_eq_true rfl) (de_tn call_int1 opa_int rfl B.int boot_int (da_cons (de_var (pv 3)) da_nil)))
  (db_cons (ds_set (i := 2) sc__law_draws.nd rfl (by first | exact .inl rfl | exact .inr rfl) (of_decide_eq_true rfl) (de_op op_addU ops_add (DE.b (m := .b) (de_var (pv 2))) (DE.tt (DE.b (m := .b) de_int))))
  (db_cons (ds_if (dt_cmp (op_ltU (u0 hr)) ops_lt (de_varD (pv 4)) (DE.tt (DE.bd (DE.b (m := .b) de_int))) (nomark _)) (db_one (ds_set (i := 4) sc__law_draws.nd rfl (by first | exact .inl rfl | exact .inr rfl) (of_decide_eq_true rfl) (de_op op_sub ops_sub (DE.b (m := .b) de_int) (DE.tt (DE.b (m := .b) (de_op op_mulU ops_mul (DE.b (m := .b) de_int) (DE.tt (DE.b (m := .b) (de_var (pv 4)))))))))) db_nil)
  (db_one (ds_if (dt_cmp op_ge ops_ge (de_varD (pv 4)) (DE.tt (DE.bd (DE.b (m := .b) (de_op op_pow ops_pow (DE.b (m := .b) de_int) (DE.tt (DE.b (m := .b) de_int)))))) (nomark _)) (db_one (ds_for hpD rfl (di_range1 rfl B.range (da_cons de_int da_nil)) (dg_name (i := 5) sc__law_draws.nd rfl (by first | exact .inl rfl | exact .inr rfl) (of_decide_eq_true rfl)) (db_one (ds_if (dt_cmp op_gt ops_gt (de_varD (pv 4)) (DE.tt (DE.bd (DE.b (m := .b) de_int))) (nomark _)) (db_cons (ds_expr (de_append (pv 1) (da_cons (de_op op_mod ops_mod (DE.b (m := .b) (de_tn call_int1 opa_int rfl B.int boot_int (da_cons (de_var (pv 4)) da_nil))) (DE.tt (DE.b (m := .b) de_int))) da_nil)))
  (db_one (ds_set (i := 4) sc__law_draws.nd rfl (by first | exact .inl rfl | exact .inr rfl) (of_decide_eq_true rfl) (de_op op_fdiv ops_div (DE.b (m := .b) (de_var (pv 4))) (DE.tt (DE.b (m := .b) de_int)))))) db_nil)))) (db_cons (ds_set (i := 6) sc__law_draws.nd rfl (by first | exact .inl rfl | exact .inr rfl) (of_decide_eq_true rfl) (de_op op_mod ops_mod (DE.b (m := .b) (de_tn call_int1 opa_int rfl B.int boot_int (da_cons (de_op op_addU ops_add (DE.b (m := .b) (de_op op_addU ops_add (DE.b (m := .b) (de_op op_mulU ops_mul (DE.b (m := .b) (de_var (pv 4))) (DE.tt (DE.b (m := .b) de_int)))) (DE.tt (DE.b (m := .b) (de_op op_mulU ops_mul (DE.b (m := .b) (de_var (pv 2))) (DE.tt (DE.b (m := .b) de_int))))))) (DE.tt (DE.b (m := .b) de_int))) da_nil))) (DE.tt (DE.b (m := .b) de_int))))
  (db_one (ds_for hpD rfl (di_range1 rfl B.range (da_cons de_int da_nil)) (dg_name (i := 5) sc__law_draws.nd rfl (by first | exact .inl rfl | exact .inr rfl) (of_decide_eq_true rfl)) (db_cons (ds_set (i := 6) sc__law_draws.nd rfl (by first | exact .inl rfl | exact .inr rfl) (of_decide_eq_true rfl) (de_op op_mod ops_mod (DE.b (m := .b) (de_tn call_int1 opa_int rfl B.int boot_int (da_cons (de_op op_addU ops_add (DE.b (m := .b) (de_op op_addU ops_add (DE.b (m := .b) (de_op op_mulU ops_mul (DE.b (m := .b) (de_var (pv 6))) (DE.tt (DE.b (m := .b) (de_op op_addU ops_add (DE.b (m := .b) (de_op op_addU ops_add (DE.b (m := .b) (de_var (pv 6))) (DE.tt (DE.b (m := .b) (de_op op_mulU ops_mul (DE.b (m := .b) de_int) (DE.tt (DE.b (m := .b) (de_var (pv 5))))))))) (DE.tt (DE.b (m := .b) de_int))))))) (DE.tt (DE.b (m := .b) (de_op op_mulU ops_mul (DE.b (m := .b) (de_var (pv 2))) (DE.tt (DE.b (m := .b) de_int))))))) (DE.tt (DE.b (m := .b) de_int))) da_nil))) (DE.tt (DE.b (m := .b) de_int))))
  (db_one (ds_expr (de_append (pv 1) (da_cons (de_op op_fdiv ops_div (DE.b (m := .b) (de_var (pv 6))) (DE.tt (DE.b (m := .b) de_int))) da_nil))))))))))))))
  (db_cons (ds_expr (de_reverse (pv 1)))
  (db_one (ds_ret (de_mov (pv 1) (of_decide_eq_true rfl))))))))
/-! _law_take -/
def b__law_take : Ev → So := (sSeq (sIf (mB (mOpD fEq (mUn bLen (mVarB 0)) (mSc (.int 0)))) (sRet (mSc (.int 0))) sNx) (sRet (mOp fMod (mCB fInt (mCons (mMut 0 fPop mNil) mNil)) (mVar 1))))
def m__law_take : List Dt → Fo := mFn [1, 0] 0 b__law_take
theorem sc__law_take : FnScope ["_law_draws_here", "_law_many"] ["_law_draws_here", "_law_many"] (defScope s__law_take) := ⟨rfl, rfl, rfl, by decide +kernel, rfl, by decide +kernel, by decide +kernel⟩
theorem t__law_take (B : Bs mg) (D : Dn K mg "_law_take" s__law_take) : Fd P w K mg base "_law_take" 1 [1, 0] 0 m__law_take := by
  refine fd_of (lv := 0) (N := ["_law_draws_here", "_law_many"]) (ps := ["_law_draws_here", "_law_many"]) (g := b__law_take) D sc__law_take rfl rfl (fun _ _ _ _ _ _ us hl => match us, hl with | [_, _], _ => rfl) (fun _ _ _ => rfl) (fun cdv A outer s H E hr => ?_)
  exact (db_cons (ds_if (dt_cmp (op_eqD (u64 hr)) ops_eq (DE.bd (DE.b (m := .b) (de_b1 call_len opb_len rfl B.len boot_len (de_varB (pv 0))))) (DE.tt (DE.bd (DE.b (m := .b) de_int))) (nomark _)) (db_one (ds_ret de_int)) db_nil)
  (db_one (ds_ret (de_op op_mod ops_mod (DE.b (m := .b) (de_tn call_int1 opa_int rfl B.int boot_int (da_cons (de_pop (pv 0)) da_nil))) (DE.tt (DE.b (m := .b) (de_var (pv 1))))))))
/-! _law_blank -/
def e__law_blank_0 : Ev → Rs Dt := (mSc (.int 0))
def e__law_blank_1 : Ev → Rs Dt := (mComp [2] (mRange1 (mCons (mVar 0) mNil)) (gSet 2 0) mYes e__law_blank_0)
def b__law_blank : Ev → So := (sRet (mComp [1] (mRange1 (mCons (mVar 0) mNil)) (gSet 1 0) mYes e__law_blank_1))
def m__law_blank : List Dt → Fo := mFn [0] 2 b__law_blank
theorem sc__law_blank : FnScope ["_law_size", "_law_a", "_law_b"] ["_law_size"] (defScope s__law_blank) := ⟨rfl, rfl, rfl, by decide +kernel, rfl, by decide +kernel, by decide +kernel⟩
theorem t__law_blank (B : Bs mg) (D : Dn K mg "_law_blank" s__law_blank) : Fd P w K mg base "_law_blank" 1 [0] 2 m__law_blank := by
  refine fd_of (lv := 0) (N := ["_law_size", "_law_a", "_law_b"]) (ps := ["_law_size"]) (g := b__law_blank) D sc__law_blank rfl rfl (fun _ _ _ _ _ _ us hl => match us, hl with | [_], _ => rfl) (nx_ret) (fun cdv A outer s H E hr => ?_)
  exact (db_one (ds_ret (de_lc (own := [("_law_a", 1)]) rfl sc__law_blank.nd (di_range1 rfl B.range (da_cons (de_var (pv 0)) da_nil)) ⟨rfl, of_decide_eq_true (by kernel_rfl), of_decide_eq_true (by kernel_rfl), of_decide_eq_true (by kernel_rfl), of_decide_eq_true (by kernel_rfl)⟩ (fun _ => (dg_name (i := 1) sc__law_blank.nd rfl (by first | exact .inl rfl | exact .inr rfl) (of_decide_eq_true rfl))) (fun _ => dts_nil) (fun _ => (de_lc (own := [("_law_b", 2)]) rfl sc__law_blank.nd (di_range1 rfl B.range (da_cons (de_var (pv 0)) da_nil)) ⟨rfl, of_decide_eq_true (by kernel_rfl), of_decide_eq_true (by kernel_rfl), of_decide_eq_true (by kernel_rfl), of_decide_eq_true (by kernel_rfl)⟩ (fun _ => (dg_name (i := 2) sc__law_blank.nd rfl (by first | exact .inl rfl | exact .inr rfl) (of_decide_eq_true rfl))) (fun _ => dts_nil) (fun _ => de_int) (by decide) (of_decide_eq_true rfl))) (by decide) (of_decide_eq_true rfl))))
/-! _law_renamed -/
def l__law_renamed_0 : Ev → So := (sAsg (mOp fIx (mOp fIx (mVar 0) (mVar 3)) (mVar 4)) (gCell 2 (mOp fIx (mVar 1) (mVar 3)) (mOp fIx (mVar 1) (mVar 4))))
def l__law_renamed_1 : Ev → So := (sFor (mRange1 (mCons (mUn bLen (mVar 0)) mNil)) (gSet 4 0) l__law_renamed_0)
def b__law_renamed : Ev → So := (sSeq (sAsg (mCall [none] m__law_blank (mCons (mUn bLen (mVar 0)) mNil)) (gSet 2 2)) (sSeq (sFor (mRange1 (mCons (mUn bLen (mVar 0)) mNil)) (gSet 3 0) l__law_renamed_1) (sRet (mFrz 2))))
def m__law_renamed : List Dt → Fo := mFn [0, 0] 3 b__law_renamed
theorem sc__law_renamed : FnScope ["_law_near_here", "_law_row_here", "_law_other", "_law_a", "_law_b"] ["_law_near_here", "_law_row_here"] (defScope s__law_renamed) := ⟨rfl, rfl, rfl, by decide +kernel, rfl, by decide +kernel, by decide +kernel⟩
theorem t__law_renamed (B : Bs mg) (t__law_blank : Fd P w K mg base "_law_blank" 1 [0] 2 m__law_blank) (D : Dn K mg "_law_renamed" s__law_renamed) : Fd P w K mg base "_law_renamed" 2 [0, 0] 0 m__law_renamed := by
  refine fd_of (lv := 1) (N := ["_law_near_here", "_law_row_here", "_law_other", "_law_a", "_law_b"]) (ps := ["_law_near_here", "_law_row_here"]) (g := b__law_renamed) D sc__law_renamed rfl rfl (fun _ _ _ _ _ _ us hl => match us, hl with | [_, _], _ => rfl) (fun _ _ _ => rfl) (fun cdv A outer s H E hr => ?_)
  exact (db_cons (ds_set (i := 2) sc__law_renamed.nd rfl (by first | exact .inl rfl | exact .inr rfl) (of_decide_eq_true rfl) (de_call (ws := [none]) tkD t__law_blank (hr.mono (by decide)) rfl rfl (ga_cons (de_b1 call_len opb_len rfl B.len boot_len (DE.b (m := .b) (de_var (pv 0)))) ga_nil)))
  (db_cons (ds_for hpD rfl (di_range1 rfl B.range (da_cons (de_b1 call_len opb_len rfl B.len boot_len (DE.b (m := .b) (de_var (pv 0)))) da_nil)) (dg_name (i := 3) sc__law_renamed.nd rfl (by first | exact .inl rfl | exact .inr rfl) (of_decide_eq_true rfl)) (db_one (ds_for hpD rfl (di_range1 rfl B.range (da_cons (de_b1 call_len opb_len rfl B.len boot_len (DE.b (m := .b) (de_var (pv 0)))) da_nil)) (dg_name (i := 4) sc__law_renamed.nd rfl (by first | exact .inl rfl | exact .inr rfl) (of_decide_eq_true rfl)) (db_one (ds_asg (de_ix (DE.b (m := .b) (de_ix (DE.b (m := .b) (de_var (pv 0))) (DE.tt (DE.b (m := .b) (de_var (pv 3)))) (fun _ _ => rfl))) (DE.tt (DE.b (m := .b) (de_var (pv 4)))) (fun _ _ => rfl)) (dg_cell (pv 2) (DE.tt (de_ix (DE.b (m := .b) (de_var (pv 1))) (DE.tt (DE.b (m := .b) (de_var (pv 3)))) (fun _ _ => rfl))) (DE.tt (de_ix (DE.b (m := .b) (de_var (pv 1))) (DE.tt (DE.b (m := .b) (de_var (pv 4)))) (fun _ _ => rfl))) (fun _ _ => rfl)))))))
  (db_one (ds_ret (de_frz (pv 2) (of_decide_eq_true rfl))))))
/-! _law_near -/
def l__law_near_0 : Ev → So := (sSeq (sAsg (mSc (.int 1)) (gCell 2 (mVar 3) (mVar 4))) (sAsg (mSc (.int 1)) (gCell 2 (mVar 4) (mVar 3))))
def b__law_near : Ev → So := (sSeq (sAsg (mCall [none] m__law_blank (mCons (mVar 0) mNil)) (gSet 2 2)) (sSeq (sFor (mIter (mVar 1)) (gUnp (gMore (gSet 3 0) (gMore (gSet 4 0) gNone))) l__law_near_0) (sRet (mFrz 2))))
def m__law_near : List Dt → Fo := mFn [0, 0] 3 b__law_near
theorem sc__law_near : FnScope ["_law_size", "_law_ties_here", "_law_near_here", "_law_a", "_law_b"] ["_law_size", "_law_ties_here"] (defScope s__law_near) := ⟨rfl, rfl, rfl, by decide +kernel, rfl, by decide +kernel, by decide +kernel⟩
theorem t__law_near (B : Bs mg) (t__law_blank : Fd P w K mg base "_law_blank" 1 [0] 2 m__law_blank) (D : Dn K mg "_law_near" s__law_near) : Fd P w K mg base "_law_near" 2 [0, 0] 0 m__law_near := by
  refine fd_of (lv := 1) (N := ["_law_size", "_law_ties_here", "_law_near_here", "_law_a", "_law_b"]) (ps := ["_law_size", "_law_ties_here"]) (g := b__law_near) D sc__law_near rfl rfl (fun _ _ _ _ _ _ us hl => match us, hl with | [_, _], _ => rfl) (fun _ _ _ => rfl) (fun cdv A outer s H E hr => ?_)
  exact (db_cons (ds_set (i := 2) sc__law_near.nd rfl (by first | exact .inl rfl | exact .inr rfl) (of_decide_eq_true rfl) (de_call (ws := [none]) tkD t__law_blank (hr.mono (by decide)) rfl rfl (ga_cons (de_var (pv 0)) ga_nil)))
  (db_cons (ds_for hpD rfl (di_list (de_var (pv 1))) (dg_tup rfl (dgs_cons (dg_name (i := 3) sc__law_near.nd rfl (by first | exact .inl rfl | exact .inr rfl) (of_decide_eq_true rfl)) (dgs_cons (dg_name (i := 4) sc__law_near.nd rfl (by first | exact .inl rfl | exact .inr rfl) (of_decide_eq_true rfl)) dgs_nil)) (TgN.cons (TgN.cons TgN.nil))) (db_cons (ds_asg de_int (dg_cell (pv 2) (DE.tt (de_var (pv 3))) (DE.tt (de_var (pv 4))) (fun _ _ => rfl)))
  (db_one (ds_asg de_int (dg_cell (pv 2) (DE.tt (de_var (pv 4))) (DE.tt (de_var (pv 3))) (fun _ _ => rfl))))))
  (db_one (ds_ret (de_frz (pv 2) (of_decide_eq_true rfl))))))
/-! _law_path -/
def e__law_path_0 : Ev → Rs Dt := (mTup (mCons (mVar 1) (mCons (mOp fAdd (mVar 1) (mSc (.int 1))) mNil)))
def b__law_path : Ev → So := (sRet (mCall [none, none] m__law_near (mCons (mVar 0) (mCons (mComp [1] (mRange1 (mCons (mOp fSub (mVar 0) (mSc (.int 1))) mNil)) (gSet 1 0) mYes e__law_path_0) mNil))))
def m__law_path : List Dt → Fo := mFn [0] 1 b__law_path
theorem sc__law_path : FnScope ["_law_size", "_law_a"] ["_law_size"] (defScope s__law_path) := ⟨rfl, rfl, rfl, by decide +kernel, rfl, by decide +kernel, by decide +kernel⟩
theorem t__law_path (B : Bs mg) (t__law_near : Fd P w K mg base "_law_near" 2 [0, 0] 0 m__law_near) (D : Dn K mg "_law_path" s__law_path) : Fd P w K mg base "_law_path" 3 [0] 0 m__law_path := by
  refine fd_of (lv := 2) (N := ["_law_size", "_law_a"]) (ps := ["_law_size"]) (g := b__law_path) D sc__law_path rfl rfl (fun _ _ _ _ _ _ us hl => match us, hl with | [_], _ => rfl) (fun _ _ _ => rfl) (fun cdv A outer s H E hr => ?_)
  exact (db_one (ds_ret (de_call (ws := [none, none]) tkD t__law_near (hr.mono (by decide)) rfl rfl (ga_cons (de_var (pv 0)) (ga_cons (DE.s (de_lc (own := [("_law_a", 1)]) rfl sc__law_path.nd (di_range1 rfl B.range (da_cons (de_op op_sub ops_sub (DE.b (m := .b) (de_var (pv 0))) (DE.tt (DE.b (m := .b) de_int))) da_nil)) ⟨rfl, of_decide_eq_true (by kernel_rfl), of_decide_eq_true (by kernel_rfl), of_decide_eq_true (by kernel_rfl), of_decide_eq_true (by kernel_rfl)⟩ (fun _ => (dg_name (i := 1) sc__law_path.nd rfl (by first | exact .inl rfl | exact .inr rfl) (of_decide_eq_true rfl))) (fun _ => dts_nil) (fun _ => (de_tup (da_cons (de_var (pv 1)) (da_cons (de_op op_addU ops_add (DE.b (m := .b) (de_var (pv 1))) (DE.tt (DE.b (m := .b) de_int))) da_nil)) (ArgN.cons (ArgN.cons ArgN.nil)))) (by decide) (of_decide_eq_true rfl))) ga_nil)))))
/-! _law_row -/
def l__law_row_0 : Ev → So := (sDrop (mMut 3 fAppend (mCons (mMut 2 fPopAt (mCons (mCall [some (0, 1), none] m__law_take (mCons (mOwn 0) (mCons (mUn bLen (mVarB 2)) mNil))) mNil)) mNil)))
def b__law_row : Ev → So := (sSeq (sAsg (mLR1 (mVar 1)) (gSet 2 1)) (sSeq (sAsg (mLst mNil) (gSet 3 1)) (sSeq (sFor (mRange1 (mCons (mVar 1) mNil)) (gSet 4 0) l__law_row_0) (sRet (mFrz 3)))))
def m__law_row : List Dt → Fo := mFn [1, 0] 3 b__law_row
theorem sc__law_row : FnScope ["_law_draws_here", "_law_size", "_law_left", "_law_row_here", "_law_k"] ["_law_draws_here", "_law_size"] (defScope s__law_row) := ⟨rfl, rfl, rfl, by decide +kernel, rfl, by decide +kernel, by decide +kernel⟩
theorem t__law_row (B : Bs mg) (t__law_take : Fd P w K mg base "_law_take" 1 [1, 0] 0 m__law_take) (D : Dn K mg "_law_row" s__law_row) : Fd P w K mg base "_law_row" 2 [1, 0] 0 m__law_row := by
  refine fd_of (lv := 1) (N := ["_law_draws_here", "_law_size", "_law_left", "_law_row_here", "_law_k"]) (ps := ["_law_draws_here", "_law_size"]) (g := b__law_row) D sc__law_row rfl rfl (fun _ _ _ _ _ _ us hl => match us, hl with | [_, _], _ => rfl) (fun _ _ _ => rfl) (fun cdv A outer s H E hr => ?_)
  exact (db_cons (ds_set (i := 2) sc__law_row.nd rfl (by first | exact .inl rfl | exact .inr rfl) (of_decide_eq_true rfl) (de_listRg1 rfl rfl B.list rfl B.range (de_var (pv 1))))
  (db_cons (ds_set (i := 3) sc__law_row.nd rfl (by first | exact .inl rfl | exact .inr rfl) (of_decide_eq_true rfl) (de_lst da_nil ArgN.nil))
  (db_cons (ds_for hpD rfl (di_range1 rfl B.range (da_cons (de_var (pv 1)) da_nil)) (dg_name (i := 4) sc__law_row.nd rfl (by first | exact .inl rfl | exact .inr rfl) (of_decide_eq_true rfl)) (db_one (ds_expr (de_append (pv 3) (da_cons (de_popAt (pv 2) (da_cons (de_call (ws := [some (0, 1), none]) tkD t__law_take (hr.mono (by decide)) rfl rfl (ga_own (pv 0) (ga_cons (de_b1 call_len opb_len rfl B.len boot_len (de_varB (pv 2))) ga_nil))) da_nil)) da_nil)))))
  (db_one (ds_ret (de_frz (pv 3) (of_decide_eq_true rfl)))))))
/-! _law_round -/
def e__law_round_0 : Ev → Rs Dt := (mTup (mCons (mVar 1) (mCons (mOp fAdd (mVar 1) (mSc (.int 1))) mNil)))
def b__law_round : Ev → So := (sRet (mCall [none, none] m__law_near (mCons (mVar 0) (mCons (mOp fAdd (mComp [1] (mRange1 (mCons (mOp fSub (mVar 0) (mSc (.int 1))) mNil)) (gSet 1 0) mYes e__law_round_0) (mLst (mCons (mTup (mCons (mSc (.int 0)) (mCons (mOp fSub (mVar 0) (mSc (.int 1))) mNil))) mNil))) mNil))))
def m__law_round : List Dt → Fo := mFn [0] 1 b__law_round
theorem sc__law_round : FnScope ["_law_size", "_law_a"] ["_law_size"] (defScope s__law_round) := ⟨rfl, rfl, rfl, by decide +kernel, rfl, by decide +kernel, by decide +kernel⟩
theorem t__law_round (B : Bs mg) (t__law_near : Fd P w K mg base "_law_near" 2 [0, 0] 0 m__law_near) (D : Dn K mg "_law_round" s__law_round) : Fd P w K mg base "_law_round" 3 [0] 0 m__law_round := by
  refine fd_of (lv := 2) (N := ["_law_size", "_law_a"]) (ps := ["_law_size"]) (g := b__law_round) D sc__law_round rfl rfl (fun _ _ _ _ _ _ us hl => match us, hl with | [_], _ => rfl) (fun _ _ _ => rfl) (fun cdv A outer s H E hr => ?_)
  exact (db_one (ds_ret (de_call (ws := [none, none]) tkD t__law_near (hr.mono (by decide)) rfl rfl (ga_cons (de_var (pv 0)) (ga_cons (de_op op_addU ops_add (DE.b1 (de_lc (own := [("_law_a", 1)]) rfl sc__law_round.nd (di_range1 rfl B.range (da_cons (de_op op_sub ops_sub (DE.b (m := .b) (de_var (pv 0))) (DE.tt (DE.b (m := .b) de_int))) da_nil)) ⟨rfl, of_decide_eq_true (by kernel_rfl), of_decide_eq_true (by kernel_rfl), of_decide_eq_true (by kernel_rfl), of_decide_eq_true (by kernel_rfl)⟩ (fun _ => (dg_name (i := 1) sc__law_round.nd rfl (by first | exact .inl rfl | exact .inr rfl) (of_decide_eq_true rfl))) (fun _ => dts_nil) (fun _ => (de_tup (da_cons (de_var (pv 1)) (da_cons (de_op op_addU ops_add (DE.b (m := .b) (de_var (pv 1))) (DE.tt (DE.b (m := .b) de_int))) da_nil)) (ArgN.cons (ArgN.cons ArgN.nil)))) (by decide) (of_decide_eq_true rfl))) (DE.tt (DE.b1 (de_lst (da_cons (de_tup (da_cons de_int (da_cons (de_op op_sub ops_sub (DE.b (m := .b) (de_var (pv 0))) (DE.tt (DE.b (m := .b) de_int))) da_nil)) (ArgN.cons (ArgN.cons ArgN.nil))) da_nil) (ArgN.cons ArgN.nil))))) ga_nil)))))
/-! _law_any_ties -/
def l__law_any_ties_0 : Ev → So := (sIf (mB (mOpD fLt (mCall [some (0, 1), none] m__law_take (mCons (mOwn 0) (mCons (mSc (.int 5)) mNil))) (mVarD 2))) (sDrop (mMut 3 fAppend (mCons (mTup (mCons (mVar 4) (mCons (mVar 5) mNil))) mNil))) sNx)
def l__law_any_ties_1 : Ev → So := (sFor (mRange2 (mCons (mOp fAdd (mVar 4) (mSc (.int 1))) (mCons (mVar 1) mNil))) (gSet 5 0) l__law_any_ties_0)
def b__law_any_ties : Ev → So := (sSeq (sAsg (mOp fAdd (mSc (.int 1)) (mCall [some (0, 1), none] m__law_take (mCons (mOwn 0) (mCons (mSc (.int 4)) mNil)))) (gSet 2 0)) (sSeq (sAsg (mLst mNil) (gSet 3 1)) (sSeq (sFor (mRange1 (mCons (mVar 1) mNil)) (gSet 4 0) l__law_any_ties_1) (sRet (mCall [none, none] m__law_near (mCons (mVar 1) (mCons (mFrz 3) mNil)))))))
def m__law_any_ties : List Dt → Fo := mFn [1, 0] 4 b__law_any_ties
theorem sc__law_any_ties : FnScope ["_law_draws_here", "_law_size", "_law_share", "_law_ties_here", "_law_a", "_law_b"] ["_law_draws_here", "_law_size"] (defScope s__law_any_ties) := ⟨rfl, rfl, rfl, by decide +kernel, rfl, by decide +kernel, by decide +kernel⟩
theorem t__law_any_ties (B : Bs mg) (t__law_take : Fd P w K mg base "_law_take" 1 [1, 0] 0 m__law_take) (t__law_near : Fd P w K mg base "_law_near" 2 [0, 0] 0 m__law_near) (D : Dn K mg "_law_any_ties" s__law_any_ties) : Fd P w K mg base "_law_any_ties" 3 [1, 0] 0 m__law_any_ties := by
  refine fd_of (lv := 2) (N := ["_law_draws_here", "_law_size", "_law_share", "_law_ties_here", "_law_a", "_law_b"]) (ps := ["_law_draws_here", "_law_size"]) (g := b__law_any_ties) D sc__law_any_ties rfl rfl (fun _ _ _ _ _ _ us hl => match us, hl with | [_, _], _ => rfl) (fun _ _ _ => rfl) (fun cdv A outer s H E hr => ?_)
  exact (db_cons (ds_set (i := 2) sc__law_any_ties.nd rfl (by first | exact .inl rfl | exact .inr rfl) (of_decide_eq_true rfl) (de_op' op_addU ops_add de_int (DE.b (m := .b) (de_call (ws := [some (0, 1), none]) tkD t__law_take (hr.mono (by decide)) rfl rfl (ga_own (pv 0) (ga_cons de_int ga_nil))))))
  (db_cons (ds_set (i := 3) sc__law_any_ties.nd rfl (by first | exact .inl rfl | exact .inr rfl) (of_decide_eq_true rfl) (de_lst da_nil ArgN.nil))
  (db_cons (ds_for hpD rfl (di_range1 rfl B.range (da_cons (de_var (pv 1)) da_nil)) (dg_name (i := 4) sc__law_any_ties.nd rfl (by first | exact .inl rfl | exact .inr rfl) (of_decide_eq_true rfl)) (db_one (ds_for hpD rfl (di_range2 rfl B.range (da_cons (de_op op_addU ops_add (DE.b (m := .b) (de_var (pv 4))) (DE.tt (DE.b (m := .b) de_int))) (da_cons (de_var (pv 1)) da_nil))) (dg_name (i := 5) sc__law_any_ties.nd rfl (by first | exact .inl rfl | exact .inr rfl) (of_decide_eq_true rfl)) (db_one (ds_if (dt_cmp (op_ltU (u0 hr)) ops_lt (DE.bd (DE.b (m := .b) (de_call (ws := [some (0, 1), none]) tkD t__law_take (hr.mono (by decide)) rfl rfl (ga_own (pv 0) (ga_cons de_int ga_nil))))) (DE.tt (de_varD (pv 2))) (nomark _)) (db_one (ds_expr (de_append (pv 3) (da_cons (de_tup (da_cons (de_var (pv 4)) (da_cons (de_var (pv 5)) da_nil)) (ArgN.cons (ArgN.cons ArgN.nil))) da_nil)))) db_nil)))))
  (db_one (ds_ret (de_call (ws := [none, none]) tkD t__law_near (hr.mono (by decide)) rfl rfl (ga_cons (de_var (pv 1)) (ga_cons (de_frz (pv 3) (of_decide_eq_true rfl)) ga_nil))))))))
/-! _law_agree -/
def e__law_agree_0 : Ev → Rs Dt := (mOpD fLt (mIndex (mVar 6) (mCons (mVar 3) mNil)) (mIndex (mVar 6) (mCons (mVar 4) mNil)))
def l__law_agree_1 : Ev → So := (sSeq (sAsg (mComp [6] (mIter (mVar 0)) (gSet 6 0) mYes e__law_agree_0) (gSet 5 0)) (sIf (mAnd (mB (mOpD fNe (mVarD 3) (mVarD 4))) (mOr (mTru (mUn bAll (mVar 5))) (mNot (mTru (mUn bAny (mVar 5)))))) (sAsg (mSc (.int 1)) (gCell 2 (mVar 3) (mVar 4))) sNx))
def l__law_agree_2 : Ev → So := (sFor (mRange1 (mCons (mVar 1) mNil)) (gSet 4 0) l__law_agree_1)
def b__law_agree : Ev → So := (sSeq (sAsg (mUn bLen (mOp fIx (mVar 0) (mSc (.int 0)))) (gSet 1 0)) (sSeq (sAsg (mCall [none] m__law_blank (mCons (mVar 1) mNil)) (gSet 2 2)) (sSeq (sFor (mRange1 (mCons (mVar 1) mNil)) (gSet 3 0) l__law_agree_2) (sRet (mFrz 2)))))
def m__law_agree : List Dt → Fo := mFn [0] 6 b__law_agree
theorem sc__law_agree : FnScope ["_law_rows", "_law_size", "_law_near_here", "_law_a", "_law_b", "_law_ways", "_law_row_here"] ["_law_rows"] (defScope s__law_agree) := ⟨rfl, rfl, rfl, by decide +kernel, rfl, by decide +kernel, by decide +kernel⟩
theorem t__law_agree (B : Bs mg) (t__law_blank : Fd P w K mg base "_law_blank" 1 [0] 2 m__law_blank) (D : Dn K mg "_law_agree" s__law_agree) : Fd P w K mg base "_law_agree" 2 [0] 0 m__law_agree := by
  refine fd_of (lv := 1) (N := ["_law_rows", "_law_size", "_law_near_here", "_law_a", "_law_b", "_law_ways", "_law_row_here"]) (ps := ["_law_rows"]) (g := b__law_agree) D sc__law_agree rfl rfl (fun _ _ _ _ _ _ us hl => match us, hl with | [_], _ => rfl) (fun _ _ _ => rfl) (fun cdv A outer s H E hr => ?_)
  exact (db_cons (ds_set (i := 1) sc__law_agree.nd rfl (by first | exact .inl rfl | exact .inr rfl) (of_decide_eq_true rfl) (de_b1 call_len opb_len rfl B.len boot_len (DE.b (m := .b) (de_ix (DE.b (m := .b) (de_var (pv 0))) (DE.tt (DE.b (m := .b) de_int)) (fun _ _ => rfl)))))
  (db_cons (ds_set (i := 2) sc__law_agree.nd rfl (by first | exact .inl rfl | exact .inr rfl) (of_decide_eq_true rfl) (de_call (ws := [none]) tkD t__law_blank (hr.mono (by decide)) rfl rfl (ga_cons (de_var (pv 1)) ga_nil)))
  (db_cons (ds_for hpD rfl (di_range1 rfl B.range (da_cons (de_var (pv 1)) da_nil)) (dg_name (i := 3) sc__law_agree.nd rfl (by first | exact .inl rfl | exact .inr rfl) (of_decide_eq_true rfl)) (db_one (ds_for hpD rfl (di_range1 rfl B.range (da_cons (de_var (pv 1)) da_nil)) (dg_name (i := 4) sc__law_agree.nd rfl (by first | exact .inl rfl | exact .inr rfl) (of_decide_eq_true rfl)) (db_cons (ds_setLcj (j := 0) (own := [("_law_row_here", 6)]) (.inl rfl) rfl sc__law_agree.nd rfl rfl (of_decide_eq_true rfl) (sw_true rfl rfl (by rfl) (by rfl)) (di_list (de_var (pv 0))) ⟨rfl, of_decide_eq_true (by kernel_rfl), of_decide_eq_true (by kernel_rfl), of_decide_eq_true (by kernel_rfl), of_decide_eq_true (by kernel_rfl)⟩ (fun _ => (dg_name (i := 6) sc__law_agree.nd rfl (by first | exact .inl rfl | exact .inr rfl) (of_decide_eq_true rfl))) (fun _ => dts_nil) (fun _ => (de_cmp (op_ltU (u0 hr)) ops_lt (DE.bd (DE.b (m := .b) (de_index (de_var (pv 6)) (da_cons (de_var (pv 3)) da_nil)))) (DE.tt (DE.bd (DE.b (m := .b) (de_index (de_var (pv 6)) (da_cons (de_var (pv 4)) da_nil))))) (nomark _))) (by decide) (of_decide_eq_true rfl))
  (db_one (ds_if (DW.t (dw_and (dt_cmp (op_neD (u64 hr)) ops_ne (de_varD (pv 3)) (DE.tt (de_varD (pv 4))) (nomark _)) (dw_and1 (DW.t (dw_or (dt_tru (DE.bd (DE.b (m := .b) (de_b1 (cr_all rfl) opb_all rfl B.all boot_all (DE.b (m := .b) (de_var (pv 5))))))) (dw_or1 (dt_not (dt_tru (DE.bd (DE.b (m := .b) (de_b1 (cr_any rfl) opb_any rfl B.any boot_any (DE.b (m := .b) (de_var (pv 5)))))))))))))) (db_one (ds_asg de_int (dg_cell (pv 2) (DE.tt (de_var (pv 3))) (DE.tt (de_var (pv 4))) (fun _ _ => rfl)))) db_nil))))))
  (db_one (ds_ret (de_frz (pv 2) (of_decide_eq_true rfl)))))))
/-! _law_graft -/
def e__law_graft_0 : Ev → Rs Dt := (mVar 6)
def c__law_graft_0 : Ev → Rs Bool := (mB (mOpD fNe (mVarD 6) (mVarD 1)))
def l__law_graft_1 : Ev → So := (sIf (mAnd (mB (mOpD fLt (mVarD 6) (mUn bLen (mVar 3)))) (mB (mOpD fLt (mVarD 7) (mUn bLen (mVar 3))))) (sAsg (mOp fIx (mOp fIx (mVar 0) (mOp fIx (mVar 3) (mVar 6))) (mOp fIx (mVar 3) (mVar 7))) (gCell 5 (mVar 6) (mVar 7))) (sIf (mAnd (mB (mOpD fGe (mVarD 6) (mUn bLen (mVar 3)))) (mB (mOpD fGe (mVarD 7) (mUn bLen (mVar 3))))) (sAsg (mOp fIx (mOp fIx (mVar 2) (mOp fSub (mVar 6) (mUn bLen (mVar 3)))) (mOp fSub (mVar 7) (mUn bLen (mVar 3)))) (gCell 5 (mVar 6) (mVar 7))) (sIf (mB (mOpD fLt (mVarD 6) (mUn bLen (mVar 3)))) (sAsg (mOp fIx (mOp fIx (mVar 0) (mOp fIx (mVar 3) (mVar 6))) (mVar 1)) (gCell 5 (mVar 6) (mVar 7))) (sAsg (mOp fIx (mOp fIx (mVar 0) (mVar 1)) (mOp fIx (mVar 3) (mVar 7))) (gCell 5 (mVar 6) (mVar 7))))))
def l__law_graft_2 : Ev → So := (sFor (mRange1 (mCons (mVar 4) mNil)) (gSet 7 0) l__law_graft_1)
def b__law_graft : Ev → So := (sSeq (sAsg (mComp [6] (mRange1 (mCons (mUn bLen (mVar 0)) mNil)) (gSet 6 0) c__law_graft_0 e__law_graft_0) (gSet 3 0)) (sSeq (sAsg (mOp fAdd (mUn bLen (mVar 3)) (mUn bLen (mVar 2))) (gSet 4 0)) (sSeq (sAsg (mCall [none] m__law_blank (mCons (mVar 4) mNil)) (gSet 5 2)) (sSeq (sFor (mRange1 (mCons (mVar 4) mNil)) (gSet 6 0) l__law_graft_2) (sRet (mFrz 5))))))
def m__law_graft : List Dt → Fo := mFn [0, 0, 0] 5 b__law_graft
theorem sc__law_graft : FnScope ["_law_near_here", "_law_thing", "_law_guest", "_law_old", "_law_size", "_law_other", "_law_a", "_law_b"] ["_law_near_here", "_law_thing", "_law_guest"] (defScope s__law_graft) := ⟨rfl, rfl, rfl, by decide +kernel, rfl, by decide +kernel, by decide +kernel⟩
theorem t__law_graft (B : Bs mg) (t__law_blank : Fd P w K mg base "_law_blank" 1 [0] 2 m__law_blank) (D : Dn K mg "_law_graft" s__law_graft) : Fd P w K mg base "_law_graft" 2 [0, 0, 0] 0 m__law_graft := by
  refine fd_of (lv := 1) (N := ["_law_near_here", "_law_thing", "_law_guest", "_law_old", "_law_size", "_law_other", "_law_a", "_law_b"]) (ps := ["_law_near_here", "_law_thing", "_law_guest"]) (g := b__law_graft) D sc__law_graft rfl rfl (fun _ _ _ _ _ _ us hl => match us, hl with | [_, _, _], _ => rfl) (fun _ _ _ => rfl) (fun cdv A outer s H E hr => ?_)
  exact (db_cons (ds_setLcj (j := 0) (own := [("_law_a", 6)]) (.inl rfl) rfl sc__law_graft.nd rfl rfl (of_decide_eq_true rfl) (sw_true rfl rfl (by rfl) (by rfl)) (di_range1 rfl B.range (da_cons (de_b1 call_len opb_len rfl B.len boot_len (DE.b (m := .b) (de_var (pv 0)))) da_nil)) ⟨rfl, of_decide_eq_true (by kernel_rfl), of_decide_eq_true (by kernel_rfl), of_decide_eq_true (by kernel_rfl), of_decide_eq_true (by kernel_rfl)⟩ (fun _ => (dg_name (i := 6) sc__law_graft.nd rfl (by first | exact .inl rfl | exact .inr rfl) (of_decide_eq_true rfl))) (fun _ => (dts_one (dt_cmp (op_neD (u64 hr)) ops_ne (de_varD (pv 6)) (DE.tt (de_varD (pv 1))) (nomark _)))) (fun _ => (de_var (pv 6))) (by decide) (of_decide_eq_true rfl))
  (db_cons (ds_set (i := 4) sc__law_graft.nd rfl (by first | exact .inl rfl | exact .inr rfl) (of_decide_eq_true rfl) (de_op op_addU ops_add (DE.b (m := .b) (de_b1 call_len opb_len rfl B.len boot_len (DE.b (m := .b) (de_var (pv 3))))) (DE.tt (DE.b (m := .b) (de_b1 call_len opb_len rfl B.len boot_len (DE.b (m := .b) (de_var (pv 2))))))))
  (db_cons (ds_set (i := 5) sc__law_graft.nd rfl (by first | exact .inl rfl | exact .inr rfl) (of_decide_eq_true rfl) (de_call (ws := [none]) tkD t__law_blank (hr.mono (by decide)) rfl rfl (ga_cons (de_var (pv 4)) ga_nil)))
  (db_cons (ds_for hpD rfl (di_range1 rfl B.range (da_cons (de_var (pv 4)) da_nil)) (dg_name (i := 6) sc__law_graft.nd rfl (by first | exact .inl rfl | exact .inr rfl) (of_decide_eq_true rfl)) (db_one (ds_for hpD rfl (di_range1 rfl B.range (da_cons (de_var (pv 4)) da_nil)) (dg_name (i := 7) sc__law_graft.nd rfl (by first | exact .inl rfl | exact .inr rfl) (of_decide_eq_true rfl)) (db_one (ds_if (DW.t (dw_and (dt_cmp (op_ltU (u0 hr)) ops_lt (de_varD (pv 6)) (DE.tt (DE.bd (DE.b (m := .b) (de_b1 call_len opb_len rfl B.len boot_len (DE.b (m := .b) (de_var (pv 3))))))) (nomark _)) (dw_and1 (dt_cmp (op_ltU (u0 hr)) ops_lt (de_varD (pv 7)) (DE.tt (DE.bd (DE.b (m := .b) (de_b1 call_len opb_len rfl B.len boot_len (DE.b (m := .b) (de_var (pv 3))))))) (nomark _))))) (db_one (ds_asg (de_ix (DE.b (m := .b) (de_ix (DE.b (m := .b) (de_var (pv 0))) (DE.tt (DE.b (m := .b) (de_ix (DE.b (m := .b) (de_var (pv 3))) (DE.tt (DE.b (m := .b) (de_var (pv 6)))) (fun _ _ => rfl)))) (fun _ _ => rfl))) (DE.tt (DE.b (m := .b) (de_ix (DE.b (m := .b) (de_var (pv 3))) (DE.tt (DE.b (m := .b) (de_var (pv 7)))) (fun _ _ => rfl)))) (fun _ _ => rfl)) (dg_cell (pv 5) (DE.tt (de_var (pv 6))) (DE.tt (de_var (pv 7))) (fun _ _ => rfl)))) (db_one (ds_if (DW.t (dw_and (dt_cmp op_ge ops_ge (de_varD (pv 6)) (DE.tt (DE.bd (DE.b (m := .b) (de_b1 call_len opb_len rfl B.len boot_len (DE.b (m := .b) (de_var (pv 3))))))) (nomark _)) (dw_and1 (dt_cmp op_ge ops_ge (de_varD (pv 7)) (DE.tt (DE.bd (DE.b (m := .b) (de_b1 call_len opb_len rfl B.len boot_len (DE.b (m := .b) (de_var (pv 3))))))) (nomark _))))) (db_one (ds_asg (de_ix (DE.b (m := .b) (de_ix (DE.b (m := .b) (de_var (pv 2))) (DE.tt (DE.b (m := .b) (de_op op_sub ops_sub (DE.b (m := .b) (de_var (pv 6))) (DE.tt (DE.b (m := .b) (de_b1 call_len opb_len rfl B.len boot_len (DE.b (m := .b) (de_var (pv 3))))))))) (fun _ _ => rfl))) (DE.tt (DE.b (m := .b) (de_op op_sub ops_sub (DE.b (m := .b) (de_var (pv 7))) (DE.tt (DE.b (m := .b) (de_b1 call_len opb_len rfl B.len boot_len (DE.b (m := .b) (de_var (pv 3))))))))) (fun _ _ => rfl)) (dg_cell (pv 5) (DE.tt (de_var (pv 6))) (DE.tt (de_var (pv 7))) (fun _ _ => rfl)))) (db_one (ds_if (dt_cmp (op_ltU (u0 hr)) ops_lt (de_varD (pv 6)) (DE.tt (DE.bd (DE.b (m := .b) (de_b1 call_len opb_len rfl B.len boot_len (DE.b (m := .b) (de_var (pv 3))))))) (nomark _)) (db_one (ds_asg (de_ix (DE.b (m := .b) (de_ix (DE.b (m := .b) (de_var (pv 0))) (DE.tt (DE.b (m := .b) (de_ix (DE.b (m := .b) (de_var (pv 3))) (DE.tt (DE.b (m := .b) (de_var (pv 6)))) (fun _ _ => rfl)))) (fun _ _ => rfl))) (DE.tt (DE.b (m := .b) (de_var (pv 1)))) (fun _ _ => rfl)) (dg_cell (pv 5) (DE.tt (de_var (pv 6))) (DE.tt (de_var (pv 7))) (fun _ _ => rfl)))) (db_one (ds_asg (de_ix (DE.b (m := .b) (de_ix (DE.b (m := .b) (de_var (pv 0))) (DE.tt (DE.b (m := .b) (de_var (pv 1)))) (fun _ _ => rfl))) (DE.tt (DE.b (m := .b) (de_ix (DE.b (m := .b) (de_var (pv 3))) (DE.tt (DE.b (m := .b) (de_var (pv 7)))) (fun _ _ => rfl)))) (fun _ _ => rfl)) (dg_cell (pv 5) (DE.tt (de_var (pv 6))) (DE.tt (de_var (pv 7))) (fun _ _ => rfl)))))))))))))
  (db_one (ds_ret (de_frz (pv 5) (of_decide_eq_true rfl))))))))
/-! _law_drawn -/
def b__law_drawn : Ev → So := (sSeq (sAsg (mCall [some (0, 1), none] m__law_take (mCons (mOwn 0) (mCons (mSc (.int 5)) mNil))) (gSet 2 0)) (sSeq (sAsg (mOp fAdd (mSc (.int 4)) (mCall [some (0, 1), none] m__law_take (mCons (mOwn 0) (mCons (mOp fSub (mVar 1) (mSc (.int 3))) mNil)))) (gSet 3 0)) (sSeq (sIf (mB (mOpD fEq (mVarD 2) (mSc (.int 0)))) (sAsg (mCall [none] m__law_path (mCons (mVar 3) mNil)) (gSet 4 0)) (sIf (mB (mOpD fEq (mVarD 2) (mSc (.int 1)))) (sAsg (mCall [none] m__law_round (mCons (mVar 3) mNil)) (gSet 4 0)) (sIf (mB (mOpD fEq (mVarD 2) (mSc (.int 2)))) (sAsg (mCall [some (0, 1), none] m__law_any_ties (mCons (mOwn 0) (mCons (mOp fSub (mVar 3) (mCall [some (0, 1), none] m__law_take (mCons (mOwn 0) (mCons (mSc (.int 4)) mNil)))) mNil))) (gSet 4 0)) (sIf (mB (mOpD fEq (mVarD 2) (mSc (.int 3)))) (sAsg (mCall [none] m__law_agree (mCons (mLst (mCons (mCall [some (0, 1), none] m__law_row (mCons (mOwn 0) (mCons (mVar 3) mNil))) (mCons (mCall [some (0, 1), none] m__law_row (mCons (mOwn 0) (mCons (mVar 3) mNil))) mNil))) mNil)) (gSet 4 0)) (sAsg (mCall [none, none, none] m__law_graft (mCons (mCall [none] m__law_path (mCons (mSc (.int 4)) mNil)) (mCons (mCall [some (0, 1), none] m__law_take (mCons (mOwn 0) (mCons (mSc (.int 4)) mNil))) (mCons (mCall [some (0, 1), none] m__law_any_ties (mCons (mOwn 0) (mCons (mOp fSub (mVar 3) (mSc (.int 3))) mNil))) mNil)))) (gSet 4 0)))))) (sRet (mCall [none, none] m__law_renamed (mCons (mVar 4) (mCons (mCall [some (0, 1), none] m__law_row (mCons (mOwn 0) (mCons (mUn bLen (mVar 4)) mNil))) mNil)))))))
def m__law_drawn : List Dt → Fo := mFn [1, 0] 3 b__law_drawn
theorem sc__law_drawn : FnScope ["_law_draws_here", "_law_most", "_law_word", "_law_size", "_law_near_here"] ["_law_draws_here", "_law_most"] (defScope s__law_drawn) := ⟨rfl, rfl, rfl, by decide +kernel, rfl, by decide +kernel, by decide +kernel⟩
theorem t__law_drawn (B : Bs mg) (t__law_take : Fd P w K mg base "_law_take" 1 [1, 0] 0 m__law_take) (t__law_path : Fd P w K mg base "_law_path" 3 [0] 0 m__law_path) (t__law_round : Fd P w K mg base "_law_round" 3 [0] 0 m__law_round) (t__law_any_ties : Fd P w K mg base "_law_any_ties" 3 [1, 0] 0 m__law_any_ties) (t__law_row : Fd P w K mg base "_law_row" 2 [1, 0] 0 m__law_row) (t__law_agree : Fd P w K mg base "_law_agree" 2 [0] 0 m__law_agree) (t__law_graft : Fd P w K mg base "_law_graft" 2 [0, 0, 0] 0 m__law_graft) (t__law_renamed : Fd P w K mg base "_law_renamed" 2 [0, 0] 0 m__law_renamed) (D : Dn K mg "_law_drawn" s__law_drawn) : Fd P w K mg base "_law_drawn" 4 [1, 0] 0 m__law_drawn := by
  refine fd_of (lv := 3) (N := ["_law_draws_here", "_law_most", "_law_word", "_law_size", "_law_near_here"]) (ps := ["_law_draws_here", "_law_most"]) (g := b__law_drawn) D sc__law_drawn rfl rfl (fun _ _ _ _ _ _ us hl => match us, hl with | [_, _], _ => rfl) (fun _ _ _ => rfl) (fun cdv A outer s H E hr => ?_)
  exact (db_cons (ds_set (i := 2) sc__law_drawn.nd rfl (by first | exact .inl rfl | exact .inr rfl) (of_decide_eq_true rfl) (de_call (ws := [some (0, 1), none]) tkD t__law_take (hr.mono (by decide)) rfl rfl (ga_own (pv 0) (ga_cons de_int ga_nil))))
  (db_cons (ds_set (i := 3) sc__law_drawn.nd rfl (by first | exact .inl rfl | exact .inr rfl) (of_decide_eq_true rfl) (de_op' op_addU ops_add de_int (DE.b (m := .b) (de_call (ws := [some (0, 1), none]) tkD t__law_take (hr.mono (by decide)) rfl rfl (ga_own (pv 0) (ga_cons (de_op op_sub ops_sub (DE.b (m := .b) (de_var (pv 1))) (DE.tt (DE.b (m := .b) de_int))) ga_nil))))))
  (db_cons (ds_if (dt_cmp (op_eqD (u64 hr)) ops_eq (de_varD (pv 2)) (DE.tt (DE.bd (DE.b (m := .b) de_int))) (nomark _)) (db_one (ds_set (i := 4) sc__law_drawn.nd rfl (by first | exact .inl rfl | exact .inr rfl) (of_decide_eq_true rfl) (de_call (ws := [none]) tkD t__law_path (hr.mono (by decide)) rfl rfl (ga_cons (de_var (pv 3)) ga_nil)))) (db_one (ds_if (dt_cmp (op_eqD (u64 hr)) ops_eq (de_varD (pv 2)) (DE.tt (DE.bd (DE.b (m := .b) de_int))) (nomark _)) (db_one (ds_set (i := 4) sc__law_drawn.nd rfl (by first | exact .inl rfl | exact .inr rfl) (of_decide_eq_true rfl) (de_call (ws := [none]) tkD t__law_round (hr.mono (by decide)) rfl rfl (ga_cons (de_var (pv 3)) ga_nil)))) (db_one (ds_if (dt_cmp (op_eqD (u64 hr)) ops_eq (de_varD (pv 2)) (DE.tt (DE.bd (DE.b (m := .b) de_int))) (nomark _)) (db_one (ds_set (i := 4) sc__law_drawn.nd rfl (by first | exact .inl rfl | exact .inr rfl) (of_decide_eq_true rfl) (de_call (ws := [some (0, 1), none]) tkD t__law_any_ties (hr.mono (by decide)) rfl rfl (ga_own (pv 0) (ga_cons (de_op' op_sub ops_sub (de_var (pv 3)) (DE.b (m := .b) (de_call (ws := [some (0, 1), none]) tkD t__law_take (hr.mono (by decide)) rfl rfl (ga_own (pv 0) (ga_cons de_int ga_nil))))) ga_nil))))) (db_one (ds_if (dt_cmp (op_eqD (u64 hr)) ops_eq (de_varD (pv 2)) (DE.tt (DE.bd (DE.b (m := .b) de_int))) (nomark _)) (db_one (ds_set (i := 4) sc__law_drawn.nd rfl (by first | exact .inl rfl | exact .inr rfl) (of_decide_eq_true rfl) (de_call (ws := [none]) tkD t__law_agree (hr.mono (by decide)) rfl rfl (ga_cons (DE.s (de_lst (da_cons (de_call (ws := [some (0, 1), none]) tkD t__law_row (hr.mono (by decide)) rfl rfl (ga_own (pv 0) (ga_cons (de_var (pv 3)) ga_nil))) (da_cons (de_call (ws := [some (0, 1), none]) tkD t__law_row (hr.mono (by decide)) rfl rfl (ga_own (pv 0) (ga_cons (de_var (pv 3)) ga_nil))) da_nil)) (ArgN.cons (ArgN.cons ArgN.nil)))) ga_nil)))) (db_one (ds_set (i := 4) sc__law_drawn.nd rfl (by first | exact .inl rfl | exact .inr rfl) (of_decide_eq_true rfl) (de_call (ws := [none, none, none]) tkD t__law_graft (hr.mono (by decide)) rfl rfl (ga_cons (de_call (ws := [none]) tkD t__law_path (hr.mono (by decide)) rfl rfl (ga_cons de_int ga_nil)) (ga_cons (de_call (ws := [some (0, 1), none]) tkD t__law_take (hr.mono (by decide)) rfl rfl (ga_own (pv 0) (ga_cons de_int ga_nil))) (ga_cons (de_call (ws := [some (0, 1), none]) tkD t__law_any_ties (hr.mono (by decide)) rfl rfl (ga_own (pv 0) (ga_cons (de_op op_sub ops_sub (DE.b (m := .b) (de_var (pv 3))) (DE.tt (DE.b (m := .b) de_int))) ga_nil))) ga_nil)))))))))))))
  (db_one (ds_ret (de_call (ws := [none, none]) tkD t__law_renamed (hr.mono (by decide)) rfl rfl (ga_cons (de_var (pv 4)) (ga_cons (de_call (ws := [some (0, 1), none]) tkD t__law_row (hr.mono (by decide)) rfl rfl (ga_own (pv 0) (ga_cons (de_b1 call_len opb_len rfl B.len boot_len (DE.b (m := .b) (de_var (pv 4)))) ga_nil))) ga_nil))))))))
/-! _law_ties -/
def l__law_ties_0 : Ev → So := (sIf (mB (mOpD fEq (mOp fIx (mOp fIx (mVar 0) (mVar 2)) (mVar 3)) (mSc (.int 1)))) (sDrop (mMut 1 fAppend (mCons (mTup (mCons (mVar 2) (mCons (mVar 3) mNil))) mNil))) sNx)
def l__law_ties_1 : Ev → So := (sFor (mRange2 (mCons (mOp fAdd (mVar 2) (mSc (.int 1))) (mCons (mUn bLen (mVar 0)) mNil))) (gSet 3 0) l__law_ties_0)
def b__law_ties : Ev → So := (sSeq (sAsg (mLst mNil) (gSet 1 1)) (sSeq (sFor (mRange1 (mCons (mUn bLen (mVar 0)) mNil)) (gSet 2 0) l__law_ties_1) (sRet (mFrz 1))))
def m__law_ties : List Dt → Fo := mFn [0] 3 b__law_ties
theorem sc__law_ties : FnScope ["_law_near_here", "_law_ties_here", "_law_a", "_law_b"] ["_law_near_here"] (defScope s__law_ties) := ⟨rfl, rfl, rfl, by decide +kernel, rfl, by decide +kernel, by decide +kernel⟩
theorem t__law_ties (B : Bs mg) (D : Dn K mg "_law_ties" s__law_ties) : Fd P w K mg base "_law_ties" 1 [0] 0 m__law_ties := by
  refine fd_of (lv := 0) (N := ["_law_near_here", "_law_ties_here", "_law_a", "_law_b"]) (ps := ["_law_near_here"]) (g := b__law_ties) D sc__law_ties rfl rfl (fun _ _ _ _ _ _ us hl => match us, hl with | [_], _ => rfl) (fun _ _ _ => rfl) (fun cdv A outer s H E hr => ?_)
  exact (db_cons (ds_set (i := 1) sc__law_ties.nd rfl (by first | exact .inl rfl | exact .inr rfl) (of_decide_eq_true rfl) (de_lst da_nil ArgN.nil))
  (db_cons (ds_for hpD rfl (di_range1 rfl B.range (da_cons (de_b1 call_len opb_len rfl B.len boot_len (DE.b (m := .b) (de_var (pv 0)))) da_nil)) (dg_name (i := 2) sc__law_ties.nd rfl (by first | exact .inl rfl | exact .inr rfl) (of_decide_eq_true rfl)) (db_one (ds_for hpD rfl (di_range2 rfl B.range (da_cons (de_op op_addU ops_add (DE.b (m := .b) (de_var (pv 2))) (DE.tt (DE.b (m := .b) de_int))) (da_cons (de_b1 call_len opb_len rfl B.len boot_len (DE.b (m := .b) (de_var (pv 0)))) da_nil))) (dg_name (i := 3) sc__law_ties.nd rfl (by first | exact .inl rfl | exact .inr rfl) (of_decide_eq_true rfl)) (db_one (ds_if (dt_cmp (op_eqD (u64 hr)) ops_eq (DE.bd (DE.b (m := .b) (de_ix (DE.b (m := .b) (de_ix (DE.b (m := .b) (de_var (pv 0))) (DE.tt (DE.b (m := .b) (de_var (pv 2)))) (fun _ _ => rfl))) (DE.tt (DE.b (m := .b) (de_var (pv 3)))) (fun _ _ => rfl)))) (DE.tt (DE.bd (DE.b (m := .b) de_int))) (nomark _)) (db_one (ds_expr (de_append (pv 1) (da_cons (de_tup (da_cons (de_var (pv 2)) (da_cons (de_var (pv 3)) da_nil)) (ArgN.cons (ArgN.cons ArgN.nil))) da_nil)))) db_nil)))))
  (db_one (ds_ret (de_frz (pv 1) (of_decide_eq_true rfl))))))
/-! is_integer -/
def b_is_integer : Ev → So := (sRet (mAndV (mIsi [(tbTy "int")] (mVarD 0)) (mNotV (mIsi [(tbTy "bool")] (mVarD 0)))))
def m_is_integer : List Dt → Fo := mFn [0] 0 b_is_integer
theorem sc_is_integer : FnScope ["value"] ["value"] (defScope s_is_integer) := ⟨rfl, rfl, rfl, by decide +kernel, rfl, by decide +kernel, by decide +kernel⟩
theorem t_is_integer (B : Bs mg) (D : Dn K mg "is_integer" s_is_integer) : Fd P w K mg base "is_integer" 1 [0] 0 m_is_integer := by
  refine fd_of (lv := 0) (N := ["value"]) (ps := ["value"]) (g := b_is_integer) D sc_is_integer rfl rfl (fun _ _ _ _ _ _ us hl => match us, hl with | [_], _ => rfl) (fun _ _ _ => rfl) (fun cdv A outer s H E hr => ?_)
  exact (db_one (ds_ret (de_and (de_isi1 rfl B.isinstance (de_varD (pv 0)) (ClEs.cons (ClE.ty "int" rfl B.int boot_int (by decide) (by decide)) isi_int ClEs.nil)) (de_one (de_not (de_isi1 rfl B.isinstance (de_varD (pv 0)) (ClEs.cons (ClE.ty "bool" rfl B.bool boot_bool (by decide) (by decide)) isi_bool ClEs.nil)))))))
/-! number_of_kind -/
def b_number_of_kind : Ev → So := (sSeq (sIf (mOr (mNot (mTru (mCall [none] m_is_integer (mCons (mVar 0) mNil)))) (mNot (mB (mChain fLe fLe (mVar 1) (mVar 0) (mVar 2))))) (sRaise "BadNumber" ["name"] (mCons (mVar 3) mNil)) sNx) (sRet (mVar 0)))
def m_number_of_kind : List Dt → Fo := mFn [0, 0, 0, 0] 0 b_number_of_kind
theorem sc_number_of_kind : FnScope ["value", "low", "high", "name"] ["value", "low", "high", "name"] (defScope s_number_of_kind) := ⟨rfl, rfl, rfl, by decide +kernel, rfl, by decide +kernel, by decide +kernel⟩
theorem t_number_of_kind (B : Bs mg) (t_is_integer : Fd P w K mg base "is_integer" 1 [0] 0 m_is_integer) (x_BadNumber : Xf P w K mg base "BadNumber" 1 ["name"]) (D : Dn K mg "number_of_kind" s_number_of_kind) : Fd P w K mg base "number_of_kind" 3 [0, 0, 0, 0] 0 m_number_of_kind := by
  refine fd_of (lv := 2) (N := ["value", "low", "high", "name"]) (ps := ["value", "low", "high", "name"]) (g := b_number_of_kind) D sc_number_of_kind rfl rfl (fun _ _ _ _ _ _ us hl => match us, hl with | [_, _, _, _], _ => rfl) (fun _ _ _ => rfl) (fun cdv A outer s H E hr => ?_)
  exact (db_cons (ds_if (DW.t (dw_or (dt_not (dt_tru (DE.bd (DE.b (m := .b) (de_call (ws := [none]) tkD t_is_integer (hr.mono (by decide)) rfl rfl (ga_cons (de_var (pv 0)) ga_nil)))))) (dw_or1 (dt_not (dt_chain op_le op_le ops_le ops_le (de_var (pv 1)) (de_var (pv 0)) (de_var (pv 2))))))) (db_one (ds_raise rfl tkD x_BadNumber (hr.mono (by decide)) rfl (da_cons (de_var (pv 3)) da_nil))) db_nil)
  (db_one (ds_ret (de_var (pv 0)))))
/-! is_thing -/
def b_is_thing : Ev → So := (sRet (mAndV (mCall [none] m_is_integer (mCons (mVar 1) mNil)) (mChain fLe fLt (mSc (.int 0)) (mVar 1) (mVar 0))))
def m_is_thing : List Dt → Fo := mFn [0, 0] 0 b_is_thing
theorem sc_is_thing : FnScope ["size", "value"] ["size", "value"] (defScope s_is_thing) := ⟨rfl, rfl, rfl, by decide +kernel, rfl, by decide +kernel, by decide +kernel⟩
theorem t_is_thing (B : Bs mg) (t_is_integer : Fd P w K mg base "is_integer" 1 [0] 0 m_is_integer) (D : Dn K mg "is_thing" s_is_thing) : Fd P w K mg base "is_thing" 2 [0, 0] 0 m_is_thing := by
  refine fd_of (lv := 1) (N := ["size", "value"]) (ps := ["size", "value"]) (g := b_is_thing) D sc_is_thing rfl rfl (fun _ _ _ _ _ _ us hl => match us, hl with | [_, _], _ => rfl) (fun _ _ _ => rfl) (fun cdv A outer s H E hr => ?_)
  exact (db_one (ds_ret (de_and (de_call (ws := [none]) tkD t_is_integer (hr.mono (by decide)) rfl rfl (ga_cons (de_var (pv 1)) ga_nil)) (de_one (de_chain op_le (op_ltU (u0 hr)) ops_le ops_lt de_int (de_var (pv 1)) (de_var (pv 0)))))))
/-! is_pair -/
def b_is_pair : Ev → So := (sSeq (sIf (mOr (mNot (mTru (mIsi [(tbTy "list"), (tbTy "tuple")] (mVarD 1)))) (mB (mOpD fNe (mUn bLen (mVar 1)) (mSc (.int 2))))) (sRet (mSc (.bl false))) sNx) (sRet (mAndV (mCall [none, none] m_is_thing (mCons (mVar 0) (mCons (mOp fIx (mVar 1) (mSc (.int 0))) mNil))) (mAndV (mCall [none, none] m_is_thing (mCons (mVar 0) (mCons (mOp fIx (mVar 1) (mSc (.int 1))) mNil))) (mOpD fNe (mOp fIx (mVar 1) (mSc (.int 0))) (mOp fIx (mVar 1) (mSc (.int 1))))))))
def m_is_pair : List Dt → Fo := mFn [0, 0] 0 b_is_pair
theorem sc_is_pair : FnScope ["size", "pair"] ["size", "pair"] (defScope s_is_pair) := ⟨rfl, rfl, rfl, by decide +kernel, rfl, by decide +kernel, by decide +kernel⟩
theorem t_is_pair (B : Bs mg) (t_is_thing : Fd P w K mg base "is_thing" 2 [0, 0] 0 m_is_thing) (D : Dn K mg "is_pair" s_is_pair) : Fd P w K mg base "is_pair" 3 [0, 0] 0 m_is_pair := by
  refine fd_of (lv := 2) (N := ["size", "pair"]) (ps := ["size", "pair"]) (g := b_is_pair) D sc_is_pair rfl rfl (fun _ _ _ _ _ _ us hl => match us, hl with | [_, _], _ => rfl) (fun _ _ _ => rfl) (fun cdv A outer s H E hr => ?_)
  exact (db_cons (ds_if (DW.t (dw_or (dt_not (dt_tru (DE.bd (DE.b (m := .b) (de_isiT rfl B.isinstance (de_varD (pv 1)) (by simp) (ClEs.cons (ClE.ty "list" rfl B.list boot_list (by decide) (by decide)) isi_list (ClEs.cons (ClE.ty "tuple" rfl B.tuple boot_tuple (by decide) (by decide)) isi_tuple ClEs.nil)) (by decide)))))) (dw_or1 (dt_cmp (op_neD (u64 hr)) ops_ne (DE.bd (DE.b (m := .b) (de_b1 call_len opb_len rfl B.len boot_len (DE.b (m := .b) (de_var (pv 1)))))) (DE.tt (DE.bd (DE.b (m := .b) de_int))) (nomark _))))) (db_one (ds_ret de_bl)) db_nil)
  (db_one (ds_ret (de_and (de_call (ws := [none, none]) tkD t_is_thing (hr.mono (by decide)) rfl rfl (ga_cons (de_var (pv 0)) (ga_cons (de_ix (DE.b (m := .b) (de_var (pv 1))) (DE.tt (DE.b (m := .b) de_int)) (fun _ _ => rfl)) ga_nil))) (de_and (de_call (ws := [none, none]) tkD t_is_thing (hr.mono (by decide)) rfl rfl (ga_cons (de_var (pv 0)) (ga_cons (de_ix (DE.b (m := .b) (de_var (pv 1))) (DE.tt (DE.b (m := .b) de_int)) (fun _ _ => rfl)) ga_nil))) (de_one (de_cmp (op_neD (u64 hr)) ops_ne (DE.bd (DE.b (m := .b) (de_ix (DE.b (m := .b) (de_var (pv 1))) (DE.tt (DE.b (m := .b) de_int)) (fun _ _ => rfl)))) (DE.tt (DE.bd (DE.b (m := .b) (de_ix (DE.b (m := .b) (de_var (pv 1))) (DE.tt (DE.b (m := .b) de_int)) (fun _ _ => rfl))))) (nomark _))))))))
/-! several_pairs -/
def l_several_pairs_0 : Ev → So := (sSeq (sIf (mOr (mNot (mTru (mCall [none, none] m_is_pair (mCons (mVar 0) (mCons (mVar 5) mNil))))) (mB (mDIn false (mTup (mCons (mOp fIx (mVar 5) (mSc (.int 0))) (mCons (mOp fIx (mVar 5) (mSc (.int 1))) mNil))) (mVarB 2)))) (sRaise "BadPair" ["place"] (mCons (mVar 4) mNil)) sNx) (sSeq (sDPutS 2 (mTup (mCons (mOp fIx (mVar 5) (mSc (.int 0))) (mCons (mOp fIx (mVar 5) (mSc (.int 1))) mNil))) (mSc (.bl true))) (sSeq (sDPutS 2 (mTup (mCons (mOp fIx (mVar 5) (mSc (.int 1))) (mCons (mOp fIx (mVar 5) (mSc (.int 0))) mNil))) (mSc (.bl true))) (sDrop (mMut 3 fAppend (mCons (mTup (mCons (mOp fIx (mVar 5) (mSc (.int 0))) (mCons (mOp fIx (mVar 5) (mSc (.int 1))) mNil))) mNil))))))
def b_several_pairs : Ev → So := (sSeq (sIf (mNot (mTru (mIsi [(tbTy "list"), (tbTy "tuple")] (mVarD 1)))) (sRaise "BadPair" ["place"] (mCons (mUn fNeg (mSc (.int 1))) mNil)) sNx) (sSeq (sAsg mNewT (gSet 2 1)) (sSeq (sAsg (mLst mNil) (gSet 3 1)) (sSeq (sFor (mEnum (mCons (mVar 1) mNil)) (gUnp (gMore (gSet 4 0) (gMore (gSet 5 0) gNone))) l_several_pairs_0) (sRet (mFrz 3))))))
def m_several_pairs : List Dt → Fo := mFn [0, 0] 4 b_several_pairs
theorem sc_several_pairs : FnScope ["size", "pairs", "met", "found", "place", "pair"] ["size", "pairs"] (defScope s_several_pairs) := ⟨rfl, rfl, rfl, by decide +kernel, rfl, by decide +kernel, by decide +kernel⟩
theorem t_several_pairs (B : Bs mg) (x_BadPair : Xf P w K mg base "BadPair" 1 ["place"]) (t_is_pair : Fd P w K mg base "is_pair" 3 [0, 0] 0 m_is_pair) (D : Dn K mg "several_pairs" s_several_pairs) : Fd P w K mg base "several_pairs" 4 [0, 0] 0 m_several_pairs := by
  refine fd_of (lv := 3) (N := ["size", "pairs", "met", "found", "place", "pair"]) (ps := ["size", "pairs"]) (g := b_several_pairs) D sc_several_pairs rfl rfl (fun _ _ _ _ _ _ us hl => match us, hl with | [_, _], _ => rfl) (fun _ _ _ => rfl) (fun cdv A outer s H E hr => ?_)
  exact (db_cons (ds_if (dt_not (dt_tru (DE.bd (DE.b (m := .b) (de_isiT rfl B.isinstance (de_varD (pv 1)) (by simp) (ClEs.cons (ClE.ty "list" rfl B.list boot_list (by decide) (by decide)) isi_list (ClEs.cons (ClE.ty "tuple" rfl B.tuple boot_tuple (by decide) (by decide)) isi_tuple ClEs.nil)) (by decide)))))) (db_one (ds_raise rfl tkD x_BadPair (hr.mono (by decide)) rfl (da_cons (de_un un_neg opu_neg (DE.b (m := .b) de_int)) da_nil))) db_nil)
  (db_cons (ds_set (i := 2) sc_several_pairs.nd rfl (by first | exact .inl rfl | exact .inr rfl) (of_decide_eq_true rfl) de_newT)
  (db_cons (ds_set (i := 3) sc_several_pairs.nd rfl (by first | exact .inl rfl | exact .inr rfl) (of_decide_eq_true rfl) (de_lst da_nil ArgN.nil))
  (db_cons (ds_for hpD rfl (di_enum rfl B.enumerate (da_cons (de_var (pv 1)) da_nil)) (dg_tup rfl (dgs_cons (dg_name (i := 4) sc_several_pairs.nd rfl (by first | exact .inl rfl | exact .inr rfl) (of_decide_eq_true rfl)) (dgs_cons (dg_name (i := 5) sc_several_pairs.nd rfl (by first | exact .inl rfl | exact .inr rfl) (of_decide_eq_true rfl)) dgs_nil)) (TgN.cons (TgN.cons TgN.nil))) (db_cons (ds_if (DW.t (dw_or (dt_not (dt_tru (DE.bd (DE.b (m := .b) (de_call (ws := [none, none]) tkD t_is_pair (hr.mono (by decide)) rfl rfl (ga_cons (de_var (pv 0)) (ga_cons (de_var (pv 5)) ga_nil))))))) (dw_or1 (dt_din (u1 hr) (de_tup (da_cons (de_ix (DE.b (m := .b) (de_var (pv 5))) (DE.tt (DE.b (m := .b) de_int)) (fun _ _ => rfl)) (da_cons (de_ix (DE.b (m := .b) (de_var (pv 5))) (DE.tt (DE.b (m := .b) de_int)) (fun _ _ => rfl)) da_nil)) (ArgN.cons (ArgN.cons ArgN.nil))) (de_varB (pv 2)) (by rfl))))) (db_one (ds_raise rfl tkD x_BadPair (hr.mono (by decide)) rfl (da_cons (de_var (pv 4)) da_nil))) db_nil)
  (db_cons (ds_dput (u1 hr) (pv 2) (de_tup (da_cons (de_ix (DE.b (m := .b) (de_var (pv 5))) (DE.tt (DE.b (m := .b) de_int)) (fun _ _ => rfl)) (da_cons (de_ix (DE.b (m := .b) (de_var (pv 5))) (DE.tt (DE.b (m := .b) de_int)) (fun _ _ => rfl)) da_nil)) (ArgN.cons (ArgN.cons ArgN.nil))) de_bl)
  (db_cons (ds_dput (u1 hr) (pv 2) (de_tup (da_cons (de_ix (DE.b (m := .b) (de_var (pv 5))) (DE.tt (DE.b (m := .b) de_int)) (fun _ _ => rfl)) (da_cons (de_ix (DE.b (m := .b) (de_var (pv 5))) (DE.tt (DE.b (m := .b) de_int)) (fun _ _ => rfl)) da_nil)) (ArgN.cons (ArgN.cons ArgN.nil))) de_bl)
  (db_one (ds_expr (de_append (pv 3) (da_cons (de_tup (da_cons (de_ix (DE.b (m := .b) (de_var (pv 5))) (DE.tt (DE.b (m := .b) de_int)) (fun _ _ => rfl)) (da_cons (de_ix (DE.b (m := .b) (de_var (pv 5))) (DE.tt (DE.b (m := .b) de_int)) (fun _ _ => rfl)) da_nil)) (ArgN.cons (ArgN.cons ArgN.nil))) da_nil))))))))
  (db_one (ds_ret (de_frz (pv 3) (of_decide_eq_true rfl))))))))
/-! ties_of -/
def e_ties_of_0 : Ev → Rs Dt := (mIf (mB (mOpD fLt (mVarD 3) (mVarD 4))) (mTup (mCons (mVar 3) (mCons (mVar 4) mNil))) (mTup (mCons (mVar 4) (mCons (mVar 3) mNil))))
def b_ties_of : Ev → So := (sSeq (sAsg (mCall [none, none] m_several_pairs (mCons (mVar 0) (mCons (mVar 1) mNil))) (gSet 2 0)) (sRet (mUn bTuple (mCB fSorted (mCons (mComp [3, 4] (mIter (mVar 2)) (gUnp (gMore (gSet 3 0) (gMore (gSet 4 0) gNone))) mYes e_ties_of_0) mNil)))))
def m_ties_of : List Dt → Fo := mFn [0, 0] 3 b_ties_of
theorem sc_ties_of : FnScope ["size", "pairs", "found", "a", "b"] ["size", "pairs"] (defScope s_ties_of) := ⟨rfl, rfl, rfl, by decide +kernel, rfl, by decide +kernel, by decide +kernel⟩
theorem t_ties_of (B : Bs mg) (t_several_pairs : Fd P w K mg base "several_pairs" 4 [0, 0] 0 m_several_pairs) (D : Dn K mg "ties_of" s_ties_of) : Fd P w K mg base "ties_of" 5 [0, 0] 0 m_ties_of := by
  refine fd_of (lv := 4) (N := ["size", "pairs", "found", "a", "b"]) (ps := ["size", "pairs"]) (g := b_ties_of) D sc_ties_of rfl rfl (fun _ _ _ _ _ _ us hl => match us, hl with | [_, _], _ => rfl) (fun _ _ _ => rfl) (fun cdv A outer s H E hr => ?_)
  exact (db_cons (ds_set (i := 2) sc_ties_of.nd rfl (by first | exact .inl rfl | exact .inr rfl) (of_decide_eq_true rfl) (de_call (ws := [none, none]) tkD t_several_pairs (hr.mono (by decide)) rfl rfl (ga_cons (de_var (pv 0)) (ga_cons (de_var (pv 1)) ga_nil))))
  (db_one (ds_ret (de_t1 call_tuple_of opb_tuple rfl B.tuple boot_tuple (DE.b (m := .b) (de_bn call_sortU opa_sorted rfl B.sorted boot_sorted (da_cons (DE.s (de_lc (own := [("a", 3), ("b", 4)]) rfl sc_ties_of.nd (di_list (de_var (pv 2))) ⟨rfl, of_decide_eq_true (by kernel_rfl), of_decide_eq_true (by kernel_rfl), of_decide_eq_true (by kernel_rfl), of_decide_eq_true (by kernel_rfl)⟩ (fun _ => (dg_tup rfl (dgs_cons (dg_name (i := 3) sc_ties_of.nd rfl (by first | exact .inl rfl | exact .inr rfl) (of_decide_eq_true rfl)) (dgs_cons (dg_name (i := 4) sc_ties_of.nd rfl (by first | exact .inl rfl | exact .inr rfl) (of_decide_eq_true rfl)) dgs_nil)) (TgN.cons (TgN.cons TgN.nil)))) (fun _ => dts_nil) (fun _ => (de_if (dt_cmp (op_ltU (u0 hr)) ops_lt (de_varD (pv 3)) (DE.tt (de_varD (pv 4))) (nomark _)) (de_tup (da_cons (de_var (pv 3)) (da_cons (de_var (pv 4)) da_nil)) (ArgN.cons (ArgN.cons ArgN.nil))) (de_tup (da_cons (de_var (pv 4)) (da_cons (de_var (pv 3)) da_nil)) (ArgN.cons (ArgN.cons ArgN.nil))))) (by decide) (of_decide_eq_true rfl))) da_nil)))))))
/-! Web -/
def l_Web_init_0 : Ev → So := (sSeq (sDPutS 3 (mTup (mCons (mVar 4) (mCons (mVar 5) mNil))) (mSc (.bl true))) (sDPutS 3 (mTup (mCons (mVar 5) (mCons (mVar 4) mNil))) (mSc (.bl true))))
def b_Web_init : Ev → So := (sSeq (sFldS ["Web"] 0 "size" (mCall [none, none, none, none] m_number_of_kind (mCons (mVar 1) (mCons (mSc (.int 1)) (mCons (mSc (.int 40)) (mCons (mSc (.str "size")) mNil)))))) (sSeq (sFldS ["Web"] 0 "ties" (mCall [none, none] m_ties_of (mCons (mVar 1) (mCons (mVar 2) mNil)))) (sSeq (sAsg mNewT (gSet 3 1)) (sSeq (sFor (mIterT (mFld ["Web"] "ties" (mVarB 0))) (gUnp (gMore (gSet 4 0) (gMore (gSet 5 0) gNone))) l_Web_init_0) (sFldS ["Web"] 0 "table" (mFrz 3))))))
def m_Web_init : List Dt → Fo := mFn [1, 0, 0] 3 b_Web_init
theorem sc_Web_init : FnScope ["self", "size", "ties", "table", "a", "b"] ["self", "size", "ties"] (defScope s_Web_init) := ⟨rfl, rfl, rfl, by decide +kernel, rfl, by decide +kernel, by decide +kernel⟩
theorem t_Web_init (B : Bs mg) (g_MOST : ∃ t, mg "MOST" = some (.int 40 t)) (t_number_of_kind : Fd P w K mg base "number_of_kind" 3 [0, 0, 0, 0] 0 m_number_of_kind) (cf_size : ClsF K "size" ["Web"]) (t_ties_of : Fd P w K mg base "ties_of" 5 [0, 0] 0 m_ties_of) (cf_ties : ClsF K "ties" ["Web"]) (cf_table : ClsF K "table" ["Web"]) (D : ∃ fd, FunD K "__init__" "Web.__init__" (defArgs s_Web_init) (defBody s_Web_init) (defScope s_Web_init) (List.map (He.Dv.v K) [.adr (He.dflAt ("Web", some "__init__") 0)]) [] (ma K (ga K "Web") "__init__") fd) (M : Mk K (ga K "Web") (ma K (ga K "Web") "__init__")) (hm : mg "Web" = some (.ref (ga K "Web"))) : Ini P w K mg base "Web" 6 2 m_Web_init := by
  refine ini_of (lv := 5) (N := ["self", "size", "ties", "table", "a", "b"]) (ps := ["self", "size", "ties"]) (g := b_Web_init) D M hm sc_Web_init rfl rfl (fun fd F => binds_dfl F (by simp) (fun T kV doc pm an cdv ct us its hl hi => match us, hl, its, hi with | [_, _, _], _, [_], _ => ⟨_, rfl, rfl⟩)) (fun _ _ _ => rfl) (fun cdv A outer s H E hr => ?_)
  exact (db_cons (ds_fldS cf_size (pv 0) (de_call (ws := [none, none, none, none]) tkD t_number_of_kind (hr.mono (by decide)) rfl rfl (ga_cons (de_var (pv 1)) (ga_cons de_int (ga_cons (de_gint rfl g_MOST) (ga_cons de_str ga_nil))))))
  (db_cons (ds_fldS cf_ties (pv 0) (de_call (ws := [none, none]) tkD t_ties_of (hr.mono (by decide)) rfl rfl (ga_cons (de_var (pv 1)) (ga_cons (de_var (pv 2)) ga_nil))))
  (db_cons (ds_set (i := 3) sc_Web_init.nd rfl (by first | exact .inl rfl | exact .inr rfl) (of_decide_eq_true rfl) de_newT)
  (db_cons (ds_for hpD rfl (di_tup (de_fld cf_ties (de_varB (pv 0)))) (dg_tup rfl (dgs_cons (dg_name (i := 4) sc_Web_init.nd rfl (by first | exact .inl rfl | exact .inr rfl) (of_decide_eq_true rfl)) (dgs_cons (dg_name (i := 5) sc_Web_init.nd rfl (by first | exact .inl rfl | exact .inr rfl) (of_decide_eq_true rfl)) dgs_nil)) (TgN.cons (TgN.cons TgN.nil))) (db_cons (ds_dput (u1 hr) (pv 3) (de_tup (da_cons (de_var (pv 4)) (da_cons (de_var (pv 5)) da_nil)) (ArgN.cons (ArgN.cons ArgN.nil))) de_bl)
  (db_one (ds_dput (u1 hr) (pv 3) (de_tup (da_cons (de_var (pv 5)) (da_cons (de_var (pv 4)) da_nil)) (ArgN.cons (ArgN.cons ArgN.nil))) de_bl))))
  (db_one (ds_fldS cf_table (pv 0) (de_frz (pv 3) (of_decide_eq_true rfl))))))))
/-! reach_from -/
def e_reach_from_0 : Ev → Rs Dt := (mVar 8)
def c_reach_from_0 : Ev → Rs Bool := (mB (mDIn false (mTup (mCons (mVar 6) (mCons (mVar 8) mNil))) (mVar 2)))
def e_reach_from_1 : Ev → Rs Dt := (mVar 8)
def c_reach_from_1 : Ev → Rs Bool := (mB (mDIn true (mTup (mCons (mVar 6) (mCons (mVar 8) mNil))) (mVar 2)))
def l_reach_from_2 : Ev → So := (sSeq (sAsg (mMut 4 fPop mNil) (gSet 6 0)) (sSeq (sAsg (mComp [8] (mIter (mVar 5)) (gSet 8 0) c_reach_from_0 e_reach_from_0) (gSet 7 0)) (sSeq (sAsg (mComp [8] (mIter (mVar 5)) (gSet 8 0) c_reach_from_1 e_reach_from_1) (gSet 5 0)) (sSeq (sAsg (mOp fAdd (mVar 3) (mVar 7)) (gSet 3 0)) (sAsg (mOp1 fAdd (mVarB 4) (mVar 7)) (gSet 4 1))))))
def w_reach_from_2 : Ev → Rs Bool := (mTru (mVarD 4))
def b_reach_from : Ev → So := (sSeq (sAsg (mLst mNil) (gSet 3 0)) (sSeq (sAsg (mUn1 bList (mVar 0)) (gSet 4 1)) (sSeq (sAsg (mUn bList (mVar 1)) (gSet 5 0)) (sSeq (sWhile 100000 w_reach_from_2 l_reach_from_2) (sRet (mVar 3))))))
def m_reach_from : List Dt → Fo := mFn [0, 0, 0] 6 b_reach_from
theorem sc_reach_from : FnScope ["begin", "others", "table", "reached", "ahead", "left", "a", "fresh", "b"] ["begin", "others", "table"] (defScope s_reach_from) := ⟨rfl, rfl, rfl, by decide +kernel, rfl, by decide +kernel, by decide +kernel⟩
theorem t_reach_from (B : Bs mg) (D : Dn K mg "reach_from" s_reach_from) : Fd P w K mg base "reach_from" 1 [0, 0, 0] 0 m_reach_from := by
  refine fd_of (lv := 0) (N := ["begin", "others", "table", "reached", "ahead", "left", "a", "fresh", "b"]) (ps := ["begin", "others", "table"]) (g := b_reach_from) D sc_reach_from rfl rfl (fun _ _ _ _ _ _ us hl => match us, hl with | [_, _, _], _ => rfl) (fun _ _ _ => rfl) (fun cdv A outer s H E hr => ?_)
  exact (db_cons (ds_set (i := 3) sc_reach_from.nd rfl (by first | exact .inl rfl | exact .inr rfl) (of_decide_eq_true rfl) (DE.s (de_lst da_nil ArgN.nil)))
  (db_cons (ds_set (i := 4) sc_reach_from.nd rfl (by first | exact .inl rfl | exact .inr rfl) (of_decide_eq_true rfl) (de_t11 call_list_of opb_list rfl B.list boot_list (DE.b (m := .b) (de_var (pv 0)))))
  (db_cons (ds_set (i := 5) sc_reach_from.nd rfl (by first | exact .inl rfl | exact .inr rfl) (of_decide_eq_true rfl) (de_t1 call_list_of opb_list rfl B.list boot_list (DE.b (m := .b) (de_var (pv 1)))))
  (db_cons (ds_while 100000 hpD (dt_tru (de_varD (pv 4))) (db_cons (ds_set (i := 6) sc_reach_from.nd rfl (by first | exact .inl rfl | exact .inr rfl) (of_decide_eq_true rfl) (de_pop (pv 4)))
  (db_cons (ds_setLcj (j := 0) (own := [("b", 8)]) (.inl rfl) rfl sc_reach_from.nd rfl rfl (of_decide_eq_true rfl) (sw_true rfl rfl (by rfl) (by rfl)) (di_list (de_var (pv 5))) ⟨rfl, of_decide_eq_true (by kernel_rfl), of_decide_eq_true (by kernel_rfl), of_decide_eq_true (by kernel_rfl), of_decide_eq_true (by kernel_rfl)⟩ (fun _ => (dg_name (i := 8) sc_reach_from.nd rfl (by first | exact .inl rfl | exact .inr rfl) (of_decide_eq_true rfl))) (fun _ => (dts_one (dt_din (u1 hr) (de_tup (da_cons (de_var (pv 6)) (da_cons (de_var (pv 8)) da_nil)) (ArgN.cons (ArgN.cons ArgN.nil))) (DE.b (m := .b) (de_var (pv 2))) (by rfl)))) (fun _ => (de_var (pv 8))) (by decide) (of_decide_eq_true rfl))
  (db_cons (ds_setLcj (j := 0) (own := [("b", 8)]) (.inl rfl) rfl sc_reach_from.nd rfl rfl (of_decide_eq_true rfl) (sw_true rfl rfl (by rfl) (by rfl)) (di_list (de_var (pv 5))) ⟨rfl, of_decide_eq_true (by kernel_rfl), of_decide_eq_true (by kernel_rfl), of_decide_eq_true (by kernel_rfl), of_decide_eq_true (by kernel_rfl)⟩ (fun _ => (dg_name (i := 8) sc_reach_from.nd rfl (by first | exact .inl rfl | exact .inr rfl) (of_decide_eq_true rfl))) (fun _ => (dts_one (dt_dnotin (u1 hr) (de_tup (da_cons (de_var (pv 6)) (da_cons (de_var (pv 8)) da_nil)) (ArgN.cons (ArgN.cons ArgN.nil))) (DE.b (m := .b) (de_var (pv 2))) (by rfl)))) (fun _ => (de_var (pv 8))) (by decide) (of_decide_eq_true rfl))
  (db_cons (ds_set (i := 3) sc_reach_from.nd rfl (by first | exact .inl rfl | exact .inr rfl) (of_decide_eq_true rfl) (de_op op_addU ops_add (DE.b (m := .b) (de_var (pv 3))) (DE.tt (DE.b (m := .b) (de_var (pv 7))))))
  (db_one (ds_set (i := 4) sc_reach_from.nd rfl (by first | exact .inl rfl | exact .inr rfl) (of_decide_eq_true rfl) (de_op1 op_addU ops_add (de_varB (pv 4)) (DE.tt (DE.b (m := .b) (de_var (pv 7))))))))))))
  (db_one (ds_ret (de_var (pv 3))))))))
/-! alike_at -/
def e_alike_at_0 : Ev → Rs Dt := (mVar 4)
def c_alike_at_0 : Ev → Rs Bool := (mB (mDIn false (mTup (mCons (mVar 1) (mCons (mVar 4) mNil))) (mFld ["Web"] "table" (mVar 0))))
def l_alike_at_1 : Ev → So := (sIf (mAnd (mB (mOpD fNe (mVarD 4) (mVarD 6))) (mB (mDIn true (mTup (mCons (mVar 4) (mCons (mVar 6) mNil))) (mFld ["Web"] "table" (mVar 0))))) (sDPutS 3 (mTup (mCons (mVar 4) (mCons (mVar 6) mNil))) (mSc (.bl true))) sNx)
def l_alike_at_2 : Ev → So := (sFor (mIter (mVar 2)) (gSet 6 0) l_alike_at_1)
def e_alike_at_3 : Ev → Rs Dt := (mVar 4)
def c_alike_at_3 : Ev → Rs Bool := (mB (mOpD (fIn true) (mVarD 4) (mVarD 8)))
def l_alike_at_4 : Ev → So := (sSeq (sAsg (mMut 2 fPopAt (mCons (mSc (.int 0)) mNil)) (gSet 7 0)) (sSeq (sAsg (mOp fAdd (mLst (mCons (mVar 7) mNil)) (mCall [none, none, none] m_reach_from (mCons (mLst (mCons (mVar 7) mNil)) (mCons (mFrz 2) (mCons (mFrz 3) mNil))))) (gSet 8 0)) (sSeq (sAsg (mComp [4] (mIter (mFrz 2)) (gSet 4 0) c_alike_at_3 e_alike_at_3) (gSet 2 1)) (sDrop (mMut 5 fAppend (mCons (mVar 8) mNil))))))
def w_alike_at_4 : Ev → Rs Bool := (mTru (mVarD 2))
def b_alike_at : Ev → So := (sSeq (sAsg (mComp [4] (mRange1 (mCons (mFld ["Web"] "size" (mVar 0)) mNil)) (gSet 4 0) c_alike_at_0 e_alike_at_0) (gSet 2 1)) (sSeq (sAsg mNewT (gSet 3 1)) (sSeq (sKeep 2 (sFor (mIter (mVar 2)) (gSet 4 0) l_alike_at_2)) (sSeq (sAsg (mLst mNil) (gSet 5 1)) (sSeq (sWhile 100000 w_alike_at_4 l_alike_at_4) (sRet (mFrz 5)))))))
def m_alike_at : List Dt → Fo := mFn [0, 0] 7 b_alike_at
theorem sc_alike_at : FnScope ["web", "thing", "left", "apart", "b", "found", "c", "begin", "lot"] ["web", "thing"] (defScope s_alike_at) := ⟨rfl, rfl, rfl, by decide +kernel, rfl, by decide +kernel, by decide +kernel⟩
theorem t_alike_at (B : Bs mg) (cf_size : ClsF K "size" ["Web"]) (cf_table : ClsF K "table" ["Web"]) (t_reach_from : Fd P w K mg base "reach_from" 1 [0, 0, 0] 0 m_reach_from) (D : Dn K mg "alike_at" s_alike_at) : Fd P w K mg base "alike_at" 2 [0, 0] 0 m_alike_at := by
  refine fd_of (lv := 1) (N := ["web", "thing", "left", "apart", "b", "found", "c", "begin", "lot"]) (ps := ["web", "thing"]) (g := b_alike_at) D sc_alike_at rfl rfl (fun _ _ _ _ _ _ us hl => match us, hl with | [_, _], _ => rfl) (fun _ _ _ => rfl) (fun cdv A outer s H E hr => ?_)
  exact (db_cons (ds_setLcj (j := 1) (own := [("b", 4)]) (.inr rfl) rfl sc_alike_at.nd rfl rfl (of_decide_eq_true rfl) (sw_true rfl rfl (by rfl) (by rfl)) (di_range1 rfl B.range (da_cons (de_fld cf_size (DE.b (m := .b) (de_var (pv 0)))) da_nil)) ⟨rfl, of_decide_eq_true (by kernel_rfl), of_decide_eq_true (by kernel_rfl), of_decide_eq_true (by kernel_rfl), of_decide_eq_true (by kernel_rfl)⟩ (fun _ => (dg_name (i := 4) sc_alike_at.nd rfl (by first | exact .inl rfl | exact .inr rfl) (of_decide_eq_true rfl))) (fun _ => (dts_one (dt_din (u1 hr) (de_tup (da_cons (de_var (pv 1)) (da_cons (de_var (pv 4)) da_nil)) (ArgN.cons (ArgN.cons ArgN.nil))) (DE.b (m := .b) (de_fld cf_table (DE.b (m := .b) (de_var (pv 0))))) (by rfl)))) (fun _ => (de_var (pv 4))) (by decide) (of_decide_eq_true rfl))
  (db_cons (ds_set (i := 3) sc_alike_at.nd rfl (by first | exact .inl rfl | exact .inr rfl) (of_decide_eq_true rfl) de_newT)
  (db_cons (ds_keep (of_decide_eq_true rfl) (ds_for hpD rfl (di_list (de_var (pv 2))) (dg_name (i := 4) sc_alike_at.nd rfl (by first | exact .inl rfl | exact .inr rfl) (of_decide_eq_true rfl)) (db_one (ds_for hpD rfl (di_list (de_var (pv 2))) (dg_name (i := 6) sc_alike_at.nd rfl (by first | exact .inl rfl | exact .inr rfl) (of_decide_eq_true rfl)) (db_one (ds_if (DW.t (dw_and (dt_cmp (op_neD (u64 hr)) ops_ne (de_varD (pv 4)) (DE.tt (de_varD (pv 6))) (nomark _)) (dw_and1 (dt_dnotin (u1 hr) (de_tup (da_cons (de_var (pv 4)) (da_cons (de_var (pv 6)) da_nil)) (ArgN.cons (ArgN.cons ArgN.nil))) (DE.b (m := .b) (de_fld cf_table (DE.b (m := .b) (de_var (pv 0))))) (by rfl))))) (db_one (ds_dput (u1 hr) (pv 3) (de_tup (da_cons (de_var (pv 4)) (da_cons (de_var (pv 6)) da_nil)) (ArgN.cons (ArgN.cons ArgN.nil))) de_bl)) db_nil))))))
  (db_cons (ds_set (i := 5) sc_alike_at.nd rfl (by first | exact .inl rfl | exact .inr rfl) (of_decide_eq_true rfl) (de_lst da_nil ArgN.nil))
  (db_cons (ds_while 100000 hpD (dt_tru (de_varD (pv 2))) (db_cons (ds_set (i := 7) sc_alike_at.nd rfl (by first | exact .inl rfl | exact .inr rfl) (of_decide_eq_true rfl) (de_popAt (pv 2) (da_cons de_int da_nil)))
  (db_cons (ds_set (i := 8) sc_alike_at.nd rfl (by first | exact .inl rfl | exact .inr rfl) (of_decide_eq_true rfl) (de_op op_addU ops_add (DE.b1 (de_lst (da_cons (de_var (pv 7)) da_nil) (ArgN.cons ArgN.nil))) (DE.tt (DE.b (m := .b) (de_call (ws := [none, none, none]) tkD t_reach_from (hr.mono (by decide)) rfl rfl (ga_cons (DE.s (de_lst (da_cons (de_var (pv 7)) da_nil) (ArgN.cons ArgN.nil))) (ga_cons (de_frz (pv 2) (of_decide_eq_true rfl)) (ga_cons (de_frz (pv 3) (of_decide_eq_true rfl)) ga_nil))))))))
  (db_cons (ds_setLcj (j := 1) (own := [("b", 4)]) (.inr rfl) rfl sc_alike_at.nd rfl rfl (of_decide_eq_true rfl) (sw_true rfl rfl (by rfl) (by rfl)) (di_list (de_frz (pv 2) (of_decide_eq_true rfl))) ⟨rfl, of_decide_eq_true (by kernel_rfl), of_decide_eq_true (by kernel_rfl), of_decide_eq_true (by kernel_rfl), of_decide_eq_true (by kernel_rfl)⟩ (fun _ => (dg_name (i := 4) sc_alike_at.nd rfl (by first | exact .inl rfl | exact .inr rfl) (of_decide_eq_true rfl))) (fun _ => (dts_one (dt_cmp (op_notInU (u65 hr)) ops_in (de_varD (pv 4)) (DE.tt (de_varD (pv 8))) (by rfl)))) (fun _ => (de_var (pv 4))) (by decide) (of_decide_eq_true rfl))
  (db_one (ds_expr (de_append (pv 5) (da_cons (de_var (pv 8)) da_nil))))))))
  (db_one (ds_ret (de_frz (pv 5) (of_decide_eq_true rfl)))))))))
/-! class_numbers -/
def l_class_numbers_0 : Ev → So := (sSeq (sDPutS 1 (mVar 9) (mUn bLen (mVarB 2))) (sDrop (mMut 2 fAppend (mCons (mLst (mCons (mVar 9) mNil)) mNil))))
def l_class_numbers_1 : Ev → So := (sFor (mIterT (mTup (mCons (mTup (mCons (mVar 3) (mCons (mVar 4) mNil))) (mCons (mTup (mCons (mVar 4) (mCons (mVar 3) mNil))) mNil)))) (gSet 9 0) l_class_numbers_0)
def l_class_numbers_2 : Ev → So := (sDPutS 1 (mVar 9) (mVar 12))
def l_class_numbers_3 : Ev → So := (sSeq (sAsg (mDGet (mVarB 1) (mVar 10)) (gSet 12 0)) (sSeq (sAsg (mDGet (mVarB 1) (mVar 11)) (gSet 13 0)) (sIf (mB (mOpD fNe (mVarD 12) (mVarD 13))) (sSeq (sFor (mIter (mOp fIx (mVarB 2) (mVar 13))) (gSet 9 0) l_class_numbers_2) (sSeq (sAsg (mOp fAdd (mOp fIx (mVarB 2) (mVar 12)) (mOp fIx (mVarB 2) (mVar 13))) (gPut 2 (mVar 12))) (sAsg (mLst mNil) (gPut 2 (mVar 13))))) sNx)))
def l_class_numbers_4 : Ev → So := (sFor (mIterT (mTup (mCons (mTup (mCons (mTup (mCons (mVar 3) (mCons (mOp fIx (mVar 8) (mSc (.int 0))) mNil))) (mCons (mTup (mCons (mVar 3) (mCons (mVar 4) mNil))) mNil))) (mCons (mTup (mCons (mTup (mCons (mOp fIx (mVar 8) (mSc (.int 0))) (mCons (mVar 3) mNil))) (mCons (mTup (mCons (mVar 4) (mCons (mVar 3) mNil))) mNil))) mNil)))) (gUnp (gMore (gSet 10 0) (gMore (gSet 11 0) gNone))) l_class_numbers_3)
def l_class_numbers_5 : Ev → So := (sFor (mIter (mSliceL (mVar 8) (mPart (mSc (.int 1))) mNoP)) (gSet 4 0) l_class_numbers_4)
def l_class_numbers_6 : Ev → So := (sFor (mIter (mCall [none, none] m_alike_at (mCons (mVar 0) (mCons (mVar 3) mNil)))) (gSet 8 0) l_class_numbers_5)
def e_class_numbers_7 : Ev → Rs Dt := (mUn bTuple (mCB fSorted (mCons (mVar 8) mNil)))
def c_class_numbers_7 : Ev → Rs Bool := (mTru (mVarD 8))
def l_class_numbers_8 : Ev → So := (sDPutS 6 (mVar 9) (mVar 7))
def l_class_numbers_9 : Ev → So := (sFor (mIterA (mVar 8)) (gSet 9 0) l_class_numbers_8)
def b_class_numbers : Ev → So := (sSeq (sAsg mNewT (gSet 1 1)) (sSeq (sAsg (mLst mNil) (gSet 2 1)) (sSeq (sFor (mIterT (mFld ["Web"] "ties" (mVar 0))) (gUnp (gMore (gSet 3 0) (gMore (gSet 4 0) gNone))) l_class_numbers_1) (sSeq (sFor (mRange1 (mCons (mFld ["Web"] "size" (mVar 0)) mNil)) (gSet 3 0) l_class_numbers_6) (sSeq (sAsg (mCB fSortedD (mCons (mComp [8] (mIter (mFrz 2)) (gSet 8 0) c_class_numbers_7 e_class_numbers_7) mNil)) (gSet 5 0)) (sSeq (sAsg mNewT (gSet 6 1)) (sSeq (sFor (mEnum (mCons (mVar 5) mNil)) (gUnp (gMore (gSet 7 0) (gMore (gSet 8 0) gNone))) l_class_numbers_9) (sRet (mTup (mCons (mFrz 6) (mCons (mVar 5) mNil)))))))))))
def m_class_numbers : List Dt → Fo := mFn [0] 13 b_class_numbers
theorem sc_class_numbers : FnScope ["web", "home", "members", "a", "b", "found", "numbers", "k", "lot", "pair", "one", "other", "here", "there"] ["web"] (defScope s_class_numbers) := ⟨rfl, rfl, rfl, by decide +kernel, rfl, by decide +kernel, by decide +kernel⟩
theorem t_class_numbers (B : Bs mg) (cf_ties : ClsF K "ties" ["Web"]) (cf_size : ClsF K "size" ["Web"]) (t_alike_at : Fd P w K mg base "alike_at" 2 [0, 0] 0 m_alike_at) (D : Dn K mg "class_numbers" s_class_numbers) : Fd P w K mg base "class_numbers" 3 [0] 0 m_class_numbers := by
  refine fd_of (lv := 2) (N := ["web", "home", "members", "a", "b", "found", "numbers", "k", "lot", "pair", "one", "other", "here", "there"]) (ps := ["web"]) (g := b_class_numbers) D sc_class_numbers rfl rfl (fun _ _ _ _ _ _ us hl => match us, hl with | [_], _ => rfl) (fun _ _ _ => rfl) (fun cdv A outer s H E hr => ?_)
  exact (db_cons (ds_set (i := 1) sc_class_numbers.nd rfl (by first | exact .inl rfl | exact .inr rfl) (of_decide_eq_true rfl) de_newT)
  (db_cons (ds_set (i := 2) sc_class_numbers.nd rfl (by first | exact .inl rfl | exact .inr rfl) (of_decide_eq_true rfl) (de_lst da_nil ArgN.nil))
  (db_cons (ds_for hpD rfl (di_tup (de_fld cf_ties (DE.b (m := .b) (de_var (pv 0))))) (dg_tup rfl (dgs_cons (dg_name (i := 3) sc_class_numbers.nd rfl (by first | exact .inl rfl | exact .inr rfl) (of_decide_eq_true rfl)) (dgs_cons (dg_name (i := 4) sc_class_numbers.nd rfl (by first | exact .inl rfl | exact .inr rfl) (of_decide_eq_true rfl)) dgs_nil)) (TgN.cons (TgN.cons TgN.nil))) (db_one (ds_for hpD rfl (di_tup (de_tup (da_cons (de_tup (da_cons (de_var (pv 3)) (da_cons (de_var (pv 4)) da_nil)) (ArgN.cons (ArgN.cons ArgN.nil))) (da_cons (de_tup (da_cons (de_var (pv 4)) (da_cons (de_var (pv 3)) da_nil)) (ArgN.cons (ArgN.cons ArgN.nil))) da_nil)) (ArgN.cons (ArgN.cons ArgN.nil)))) (dg_name (i := 9) sc_class_numbers.nd rfl (by first | exact .inl rfl | exact .inr rfl) (of_decide_eq_true rfl)) (db_cons (ds_dput (u1 hr) (pv 1) (de_var (pv 9)) (de_b1 call_len opb_len rfl B.len boot_len (de_varB (pv 2))))
  (db_one (ds_expr (de_append (pv 2) (da_cons (DE.s (de_lst (da_cons (de_var (pv 9)) da_nil) (ArgN.cons ArgN.nil))) da_nil))))))))
  (db_cons (ds_for hpD rfl (di_range1 rfl B.range (da_cons (de_fld cf_size (DE.b (m := .b) (de_var (pv 0)))) da_nil)) (dg_name (i := 3) sc_class_numbers.nd rfl (by first | exact .inl rfl | exact .inr rfl) (of_decide_eq_true rfl)) (db_one (ds_for hpD rfl (di_list (de_call (ws := [none, none]) tkD t_alike_at (hr.mono (by decide)) rfl rfl (ga_cons (de_var (pv 0)) (ga_cons (de_var (pv 3)) ga_nil)))) (dg_name (i := 8) sc_class_numbers.nd rfl (by first | exact .inl rfl | exact .inr rfl) (of_decide_eq_true rfl)) (db_one (ds_for hpD rfl (di_list (DE.s (de_sliceL (DE.b (m := .b) (de_var (pv 8))) (do_some (DE.tt de_int)) do_none))) (dg_name (i := 4) sc_class_numbers.nd rfl (by first | exact .inl rfl | exact .inr rfl) (of_decide_eq_true rfl)) (db_one (ds_for hpD rfl (di_tup (de_tup (da_cons (de_tup (da_cons (de_tup (da_cons (de_var (pv 3)) (da_cons (de_ix (DE.b (m := .b) (de_var (pv 8))) (DE.tt (DE.b (m := .b) de_int)) (fun _ _ => rfl)) da_nil)) (ArgN.cons (ArgN.cons ArgN.nil))) (da_cons (de_tup (da_cons (de_var (pv 3)) (da_cons (de_var (pv 4)) da_nil)) (ArgN.cons (ArgN.cons ArgN.nil))) da_nil)) (ArgN.cons (ArgN.cons ArgN.nil))) (da_cons (de_tup (da_cons (de_tup (da_cons (de_ix (DE.b (m := .b) (de_var (pv 8))) (DE.tt (DE.b (m := .b) de_int)) (fun _ _ => rfl)) (da_cons (de_var (pv 3)) da_nil)) (ArgN.cons (ArgN.cons ArgN.nil))) (da_cons (de_tup (da_cons (de_var (pv 4)) (da_cons (de_var (pv 3)) da_nil)) (ArgN.cons (ArgN.cons ArgN.nil))) da_nil)) (ArgN.cons (ArgN.cons ArgN.nil))) da_nil)) (ArgN.cons (ArgN.cons ArgN.nil)))) (dg_tup rfl (dgs_cons (dg_name (i := 10) sc_class_numbers.nd rfl (by first | exact .inl rfl | exact .inr rfl) (of_decide_eq_true rfl)) (dgs_cons (dg_name (i := 11) sc_class_numbers.nd rfl (by first | exact .inl rfl | exact .inr rfl) (of_decide_eq_true rfl)) dgs_nil)) (TgN.cons (TgN.cons TgN.nil))) (db_cons (ds_set (i := 12) sc_class_numbers.nd rfl (by first | exact .inl rfl | exact .inr rfl) (of_decide_eq_true rfl) (de_dget (u1 hr) (de_varB (pv 1)) (DE.tt (de_var (pv 10))) (fun _ _ => rfl)))
  (db_cons (ds_set (i := 13) sc_class_numbers.nd rfl (by first | exact .inl rfl | exact .inr rfl) (of_decide_eq_true rfl) (de_dget (u1 hr) (de_varB (pv 1)) (DE.tt (de_var (pv 11))) (fun _ _ => rfl)))
  (db_one (ds_if (dt_cmp (op_neD (u64 hr)) ops_ne (de_varD (pv 12)) (DE.tt (de_varD (pv 13))) (nomark _)) (db_cons (ds_for hpD rfl (di_list (de_ix (de_varB (pv 2)) (DE.tt (DE.b (m := .b) (de_var (pv 13)))) (fun _ _ => rfl))) (dg_name (i := 9) sc_class_numbers.nd rfl (by first | exact .inl rfl | exact .inr rfl) (of_decide_eq_true rfl)) (db_one (ds_dput (u1 hr) (pv 1) (de_var (pv 9)) (de_var (pv 12)))))
  (db_cons (ds_asg (de_op op_addU ops_add (DE.b (m := .b) (de_ix (de_varB (pv 2)) (DE.tt (DE.b (m := .b) (de_var (pv 12)))) (fun _ _ => rfl))) (DE.tt (DE.b (m := .b) (de_ix (de_varB (pv 2)) (DE.tt (DE.b (m := .b) (de_var (pv 13)))) (fun _ _ => rfl))))) (dg_put (pv 2) (de_var (pv 12))))
  (db_one (ds_asg (DE.s (de_lst da_nil ArgN.nil)) (dg_put (pv 2) (de_var (pv 13))))))) db_nil)))))))))))
  (db_cons (ds_set (i := 5) sc_class_numbers.nd rfl (by first | exact .inl rfl | exact .inr rfl) (of_decide_eq_true rfl) (de_bn (cr_sortedZ (u65 hr)) opa_sortZ rfl B.sorted boot_sorted (da_cons (DE.s (de_lc (own := [("lot", 8)]) rfl sc_class_numbers.nd (di_list (de_frz (pv 2) (of_decide_eq_true rfl))) ⟨rfl, of_decide_eq_true (by kernel_rfl), of_decide_eq_true (by kernel_rfl), of_decide_eq_true (by kernel_rfl), of_decide_eq_true (by kernel_rfl)⟩ (fun _ => (dg_name (i := 8) sc_class_numbers.nd rfl (by first | exact .inl rfl | exact .inr rfl) (of_decide_eq_true rfl))) (fun _ => (dts_one (dt_tru (de_varD (pv 8))))) (fun _ => (de_t1 call_tuple_of opb_tuple rfl B.tuple boot_tuple (DE.b (m := .b) (de_bn call_sortU opa_sorted rfl B.sorted boot_sorted (da_cons (de_var (pv 8)) da_nil))))) (by decide) (of_decide_eq_true rfl))) da_nil)))
  (db_cons (ds_set (i := 6) sc_class_numbers.nd rfl (by first | exact .inl rfl | exact .inr rfl) (of_decide_eq_true rfl) de_newT)
  (db_cons (ds_for hpD rfl (di_enum rfl B.enumerate (da_cons (de_var (pv 5)) da_nil)) (dg_tup rfl (dgs_cons (dg_name (i := 7) sc_class_numbers.nd rfl (by first | exact .inl rfl | exact .inr rfl) (of_decide_eq_true rfl)) (dgs_cons (dg_name (i := 8) sc_class_numbers.nd rfl (by first | exact .inl rfl | exact .inr rfl) (of_decide_eq_true rfl)) dgs_nil)) (TgN.cons (TgN.cons TgN.nil))) (db_one (ds_for hpD rfl (di_any (de_var (pv 8))) (dg_name (i := 9) sc_class_numbers.nd rfl (by first | exact .inl rfl | exact .inr rfl) (of_decide_eq_true rfl)) (db_one (ds_dput (u1 hr) (pv 6) (de_var (pv 9)) (de_var (pv 7)))))))
  (db_one (ds_ret (de_tup (da_cons (de_frz (pv 6) (of_decide_eq_true rfl)) (da_cons (de_var (pv 5)) da_nil)) (ArgN.cons (ArgN.cons ArgN.nil))))))))))))
/-! classes -/
def b_classes : Ev → So := (sRet (mUn bTuple (mOp fIx (mCall [none] m_class_numbers (mCons (mVar 0) mNil)) (mSc (.int 1)))))
def m_classes : List Dt → Fo := mFn [0] 0 b_classes
theorem sc_classes : FnScope ["web"] ["web"] (defScope s_classes) := ⟨rfl, rfl, rfl, by decide +kernel, rfl, by decide +kernel, by decide +kernel⟩
theorem t_classes (B : Bs mg) (t_class_numbers : Fd P w K mg base "class_numbers" 3 [0] 0 m_class_numbers) (D : Dn K mg "classes" s_classes) : Fd P w K mg base "classes" 4 [0] 0 m_classes := by
  refine fd_of (lv := 3) (N := ["web"]) (ps := ["web"]) (g := b_classes) D sc_classes rfl rfl (fun _ _ _ _ _ _ us hl => match us, hl with | [_], _ => rfl) (fun _ _ _ => rfl) (fun cdv A outer s H E hr => ?_)
  exact (db_one (ds_ret (de_t1 call_tuple_of opb_tuple rfl B.tuple boot_tuple (DE.b (m := .b) (de_ix (DE.b (m := .b) (de_call (ws := [none]) tkD t_class_numbers (hr.mono (by decide)) rfl rfl (ga_cons (de_var (pv 0)) ga_nil))) (DE.tt (DE.b (m := .b) de_int)) (fun _ _ => rfl))))))
/-! _law_int -/
def b__law_int : Ev → So := (sRet (mAndV (mIsi [(tbTy "int")] (mVarD 0)) (mNotV (mIsi [(tbTy "bool")] (mVarD 0)))))
def m__law_int : List Dt → Fo := mFn [0] 0 b__law_int
theorem sc__law_int : FnScope ["_law_value"] ["_law_value"] (defScope s__law_int) := ⟨rfl, rfl, rfl, by decide +kernel, rfl, by decide +kernel, by decide +kernel⟩
theorem t__law_int (B : Bs mg) (D : Dn K mg "_law_int" s__law_int) : Fd P w K mg base "_law_int" 1 [0] 0 m__law_int := by
  refine fd_of (lv := 0) (N := ["_law_value"]) (ps := ["_law_value"]) (g := b__law_int) D sc__law_int rfl rfl (fun _ _ _ _ _ _ us hl => match us, hl with | [_], _ => rfl) (fun _ _ _ => rfl) (fun cdv A outer s H E hr => ?_)
  exact (db_one (ds_ret (de_and (de_isi1 rfl B.isinstance (de_varD (pv 0)) (ClEs.cons (ClE.ty "int" rfl B.int boot_int (by decide) (by decide)) isi_int ClEs.nil)) (de_one (de_not (de_isi1 rfl B.isinstance (de_varD (pv 0)) (ClEs.cons (ClE.ty "bool" rfl B.bool boot_bool (by decide) (by decide)) isi_bool ClEs.nil)))))))
/-! _law_ints -/
def l__law_ints_0 : Ev → So := (sIf (mOr (mNot (mTru (mCall [none] m__law_int (mCons (mVar 2) mNil)))) (mOr (mB (mOpD fLt (mVarD 2) (mSc (.int 0)))) (mB (mOpD fGe (mVarD 2) (mVarD 1))))) (sRet (mSc (.bl false))) sNx)
def b__law_ints : Ev → So := (sSeq (sIf (mNot (mTru (mIsi [(tbTy "tuple")] (mVarD 0)))) (sRet (mSc (.bl false))) sNx) (sSeq (sFor (mIterT (mVar 0)) (gSet 2 0) l__law_ints_0) (sRet (mSc (.bl true)))))
def m__law_ints : List Dt → Fo := mFn [0, 0] 1 b__law_ints
theorem sc__law_ints : FnScope ["_law_value", "_law_many", "_law_one"] ["_law_value", "_law_many"] (defScope s__law_ints) := ⟨rfl, rfl, rfl, by decide +kernel, rfl, by decide +kernel, by decide +kernel⟩
theorem t__law_ints (B : Bs mg) (t__law_int : Fd P w K mg base "_law_int" 1 [0] 0 m__law_int) (D : Dn K mg "_law_ints" s__law_ints) : Fd P w K mg base "_law_ints" 2 [0, 0] 0 m__law_ints := by
  refine fd_of (lv := 1) (N := ["_law_value", "_law_many", "_law_one"]) (ps := ["_law_value", "_law_many"]) (g := b__law_ints) D sc__law_ints rfl rfl (fun _ _ _ _ _ _ us hl => match us, hl with | [_, _], _ => rfl) (fun _ _ _ => rfl) (fun cdv A outer s H E hr => ?_)
  exact (db_cons (ds_if (dt_not (dt_tru (DE.bd (DE.b (m := .b) (de_isi1 rfl B.isinstance (de_varD (pv 0)) (ClEs.cons (ClE.ty "tuple" rfl B.tuple boot_tuple (by decide) (by decide)) isi_tuple ClEs.nil)))))) (db_one (ds_ret de_bl)) db_nil)
  (db_cons (ds_for hpD rfl (di_tup (de_var (pv 0))) (dg_name (i := 2) sc__law_ints.nd rfl (by first | exact .inl rfl | exact .inr rfl) (of_decide_eq_true rfl)) (db_one (ds_if (DW.t (dw_or (dt_not (dt_tru (DE.bd (DE.b (m := .b) (de_call (ws := [none]) tkD t__law_int (hr.mono (by decide)) rfl rfl (ga_cons (de_var (pv 2)) ga_nil)))))) (dw_or (dt_cmp (op_ltU (u0 hr)) ops_lt (de_varD (pv 2)) (DE.tt (DE.bd (DE.b (m := .b) de_int))) (nomark _)) (dw_or1 (dt_cmp op_ge ops_ge (de_varD (pv 2)) (DE.tt (de_varD (pv 1))) (nomark _)))))) (db_one (ds_ret de_bl)) db_nil)))
  (db_one (ds_ret de_bl))))
/-! _law_pairs -/
def l__law_pairs_0 : Ev → So := (sSeq (sIf (mOr (mNot (mTru (mCall [none, none] m__law_ints (mCons (mVar 3) (mCons (mVar 1) mNil))))) (mOr (mB (mOpD fNe (mUn bLen (mVar 3)) (mSc (.int 2)))) (mOr (mB (mOpD fEq (mOp fIx (mVar 3) (mSc (.int 0))) (mOp fIx (mVar 3) (mSc (.int 1))))) (mNot (mB (mOpD fLt (mVarD 2) (mVarD 3))))))) (sRet (mSc (.bl false))) sNx) (sAsg (mVar 3) (gSet 2 0)))
def b__law_pairs : Ev → So := (sSeq (sIf (mNot (mTru (mIsi [(tbTy "tuple")] (mVarD 0)))) (sRet (mSc (.bl false))) sNx) (sSeq (sAsg (mTup (mCons (mUn fNeg (mSc (.int 1))) (mCons (mUn fNeg (mSc (.int 1))) mNil))) (gSet 2 0)) (sSeq (sFor (mIterT (mVar 0)) (gSet 3 0) l__law_pairs_0) (sRet (mSc (.bl true))))))
def m__law_pairs : List Dt → Fo := mFn [0, 0] 2 b__law_pairs
theorem sc__law_pairs : FnScope ["_law_value", "_law_size", "_law_last", "_law_pair"] ["_law_value", "_law_size"] (defScope s__law_pairs) := ⟨rfl, rfl, rfl, by decide +kernel, rfl, by decide +kernel, by decide +kernel⟩
theorem t__law_pairs (B : Bs mg) (t__law_ints : Fd P w K mg base "_law_ints" 2 [0, 0] 0 m__law_ints) (D : Dn K mg "_law_pairs" s__law_pairs) : Fd P w K mg base "_law_pairs" 3 [0, 0] 0 m__law_pairs := by
  refine fd_of (lv := 2) (N := ["_law_value", "_law_size", "_law_last", "_law_pair"]) (ps := ["_law_value", "_law_size"]) (g := b__law_pairs) D sc__law_pairs rfl rfl (fun _ _ _ _ _ _ us hl => match us, hl with | [_, _], _ => rfl) (fun _ _ _ => rfl) (fun cdv A outer s H E hr => ?_)
  exact (db_cons (ds_if (dt_not (dt_tru (DE.bd (DE.b (m := .b) (de_isi1 rfl B.isinstance (de_varD (pv 0)) (ClEs.cons (ClE.ty "tuple" rfl B.tuple boot_tuple (by decide) (by decide)) isi_tuple ClEs.nil)))))) (db_one (ds_ret de_bl)) db_nil)
  (db_cons (ds_set (i := 2) sc__law_pairs.nd rfl (by first | exact .inl rfl | exact .inr rfl) (of_decide_eq_true rfl) (de_tup (da_cons (de_un un_neg opu_neg (DE.b (m := .b) de_int)) (da_cons (de_un un_neg opu_neg (DE.b (m := .b) de_int)) da_nil)) (ArgN.cons (ArgN.cons ArgN.nil))))
  (db_cons (ds_for hpD rfl (di_tup (de_var (pv 0))) (dg_name (i := 3) sc__law_pairs.nd rfl (by first | exact .inl rfl | exact .inr rfl) (of_decide_eq_true rfl)) (db_cons (ds_if (DW.t (dw_or (dt_not (dt_tru (DE.bd (DE.b (m := .b) (de_call (ws := [none, none]) tkD t__law_ints (hr.mono (by decide)) rfl rfl (ga_cons (de_var (pv 3)) (ga_cons (de_var (pv 1)) ga_nil))))))) (dw_or (dt_cmp (op_neD (u64 hr)) ops_ne (DE.bd (DE.b (m := .b) (de_b1 call_len opb_len rfl B.len boot_len (DE.b (m := .b) (de_var (pv 3)))))) (DE.tt (DE.bd (DE.b (m := .b) de_int))) (nomark _)) (dw_or (dt_cmp (op_eqD (u64 hr)) ops_eq (DE.bd (DE.b (m := .b) (de_ix (DE.b (m := .b) (de_var (pv 3))) (DE.tt (DE.b (m := .b) de_int)) (fun _ _ => rfl)))) (DE.tt (DE.bd (DE.b (m := .b) (de_ix (DE.b (m := .b) (de_var (pv 3))) (DE.tt (DE.b (m := .b) de_int)) (fun _ _ => rfl))))) (nomark _)) (dw_or1 (dt_not (dt_cmp (op_ltU (u0 hr)) ops_lt (de_varD (pv 2)) (DE.tt (de_varD (pv 3))) (nomark _)))))))) (db_one (ds_ret de_bl)) db_nil)
  (db_one (ds_set (i := 2) sc__law_pairs.nd rfl (by first | exact .inl rfl | exact .inr rfl) (of_decide_eq_true rfl) (de_var (pv 3))))))
  (db_one (ds_ret de_bl)))))
/-! _law_homes -/
def l__law_homes_0 : Ev → So := (sSeq (sIf (mOr (mB (mOpD fEq (mOp fIx (mOp fIx (mVar 1) (mVar 5)) (mVar 6)) (mSc (.int 0)))) (mB (mDIn false (mTup (mCons (mVar 5) (mCons (mVar 6) mNil))) (mVarB 3)))) (sRet (mSc .non)) sNx) (sDPutS 3 (mTup (mCons (mVar 5) (mCons (mVar 6) mNil))) (mVar 4)))
def l__law_homes_1 : Ev → So := (sSeq (sIf (mNot (mTru (mCall [none, none] m__law_pairs (mCons (mOp fIx (mVar 0) (mVar 4)) (mCons (mVar 2) mNil))))) (sRet (mSc .non)) sNx) (sFor (mIterA (mOp fIx (mVar 0) (mVar 4))) (gUnp (gMore (gSet 5 0) (gMore (gSet 6 0) gNone))) l__law_homes_0))
def b__law_homes : Ev → So := (sSeq (sAsg (mUn bLen (mVar 1)) (gSet 2 0)) (sSeq (sAsg mNewT (gSet 3 1)) (sSeq (sIf (mNot (mTru (mIsi [(tbTy "tuple")] (mVarD 0)))) (sRet (mSc .non)) sNx) (sSeq (sFor (mRange1 (mCons (mUn bLen (mVar 0)) mNil)) (gSet 4 0) l__law_homes_1) (sSeq (sIf (mB (mOpD fNe (mUn bLenT (mVarB 3)) (mOp fMul (mSc (.int 2)) (mUn bLen (mCall [none] m__law_ties (mCons (mVar 1) mNil)))))) (sRet (mSc .non)) sNx) (sRet (mFrz 3)))))))
def m__law_homes : List Dt → Fo := mFn [0, 0] 5 b__law_homes
theorem sc__law_homes : FnScope ["_law_told", "_law_near_here", "_law_size", "_law_homes_here", "_law_k", "_law_a", "_law_b"] ["_law_told", "_law_near_here"] (defScope s__law_homes) := ⟨rfl, rfl, rfl, by decide +kernel, rfl, by decide +kernel, by decide +kernel⟩
theorem t__law_homes (B : Bs mg) (t__law_pairs : Fd P w K mg base "_law_pairs" 3 [0, 0] 0 m__law_pairs) (t__law_ties : Fd P w K mg base "_law_ties" 1 [0] 0 m__law_ties) (D : Dn K mg "_law_homes" s__law_homes) : Fd P w K mg base "_law_homes" 4 [0, 0] 0 m__law_homes := by
  refine fd_of (lv := 3) (N := ["_law_told", "_law_near_here", "_law_size", "_law_homes_here", "_law_k", "_law_a", "_law_b"]) (ps := ["_law_told", "_law_near_here"]) (g := b__law_homes) D sc__law_homes rfl rfl (fun _ _ _ _ _ _ us hl => match us, hl with | [_, _], _ => rfl) (fun _ _ _ => rfl) (fun cdv A outer s H E hr => ?_)
  exact (db_cons (ds_set (i := 2) sc__law_homes.nd rfl (by first | exact .inl rfl | exact .inr rfl) (of_decide_eq_true rfl) (de_b1 call_len opb_len rfl B.len boot_len (DE.b (m := .b) (de_var (pv 1)))))
  (db_cons (ds_set (i := 3) sc__law_homes.nd rfl (by first | exact .inl rfl | exact .inr rfl) (of_decide_eq_true rfl) de_newT)
  (db_cons (ds_if (dt_not (dt_tru (DE.bd (DE.b (m := .b) (de_isi1 rfl B.isinstance (de_varD (pv 0)) (ClEs.cons (ClE.ty "tuple" rfl B.tuple boot_tuple (by decide) (by decide)) isi_tuple ClEs.nil)))))) (db_one (ds_ret de_non)) db_nil)
  (db_cons (ds_for hpD rfl (di_range1 rfl B.range (da_cons (de_b1 call_len opb_len rfl B.len boot_len (DE.b (m := .b) (de_var (pv 0)))) da_nil)) (dg_name (i := 4) sc__law_homes.nd rfl (by first | exact .inl rfl | exact .inr rfl) (of_decide_eq_true rfl)) (db_cons (ds_if (dt_not (dt_tru (DE.bd (DE.b (m := .b) (de_call (ws := [none, none]) tkD t__law_pairs (hr.mono (by decide)) rfl rfl (ga_cons (de_ix (DE.b (m := .b) (de_var (pv 0))) (DE.tt (DE.b (m := .b) (de_var (pv 4)))) (fun _ _ => rfl)) (ga_cons (de_var (pv 2)) ga_nil))))))) (db_one (ds_ret de_non)) db_nil)
  (db_one (ds_for hpD rfl (di_any (de_ix (DE.b (m := .b) (de_var (pv 0))) (DE.tt (DE.b (m := .b) (de_var (pv 4)))) (fun _ _ => rfl))) (dg_tup rfl (dgs_cons (dg_name (i := 5) sc__law_homes.nd rfl (by first | exact .inl rfl | exact .inr rfl) (of_decide_eq_true rfl)) (dgs_cons (dg_name (i := 6) sc__law_homes.nd rfl (by first | exact .inl rfl | exact .inr rfl) (of_decide_eq_true rfl)) dgs_nil)) (TgN.cons (TgN.cons TgN.nil))) (db_cons (ds_if (DW.t (dw_or (dt_cmp (op_eqD (u64 hr)) ops_eq (DE.bd (DE.b (m := .b) (de_ix (DE.b (m := .b) (de_ix (DE.b (m := .b) (de_var (pv 1))) (DE.tt (DE.b (m := .b) (de_var (pv 5)))) (fun _ _ => rfl))) (DE.tt (DE.b (m := .b) (de_var (pv 6)))) (fun _ _ => rfl)))) (DE.tt (DE.bd (DE.b (m := .b) de_int))) (nomark _)) (dw_or1 (dt_din (u1 hr) (de_tup (da_cons (de_var (pv 5)) (da_cons (de_var (pv 6)) da_nil)) (ArgN.cons (ArgN.cons ArgN.nil))) (de_varB (pv 3)) (by rfl))))) (db_one (ds_ret de_non)) db_nil)
  (db_one (ds_dput (u1 hr) (pv 3) (de_tup (da_cons (de_var (pv 5)) (da_cons (de_var (pv 6)) da_nil)) (ArgN.cons (ArgN.cons ArgN.nil))) (de_var (pv 4)))))))))
  (db_cons (ds_if (dt_cmp (op_neD (u64 hr)) ops_ne (DE.bd (DE.b (m := .b) (de_b1 call_len_dT opb_lenT rfl B.len boot_len (de_varB (pv 3))))) (DE.tt (DE.bd (DE.b (m := .b) (de_op op_mulU ops_mul (DE.b (m := .b) de_int) (DE.tt (DE.b (m := .b) (de_b1 call_len opb_len rfl B.len boot_len (DE.b (m := .b) (de_call (ws := [none]) tkD t__law_ties (hr.mono (by decide)) rfl rfl (ga_cons (de_var (pv 1)) ga_nil)))))))))) (nomark _)) (db_one (ds_ret de_non)) db_nil)
  (db_one (ds_ret (de_frz (pv 3) (of_decide_eq_true rfl)))))))))
/-! _law_contrary -/
def l__law_contrary_0 : Ev → So := (sIf (mB (mOpD fNe (mVarD 3) (mVarD 4))) (sAsg (mOp fSub (mSc (.int 1)) (mOp fIx (mOp fIx (mVar 0) (mVar 3)) (mVar 4))) (gCell 2 (mVar 3) (mVar 4))) sNx)
def l__law_contrary_1 : Ev → So := (sFor (mRange1 (mCons (mVar 1) mNil)) (gSet 4 0) l__law_contrary_0)
def b__law_contrary : Ev → So := (sSeq (sAsg (mUn bLen (mVar 0)) (gSet 1 0)) (sSeq (sAsg (mCall [none] m__law_blank (mCons (mVar 1) mNil)) (gSet 2 2)) (sSeq (sFor (mRange1 (mCons (mVar 1) mNil)) (gSet 3 0) l__law_contrary_1) (sRet (mFrz 2)))))
def m__law_contrary : List Dt → Fo := mFn [0] 4 b__law_contrary
theorem sc__law_contrary : FnScope ["_law_near_here", "_law_size", "_law_other", "_law_a", "_law_b"] ["_law_near_here"] (defScope s__law_contrary) := ⟨rfl, rfl, rfl, by decide +kernel, rfl, by decide +kernel, by decide +kernel⟩
theorem t__law_contrary (B : Bs mg) (t__law_blank : Fd P w K mg base "_law_blank" 1 [0] 2 m__law_blank) (D : Dn K mg "_law_contrary" s__law_contrary) : Fd P w K mg base "_law_contrary" 2 [0] 0 m__law_contrary := by
  refine fd_of (lv := 1) (N := ["_law_near_here", "_law_size", "_law_other", "_law_a", "_law_b"]) (ps := ["_law_near_here"]) (g := b__law_contrary) D sc__law_contrary rfl rfl (fun _ _ _ _ _ _ us hl => match us, hl with | [_], _ => rfl) (fun _ _ _ => rfl) (fun cdv A outer s H E hr => ?_)
  exact (db_cons (ds_set (i := 1) sc__law_contrary.nd rfl (by first | exact .inl rfl | exact .inr rfl) (of_decide_eq_true rfl) (de_b1 call_len opb_len rfl B.len boot_len (DE.b (m := .b) (de_var (pv 0)))))
  (db_cons (ds_set (i := 2) sc__law_contrary.nd rfl (by first | exact .inl rfl | exact .inr rfl) (of_decide_eq_true rfl) (de_call (ws := [none]) tkD t__law_blank (hr.mono (by decide)) rfl rfl (ga_cons (de_var (pv 1)) ga_nil)))
  (db_cons (ds_for hpD rfl (di_range1 rfl B.range (da_cons (de_var (pv 1)) da_nil)) (dg_name (i := 3) sc__law_contrary.nd rfl (by first | exact .inl rfl | exact .inr rfl) (of_decide_eq_true rfl)) (db_one (ds_for hpD rfl (di_range1 rfl B.range (da_cons (de_var (pv 1)) da_nil)) (dg_name (i := 4) sc__law_contrary.nd rfl (by first | exact .inl rfl | exact .inr rfl) (of_decide_eq_true rfl)) (db_one (ds_if (dt_cmp (op_neD (u64 hr)) ops_ne (de_varD (pv 3)) (DE.tt (de_varD (pv 4))) (nomark _)) (db_one (ds_asg (de_op op_sub ops_sub (DE.b (m := .b) de_int) (DE.tt (DE.b (m := .b) (de_ix (DE.b (m := .b) (de_ix (DE.b (m := .b) (de_var (pv 0))) (DE.tt (DE.b (m := .b) (de_var (pv 3)))) (fun _ _ => rfl))) (DE.tt (DE.b (m := .b) (de_var (pv 4)))) (fun _ _ => rfl))))) (dg_cell (pv 2) (DE.tt (de_var (pv 3))) (DE.tt (de_var (pv 4))) (fun _ _ => rfl)))) db_nil)))))
  (db_one (ds_ret (de_frz (pv 2) (of_decide_eq_true rfl)))))))
/-! _law_with_all -/
def e__law_with_all_0 : Ev → Rs Dt := (mTup (mCons (mVar 2) (mCons (mVar 1) mNil)))
def b__law_with_all : Ev → So := (sSeq (sAsg (mUn bLen (mVar 0)) (gSet 1 0)) (sRet (mCall [none, none] m__law_near (mCons (mOp fAdd (mVar 1) (mSc (.int 1))) (mCons (mOp fAdd (mCall [none] m__law_ties (mCons (mVar 0) mNil)) (mComp [2] (mRange1 (mCons (mVar 1) mNil)) (gSet 2 0) mYes e__law_with_all_0)) mNil)))))
def m__law_with_all : List Dt → Fo := mFn [0] 2 b__law_with_all
theorem sc__law_with_all : FnScope ["_law_near_here", "_law_size", "_law_a"] ["_law_near_here"] (defScope s__law_with_all) := ⟨rfl, rfl, rfl, by decide +kernel, rfl, by decide +kernel, by decide +kernel⟩
theorem t__law_with_all (B : Bs mg) (t__law_ties : Fd P w K mg base "_law_ties" 1 [0] 0 m__law_ties) (t__law_near : Fd P w K mg base "_law_near" 2 [0, 0] 0 m__law_near) (D : Dn K mg "_law_with_all" s__law_with_all) : Fd P w K mg base "_law_with_all" 3 [0] 0 m__law_with_all := by
  refine fd_of (lv := 2) (N := ["_law_near_here", "_law_size", "_law_a"]) (ps := ["_law_near_here"]) (g := b__law_with_all) D sc__law_with_all rfl rfl (fun _ _ _ _ _ _ us hl => match us, hl with | [_], _ => rfl) (fun _ _ _ => rfl) (fun cdv A outer s H E hr => ?_)
  exact (db_cons (ds_set (i := 1) sc__law_with_all.nd rfl (by first | exact .inl rfl | exact .inr rfl) (of_decide_eq_true rfl) (de_b1 call_len opb_len rfl B.len boot_len (DE.b (m := .b) (de_var (pv 0)))))
  (db_one (ds_ret (de_call (ws := [none, none]) tkD t__law_near (hr.mono (by decide)) rfl rfl (ga_cons (de_op op_addU ops_add (DE.b (m := .b) (de_var (pv 1))) (DE.tt (DE.b (m := .b) de_int))) (ga_cons (de_op op_addU ops_add (DE.b (m := .b) (de_call (ws := [none]) tkD t__law_ties (hr.mono (by decide)) rfl rfl (ga_cons (de_var (pv 0)) ga_nil))) (DE.tt (DE.b1 (de_lc (own := [("_law_a", 2)]) rfl sc__law_with_all.nd (di_range1 rfl B.range (da_cons (de_var (pv 1)) da_nil)) ⟨rfl, of_decide_eq_true (by kernel_rfl), of_decide_eq_true (by kernel_rfl), of_decide_eq_true (by kernel_rfl), of_decide_eq_true (by kernel_rfl)⟩ (fun _ => (dg_name (i := 2) sc__law_with_all.nd rfl (by first | exact .inl rfl | exact .inr rfl) (of_decide_eq_true rfl))) (fun _ => dts_nil) (fun _ => (de_tup (da_cons (de_var (pv 2)) (da_cons (de_var (pv 1)) da_nil)) (ArgN.cons (ArgN.cons ArgN.nil)))) (by decide) (of_decide_eq_true rfl))))) ga_nil))))))
/-! pair_of -/
def b_pair_of : Ev → So := (sSeq (sIf (mNot (mTru (mCall [none, none] m_is_pair (mCons (mVar 0) (mCons (mVar 1) mNil))))) (sRaise "BadPair" ["place"] (mCons (mSc (.int 0)) mNil)) sNx) (sRet (mTup (mCons (mOp fIx (mVar 1) (mSc (.int 0))) (mCons (mOp fIx (mVar 1) (mSc (.int 1))) mNil)))))
def m_pair_of : List Dt → Fo := mFn [0, 0] 0 b_pair_of
theorem sc_pair_of : FnScope ["size", "pair"] ["size", "pair"] (defScope s_pair_of) := ⟨rfl, rfl, rfl, by decide +kernel, rfl, by decide +kernel, by decide +kernel⟩
theorem t_pair_of (B : Bs mg) (t_is_pair : Fd P w K mg base "is_pair" 3 [0, 0] 0 m_is_pair) (x_BadPair : Xf P w K mg base "BadPair" 1 ["place"]) (D : Dn K mg "pair_of" s_pair_of) : Fd P w K mg base "pair_of" 4 [0, 0] 0 m_pair_of := by
  refine fd_of (lv := 3) (N := ["size", "pair"]) (ps := ["size", "pair"]) (g := b_pair_of) D sc_pair_of rfl rfl (fun _ _ _ _ _ _ us hl => match us, hl with | [_, _], _ => rfl) (fun _ _ _ => rfl) (fun cdv A outer s H E hr => ?_)
  exact (db_cons (ds_if (dt_not (dt_tru (DE.bd (DE.b (m := .b) (de_call (ws := [none, none]) tkD t_is_pair (hr.mono (by decide)) rfl rfl (ga_cons (de_var (pv 0)) (ga_cons (de_var (pv 1)) ga_nil))))))) (db_one (ds_raise rfl tkD x_BadPair (hr.mono (by decide)) rfl (da_cons de_int da_nil))) db_nil)
  (db_one (ds_ret (de_tup (da_cons (de_ix (DE.b (m := .b) (de_var (pv 1))) (DE.tt (DE.b (m := .b) de_int)) (fun _ _ => rfl)) (da_cons (de_ix (DE.b (m := .b) (de_var (pv 1))) (DE.tt (DE.b (m := .b) de_int)) (fun _ _ => rfl)) da_nil)) (ArgN.cons (ArgN.cons ArgN.nil))))))
/-! arrow_in -/
def b_arrow_in : Ev → So := (sSeq (sAsg (mCall [none, none] m_pair_of (mCons (mFld ["Web"] "size" (mVar 0)) (mCons (mVar 1) mNil))) (gUnp (gMore (gSet 2 0) (gMore (gSet 3 0) gNone)))) (sSeq (sIf (mB (mDIn true (mTup (mCons (mVar 2) (mCons (mVar 3) mNil))) (mFld ["Web"] "table" (mVar 0)))) (sRaise "NotTied" ["first", "second"] (mCons (mVar 2) (mCons (mVar 3) mNil))) sNx) (sRet (mTup (mCons (mVar 2) (mCons (mVar 3) mNil))))))
def m_arrow_in : List Dt → Fo := mFn [0, 0] 2 b_arrow_in
theorem sc_arrow_in : FnScope ["web", "pair", "a", "b"] ["web", "pair"] (defScope s_arrow_in) := ⟨rfl, rfl, rfl, by decide +kernel, rfl, by decide +kernel, by decide +kernel⟩
theorem t_arrow_in (B : Bs mg) (cf_size : ClsF K "size" ["Web"]) (t_pair_of : Fd P w K mg base "pair_of" 4 [0, 0] 0 m_pair_of) (cf_table : ClsF K "table" ["Web"]) (x_NotTied : Xf P w K mg base "NotTied" 1 ["first", "second"]) (D : Dn K mg "arrow_in" s_arrow_in) : Fd P w K mg base "arrow_in" 5 [0, 0] 0 m_arrow_in := by
  refine fd_of (lv := 4) (N := ["web", "pair", "a", "b"]) (ps := ["web", "pair"]) (g := b_arrow_in) D sc_arrow_in rfl rfl (fun _ _ _ _ _ _ us hl => match us, hl with | [_, _], _ => rfl) (fun _ _ _ => rfl) (fun cdv A outer s H E hr => ?_)
  exact (db_cons (ds_asg (de_call (ws := [none, none]) tkD t_pair_of (hr.mono (by decide)) rfl rfl (ga_cons (de_fld cf_size (DE.b (m := .b) (de_var (pv 0)))) (ga_cons (de_var (pv 1)) ga_nil))) (dg_tup rfl (dgs_cons (dg_name (i := 2) sc_arrow_in.nd rfl (by first | exact .inl rfl | exact .inr rfl) (of_decide_eq_true rfl)) (dgs_cons (dg_name (i := 3) sc_arrow_in.nd rfl (by first | exact .inl rfl | exact .inr rfl) (of_decide_eq_true rfl)) dgs_nil)) (TgN.cons (TgN.cons TgN.nil))))
  (db_cons (ds_if (dt_dnotin (u1 hr) (de_tup (da_cons (de_var (pv 2)) (da_cons (de_var (pv 3)) da_nil)) (ArgN.cons (ArgN.cons ArgN.nil))) (DE.b (m := .b) (de_fld cf_table (DE.b (m := .b) (de_var (pv 0))))) (by rfl)) (db_one (ds_raise rfl tkD x_NotTied (hr.mono (by decide)) rfl (da_cons (de_var (pv 2)) (da_cons (de_var (pv 3)) da_nil)))) db_nil)
  (db_one (ds_ret (de_tup (da_cons (de_var (pv 2)) (da_cons (de_var (pv 3)) da_nil)) (ArgN.cons (ArgN.cons ArgN.nil)))))))
/-! class_of -/
def b_class_of : Ev → So := (sSeq (sAsg (mCall [none, none] m_arrow_in (mCons (mVar 0) (mCons (mVar 1) mNil))) (gSet 2 0)) (sSeq (sAsg (mCall [none] m_class_numbers (mCons (mVar 0) mNil)) (gUnp (gMore (gSet 3 0) (gMore (gSet 4 0) gNone)))) (sRet (mOp fIx (mVar 4) (mDGet (mVar 3) (mVar 2))))))
def m_class_of : List Dt → Fo := mFn [0, 0] 3 b_class_of
theorem sc_class_of : FnScope ["web", "arrow", "pair", "numbers", "found"] ["web", "arrow"] (defScope s_class_of) := ⟨rfl, rfl, rfl, by decide +kernel, rfl, by decide +kernel, by decide +kernel⟩
theorem t_class_of (B : Bs mg) (t_arrow_in : Fd P w K mg base "arrow_in" 5 [0, 0] 0 m_arrow_in) (t_class_numbers : Fd P w K mg base "class_numbers" 3 [0] 0 m_class_numbers) (D : Dn K mg "class_of" s_class_of) : Fd P w K mg base "class_of" 6 [0, 0] 0 m_class_of := by
  refine fd_of (lv := 5) (N := ["web", "arrow", "pair", "numbers", "found"]) (ps := ["web", "arrow"]) (g := b_class_of) D sc_class_of rfl rfl (fun _ _ _ _ _ _ us hl => match us, hl with | [_, _], _ => rfl) (fun _ _ _ => rfl) (fun cdv A outer s H E hr => ?_)
  exact (db_cons (ds_set (i := 2) sc_class_of.nd rfl (by first | exact .inl rfl | exact .inr rfl) (of_decide_eq_true rfl) (de_call (ws := [none, none]) tkD t_arrow_in (hr.mono (by decide)) rfl rfl (ga_cons (de_var (pv 0)) (ga_cons (de_var (pv 1)) ga_nil))))
  (db_cons (ds_asg (de_call (ws := [none]) tkD t_class_numbers (hr.mono (by decide)) rfl rfl (ga_cons (de_var (pv 0)) ga_nil)) (dg_tup rfl (dgs_cons (dg_name (i := 3) sc_class_of.nd rfl (by first | exact .inl rfl | exact .inr rfl) (of_decide_eq_true rfl)) (dgs_cons (dg_name (i := 4) sc_class_of.nd rfl (by first | exact .inl rfl | exact .inr rfl) (of_decide_eq_true rfl)) dgs_nil)) (TgN.cons (TgN.cons TgN.nil))))
  (db_one (ds_ret (de_ix (DE.b (m := .b) (de_var (pv 4))) (DE.tt (DE.b (m := .b) (de_dget (u1 hr) (DE.b (m := .b) (de_var (pv 3))) (DE.tt (de_var (pv 2))) (fun _ _ => rfl)))) (fun _ _ => rfl))))))
/-! touched -/
def b_touched : Ev → So := (sRet (mUn bTuple (mSortSet2 [2, 3] [3] (mIterA (mCall [none, none] m_class_of (mCons (mVar 0) (mCons (mVar 1) mNil)))) (gSet 2 0) (mIterA (mVar 2)) (gSet 3 0) (mVar 3))))
def m_touched : List Dt → Fo := mFn [0, 0] 2 b_touched
theorem sc_touched : FnScope ["web", "tie", "pair", "a"] ["web", "tie"] (defScope s_touched) := ⟨rfl, rfl, rfl, by decide +kernel, rfl, by decide +kernel, by decide +kernel⟩
theorem t_touched (B : Bs mg) (t_class_of : Fd P w K mg base "class_of" 6 [0, 0] 0 m_class_of) (D : Dn K mg "touched" s_touched) : Fd P w K mg base "touched" 7 [0, 0] 0 m_touched := by
  refine fd_of (lv := 6) (N := ["web", "tie", "pair", "a"]) (ps := ["web", "tie"]) (g := b_touched) D sc_touched rfl rfl (fun _ _ _ _ _ _ us hl => match us, hl with | [_, _], _ => rfl) (fun _ _ _ => rfl) (fun cdv A outer s H E hr => ?_)
  exact (db_one (ds_ret (de_t1 call_tuple_of opb_tuple rfl B.tuple boot_tuple (DE.b1 (de_sortSet2 (own := [("pair", 2), ("a", 3)]) (ws := [3]) rfl sc_touched.nd rfl B.sorted (di_any (de_call (ws := [none, none]) tkD t_class_of (hr.mono (by decide)) rfl rfl (ga_cons (de_var (pv 0)) (ga_cons (de_var (pv 1)) ga_nil)))) ⟨rfl, of_decide_eq_true (by kernel_rfl), of_decide_eq_true (by kernel_rfl), of_decide_eq_true (by kernel_rfl), of_decide_eq_true (by kernel_rfl)⟩ (fun _ => (dg_name (i := 2) sc_touched.nd rfl (by first | exact .inl rfl | exact .inr rfl) (of_decide_eq_true rfl))) (fun _ => (di_any (de_var (pv 2)))) (fun _ => (dg_name (i := 3) sc_touched.nd rfl (by first | exact .inl rfl | exact .inr rfl) (of_decide_eq_true rfl))) (fun _ => (de_var (pv 3))) (by decide) (by decide) (by decide) (of_decide_eq_true rfl))))))
/-! two_arrows -/
def b_two_arrows : Ev → So := (sSeq (sDrop (mCall [none, none] m_pair_of (mCons (mFld ["Web"] "size" (mVar 0)) (mCons (mVar 1) mNil)))) (sSeq (sDrop (mCall [none, none] m_pair_of (mCons (mFld ["Web"] "size" (mVar 0)) (mCons (mVar 2) mNil)))) (sRet (mTup (mCons (mCall [none, none] m_arrow_in (mCons (mVar 0) (mCons (mVar 1) mNil))) (mCons (mCall [none, none] m_arrow_in (mCons (mVar 0) (mCons (mVar 2) mNil))) mNil))))))
def m_two_arrows : List Dt → Fo := mFn [0, 0, 0] 0 b_two_arrows
theorem sc_two_arrows : FnScope ["web", "first", "last"] ["web", "first", "last"] (defScope s_two_arrows) := ⟨rfl, rfl, rfl, by decide +kernel, rfl, by decide +kernel, by decide +kernel⟩
theorem t_two_arrows (B : Bs mg) (cf_size : ClsF K "size" ["Web"]) (t_pair_of : Fd P w K mg base "pair_of" 4 [0, 0] 0 m_pair_of) (t_arrow_in : Fd P w K mg base "arrow_in" 5 [0, 0] 0 m_arrow_in) (D : Dn K mg "two_arrows" s_two_arrows) : Fd P w K mg base "two_arrows" 6 [0, 0, 0] 0 m_two_arrows := by
  refine fd_of (lv := 5) (N := ["web", "first", "last"]) (ps := ["web", "first", "last"]) (g := b_two_arrows) D sc_two_arrows rfl rfl (fun _ _ _ _ _ _ us hl => match us, hl with | [_, _, _], _ => rfl) (fun _ _ _ => rfl) (fun cdv A outer s H E hr => ?_)
  exact (db_cons (ds_expr (de_call (ws := [none, none]) tkD t_pair_of (hr.mono (by decide)) rfl rfl (ga_cons (de_fld cf_size (DE.b (m := .b) (de_var (pv 0)))) (ga_cons (de_var (pv 1)) ga_nil))))
  (db_cons (ds_expr (de_call (ws := [none, none]) tkD t_pair_of (hr.mono (by decide)) rfl rfl (ga_cons (de_fld cf_size (DE.b (m := .b) (de_var (pv 0)))) (ga_cons (de_var (pv 2)) ga_nil))))
  (db_one (ds_ret (de_tup (da_cons (de_call (ws := [none, none]) tkD t_arrow_in (hr.mono (by decide)) rfl rfl (ga_cons (de_var (pv 0)) (ga_cons (de_var (pv 1)) ga_nil))) (da_cons (de_call (ws := [none, none]) tkD t_arrow_in (hr.mono (by decide)) rfl rfl (ga_cons (de_var (pv 0)) (ga_cons (de_var (pv 2)) ga_nil))) da_nil)) (ArgN.cons (ArgN.cons ArgN.nil)))))))
/-! same_class -/
def b_same_class : Ev → So := (sSeq (sAsg (mCall [none, none, none] m_two_arrows (mCons (mVar 0) (mCons (mVar 1) (mCons (mVar 2) mNil)))) (gUnp (gMore (gSet 3 0) (gMore (gSet 4 0) gNone)))) (sSeq (sAsg (mOp fIx (mCall [none] m_class_numbers (mCons (mVar 0) mNil)) (mSc (.int 0))) (gSet 5 0)) (sRet (mOpD fEq (mDGet (mVar 5) (mVar 3)) (mDGet (mVar 5) (mVar 4))))))
def m_same_class : List Dt → Fo := mFn [0, 0, 0] 3 b_same_class
theorem sc_same_class : FnScope ["web", "first", "last", "one", "other", "numbers"] ["web", "first", "last"] (defScope s_same_class) := ⟨rfl, rfl, rfl, by decide +kernel, rfl, by decide +kernel, by decide +kernel⟩
theorem t_same_class (B : Bs mg) (t_two_arrows : Fd P w K mg base "two_arrows" 6 [0, 0, 0] 0 m_two_arrows) (t_class_numbers : Fd P w K mg base "class_numbers" 3 [0] 0 m_class_numbers) (D : Dn K mg "same_class" s_same_class) : Fd P w K mg base "same_class" 7 [0, 0, 0] 0 m_same_class := by
  refine fd_of (lv := 6) (N := ["web", "first", "last", "one", "other", "numbers"]) (ps := ["web", "first", "last"]) (g := b_same_class) D sc_same_class rfl rfl (fun _ _ _ _ _ _ us hl => match us, hl with | [_, _, _], _ => rfl) (fun _ _ _ => rfl) (fun cdv A outer s H E hr => ?_)
  exact (db_cons (ds_asg (de_call (ws := [none, none, none]) tkD t_two_arrows (hr.mono (by decide)) rfl rfl (ga_cons (de_var (pv 0)) (ga_cons (de_var (pv 1)) (ga_cons (de_var (pv 2)) ga_nil)))) (dg_tup rfl (dgs_cons (dg_name (i := 3) sc_same_class.nd rfl (by first | exact .inl rfl | exact .inr rfl) (of_decide_eq_true rfl)) (dgs_cons (dg_name (i := 4) sc_same_class.nd rfl (by first | exact .inl rfl | exact .inr rfl) (of_decide_eq_true rfl)) dgs_nil)) (TgN.cons (TgN.cons TgN.nil))))
  (db_cons (ds_set (i := 5) sc_same_class.nd rfl (by first | exact .inl rfl | exact .inr rfl) (of_decide_eq_true rfl) (de_ix (DE.b (m := .b) (de_call (ws := [none]) tkD t_class_numbers (hr.mono (by decide)) rfl rfl (ga_cons (de_var (pv 0)) ga_nil))) (DE.tt (DE.b (m := .b) de_int)) (fun _ _ => rfl)))
  (db_one (ds_ret (de_cmp (op_eqD (u64 hr)) ops_eq (DE.bd (DE.b (m := .b) (de_dget (u1 hr) (DE.b (m := .b) (de_var (pv 5))) (DE.tt (de_var (pv 3))) (fun _ _ => rfl)))) (DE.tt (DE.bd (DE.b (m := .b) (de_dget (u1 hr) (DE.b (m := .b) (de_var (pv 5))) (DE.tt (de_var (pv 4))) (fun _ _ => rfl))))) (nomark _))))))
/-! _law_lot -/
def l__law_lot_0 : Ev → So := (sIf (mB (mOpD fGe (mOp fIx (mVar 0) (mOp fSub (mVar 2) (mSc (.int 1)))) (mOp fIx (mVar 0) (mVar 2)))) (sRet (mSc (.bl false))) sNx)
def b__law_lot : Ev → So := (sSeq (sIf (mNot (mTru (mCall [none, none] m__law_ints (mCons (mVar 0) (mCons (mVar 1) mNil))))) (sRet (mSc (.bl false))) sNx) (sSeq (sFor (mRange2 (mCons (mSc (.int 1)) (mCons (mUn bLen (mVar 0)) mNil))) (gSet 2 0) l__law_lot_0) (sRet (mSc (.bl true)))))
def m__law_lot : List Dt → Fo := mFn [0, 0] 1 b__law_lot
theorem sc__law_lot : FnScope ["_law_value", "_law_size", "_law_k"] ["_law_value", "_law_size"] (defScope s__law_lot) := ⟨rfl, rfl, rfl, by decide +kernel, rfl, by decide +kernel, by decide +kernel⟩
theorem t__law_lot (B : Bs mg) (t__law_ints : Fd P w K mg base "_law_ints" 2 [0, 0] 0 m__law_ints) (D : Dn K mg "_law_lot" s__law_lot) : Fd P w K mg base "_law_lot" 3 [0, 0] 0 m__law_lot := by
  refine fd_of (lv := 2) (N := ["_law_value", "_law_size", "_law_k"]) (ps := ["_law_value", "_law_size"]) (g := b__law_lot) D sc__law_lot rfl rfl (fun _ _ _ _ _ _ us hl => match us, hl with | [_, _], _ => rfl) (fun _ _ _ => rfl) (fun cdv A outer s H E hr => ?_)
  exact (db_cons (ds_if (dt_not (dt_tru (DE.bd (DE.b (m := .b) (de_call (ws := [none, none]) tkD t__law_ints (hr.mono (by decide)) rfl rfl (ga_cons (de_var (pv 0)) (ga_cons (de_var (pv 1)) ga_nil))))))) (db_one (ds_ret de_bl)) db_nil)
  (db_cons (ds_for hpD rfl (di_range2 rfl B.range (da_cons de_int (da_cons (de_b1 call_len opb_len rfl B.len boot_len (DE.b (m := .b) (de_var (pv 0)))) da_nil))) (dg_name (i := 2) sc__law_lot.nd rfl (by first | exact .inl rfl | exact .inr rfl) (of_decide_eq_true rfl)) (db_one (ds_if (dt_cmp op_ge ops_ge (DE.bd (DE.b (m := .b) (de_ix (DE.b (m := .b) (de_var (pv 0))) (DE.tt (DE.b (m := .b) (de_op op_sub ops_sub (DE.b (m := .b) (de_var (pv 2))) (DE.tt (DE.b (m := .b) de_int))))) (fun _ _ => rfl)))) (DE.tt (DE.bd (DE.b (m := .b) (de_ix (DE.b (m := .b) (de_var (pv 0))) (DE.tt (DE.b (m := .b) (de_var (pv 2)))) (fun _ _ => rfl))))) (nomark _)) (db_one (ds_ret de_bl)) db_nil)))
  (db_one (ds_ret de_bl))))
/-! _law_steps -/
def e__law_steps_0 : Ev → Rs Dt := (mTup (mCons (mVar 2) (mCons (mVar 6) mNil)))
def c__law_steps_0 : Ev → Rs Bool := (mAnd (mB (mOpD fNe (mVarD 6) (mVarD 3))) (mAnd (mB (mOpD fEq (mOp fIx (mOp fIx (mVar 0) (mVar 2)) (mVar 6)) (mSc (.int 1)))) (mB (mOpD fEq (mOp fIx (mOp fIx (mVar 0) (mVar 3)) (mVar 6)) (mSc (.int 0))))))
def e__law_steps_1 : Ev → Rs Dt := (mTup (mCons (mVar 6) (mCons (mVar 3) mNil)))
def c__law_steps_1 : Ev → Rs Bool := (mAnd (mB (mOpD fNe (mVarD 6) (mVarD 2))) (mAnd (mB (mOpD fEq (mOp fIx (mOp fIx (mVar 0) (mVar 6)) (mVar 3)) (mSc (.int 1)))) (mB (mOpD fEq (mOp fIx (mOp fIx (mVar 0) (mVar 2)) (mVar 6)) (mSc (.int 0))))))
def b__law_steps : Ev → So := (sSeq (sAsg (mOp fIx (mVar 1) (mSc (.int 0))) (gSet 2 0)) (sSeq (sAsg (mOp fIx (mVar 1) (mSc (.int 1))) (gSet 3 0)) (sSeq (sAsg (mUn bLen (mVar 0)) (gSet 4 0)) (sSeq (sAsg (mComp [6] (mRange1 (mCons (mVar 4) mNil)) (gSet 6 0) c__law_steps_0 e__law_steps_0) (gSet 5 0)) (sRet (mOp fAdd (mVar 5) (mComp [6] (mRange1 (mCons (mVar 4) mNil)) (gSet 6 0) c__law_steps_1 e__law_steps_1)))))))
def m__law_steps : List Dt → Fo := mFn [0, 0] 5 b__law_steps
theorem sc__law_steps : FnScope ["_law_near_here", "_law_arrow", "_law_a", "_law_b", "_law_size", "_law_out", "_law_c"] ["_law_near_here", "_law_arrow"] (defScope s__law_steps) := ⟨rfl, rfl, rfl, by decide +kernel, rfl, by decide +kernel, by decide +kernel⟩
theorem t__law_steps (B : Bs mg) (D : Dn K mg "_law_steps" s__law_steps) : Fd P w K mg base "_law_steps" 1 [0, 0] 0 m__law_steps := by
  refine fd_of (lv := 0) (N := ["_law_near_here", "_law_arrow", "_law_a", "_law_b", "_law_size", "_law_out", "_law_c"]) (ps := ["_law_near_here", "_law_arrow"]) (g := b__law_steps) D sc__law_steps rfl rfl (fun _ _ _ _ _ _ us hl => match us, hl with | [_, _], _ => rfl) (fun _ _ _ => rfl) (fun cdv A outer s H E hr => ?_)
  exact (db_cons (ds_set (i := 2) sc__law_steps.nd rfl (by first | exact .inl rfl | exact .inr rfl) (of_decide_eq_true rfl) (de_ix (DE.b (m := .b) (de_var (pv 1))) (DE.tt (DE.b (m := .b) de_int)) (fun _ _ => rfl)))
  (db_cons (ds_set (i := 3) sc__law_steps.nd rfl (by first | exact .inl rfl | exact .inr rfl) (of_decide_eq_true rfl) (de_ix (DE.b (m := .b) (de_var (pv 1))) (DE.tt (DE.b (m := .b) de_int)) (fun _ _ => rfl)))
  (db_cons (ds_set (i := 4) sc__law_steps.nd rfl (by first | exact .inl rfl | exact .inr rfl) (of_decide_eq_true rfl) (de_b1 call_len opb_len rfl B.len boot_len (DE.b (m := .b) (de_var (pv 0)))))
  (db_cons (ds_setLcj (j := 0) (own := [("_law_c", 6)]) (.inl rfl) rfl sc__law_steps.nd rfl rfl (of_decide_eq_true rfl) (sw_true rfl rfl (by rfl) (by rfl)) (di_range1 rfl B.range (da_cons (de_var (pv 4)) da_nil)) ⟨rfl, of_decide_eq_true (by kernel_rfl), of_decide_eq_true (by kernel_rfl), of_decide_eq_true (by kernel_rfl), of_decide_eq_true (by kernel_rfl)⟩ (fun _ => (dg_name (i := 6) sc__law_steps.nd rfl (by first | exact .inl rfl | exact .inr rfl) (of_decide_eq_true rfl))) (fun _ => (dts_one (DW.t (dw_and (dt_cmp (op_neD (u64 hr)) ops_ne (de_varD (pv 6)) (DE.tt (de_varD (pv 3))) (nomark _)) (dw_and (dt_cmp (op_eqD (u64 hr)) ops_eq (DE.bd (DE.b (m := .b) (de_ix (DE.b (m := .b) (de_ix (DE.b (m := .b) (de_var (pv 0))) (DE.tt (DE.b (m := .b) (de_var (pv 2)))) (fun _ _ => rfl))) (DE.tt (DE.b (m := .b) (de_var (pv 6)))) (fun _ _ => rfl)))) (DE.tt (DE.bd (DE.b (m := .b) de_int))) (nomark _)) (dw_and1 (dt_cmp (op_eqD (u64 hr)) ops_eq (DE.bd (DE.b (m := .b) (de_ix (DE.b (m := .b) (de_ix (DE.b (m := .b) (de_var (pv 0))) (DE.tt (DE.b (m := .b) (de_var (pv 3)))) (fun _ _ => rfl))) (DE.tt (DE.b (m := .b) (de_var (pv 6)))) (fun _ _ => rfl)))) (DE.tt (DE.bd (DE.b (m := .b) de_int))) (nomark _)))))))) (fun _ => (de_tup (da_cons (de_var (pv 2)) (da_cons (de_var (pv 6)) da_nil)) (ArgN.cons (ArgN.cons ArgN.nil)))) (by decide) (of_decide_eq_true rfl))
  (db_one (ds_ret (de_op op_addU ops_add (DE.b (m := .b) (de_var (pv 5))) (DE.tt (DE.b1 (de_lc (own := [("_law_c", 6)]) rfl sc__law_steps.nd (di_range1 rfl B.range (da_cons (de_var (pv 4)) da_nil)) ⟨rfl, of_decide_eq_true (by kernel_rfl), of_decide_eq_true (by kernel_rfl), of_decide_eq_true (by kernel_rfl), of_decide_eq_true (by kernel_rfl)⟩ (fun _ => (dg_name (i := 6) sc__law_steps.nd rfl (by first | exact .inl rfl | exact .inr rfl) (of_decide_eq_true rfl))) (fun _ => (dts_one (DW.t (dw_and (dt_cmp (op_neD (u64 hr)) ops_ne (de_varD (pv 6)) (DE.tt (de_varD (pv 2))) (nomark _)) (dw_and (dt_cmp (op_eqD (u64 hr)) ops_eq (DE.bd (DE.b (m := .b) (de_ix (DE.b (m := .b) (de_ix (DE.b (m := .b) (de_var (pv 0))) (DE.tt (DE.b (m := .b) (de_var (pv 6)))) (fun _ _ => rfl))) (DE.tt (DE.b (m := .b) (de_var (pv 3)))) (fun _ _ => rfl)))) (DE.tt (DE.bd (DE.b (m := .b) de_int))) (nomark _)) (dw_and1 (dt_cmp (op_eqD (u64 hr)) ops_eq (DE.bd (DE.b (m := .b) (de_ix (DE.b (m := .b) (de_ix (DE.b (m := .b) (de_var (pv 0))) (DE.tt (DE.b (m := .b) (de_var (pv 2)))) (fun _ _ => rfl))) (DE.tt (DE.b (m := .b) (de_var (pv 6)))) (fun _ _ => rfl)))) (DE.tt (DE.bd (DE.b (m := .b) de_int))) (nomark _)))))))) (fun _ => (de_tup (da_cons (de_var (pv 6)) (da_cons (de_var (pv 3)) da_nil)) (ArgN.cons (ArgN.cons ArgN.nil)))) (by decide) (of_decide_eq_true rfl)))))))))))
/-! _law_class -/
def l__law_class_0 : Ev → So := (sIf (mB (mOpD (fIn true) (mVarD 5) (mVarD 2))) (sDrop (mMut 2 fAppend (mCons (mVar 5) mNil))) sNx)
def l__law_class_1 : Ev → So := (sIf (mB (mOpD fLt (mVarD 3) (mUn bLen (mVarB 2)))) (sSeq (sFor (mIter (mCall [none, none] m__law_steps (mCons (mVar 0) (mCons (mOp fIx (mVarB 2) (mVar 3)) mNil)))) (gSet 5 0) l__law_class_0) (sAsg (mOp fAdd (mVar 3) (mSc (.int 1))) (gSet 3 0))) sNx)
def b__law_class : Ev → So := (sSeq (sAsg (mLst (mCons (mVar 1) mNil)) (gSet 2 1)) (sSeq (sAsg (mSc (.int 0)) (gSet 3 0)) (sSeq (sFor (mRange1 (mCons (mOp fMul (mUn bLen (mVar 0)) (mUn bLen (mVar 0))) mNil)) (gSet 4 0) l__law_class_1) (sRet (mCB fSorted (mCons (mFrz 2) mNil))))))
def m__law_class : List Dt → Fo := mFn [0, 0] 4 b__law_class
theorem sc__law_class : FnScope ["_law_near_here", "_law_arrow", "_law_reached", "_law_at", "_law_k", "_law_one"] ["_law_near_here", "_law_arrow"] (defScope s__law_class) := ⟨rfl, rfl, rfl, by decide +kernel, rfl, by decide +kernel, by decide +kernel⟩
theorem t__law_class (B : Bs mg) (t__law_steps : Fd P w K mg base "_law_steps" 1 [0, 0] 0 m__law_steps) (D : Dn K mg "_law_class" s__law_class) : Fd P w K mg base "_law_class" 2 [0, 0] 0 m__law_class := by
  refine fd_of (lv := 1) (N := ["_law_near_here", "_law_arrow", "_law_reached", "_law_at", "_law_k", "_law_one"]) (ps := ["_law_near_here", "_law_arrow"]) (g := b__law_class) D sc__law_class rfl rfl (fun _ _ _ _ _ _ us hl => match us, hl with | [_, _], _ => rfl) (fun _ _ _ => rfl) (fun cdv A outer s H E hr => ?_)
  exact (db_cons (ds_set (i := 2) sc__law_class.nd rfl (by first | exact .inl rfl | exact .inr rfl) (of_decide_eq_true rfl) (de_lst (da_cons (de_var (pv 1)) da_nil) (ArgN.cons ArgN.nil)))
  (db_cons (ds_set (i := 3) sc__law_class.nd rfl (by first | exact .inl rfl | exact .inr rfl) (of_decide_eq_true rfl) de_int)
  (db_cons (ds_for hpD rfl (di_range1 rfl B.range (da_cons (de_op op_mulU ops_mul (DE.b (m := .b) (de_b1 call_len opb_len rfl B.len boot_len (DE.b (m := .b) (de_var (pv 0))))) (DE.tt (DE.b (m := .b) (de_b1 call_len opb_len rfl B.len boot_len (DE.b (m := .b) (de_var (pv 0))))))) da_nil)) (dg_name (i := 4) sc__law_class.nd rfl (by first | exact .inl rfl | exact .inr rfl) (of_decide_eq_true rfl)) (db_one (ds_if (dt_cmp (op_ltU (u0 hr)) ops_lt (de_varD (pv 3)) (DE.tt (DE.bd (DE.b (m := .b) (de_b1 call_len opb_len rfl B.len boot_len (de_varB (pv 2)))))) (nomark _)) (db_cons (ds_for hpD rfl (di_list (de_call (ws := [none, none]) tkD t__law_steps (hr.mono (by decide)) rfl rfl (ga_cons (de_var (pv 0)) (ga_cons (de_ix (de_varB (pv 2)) (DE.tt (DE.b (m := .b) (de_var (pv 3)))) (fun _ _ => rfl)) ga_nil)))) (dg_name (i := 5) sc__law_class.nd rfl (by first | exact .inl rfl | exact .inr rfl) (of_decide_eq_true rfl)) (db_one (ds_if (dt_cmp (op_notInU (u65 hr)) ops_in (de_varD (pv 5)) (DE.tt (de_varD (pv 2))) (by rfl)) (db_one (ds_expr (de_append (pv 2) (da_cons (de_var (pv 5)) da_nil)))) db_nil)))
  (db_one (ds_set (i := 3) sc__law_class.nd rfl (by first | exact .inl rfl | exact .inr rfl) (of_decide_eq_true rfl) (de_op op_addU ops_add (DE.b (m := .b) (de_var (pv 3))) (DE.tt (DE.b (m := .b) de_int)))))) db_nil)))
  (db_one (ds_ret (de_bn call_sortU opa_sorted rfl B.sorted boot_sorted (da_cons (de_frz (pv 2) (of_decide_eq_true rfl)) da_nil)))))))
/-! _law_drawn_triangle -/
def e__law_drawn_triangle_0 : Ev → Rs Dt := (mIsi [(tbTy "bool")] (mVarD 11))
def b__law_drawn_triangle : Ev → So := (sSeq (sAsg (mOp fIx (mVar 4) (mCall [some (0, 1), none] m__law_take (mCons (mOwn 0) (mCons (mUn bLen (mVar 4)) mNil)))) (gUnp (gMore (gSet 5 0) (gMore (gSet 6 0) (gMore (gSet 7 0) gNone))))) (sSeq (sAsg (mLst (mCons (mCall [none, none, none] m_same_class (mCons (mVar 1) (mCons (mTup (mCons (mVar 6) (mCons (mVar 7) mNil))) (mCons (mTup (mCons (mVar 5) (mCons (mVar 7) mNil))) mNil)))) (mCons (mCall [none, none, none] m_same_class (mCons (mVar 1) (mCons (mTup (mCons (mVar 6) (mCons (mVar 7) mNil))) (mCons (mLst (mCons (mVar 6) (mCons (mVar 5) mNil))) mNil)))) mNil))) (gSet 8 0)) (sSeq (sAsg (mLst (mCons (mOpD (fIn false) (mTup (mCons (mVar 5) (mCons (mVar 7) mNil))) (mCall [none, none] m__law_class (mCons (mVar 2) (mCons (mTup (mCons (mVar 6) (mCons (mVar 7) mNil))) mNil)))) (mCons (mOpD (fIn false) (mTup (mCons (mVar 6) (mCons (mVar 5) mNil))) (mCall [none, none] m__law_class (mCons (mVar 2) (mCons (mTup (mCons (mVar 6) (mCons (mVar 7) mNil))) mNil)))) mNil))) (gSet 9 0)) (sSeq (sIf (mOr (mB (mOpD fNe (mVarD 8) (mVarD 9))) (mNot (mTru (mUn bAll (mComp [11] (mIter (mVar 8)) (gSet 11 0) mYes e__law_drawn_triangle_0))))) (sRet (mSc (.bl false))) sNx) (sSeq (sAsg (mCall [none, none] m_touched (mCons (mVar 1) (mCons (mTup (mCons (mVar 6) (mCons (mVar 7) mNil))) mNil))) (gSet 10 0)) (sSeq (sIf (mNot (mTru (mCall [none, none] m__law_lot (mCons (mVar 10) (mCons (mUn bLen (mVar 2)) mNil))))) (sRet (mSc (.bl false))) sNx) (sRet (mOrV (mUn bAny (mVar 9)) (mAndV (mOpD (fIn true) (mVarD 5) (mVarD 10)) (mOpD fNe (mDGet (mVar 3) (mTup (mCons (mVar 5) (mCons (mVar 6) mNil)))) (mDGet (mVar 3) (mTup (mCons (mVar 6) (mCons (mVar 7) mNil))))))))))))))
def m__law_drawn_triangle : List Dt → Fo := mFn [1, 0, 0, 0, 0] 7 b__law_drawn_triangle
theorem sc__law_drawn_triangle : FnScope ["_law_draws_here", "_law_web", "_law_near_here", "_law_homes_here", "_law_rows", "_law_a", "_law_b", "_law_c", "_law_said", "_law_due", "_law_lot_here", "_law_one"] ["_law_draws_here", "_law_web", "_law_near_here", "_law_homes_here", "_law_rows"] (defScope s__law_drawn_triangle) := ⟨rfl, rfl, rfl, by decide +kernel, rfl, by decide +kernel, by decide +kernel⟩
theorem t__law_drawn_triangle (B : Bs mg) (t__law_take : Fd P w K mg base "_law_take" 1 [1, 0] 0 m__law_take) (t_same_class : Fd P w K mg base "same_class" 7 [0, 0, 0] 0 m_same_class) (t__law_class : Fd P w K mg base "_law_class" 2 [0, 0] 0 m__law_class) (t_touched : Fd P w K mg base "touched" 7 [0, 0] 0 m_touched) (t__law_lot : Fd P w K mg base "_law_lot" 3 [0, 0] 0 m__law_lot) (D : Dn K mg "_law_drawn_triangle" s__law_drawn_triangle) : Fd P w K mg base "_law_drawn_triangle" 8 [1, 0, 0, 0, 0] 0 m__law_drawn_triangle := by
  refine fd_of (lv := 7) (N := ["_law_draws_here", "_law_web", "_law_near_here", "_law_homes_here", "_law_rows", "_law_a", "_law_b", "_law_c", "_law_said", "_law_due", "_law_lot_here", "_law_one"]) (ps := ["_law_draws_here", "_law_web", "_law_near_here", "_law_homes_here", "_law_rows"]) (g := b__law_drawn_triangle) D sc__law_drawn_triangle rfl rfl (fun _ _ _ _ _ _ us hl => match us, hl with | [_, _, _, _, _], _ => rfl) (fun _ _ _ => rfl) (fun cdv A outer s H E hr => ?_)
  exact (db_cons (ds_asg (de_ix' (de_var (pv 4)) (DE.b (m := .b) (de_call (ws := [some (0, 1), none]) tkD t__law_take (hr.mono (by decide)) rfl rfl (ga_own (pv 0) (ga_cons (de_b1 call_len opb_len rfl B.len boot_len (DE.b (m := .b) (de_var (pv 4)))) ga_nil)))) (fun _ _ => rfl)) (dg_tup rfl (dgs_cons (dg_name (i := 5) sc__law_drawn_triangle.nd rfl (by first | exact .inl rfl | exact .inr rfl) (of_decide_eq_true rfl)) (dgs_cons (dg_name (i := 6) sc__law_drawn_triangle.nd rfl (by first | exact .inl rfl | exact .inr rfl) (of_decide_eq_true rfl)) (dgs_cons (dg_name (i := 7) sc__law_drawn_triangle.nd rfl (by first | exact .inl rfl | exact .inr rfl) (of_decide_eq_true rfl)) dgs_nil))) (TgN.cons (TgN.cons (TgN.cons TgN.nil)))))
  (db_cons (ds_set (i := 8) sc__law_drawn_triangle.nd rfl (by first | exact .inl rfl | exact .inr rfl) (of_decide_eq_true rfl) (DE.s (de_lst (da_cons (de_call (ws := [none, none, none]) tkD t_same_class (hr.mono (by decide)) rfl rfl (ga_cons (de_var (pv 1)) (ga_cons (de_tup (da_cons (de_var (pv 6)) (da_cons (de_var (pv 7)) da_nil)) (ArgN.cons (ArgN.cons ArgN.nil))) (ga_cons (de_tup (da_cons (de_var (pv 5)) (da_cons (de_var (pv 7)) da_nil)) (ArgN.cons (ArgN.cons ArgN.nil))) ga_nil)))) (da_cons (de_call (ws := [none, none, none]) tkD t_same_class (hr.mono (by decide)) rfl rfl (ga_cons (de_var (pv 1)) (ga_cons (de_tup (da_cons (de_var (pv 6)) (da_cons (de_var (pv 7)) da_nil)) (ArgN.cons (ArgN.cons ArgN.nil))) (ga_cons (DE.s (de_lst (da_cons (de_var (pv 6)) (da_cons (de_var (pv 5)) da_nil)) (ArgN.cons (ArgN.cons ArgN.nil)))) ga_nil)))) da_nil)) (ArgN.cons (ArgN.cons ArgN.nil)))))
  (db_cons (ds_set (i := 9) sc__law_drawn_triangle.nd rfl (by first | exact .inl rfl | exact .inr rfl) (of_decide_eq_true rfl) (DE.s (de_lst (da_cons (de_cmp (op_inU (u65 hr)) ops_in (DE.bd (DE.b (m := .b) (de_tup (da_cons (de_var (pv 5)) (da_cons (de_var (pv 7)) da_nil)) (ArgN.cons (ArgN.cons ArgN.nil))))) (DE.tt (DE.bd (DE.b (m := .b) (de_call (ws := [none, none]) tkD t__law_class (hr.mono (by decide)) rfl rfl (ga_cons (de_var (pv 2)) (ga_cons (de_tup (da_cons (de_var (pv 6)) (da_cons (de_var (pv 7)) da_nil)) (ArgN.cons (ArgN.cons ArgN.nil))) ga_nil)))))) (by rfl)) (da_cons (de_cmp (op_inU (u65 hr)) ops_in (DE.bd (DE.b (m := .b) (de_tup (da_cons (de_var (pv 6)) (da_cons (de_var (pv 5)) da_nil)) (ArgN.cons (ArgN.cons ArgN.nil))))) (DE.tt (DE.bd (DE.b (m := .b) (de_call (ws := [none, none]) tkD t__law_class (hr.mono (by decide)) rfl rfl (ga_cons (de_var (pv 2)) (ga_cons (de_tup (da_cons (de_var (pv 6)) (da_cons (de_var (pv 7)) da_nil)) (ArgN.cons (ArgN.cons ArgN.nil))) ga_nil)))))) (by rfl)) da_nil)) (ArgN.cons (ArgN.cons ArgN.nil)))))
  (db_cons (ds_if (DW.t (dw_or (dt_cmp (op_neD (u64 hr)) ops_ne (de_varD (pv 8)) (DE.tt (de_varD (pv 9))) (nomark _)) (dw_or1 (dt_not (dt_tru (DE.bd (DE.b (m := .b) (de_b1 (cr_all rfl) opb_all rfl B.all boot_all (DE.b1 (de_lc (own := [("_law_one", 11)]) rfl sc__law_drawn_triangle.nd (di_list (de_var (pv 8))) ⟨rfl, of_decide_eq_true (by kernel_rfl), of_decide_eq_true (by kernel_rfl), of_decide_eq_true (by kernel_rfl), of_decide_eq_true (by kernel_rfl)⟩ (fun _ => (dg_name (i := 11) sc__law_drawn_triangle.nd rfl (by first | exact .inl rfl | exact .inr rfl) (of_decide_eq_true rfl))) (fun _ => dts_nil) (fun _ => (de_isi1 rfl B.isinstance (de_varD (pv 11)) (ClEs.cons (ClE.ty "bool" rfl B.bool boot_bool (by decide) (by decide)) isi_bool ClEs.nil))) (by decide) (of_decide_eq_true rfl))))))))))) (db_one (ds_ret de_bl)) db_nil)
  (db_cons (ds_set (i := 10) sc__law_drawn_triangle.nd rfl (by first | exact .inl rfl | exact .inr rfl) (of_decide_eq_true rfl) (de_call (ws := [none, none]) tkD t_touched (hr.mono (by decide)) rfl rfl (ga_cons (de_var (pv 1)) (ga_cons (de_tup (da_cons (de_var (pv 6)) (da_cons (de_var (pv 7)) da_nil)) (ArgN.cons (ArgN.cons ArgN.nil))) ga_nil))))
  (db_cons (ds_if (dt_not (dt_tru (DE.bd (DE.b (m := .b) (de_call (ws := [none, none]) tkD t__law_lot (hr.mono (by decide)) rfl rfl (ga_cons (de_var (pv 10)) (ga_cons (de_b1 call_len opb_len rfl B.len boot_len (DE.b (m := .b) (de_var (pv 2)))) ga_nil))))))) (db_one (ds_ret de_bl)) db_nil)
  (db_one (ds_ret (de_or (de_b1 (cr_any rfl) opb_any rfl B.any boot_any (DE.b (m := .b) (de_var (pv 9)))) (de_one (de_and (de_cmp (op_notInU (u65 hr)) ops_in (de_varD (pv 5)) (DE.tt (de_varD (pv 10))) (by rfl)) (de_one (de_cmp (op_neD (u64 hr)) ops_ne (DE.bd (DE.b (m := .b) (de_dget (u1 hr) (DE.b (m := .b) (de_var (pv 3))) (DE.tt (de_tup (da_cons (de_var (pv 5)) (da_cons (de_var (pv 6)) da_nil)) (ArgN.cons (ArgN.cons ArgN.nil)))) (fun _ _ => rfl)))) (DE.tt (DE.bd (DE.b (m := .b) (de_dget (u1 hr) (DE.b (m := .b) (de_var (pv 3))) (DE.tt (de_tup (da_cons (de_var (pv 6)) (da_cons (de_var (pv 7)) da_nil)) (ArgN.cons (ArgN.cons ArgN.nil)))) (fun _ _ => rfl))))) (nomark _))))))))))))))
/-! _law_one_triangle -/
def l__law_one_triangle_0 : Ev → So := (sSeq (sIf (mOr (mB (mOpD fEq (mVarD 7) (mVarD 3))) (mOr (mB (mOpD fEq (mVarD 8) (mVarD 3))) (mOr (mB (mOpD fEq (mOp fIx (mOp fIx (mVar 0) (mVar 3)) (mVar 7)) (mSc (.int 0)))) (mB (mOpD fEq (mOp fIx (mOp fIx (mVar 0) (mVar 3)) (mVar 8)) (mSc (.int 0))))))) (sRet (mSc (.bl false))) sNx) (sIf (mOr (mB (mOpD fNe (mDGet (mVar 2) (mTup (mCons (mVar 3) (mCons (mVar 7) mNil)))) (mDGet (mVar 2) (mTup (mCons (mVar 3) (mCons (mVar 4) mNil)))))) (mB (mOpD fNe (mDGet (mVar 2) (mTup (mCons (mVar 3) (mCons (mVar 8) mNil)))) (mDGet (mVar 2) (mTup (mCons (mVar 3) (mCons (mVar 5) mNil))))))) (sRet (mSc (.bl false))) sNx))
def b__law_one_triangle : Ev → So := (sSeq (sAsg (mDGet (mVar 2) (mTup (mCons (mVar 4) (mCons (mVar 5) mNil)))) (gSet 6 0)) (sSeq (sIf (mOr (mB (mOpD fEq (mDGet (mVar 2) (mTup (mCons (mVar 3) (mCons (mVar 5) mNil)))) (mVarD 6))) (mB (mOpD fEq (mDGet (mVar 2) (mTup (mCons (mVar 4) (mCons (mVar 3) mNil)))) (mVarD 6)))) (sRet (mSc (.bl true))) sNx) (sSeq (sFor (mIterA (mOp fIx (mVar 1) (mVar 6))) (gUnp (gMore (gSet 7 0) (gMore (gSet 8 0) gNone))) l__law_one_triangle_0) (sRet (mSc (.bl true))))))
def m__law_one_triangle : List Dt → Fo := mFn [0, 0, 0, 0, 0, 0] 3 b__law_one_triangle
theorem sc__law_one_triangle : FnScope ["_law_near_here", "_law_told", "_law_homes_here", "_law_a", "_law_b", "_law_c", "_law_home", "_law_x", "_law_y"] ["_law_near_here", "_law_told", "_law_homes_here", "_law_a", "_law_b", "_law_c"] (defScope s__law_one_triangle) := ⟨rfl, rfl, rfl, by decide +kernel, rfl, by decide +kernel, by decide +kernel⟩
theorem t__law_one_triangle (B : Bs mg) (D : Dn K mg "_law_one_triangle" s__law_one_triangle) : Fd P w K mg base "_law_one_triangle" 1 [0, 0, 0, 0, 0, 0] 0 m__law_one_triangle := by
  refine fd_of (lv := 0) (N := ["_law_near_here", "_law_told", "_law_homes_here", "_law_a", "_law_b", "_law_c", "_law_home", "_law_x", "_law_y"]) (ps := ["_law_near_here", "_law_told", "_law_homes_here", "_law_a", "_law_b", "_law_c"]) (g := b__law_one_triangle) D sc__law_one_triangle rfl rfl (fun _ _ _ _ _ _ us hl => match us, hl with | [_, _, _, _, _, _], _ => rfl) (fun _ _ _ => rfl) (fun cdv A outer s H E hr => ?_)
  exact (db_cons (ds_set (i := 6) sc__law_one_triangle.nd rfl (by first | exact .inl rfl | exact .inr rfl) (of_decide_eq_true rfl) (de_dget (u1 hr) (DE.b (m := .b) (de_var (pv 2))) (DE.tt (de_tup (da_cons (de_var (pv 4)) (da_cons (de_var (pv 5)) da_nil)) (ArgN.cons (ArgN.cons ArgN.nil)))) (fun _ _ => rfl)))
  (db_cons (ds_if (DW.t (dw_or (dt_cmp (op_eqD (u64 hr)) ops_eq (DE.bd (DE.b (m := .b) (de_dget (u1 hr) (DE.b (m := .b) (de_var (pv 2))) (DE.tt (de_tup (da_cons (de_var (pv 3)) (da_cons (de_var (pv 5)) da_nil)) (ArgN.cons (ArgN.cons ArgN.nil)))) (fun _ _ => rfl)))) (DE.tt (de_varD (pv 6))) (nomark _)) (dw_or1 (dt_cmp (op_eqD (u64 hr)) ops_eq (DE.bd (DE.b (m := .b) (de_dget (u1 hr) (DE.b (m := .b) (de_var (pv 2))) (DE.tt (de_tup (da_cons (de_var (pv 4)) (da_cons (de_var (pv 3)) da_nil)) (ArgN.cons (ArgN.cons ArgN.nil)))) (fun _ _ => rfl)))) (DE.tt (de_varD (pv 6))) (nomark _))))) (db_one (ds_ret de_bl)) db_nil)
  (db_cons (ds_for hpD rfl (di_any (de_ix (DE.b (m := .b) (de_var (pv 1))) (DE.tt (DE.b (m := .b) (de_var (pv 6)))) (fun _ _ => rfl))) (dg_tup rfl (dgs_cons (dg_name (i := 7) sc__law_one_triangle.nd rfl (by first | exact .inl rfl | exact .inr rfl) (of_decide_eq_true rfl)) (dgs_cons (dg_name (i := 8) sc__law_one_triangle.nd rfl (by first | exact .inl rfl | exact .inr rfl) (of_decide_eq_true rfl)) dgs_nil)) (TgN.cons (TgN.cons TgN.nil))) (db_cons (ds_if (DW.t (dw_or (dt_cmp (op_eqD (u64 hr)) ops_eq (de_varD (pv 7)) (DE.tt (de_varD (pv 3))) (nomark _)) (dw_or (dt_cmp (op_eqD (u64 hr)) ops_eq (de_varD (pv 8)) (DE.tt (de_varD (pv 3))) (nomark _)) (dw_or (dt_cmp (op_eqD (u64 hr)) ops_eq (DE.bd (DE.b (m := .b) (de_ix (DE.b (m := .b) (de_ix (DE.b (m := .b) (de_var (pv 0))) (DE.tt (DE.b (m := .b) (de_var (pv 3)))) (fun _ _ => rfl))) (DE.tt (DE.b (m := .b) (de_var (pv 7)))) (fun _ _ => rfl)))) (DE.tt (DE.bd (DE.b (m := .b) de_int))) (nomark _)) (dw_or1 (dt_cmp (op_eqD (u64 hr)) ops_eq (DE.bd (DE.b (m := .b) (de_ix (DE.b (m := .b) (de_ix (DE.b (m := .b) (de_var (pv 0))) (DE.tt (DE.b (m := .b) (de_var (pv 3)))) (fun _ _ => rfl))) (DE.tt (DE.b (m := .b) (de_var (pv 8)))) (fun _ _ => rfl)))) (DE.tt (DE.bd (DE.b (m := .b) de_int))) (nomark _))))))) (db_one (ds_ret de_bl)) db_nil)
  (db_one (ds_if (DW.t (dw_or (dt_cmp (op_neD (u64 hr)) ops_ne (DE.bd (DE.b (m := .b) (de_dget (u1 hr) (DE.b (m := .b) (de_var (pv 2))) (DE.tt (de_tup (da_cons (de_var (pv 3)) (da_cons (de_var (pv 7)) da_nil)) (ArgN.cons (ArgN.cons ArgN.nil)))) (fun _ _ => rfl)))) (DE.tt (DE.bd (DE.b (m := .b) (de_dget (u1 hr) (DE.b (m := .b) (de_var (pv 2))) (DE.tt (de_tup (da_cons (de_var (pv 3)) (da_cons (de_var (pv 4)) da_nil)) (ArgN.cons (ArgN.cons ArgN.nil)))) (fun _ _ => rfl))))) (nomark _)) (dw_or1 (dt_cmp (op_neD (u64 hr)) ops_ne (DE.bd (DE.b (m := .b) (de_dget (u1 hr) (DE.b (m := .b) (de_var (pv 2))) (DE.tt (de_tup (da_cons (de_var (pv 3)) (da_cons (de_var (pv 8)) da_nil)) (ArgN.cons (ArgN.cons ArgN.nil)))) (fun _ _ => rfl)))) (DE.tt (DE.bd (DE.b (m := .b) (de_dget (u1 hr) (DE.b (m := .b) (de_var (pv 2))) (DE.tt (de_tup (da_cons (de_var (pv 3)) (da_cons (de_var (pv 5)) da_nil)) (ArgN.cons (ArgN.cons ArgN.nil)))) (fun _ _ => rfl))))) (nomark _))))) (db_one (ds_ret de_bl)) db_nil))))
  (db_one (ds_ret de_bl)))))
/-! law -/
def e_law_0 : Ev → Rs Dt := (mTup (mCons (mVar 10) (mCons (mVar 9) mNil)))
def l_law_1 : Ev → So := (sIf (mAnd (mB (mOpD fEq (mOp fIx (mOp fIx (mVar 2) (mVar 12)) (mVar 9)) (mSc (.int 1)))) (mB (mOpD fEq (mOp fIx (mOp fIx (mVar 2) (mVar 12)) (mVar 10)) (mSc (.int 1))))) (sSeq (sDrop (mMut 8 fAppend (mCons (mTup (mCons (mVar 12) (mCons (mVar 9) (mCons (mVar 10) mNil)))) mNil))) (sIf (mNot (mTru (mCall [none, none, none, none, none, none] m__law_one_triangle (mCons (mVar 2) (mCons (mVar 6) (mCons (mVar 7) (mCons (mVar 12) (mCons (mVar 9) (mCons (mVar 10) mNil))))))))) (sRet (mSc (.bl false))) sNx)) sNx)
def l_law_2 : Ev → So := (sFor (mRange1 (mCons (mVar 3) mNil)) (gSet 12 0) l_law_1)
def l_law_3 : Ev → So := (sSeq (sIf (mAnd (mB (mOpD fGt (mUn bLen (mVarB 8)) (mSc (.int 0)))) (mNot (mTru (mCall [some (1, 1), none, none, none, none] m__law_drawn_triangle (mCons (mOwn 1) (mCons (mVar 5) (mCons (mVar 2) (mCons (mVar 7) (mCons (mFrz 8) mNil))))))))) (sRet (mSc (.bl false))) sNx) (sIf (mB (mOpD fGt (mUn bLen (mVar 4)) (mSc (.int 0)))) (sSeq (sAsg (mOp fIx (mVar 4) (mCall [some (1, 1), none] m__law_take (mCons (mOwn 1) (mCons (mUn bLen (mVar 4)) mNil)))) (gSet 13 0)) (sIf (mOr (mB (mOpD fNe (mUn bList (mCall [none, none] m_class_of (mCons (mVar 5) (mCons (mVar 13) mNil)))) (mCall [none, none] m__law_class (mCons (mVar 2) (mCons (mVar 13) mNil))))) (mB (mOpD fNe (mCall [none, none] m_class_of (mCons (mVar 5) (mCons (mVar 13) mNil))) (mOp fIx (mVar 6) (mDGet (mVar 7) (mVar 13)))))) (sRet (mSc (.bl false))) sNx)) sNx))
def b_law : Ev → So := (sSeq (sAsg (mCall [none] m__law_draws (mCons (mVar 0) mNil)) (gSet 1 1)) (sSeq (sAsg (mCall [some (1, 1), none] m__law_drawn (mCons (mOwn 1) (mCons (mSc (.int 7)) mNil))) (gSet 2 0)) (sSeq (sIf (mB (mOpD fEq (mCall [some (1, 1), none] m__law_take (mCons (mOwn 1) (mCons (mSc (.int 2)) mNil))) (mSc (.int 1)))) (sAsg (mCall [none] m__law_contrary (mCons (mVar 2) mNil)) (gSet 2 0)) sNx) (sSeq (sIf (mB (mOpD fEq (mCall [some (1, 1), none] m__law_take (mCons (mOwn 1) (mCons (mSc (.int 3)) mNil))) (mSc (.int 2)))) (sAsg (mCall [none] m__law_with_all (mCons (mVar 2) mNil)) (gSet 2 0)) sNx) (sSeq (sAsg (mUn bLen (mVar 2)) (gSet 3 0)) (sSeq (sAsg (mCall [none] m__law_ties (mCons (mVar 2) mNil)) (gSet 4 0)) (sSeq (sAsg (mMake "Web" m_Web_init (mCons (mVar 3) (mCons (mVar 4) mNil))) (gSet 5 0)) (sSeq (sAsg (mCall [none] m_classes (mCons (mVar 5) mNil)) (gSet 6 0)) (sSeq (sAsg (mCall [none, none] m__law_homes (mCons (mVar 6) (mCons (mVar 2) mNil))) (gSet 7 0)) (sSeq (sIf (mB (mOpD (fIsN false) (mVarD 7) (mSc .non))) (sRet (mSc (.bl false))) sNx) (sSeq (sAsg (mLst mNil) (gSet 8 1)) (sSeq (sFor (mIter (mOp fAdd (mVar 4) (mComp [9, 10] (mIter (mVar 4)) (gUnp (gMore (gSet 9 0) (gMore (gSet 10 0) gNone))) mYes e_law_0))) (gUnp (gMore (gSet 9 0) (gMore (gSet 10 0) gNone))) l_law_2) (sSeq (sFor (mRange1 (mCons (mSc (.int 3)) mNil)) (gSet 11 0) l_law_3) (sRet (mSc (.bl true))))))))))))))))
def m_law : List Dt → Fo := mFn [0] 13 b_law
theorem sc_law : FnScope ["_law_script", "_law_draws_here", "_law_near_here", "_law_size", "_law_ties_here", "_law_web", "_law_told", "_law_homes_here", "_law_rows", "_law_b", "_law_c", "_law_k", "_law_a", "_law_arrow"] ["_law_script"] (defScope s_law) := ⟨rfl, rfl, rfl, by decide +kernel, rfl, by decide +kernel, by decide +kernel⟩
theorem t_law (B : Bs mg) (t__law_draws : Fd P w K mg base "_law_draws" 1 [0] 1 m__law_draws) (t__law_drawn : Fd P w K mg base "_law_drawn" 4 [1, 0] 0 m__law_drawn) (t__law_take : Fd P w K mg base "_law_take" 1 [1, 0] 0 m__law_take) (t__law_contrary : Fd P w K mg base "_law_contrary" 2 [0] 0 m__law_contrary) (t__law_with_all : Fd P w K mg base "_law_with_all" 3 [0] 0 m__law_with_all) (t__law_ties : Fd P w K mg base "_law_ties" 1 [0] 0 m__law_ties) (t_Web_init : Ini P w K mg base "Web" 6 2 m_Web_init) (t_classes : Fd P w K mg base "classes" 4 [0] 0 m_classes) (t__law_homes : Fd P w K mg base "_law_homes" 4 [0, 0] 0 m__law_homes) (t__law_one_triangle : Fd P w K mg base "_law_one_triangle" 1 [0, 0, 0, 0, 0, 0] 0 m__law_one_triangle) (t__law_drawn_triangle : Fd P w K mg base "_law_drawn_triangle" 8 [1, 0, 0, 0, 0] 0 m__law_drawn_triangle) (t_class_of : Fd P w K mg base "class_of" 6 [0, 0] 0 m_class_of) (t__law_class : Fd P w K mg base "_law_class" 2 [0, 0] 0 m__law_class) {fd : FuncData} (F : FunD K "law" "law" (defArgs s_law) (defBody s_law) (defScope s_law) [] [] (ga K "law") fd) : FnOk P w K mg base (L2.CX P w) 9 (ga K "law") fd ["_law_script"] (spD K [0] 0 m_law) := by
  refine fn_dd (lv := 8) (N := ["_law_script", "_law_draws_here", "_law_near_here", "_law_size", "_law_ties_here", "_law_web", "_law_told", "_law_homes_here", "_law_rows", "_law_b", "_law_c", "_law_k", "_law_a", "_law_arrow"]) (g := b_law) F sc_law rfl rfl (fun _ _ _ => rfl) (fun cdv A outer s H E hr => ?_)
  exact (db_cons (ds_set (i := 1) sc_law.nd rfl (by first | exact .inl rfl | exact .inr rfl) (of_decide_eq_true rfl) (de_call (ws := [none]) tkD t__law_draws (hr.mono (by decide)) rfl rfl (ga_cons (de_var (pv 0)) ga_nil)))
  (db_cons (ds_set (i := 2) sc_law.nd rfl (by first | exact .inl rfl | exact .inr rfl) (of_decide_eq_true rfl) (de_call (ws := [some (1, 1), none]) tkD t__law_drawn (hr.mono (by decide)) rfl rfl (ga_own (pv 1) (ga_cons de_int ga_nil))))
  (db_cons (ds_if (dt_cmp (op_eqD (u64 hr)) ops_eq (DE.bd (DE.b (m := .b) (de_call (ws := [some (1, 1), none]) tkD t__law_take (hr.mono (by decide)) rfl rfl (ga_own (pv 1) (ga_cons de_int ga_nil))))) (DE.tt (DE.bd (DE.b (m := .b) de_int))) (nomark _)) (db_one (ds_set (i := 2) sc_law.nd rfl (by first | exact .inl rfl | exact .inr rfl) (of_decide_eq_true rfl) (de_call (ws := [none]) tkD t__law_contrary (hr.mono (by decide)) rfl rfl (ga_cons (de_var (pv 2)) ga_nil)))) db_nil)
  (db_cons (ds_if (dt_cmp (op_eqD (u64 hr)) ops_eq (DE.bd (DE.b (m := .b) (de_call (ws := [some (1, 1), none]) tkD t__law_take (hr.mono (by decide)) rfl rfl (ga_own (pv 1) (ga_cons de_int ga_nil))))) (DE.tt (DE.bd (DE.b (m := .b) de_int))) (nomark _)) (db_one (ds_set (i := 2) sc_law.nd rfl (by first | exact .inl rfl | exact .inr rfl) (of_decide_eq_true rfl) (de_call (ws := [none]) tkD t__law_with_all (hr.mono (by decide)) rfl rfl (ga_cons (de_var (pv 2)) ga_nil)))) db_nil)
  (db_cons (ds_set (i := 3) sc_law.nd rfl (by first | exact .inl rfl | exact .inr rfl) (of_decide_eq_true rfl) (de_b1 call_len opb_len rfl B.len boot_len (DE.b (m := .b) (de_var (pv 2)))))
  (db_cons (ds_set (i := 4) sc_law.nd rfl (by first | exact .inl rfl | exact .inr rfl) (of_decide_eq_true rfl) (de_call (ws := [none]) tkD t__law_ties (hr.mono (by decide)) rfl rfl (ga_cons (de_var (pv 2)) ga_nil)))
  (db_cons (ds_set (i := 5) sc_law.nd rfl (by first | exact .inl rfl | exact .inr rfl) (of_decide_eq_true rfl) (DE.s (de_mk (fun _ _ _ _ => Iff.rfl) tkD t_Web_init (hr.mono (by decide)) rfl (da_cons (de_var (pv 3)) (da_cons (de_var (pv 4)) da_nil)) (ArgN.cons (ArgN.cons ArgN.nil)))))
  (db_cons (ds_set (i := 6) sc_law.nd rfl (by first | exact .inl rfl | exact .inr rfl) (of_decide_eq_true rfl) (de_call (ws := [none]) tkD t_classes (hr.mono (by decide)) rfl rfl (ga_cons (de_var (pv 5)) ga_nil)))
  (db_cons (ds_set (i := 7) sc_law.nd rfl (by first | exact .inl rfl | exact .inr rfl) (of_decide_eq_true rfl) (de_call (ws := [none, none]) tkD t__law_homes (hr.mono (by decide)) rfl rfl (ga_cons (de_var (pv 6)) (ga_cons (de_var (pv 2)) ga_nil))))
  (db_cons (ds_if (dt_cmp op_isN ops_isN (de_varD (pv 7)) (DE.tt (DE.bd (DE.b (m := .b) de_non))) (nomark _)) (db_one (ds_ret de_bl)) db_nil)
  (db_cons (ds_set (i := 8) sc_law.nd rfl (by first | exact .inl rfl | exact .inr rfl) (of_decide_eq_true rfl) (de_lst da_nil ArgN.nil))
  (db_cons (ds_for hpD rfl (di_list (de_op op_addU ops_add (DE.b (m := .b) (de_var (pv 4))) (DE.tt (DE.b1 (de_lc (own := [("_law_b", 9), ("_law_c", 10)]) rfl sc_law.nd (di_list (de_var (pv 4))) ⟨rfl, of_decide_eq_true (by kernel_rfl), of_decide_eq_true (by kernel_rfl), of_decide_eq_true (by kernel_rfl), of_decide_eq_true (by kernel_rfl)⟩ (fun _ => (dg_tup rfl (dgs_cons (dg_name (i := 9) sc_law.nd rfl (by first | exact .inl rfl | exact .inr rfl) (of_decide_eq_true rfl)) (dgs_cons (dg_name (i := 10) sc_law.nd rfl (by first | exact .inl rfl | exact .inr rfl) (of_decide_eq_true rfl)) dgs_nil)) (TgN.cons (TgN.cons TgN.nil)))) (fun _ => dts_nil) (fun _ => (de_tup (da_cons (de_var (pv 10)) (da_cons (de_var (pv 9)) da_nil)) (ArgN.cons (ArgN.cons ArgN.nil)))) (by decide) (of_decide_eq_true rfl)))))) (dg_tup rfl (dgs_cons (dg_name (i := 9) sc_law.nd rfl (by first | exact .inl rfl | exact .inr rfl) (of_decide_eq_true rfl)) (dgs_cons (dg_name (i := 10) sc_law.nd rfl (by first | exact .inl rfl | exact .inr rfl) (of_decide_eq_true rfl)) dgs_nil)) (TgN.cons (TgN.cons TgN.nil))) (db_one (ds_for hpD rfl (di_range1 rfl B.range (da_cons (de_var (pv 3)) da_nil)) (dg_name (i := 12) sc_law.nd rfl (by first | exact .inl rfl | exact .inr rfl) (of_decide_eq_true rfl)) (db_one (ds_if (DW.t (dw_and (dt_cmp (op_eqD (u64 hr)) ops_eq (DE.bd (DE.b (m := .b) (de_ix (DE.b (m := .b) (de_ix (DE.b (m := .b) (de_var (pv 2))) (DE.tt (DE.b (m := .b) (de_var (pv 12)))) (fun _ _ => rfl))) (DE.tt (DE.b (m := .b) (de_var (pv 9)))) (fun _ _ => rfl)))) (DE.tt (DE.bd (DE.b (m := .b) de_int))) (nomark _)) (dw_and1 (dt_cmp (op_eqD (u64 hr)) ops_eq (DE.bd (DE.b (m := .b) (de_ix (DE.b (m := .b) (de_ix (DE.b (m := .b) (de_var (pv 2))) (DE.tt (DE.b (m := .b) (de_var (pv 12)))) (fun _ _ => rfl))) (DE.tt (DE.b (m := .b) (de_var (pv 10)))) (fun _ _ => rfl)))) (DE.tt (DE.bd (DE.b (m := .b) de_int))) (nomark _))))) (db_cons (ds_expr (de_append (pv 8) (da_cons (de_tup (da_cons (de_var (pv 12)) (da_cons (de_var (pv 9)) (da_cons (de_var (pv 10)) da_nil))) (ArgN.cons (ArgN.cons (ArgN.cons ArgN.nil)))) da_nil)))
  (db_one (ds_if (dt_not (dt_tru (DE.bd (DE.b (m := .b) (de_call (ws := [none, none, none, none, none, none]) tkD t__law_one_triangle (hr.mono (by decide)) rfl rfl (ga_cons (de_var (pv 2)) (ga_cons (de_var (pv 6)) (ga_cons (de_var (pv 7)) (ga_cons (de_var (pv 12)) (ga_cons (de_var (pv 9)) (ga_cons (de_var (pv 10)) ga_nil))))))))))) (db_one (ds_ret de_bl)) db_nil))) db_nil)))))
  (db_cons (ds_for hpD rfl (di_range1 rfl B.range (da_cons de_int da_nil)) (dg_name (i := 11) sc_law.nd rfl (by first | exact .inl rfl | exact .inr rfl) (of_decide_eq_true rfl)) (db_cons (ds_if (DW.t (dw_and (dt_cmp op_gt ops_gt (DE.bd (DE.b (m := .b) (de_b1 call_len opb_len rfl B.len boot_len (de_varB (pv 8))))) (DE.tt (DE.bd (DE.b (m := .b) de_int))) (nomark _)) (dw_and1 (dt_not (dt_tru (DE.bd (DE.b (m := .b) (de_call (ws := [some (1, 1), none, none, none, none]) tkD t__law_drawn_triangle (hr.mono (by decide)) rfl rfl (ga_own (pv 1) (ga_cons (de_var (pv 5)) (ga_cons (de_var (pv 2)) (ga_cons (de_var (pv 7)) (ga_cons (de_frz (pv 8) (of_decide_eq_true rfl)) ga_nil))))))))))))) (db_one (ds_ret de_bl)) db_nil)
  (db_one (ds_if (dt_cmp op_gt ops_gt (DE.bd (DE.b (m := .b) (de_b1 call_len opb_len rfl B.len boot_len (DE.b (m := .b) (de_var (pv 4)))))) (DE.tt (DE.bd (DE.b (m := .b) de_int))) (nomark _)) (db_cons (ds_set (i := 13) sc_law.nd rfl (by first | exact .inl rfl | exact .inr rfl) (of_decide_eq_true rfl) (de_ix' (de_var (pv 4)) (DE.b (m := .b) (de_call (ws := [some (1, 1), none]) tkD t__law_take (hr.mono (by decide)) rfl rfl (ga_own (pv 1) (ga_cons (de_b1 call_len opb_len rfl B.len boot_len (DE.b (m := .b) (de_var (pv 4)))) ga_nil)))) (fun _ _ => rfl)))
  (db_one (ds_if (DW.t (dw_or (dt_cmp (op_neD (u64 hr)) ops_ne (DE.bd (DE.b (m := .b) (de_t1 call_list_of opb_list rfl B.list boot_list (DE.b (m := .b) (de_call (ws := [none, none]) tkD t_class_of (hr.mono (by decide)) rfl rfl (ga_cons (de_var (pv 5)) (ga_cons (de_var (pv 13)) ga_nil))))))) (DE.tt (DE.bd (DE.b (m := .b) (de_call (ws := [none, none]) tkD t__law_class (hr.mono (by decide)) rfl rfl (ga_cons (de_var (pv 2)) (ga_cons (de_var (pv 13)) ga_nil)))))) (nomark _)) (dw_or1 (dt_cmp (op_neD (u64 hr)) ops_ne (DE.bd (DE.b (m := .b) (de_call (ws := [none, none]) tkD t_class_of (hr.mono (by decide)) rfl rfl (ga_cons (de_var (pv 5)) (ga_cons (de_var (pv 13)) ga_nil))))) (DE.tt (DE.bd (DE.b (m := .b) (de_ix (DE.b (m := .b) (de_var (pv 6))) (DE.tt (DE.b (m := .b) (de_dget (u1 hr) (DE.b (m := .b) (de_var (pv 7))) (DE.tt (de_var (pv 13))) (fun _ _ => rfl)))) (fun _ _ => rfl))))) (nomark _))))) (db_one (ds_ret de_bl)) db_nil))) db_nil))))
  (db_one (ds_ret de_bl)))))))))))))))
end
end Mir

set_option Elab.async false
set_option linter.all false
set_option maxRecDepth 100000
set_option maxHeartbeats 400000
/-! Reckoning with mirrors. -/
namespace Mir
open PySem PySem.Spec PyProof.Rows L2 He
section
variable {α β : Type} {a : α} {ε ε1 : Ev} {x : Xc} {d : Dt} {f fa fb fc fo : Ev → Rs Dt} {fs fr : Ev → Rs (List Dt)} {g h : Ev → So} {c c2 : Ev → Rs Bool} {t : Dt → Ev → Rs Unit} {u : List Dt → Ev → Rs Unit} {ds : List Dt} {i k : Nat} {o : Option Rz} {op : Dt → Dt → Option Rz} {od : Dt → Dt → Option Sc} {ou : Dt → Option Rz} {oa : List Dt → Option Rz}
@[simp] theorem q_b1 {F : α → Ev → Rs β} : (Rs.ok a ε).bind F = F a ε := id rfl
@[simp] theorem q_b2 {F : α → Ev → Rs β} : (Rs.er x ε).bind F = .er x ε := id rfl
@[simp] theorem q_b3 {F : α → Ev → Rs β} : (Rs.no).bind F = .no := id rfl
@[simp] theorem q_s1 : (So.nx ε).seq h = h ε := id rfl
@[simp] theorem q_s2 : (So.rt d ε).seq h = .rt d ε := id rfl
@[simp] theorem q_s3 : (So.bk ε).seq h = .bk ε := id rfl
@[simp] theorem q_s4 : (So.ct ε).seq h = .ct ε := id rfl
@[simp] theorem q_s5 : (So.er x ε).seq h = .er x ε := id rfl
@[simp] theorem q_s6 : (So.no).seq h = .no := id rfl
@[simp] theorem q_o1 {F : α → Ev → So} : So.of (Rs.ok a ε) F = F a ε := id rfl
@[simp] theorem q_o2 {F : α → Ev → So} : So.of (Rs.er x ε) F = .er x ε := id rfl
@[simp] theorem q_o3 {F : α → Ev → So} : So.of (Rs.no) F = .no := id rfl
@[simp] theorem q_t1 : (So.nx ε).turn h = h ε := id rfl
@[simp] theorem q_t2 : (So.ct ε).turn h = h ε := id rfl
@[simp] theorem q_t3 : (So.bk ε).turn h = .nx ε := id rfl
@[simp] theorem q_t4 : (So.rt d ε).turn h = .rt d ε := id rfl
@[simp] theorem q_t5 : (So.er x ε).turn h = .er x ε := id rfl
@[simp] theorem q_t6 : (So.no).turn h = .no := id rfl
@[simp] theorem q_seq : sSeq g h ε = (g ε).seq h := id rfl
@[simp] theorem q_nx : sNx ε = .nx ε := id rfl
@[simp] theorem q_bk : sBk ε = .bk ε := id rfl
@[simp] theorem q_ct : sCt ε = .ct ε := id rfl
@[simp] theorem q_no : sNo ε = .no := id rfl
@[simp] theorem q_ret : sRet f ε = So.of (f ε) .rt := id rfl
@[simp] theorem q_retN : sRetN ε = .rt .non ε := id rfl
@[simp] theorem q_drop : sDrop f ε = So.of (f ε) fun _ ε1 => .nx ε1 := id rfl
@[simp] theorem q_if : sIf c g h ε = So.of (c ε) fun b ε1 => if b = true then g ε1 else h ε1 := id rfl
def asg1 (r : Rs Unit) : So := match r with
  | .ok _ ε => .nx ε
  | _ => .no
@[simp] theorem q_a1 {v : Unit} : asg1 (.ok v ε) = .nx ε := id rfl
@[simp] theorem q_asg : sAsg f t ε = So.of (f ε) fun d ε1 => asg1 (t d ε1) := by
  unfold sAsg asg1
  rfl
@[simp] theorem q_set : gSet i k d ε = .ok () (ε.set i (.vl k d)) := id rfl
@[simp] theorem q_none : gNone [] ε = .ok () ε := id rfl
@[simp] theorem q_more : gMore t u (d :: ds) ε = (t d ε).bind fun _ ε1 => u ds ε1 := id rfl
@[simp] theorem q_unp : gUnp u (.tup ds) ε = u ds ε := id rfl
@[simp] theorem q_for : sFor fs t g ε = So.of (fs ε) fun ds ε1 => loopL t g ds ε1 := id rfl
@[simp] theorem q_sc {s : Sc} : mSc s ε = .ok s.d ε := id rfl
@[simp] theorem q_d1 : (Sc.non).d = .non := id rfl
@[simp] theorem q_d2 {b : Bool} : (Sc.bl b).d = .bl b := id rfl
@[simp] theorem q_d3 {n : Int} : (Sc.int n).d = .int n := id rfl
@[simp] theorem q_d4 {z : Str} : (Sc.str z).d = .str z := id rfl
@[simp] theorem q_rz {z : Rz} : mRz (some z) ε = .ok z.dt ε := id rfl
@[simp] theorem q_rzn : mRz none ε = .no := id rfl
@[simp] theorem q_rz1 : mRz1 (some (.lst ds)) ε = .ok (.lst ds) ε := id rfl
@[simp] theorem q_z1 {s : Sc} : (Rz.sc s).dt = s.d := id rfl
@[simp] theorem q_z2 : (Rz.tup ds).dt = .tup ds := id rfl
@[simp] theorem q_z3 : (Rz.lst ds).dt = .lst ds := id rfl
@[simp] theorem q_z4 : (Rz.el d).dt = d := id rfl
@[simp] theorem q_sc1 {s : Sc} : mSc? (some s) ε = .ok s.d ε := id rfl
@[simp] theorem q_op : mOp op fa fb ε = (fa ε).bind fun d1 ε1 => (fb ε1).bind fun d2 ε2 => mRz (op d1 d2) ε2 := id rfl
@[simp] theorem q_un : mUn ou fa ε = (fa ε).bind fun d1 ε1 => mRz (ou d1) ε1 := id rfl
@[simp] theorem q_un1 : mUn1 ou fa ε = (fa ε).bind fun d1 ε1 => mRz1 (ou d1) ε1 := id rfl
@[simp] theorem q_cb : mCB oa fs ε = (fs ε).bind fun d1 ε1 => mRz (oa d1) ε1 := id rfl
@[simp] theorem q_cb1 : mCB1 oa fs ε = (fs ε).bind fun d1 ε1 => mRz1 (oa d1) ε1 := id rfl
@[simp] theorem q_op1 : mOp1 op fa fb ε = (fa ε).bind fun d1 ε1 => (fb ε1).bind fun d2 ε2 => mRz1 (op d1 d2) ε2 := id rfl
@[simp] theorem q_opD : mOpD od fa fb ε = (fa ε).bind fun d1 ε1 => (fb ε1).bind fun d2 ε2 => mSc? (od d1 d2) ε2 := id rfl
@[simp] theorem q_nil : mNil ε = .ok [] ε := id rfl
@[simp] theorem q_cons : mCons fa fr ε = (fa ε).bind fun d ε1 => (fr ε1).bind fun ds ε2 => .ok (d :: ds) ε2 := id rfl
@[simp] theorem q_tup : mTup fs ε = (fs ε).bind fun ds ε1 => .ok (.tup ds) ε1 := id rfl
@[simp] theorem q_lst : mLst fs ε = (fs ε).bind fun ds ε1 => .ok (.lst ds) ε1 := id rfl
def asB (d : Dt) (ε : Ev) : Rs Bool := match d with
  | .bl b => .ok b ε
  | _ => .no
@[simp] theorem q_asB {b : Bool} : asB (.bl b) ε = .ok b ε := id rfl
@[simp] theorem q_mB : mB f ε = (f ε).bind asB := id rfl
@[simp] theorem q_tru : mTru f ε = (f ε).bind fun d ε1 => mOpt (truD d) ε1 := by
  unfold mTru
  cases f ε with
  | ok d ε1 => cases e : truD d <;> simp [mOpt, e]
  | er x ε1 => rfl
  | no => rfl
@[simp] theorem q_trb {b : Bool} : truD (.bl b) = some b := id rfl
@[simp] theorem q_opt1 : mOpt (some a) ε = .ok a ε := id rfl
@[simp] theorem q_opt0 : mOpt (none : Option α) ε = .no := id rfl
@[simp] theorem q_not : mNot c ε = (c ε).bind fun b ε1 => .ok (!b) ε1 := id rfl
@[simp] theorem q_and : mAnd c c2 ε = (c ε).bind fun b ε1 => if b = true then c2 ε1 else .ok false ε1 := id rfl
@[simp] theorem q_or : mOr c c2 ε = (c ε).bind fun b ε1 => if b = true then .ok true ε1 else c2 ε1 := id rfl
def andK (fb : Ev → Rs Dt) (d : Dt) (ε : Ev) : Rs Dt := match d with
  | .bl true => fb ε
  | .bl false => .ok (.bl false) ε
  | _ => .no
def orK (fb : Ev → Rs Dt) (d : Dt) (ε : Ev) : Rs Dt := match d with
  | .bl true => .ok (.bl true) ε
  | .bl false => fb ε
  | _ => .no
def notK (d : Dt) (ε : Ev) : Rs Dt := match d with
  | .bl b => .ok (.bl (!b)) ε
  | _ => .no
@[simp] theorem q_andK {b : Bool} : andK fb (.bl b) ε = if b = true then fb ε else .ok (.bl false) ε := by cases b <;> rfl
@[simp] theorem q_orK {b : Bool} : orK fb (.bl b) ε = if b = true then .ok (.bl true) ε else fb ε := by cases b <;> rfl
@[simp] theorem q_notK {b : Bool} : notK (.bl b) ε = .ok (.bl (!b)) ε := id rfl
@[simp] theorem q_andV : mAndV fa fb ε = (fa ε).bind (andK fb) := id rfl
@[simp] theorem q_orV : mOrV fa fb ε = (fa ε).bind (orK fb) := id rfl
@[simp] theorem q_notV : mNotV fa ε = (fa ε).bind notK := id rfl
@[simp] theorem q_ifE : mIf c fa fb ε = (c ε).bind fun b ε1 => if b = true then fa ε1 else fb ε1 := id rfl
def itL (d : Dt) (ε : Ev) : Rs (List Dt) := match d with
  | .lst ds => .ok ds ε
  | _ => .no
def itT (d : Dt) (ε : Ev) : Rs (List Dt) := match d with
  | .tup ds => .ok ds ε
  | _ => .no
@[simp] theorem q_itL : itL (.lst ds) ε = .ok ds ε := id rfl
@[simp] theorem q_itT : itT (.tup ds) ε = .ok ds ε := id rfl
@[simp] theorem q_iter : mIter f ε = (f ε).bind itL := id rfl
@[simp] theorem q_iterT : mIterT f ε = (f ε).bind itT := id rfl
def rg1 (j : Option Int) (ε : Ev) : Rs (List Dt) := match j with
  | some j => if smallR j = true then .ok (rangeD 0 j.toNat) ε else .no
  | none => .no
def rg2 (j : Option (Int × Int)) (ε : Ev) : Rs (List Dt) := match j with
  | some (i, j) => if smallR i = true ∧ smallR j = true then .ok (rangeD i (j - i).toNat) ε else .no
  | none => .no
@[simp] theorem q_rg1 : mRange1 fs ε = (fs ε).bind fun ds ε1 => rg1 (int1 ds) ε1 := by
  unfold mRange1
  cases fs ε with
  | ok d ε1 => cases e : int1 d <;> simp [rg1, e]
  | er x ε1 => rfl
  | no => rfl
@[simp] theorem q_rg2 : mRange2 fs ε = (fs ε).bind fun ds ε1 => rg2 (int2 ds) ε1 := by
  unfold mRange2
  cases fs ε with
  | ok d ε1 => cases e : int2 d <;> simp [rg2, e]
  | er x ε1 => rfl
  | no => rfl
@[simp] theorem q_i1 {n : Int} : int1 [.int n] = some n := id rfl
@[simp] theorem q_i2 {n m : Int} : int2 [.int n, .int m] = some (n, m) := id rfl
theorem rg1_ok {j : Int} (h : smallR j = true) : rg1 (some j) ε = .ok (rangeD 0 j.toNat) ε := by simp [rg1, h]
theorem rg2_ok {i j : Int} (h : smallR i = true) (h' : smallR j = true) : rg2 (some (i, j)) ε = .ok (rangeD i (j - i).toNat) ε := by simp [rg2, h, h']
/-! names -/
def vr (ε : Ev) (s : Option Sl) : Rs Dt := match s with
  | some (.vl 0 d) => .ok d ε
  | _ => .no
def vrB (ε : Ev) (s : Option Sl) : Rs Dt := match s with
  | some (.vl 0 d) => .ok d ε
  | some (.vl 1 d) => .ok d ε
  | _ => .no
def vrD (ε : Ev) (s : Option Sl) : Rs Dt := match s with
  | some (.vl _ d) => .ok d ε
  | _ => .no
def vrF (i : Nat) (ε : Ev) (s : Option Sl) : Rs Dt := match s with
  | some (.vl _ d) => .ok d (ε.set i (.vl 0 d))
  | _ => .no
def vrM (i k : Nat) (ε : Ev) (s : Option Sl) : Rs Dt := match s with
  | some (.vl j d) => if j = k then .ok d (ε.set i .un) else .no
  | _ => .no
def vrO (ε : Ev) (s : Option Sl) : Rs Dt := match s with
  | some (.vl _ _) => .ok .non ε
  | _ => .no
@[simp] theorem q_vr : vr ε (some (.vl 0 d)) = .ok d ε := id rfl
@[simp] theorem q_vrB0 : vrB ε (some (.vl 0 d)) = .ok d ε := id rfl
@[simp] theorem q_vrB1 : vrB ε (some (.vl 1 d)) = .ok d ε := id rfl
@[simp] theorem q_vrD : vrD ε (some (.vl k d)) = .ok d ε := id rfl
@[simp] theorem q_vrF : vrF i ε (some (.vl k d)) = .ok d (ε.set i (.vl 0 d)) := id rfl
@[simp] theorem q_vrM : vrM i k ε (some (.vl k d)) = .ok d (ε.set i .un) := by simp [vrM]
@[simp] theorem q_vrO : vrO ε (some (.vl k d)) = .ok .non ε := id rfl
@[simp] theorem q_var : mVar i ε = vr ε ε[i]? := id rfl
@[simp] theorem q_varB : mVarB i ε = vrB ε ε[i]? := id rfl
@[simp] theorem q_varD : mVarD i ε = vrD ε ε[i]? := id rfl
@[simp] theorem q_frz : mFrz i ε = vrF i ε ε[i]? := id rfl
@[simp] theorem q_mov : mMov i k ε = vrM i k ε ε[i]? := id rfl
@[simp] theorem q_own : mOwn i ε = vrO ε ε[i]? := id rfl
/-! methods of lists -/
def mtU (i : Nat) (as : List Dt) (fm : List Dt → List Dt → Option (Dt × List Dt)) (ε : Ev) (s : Option Sl) : Rs Dt := match s with
  | some (.vl 1 (.lst l)) => (match fm l as with
    | some (z, l') => .ok z (ε.set i (.vl 1 (.lst l')))
    | none => .no)
  | _ => .no
def mtP (r : Rs Dt) (s : Option Sl) : Rs Dt := match s with
  | some (.vl 1 (.lst _)) => r
  | _ => .no
def mtZ (i : Nat) (ε : Ev) (o : Option (Dt × List Dt)) : Rs Dt := match o with
  | some (z, l') => .ok z (ε.set i (.vl 1 (.lst l')))
  | none => .no
@[simp] theorem q_mtZ {l : List Dt} : mtZ i ε (some (d, l)) = .ok d (ε.set i (.vl 1 (.lst l))) := id rfl
@[simp] theorem q_mtU {fm : List Dt → List Dt → Option (Dt × List Dt)} {l : List Dt} : mtU i ds fm ε (some (.vl 1 (.lst l))) = mtZ i ε (fm l ds) := by
  unfold mtU mtZ
  cases e : fm l ds <;> simp [e]
@[simp] theorem q_mtP {r : Rs Dt} {l : List Dt} : mtP r (some (.vl 1 (.lst l))) = r := id rfl
@[simp] theorem q_mut {fm : List Dt → List Dt → Option (Dt × List Dt)} : mMut i fm fs ε = mtP ((fs ε).bind fun as ε1 => mtU i as fm ε1 ε1[i]?) ε[i]? := id rfl
theorem append_ok {l : List Dt} (h : l.length < sizeLine) : fAppend l [d] = some (.non, l ++ [d]) := by simp [fAppend, h]
@[simp] theorem q_rev {l : List Dt} : fReverse l [] = some (.non, l.reverse) := id rfl
@[simp] theorem q_fn {ms : List Nat} {n : Nat} {b : Ev → So} : mFn ms n b ds = finish ms (b (entry ms n ds)) := id rfl
def fo1 (ws : Ws) (ε : Ev) (r : Fo) : Rs Dt := match r with
  | .ok d outs => .ok d (putB ws outs ε)
  | .er x outs => .er x (putB ws outs ε)
  | .no => .no
@[simp] theorem q_fo1 {ws : Ws} : fo1 ws ε (.ok d ds) = .ok d (putB ws ds ε) := id rfl
@[simp] theorem q_fo2 {ws : Ws} : fo1 ws ε (.er x ds) = .er x (putB ws ds ε) := id rfl
def fo0 (ws : Ws) (F : List Dt → Fo) (ε : Ev) (as : Option (List Dt)) : Rs Dt := match as with
  | none => .no
  | some as => fo1 ws ε (F as)
@[simp] theorem q_fo0 {ws : Ws} {F : List Dt → Fo} {as : List Dt} : fo0 ws F ε (some as) = fo1 ws ε (F as) := id rfl
@[simp] theorem q_call {ws : Ws} {F : List Dt → Fo} : mCall ws F fs ε = (fs ε).bind fun ds ε1 => fo0 ws F ε1 (resolve ws ds ε1) := by
  unfold mCall fo0 fo1
  rfl
@[simp] theorem q_ixD : mIxD fa fb ε = (fa ε).bind fun d1 ε1 => (fb ε1).bind fun d2 ε2 => mOpt (ixD d1 d2) ε2 := id rfl
@[simp] theorem q_noP : mNoP ε = .ok none ε := id rfl
@[simp] theorem q_yes : mYes ε = .ok true ε := id rfl
end
/-! calls -/
section
variable {ms : List Nat} {ds os : List Dt} {d : Dt} {ε : Ev} {s : Sl} {i m n : Nat} {ws : Ws} {x : Xc} {o : Option (List Dt)}
def fin1 (d : Dt) (o : Option (List Dt)) : Fo := match o with
  | some l => .ok d l
  | none => .no
def fin2 (x : Xc) (o : Option (List Dt)) : Fo := match o with
  | some l => .er x l
  | none => .no
@[simp] theorem q_fin1 : fin1 d (some ds) = .ok d ds := id rfl
@[simp] theorem q_fin2 : fin2 x (some ds) = .er x ds := id rfl
@[simp] theorem q_finN : finish ms (.nx ε) = fin1 .non (outs ms ε) := id rfl
@[simp] theorem q_finR : finish ms (.rt d ε) = fin1 d (outs ms ε) := id rfl
@[simp] theorem q_finE : finish ms (.er x ε) = fin2 x (outs ms ε) := id rfl
@[simp] theorem q_out0 : outs [] ε = some [] := id rfl
@[simp] theorem q_outS : outs (0 :: ms) (s :: ε) = (outs ms ε).map fun l => .non :: l := id rfl
@[simp] theorem q_out1 : outs (1 :: ms) (.vl 1 d :: ε) = (outs ms ε).map fun l => d :: l := id rfl
@[simp] theorem q_out2 : outs (2 :: ms) (.vl 2 d :: ε) = (outs ms ε).map fun l => d :: l := id rfl
@[simp] theorem q_en0 : entryE [] [] = [] := id rfl
@[simp] theorem q_en : entryE (m :: ms) (d :: ds) = .vl m d :: entryE ms ds := id rfl
@[simp] theorem q_ent : entry ms n ds = entryE ms ds ++ List.replicate n .un := id rfl
@[simp] theorem q_rs0 : resolve [] [] ε = some [] := id rfl
@[simp] theorem q_rsN : resolve (none :: ws) (d :: ds) ε = (resolve ws ds ε).map fun l => d :: l := id rfl
def rsO (m : Nat) (r : Option (List Dt)) (s : Option Sl) : Option (List Dt) := match s with
  | some (.vl k d) => if k = m then r.map fun l => d :: l else none
  | _ => none
@[simp] theorem q_rsO : rsO m o (some (.vl m d)) = o.map fun l => d :: l := if_pos rfl
@[simp] theorem q_rsS : resolve (some (i, m) :: ws) (d :: ds) ε = rsO m (resolve ws ds ε) ε[i]? := id rfl
@[simp] theorem q_pb0 : putB [] [] ε = ε := id rfl
@[simp] theorem q_pbN : putB (none :: ws) (d :: ds) ε = putB ws ds ε := id rfl
@[simp] theorem q_pbS : putB (some (i, m) :: ws) (d :: ds) ε = putB ws ds (ε.set i (.vl m d)) := id rfl
theorem pop_ok {l : List Dt} : fPop (l ++ [d]) [] = some (d, l) := by simp [fPop]
end
def dr (l : List Int) : Dt := .lst (l.map Dt.int)
/-! ### loops -/
theorem loop_ind {t : Dt → Ev → Rs Unit} {body : Ev → So} (I : List Dt → Ev → Prop) (hs : ∀ d r ε, I (d :: r) ε → ∃ ε1 ε2, t d ε = .ok () ε1 ∧ (body ε1 = .nx ε2 ∨ body ε1 = .ct ε2) ∧ I r ε2) : ∀ {ds : List Dt} {ε : Ev}, I ds ε → ∃ ε', loopL t body ds ε = .nx ε' ∧ I [] ε'
  | [], ε, h => ⟨ε, rfl, h⟩
  | d :: r, ε, h => by
    obtain ⟨ε1, ε2, h1, h2, h3⟩ := hs d r ε h
    obtain ⟨ε', h4, h5⟩ := loop_ind I hs h3
    refine ⟨ε', ?_, h5⟩
    unfold loopL
    rw [h1]
    rcases h2 with h2 | h2 <;> simp [h2, h4]
theorem rangeD_succ (lo : Int) (n : Nat) : rangeD lo (n + 1) = .int lo :: rangeD (lo + 1) n := by
  unfold rangeD
  rw [List.range_succ_eq_map, List.map_cons, List.map_map]
  simp
  intro a _
  omega
theorem rangeD_zero (lo : Int) : rangeD lo 0 = [] := rfl
theorem loop_range {t : Dt → Ev → Rs Unit} {body : Ev → So} (I : Nat → Ev → Prop) {lo : Int} {n : Nat} (hs : ∀ i ε, i < n → I i ε → ∃ ε1 ε2, t (.int (lo + (i : Nat))) ε = .ok () ε1 ∧ (body ε1 = .nx ε2 ∨ body ε1 = .ct ε2) ∧ I (i + 1) ε2) {ε : Ev} (h0 : I 0 ε) :
    ∃ ε', loopL t body (rangeD lo n) ε = .nx ε' ∧ I n ε' := by
  have key : ∀ m k ε, k + m = n → I k ε → ∃ ε', loopL t body (rangeD (lo + (k : Nat)) m) ε = .nx ε' ∧ I n ε' := by
    intro m
    induction m with
    | zero => intro k ε e h; exact ⟨ε, rfl, by rw [show n = k by omega]; exact h⟩
    | succ m ih =>
      intro k ε e h
      obtain ⟨ε1, ε2, h1, h2, h3⟩ := hs k ε (by omega) h
      obtain ⟨ε', h4, h5⟩ := ih (k + 1) ε2 (by omega) h3
      refine ⟨ε', ?_, h5⟩
      rw [rangeD_succ, show lo + (k : Nat) + 1 = lo + ((k + 1 : Nat) : Int) by omega]
      unfold loopL
      rw [h1]
      rcases h2 with h2 | h2 <;> simp only [] <;> rw [h2] <;> exact h4
  have z := key n 0 ε (by omega) h0
  simpa using z
/-! ### comprehensions -/
theorem compL_fm {vs : List Nat} {t : Dt → Ev → Rs Unit} {c : Ev → Rs Bool} {e : Ev → Rs Dt} {ε : Ev} (p : Dt → Bool) (F : Dt → Dt) : ∀ {ds acc : List Dt} (_ : ∀ d ∈ ds, ∃ ε1 ε2, t d ε = .ok () ε1 ∧ c ε1 = .ok (p d) ε2 ∧ (p d = true → ∃ ε3, e ε2 = .ok (F d) ε3 ∧ wipeE ε3 vs = ε) ∧ (p d = false → wipeE ε2 vs = ε))
    (_ : acc.length + ds.length ≤ sizeLine), compL vs t c e ds acc ε = .ok (acc ++ (ds.filter p).map F) ε
  | [], acc, _, _ => by simp [compL]
  | d :: ds, acc, h, hl => by
    obtain ⟨ε1, ε2, h1, h2, h3, h4⟩ := h d (List.mem_cons_self ..)
    have hr : ∀ d ∈ ds, _ := fun d hd => h d (List.mem_cons_of_mem _ hd)
    rw [List.length_cons] at hl
    unfold compL
    rw [h1]
    simp only []
    rw [h2]
    cases hp : p d with
    | true =>
      obtain ⟨ε3, h5, h6⟩ := h3 hp
      simp only [h5, h6]
      rw [if_pos (by omega), compL_fm p F hr (by simp; omega)]
      simp [hp]
    | false =>
      simp only [h4 hp]
      rw [compL_fm p F hr (by omega)]
      simp [hp]
theorem compL_map {vs : List Nat} {t : Dt → Ev → Rs Unit} {e : Ev → Rs Dt} {ε : Ev} (F : Dt → Dt) {ds : List Dt} (h : ∀ d ∈ ds, ∃ ε1 ε3, t d ε = .ok () ε1 ∧ e ε1 = .ok (F d) ε3 ∧ wipeE ε3 vs = ε) (hl : ds.length ≤ sizeLine) : compL vs t mYes e ds [] ε = .ok (ds.map F) ε := by
  have z := compL_fm (vs := vs) (t := t) (c := mYes) (e := e) (ε := ε) (fun _ => true) F (ds := ds) (acc := []) (fun d hd => by
    obtain ⟨ε1, ε3, h1, h2, h3⟩ := h d hd
    exact ⟨ε1, ε1, h1, rfl, fun _ => ⟨ε3, h2, h3⟩, fun z => by cases z⟩) (by simpa using hl)
  have e2 : ds.filter (fun _ => true) = ds := List.filter_eq_self.mpr (by simp)
  rw [e2] at z
  simpa using z
theorem rangeD_mem {lo : Int} {n : Nat} {d : Dt} (h : d ∈ rangeD lo n) : ∃ i : Nat, i < n ∧ d = .int (lo + (i : Nat)) := by
  unfold rangeD at h
  obtain ⟨i, h1, h2⟩ := List.mem_map.mp h
  exact ⟨i, List.mem_range.mp h1, h2.symm⟩
theorem rangeD_len (lo : Int) (n : Nat) : (rangeD lo n).length = n := by simp [rangeD]
/-! ### squares of numbers -/
def row (n : Nat) (f : Nat → Int) : Dt := .lst ((List.range n).map fun j => .int (f j))
def mat (n : Nat) (g : Nat → Nat → Int) : Dt := .lst ((List.range n).map fun i => row n (g i))
/-! ### operators -/
section
variable {a b : Int} {x y : Bool} {l m : List Dt} {d : Dt} {p : Bool}
@[simp] theorem f_add : fAdd (.int a) (.int b) = some (.sc (.int (a + b))) := id rfl
@[simp] theorem f_sub : fSub (.int a) (.int b) = some (.sc (.int (a - b))) := id rfl
@[simp] theorem f_neg : fNeg (.int a) = some (.sc (.int (-a))) := id rfl
@[simp] theorem f_int : fInt [.int a] = some (.sc (.int a)) := id rfl
@[simp] theorem f_lenL : bLen (.lst l) = some (.sc (.int (l.length : Int))) := id rfl
@[simp] theorem f_lenT : bLen (.tup l) = some (.sc (.int (l.length : Int))) := id rfl
@[simp] theorem f_lt : fLt (.int a) (.int b) = some (.bl (decide (a < b))) := id rfl
@[simp] theorem f_le : fLe (.int a) (.int b) = some (.bl (decide (a ≤ b))) := id rfl
@[simp] theorem f_gt : fGt (.int a) (.int b) = some (.bl (decide (b < a))) := id rfl
@[simp] theorem f_ge : fGe (.int a) (.int b) = some (.bl (decide (b ≤ a))) := id rfl
theorem shp_of {d : Dt} {q : PyData} (h : toPy d = some q) (h2 : SeqAt.shaped q = true) : shp d = some q := by
  unfold shp
  rw [h]
  exact if_pos h2
theorem shp_int : shp (.int a) = some (.int a) := shp_of rfl (by simp [SeqAt.shaped, PyData.canLay0, PyData.depth])
theorem shp_bl : shp (.bl x) = some (.bool x) := shp_of rfl (by simp [SeqAt.shaped, PyData.canLay0, PyData.depth])
theorem shp_non : shp .non = some .none := shp_of rfl (by simp [SeqAt.shaped, PyData.canLay0, PyData.depth])
theorem eqv_int : PyData.eqv (.int a) (.int b) = decide (a = b) := by
  by_cases h : a = b
  · subst h; simp [PyData.eqv]
  · simp [PyData.eqv, h]
@[simp] theorem f_eqI : fEq (.int a) (.int b) = some (.bl (decide (a = b))) := by
  simp [fEq, shp_int, eqv_int]
@[simp] theorem f_neI : fNe (.int a) (.int b) = some (.bl (!decide (a = b))) := by
  simp [fNe, shp_int, eqv_int]
theorem f_mod (h : 0 < b) : fMod (.int a) (.int b) = some (.sc (.int (a % b))) := by simp [fMod, fII, cModB, h]
end
/-! ### comprehensions in a name's world -/
section
variable {vs : List Nat} {it : Ev → Rs (List Dt)} {t : Dt → Ev → Rs Unit} {c : Ev → Rs Bool} {e : Ev → Rs Dt} {ε ε0 ε1 : Ev} {v k : Nat} {d : Dt} {l : List Dt}
def cpK (vs : List Nat) (ε1 : Ev) (r : Rs (List Dt)) : Rs Dt := match r with
  | .ok l ε2 => .ok (.lst l) (backE ε1 (wipeE ε2 vs) vs)
  | _ => .no
@[simp] theorem q_cpK : cpK vs ε1 (.ok l ε) = .ok (.lst l) (backE ε1 (wipeE ε vs) vs) := id rfl
theorem q_comp : mComp vs it t c e ε = (it ε).bind fun ds ε1 => cpK vs ε1 (compL vs t c e ds [] (wipeE ε1 vs)) := rfl
@[simp] theorem q_w0 : wipeE ε [] = ε := id rfl
@[simp] theorem q_w1 : wipeE ε (v :: vs) = (wipeE ε vs).set v .un := id rfl
def bkK (v : Nat) (ε : Ev) (s : Option Sl) : Ev := match s with
  | some (.vl 0 d) => ε.set v (.vl 0 d)
  | _ => ε
@[simp] theorem q_bk0 : bkK v ε (some (.vl 0 d)) = ε.set v (.vl 0 d) := id rfl
@[simp] theorem q_bk1 : bkK v ε (some (.vl (k + 1) d)) = ε := id rfl
@[simp] theorem q_bku : bkK v ε (some .un) = ε := id rfl
@[simp] theorem q_k0 : backE ε0 ε [] = ε := id rfl
@[simp] theorem q_k1 : backE ε0 ε (v :: vs) = bkK v (backE ε0 ε vs) ε0[v]? := by
  show (match ε0[v]? with
    | some (.vl 0 d) => (backE ε0 ε vs).set v (.vl 0 d)
    | _ => backE ε0 ε vs) = _
  unfold bkK
  rfl
end
/-! ### reading and writing squares -/
section
variable {n : Nat} {g : Nat → Nat → Int} {f : Nat → Int} {i j : Nat} {l : List Dt}
theorem ixN_nat : ixN n (i : Int) = if i < n then some i else none := by
  unfold ixN
  rw [if_pos (by omega)]
  by_cases h : i < n
  · rw [if_pos (by omega), if_pos h]; simp
  · rw [if_neg (by omega), if_neg h]
theorem atI_nat {α : Type} {l : List α} : atI l (i : Int) = l[i]? := by
  unfold atI
  rw [ixN_nat]
  by_cases h : i < l.length
  · rw [if_pos h]; rfl
  · rw [if_neg h, List.getElem?_eq_none (by omega)]; rfl
theorem ix_lst {d : Dt} (h : l[i]? = some d) : fIx (.lst l) (.int (i : Int)) = some (.el d) := by simp [fIx, atI_nat, h]
theorem ix_tup {d : Dt} (h : l[i]? = some d) : fIx (.tup l) (.int (i : Int)) = some (.el d) := by simp [fIx, atI_nat, h]
theorem ix_mat (h : i < n) : fIx (mat n g) (.int (i : Int)) = some (.el (row n (g i))) := ix_lst (by simp [List.getElem?_map, h])
theorem ix_row (h : j < n) : fIx (row n f) (.int (j : Int)) = some (.el (.int (f j))) := ix_lst (by simp [List.getElem?_map, h])
@[simp] theorem len_mat : bLen (mat n g) = some (.sc (.int n)) := by simp [mat]
theorem smallR_nat (h : n ≤ 100000) : smallR (n : Int) = true := by
  unfold smallR
  rw [Bool.and_eq_true]
  exact ⟨decide_eq_true (by omega), decide_eq_true (by omega)⟩
theorem mat_congr {g' : Nat → Nat → Int} (h : ∀ i j, i < n → j < n → g i j = g' i j) : mat n g = mat n g' := by
  unfold mat row
  congr 1
  apply List.map_congr_left
  intro i hi
  congr 1
  apply List.map_congr_left
  intro j hj
  rw [h i j (List.mem_range.mp hi) (List.mem_range.mp hj)]
def upd2 (g : Nat → Nat → Int) (p q : Nat) (v : Int) : Nat → Nat → Int := fun i j => if i = p ∧ j = q then v else g i j
theorem set_range {α : Type} {f : Nat → α} {p : Nat} {v : α} : ((List.range n).map f).set p v = (List.range n).map fun i => if i = p then v else f i := by
  apply List.ext_getElem?
  intro i
  by_cases h : i < n
  · by_cases e : p = i
    · subst e
      simp [List.getElem?_set, h]
    · rw [List.getElem?_set_ne e]
      simp [List.getElem?_map, h, show ¬ i = p from fun z => e z.symm]
  · rw [List.getElem?_eq_none (by simp; omega), List.getElem?_eq_none (by simp; omega)]
theorem cell_ok {ε : Ev} {s p q : Nat} {v : Int} {f1 f2 : Ev → Rs Dt} (h0 : ε[s]? = some (.vl 2 (mat n g))) (h1 : f1 ε = .ok (.int (p : Int)) ε) (h2 : f2 ε = .ok (.int (q : Int)) ε) (hp : p < n) (hq : q < n) :
    gCell s f1 f2 (.int v) ε = .ok () (ε.set s (.vl 2 (mat n (upd2 g p q v)))) := by
  unfold gCell
  rw [h0]
  show (f1 ε).bind _ = _
  rw [h1]
  have c1 : cell1 s (.int (p : Int)) ε = some p := by
    unfold cell1
    rw [h0]
    simp [mat, ixN_nat, hp, row]
  simp only [q_b1, c1, mOpt, h2]
  unfold cell2
  rw [h0]
  simp [mat, ixN_nat, hp, hq, row, set_range, upd2]
  congr 2
  refine congrArg Dt.lst (List.map_congr_left fun i hi => ?_)
  by_cases e : i = p
  · subst e
    simp only [if_true, true_and]
    refine congrArg Dt.lst (List.map_congr_left fun j hj => ?_)
    by_cases e2 : j = q <;> simp [e2]
  · simp [e]
end
/-- two loops that write each cell of a square once -/
theorem fill2 {n : Nat} {t1 t2 : Dt → Ev → Rs Unit} {outer body : Ev → So} (mk : (Nat → Nat → Int) → Sl → Sl → Sl → Ev) (ρ : Nat → Nat) (v : Nat → Nat → Int) (hρ : ∀ i j, i < n → j < n → ρ i = ρ j → i = j)
    (h1 : ∀ a G x y z, a < n → t1 (.int (a : Nat)) (mk G x y z) = .ok () (mk G (.vl 0 (.int (a : Nat))) y z))
    (h2 : ∀ a b G y z, a < n → b < n → t2 (.int (b : Nat)) (mk G (.vl 0 (.int (a : Nat))) y z) = .ok () (mk G (.vl 0 (.int (a : Nat))) (.vl 0 (.int (b : Nat))) z))
    (h3 : ∀ a G y z, a < n → outer (mk G (.vl 0 (.int (a : Nat))) y z) = loopL t2 body (rangeD 0 n) (mk G (.vl 0 (.int (a : Nat))) y z))
    (h4 : ∀ a b G z, a < n → b < n → ∃ z', body (mk G (.vl 0 (.int (a : Nat))) (.vl 0 (.int (b : Nat))) z) = .nx (mk (upd2 G (ρ a) (ρ b) (v a b)) (.vl 0 (.int (a : Nat))) (.vl 0 (.int (b : Nat))) z') ∨
      (body (mk G (.vl 0 (.int (a : Nat))) (.vl 0 (.int (b : Nat))) z) = .nx (mk G (.vl 0 (.int (a : Nat))) (.vl 0 (.int (b : Nat))) z') ∧ v a b = 0)) (x0 y0 z0 : Sl) :
    ∃ G x y z, loopL t1 outer (rangeD 0 n) (mk (fun _ _ => 0) x0 y0 z0) = .nx (mk G x y z) ∧ ∀ i j, i < n → j < n → G (ρ i) (ρ j) = v i j := by
  have inner : ∀ (a : Nat) (G0 : Nat → Nat → Int) (y z : Sl), a < n → (∀ i j, i < n → j < n → G0 (ρ i) (ρ j) = if i < a then v i j else 0) → ∃ G y' z', loopL t2 body (rangeD 0 n) (mk G0 (.vl 0 (.int (a : Nat))) y z) = .nx (mk G (.vl 0 (.int (a : Nat))) y' z') ∧
      ∀ i j, i < n → j < n → G (ρ i) (ρ j) = if i < a + 1 then v i j else 0 := by
    intro a G0 y z ha h0
    obtain ⟨ε', e, G, y', z', rfl, hG⟩ := loop_range (t := t2) (body := body) (lo := 0) (n := n) (fun b ε => ∃ G y z, ε = mk G (.vl 0 (.int (a : Nat))) y z ∧ ∀ i j, i < n → j < n → G (ρ i) (ρ j) = if i < a ∨ (i = a ∧ j < b) then v i j else 0)
      (by
        rintro b ε hb ⟨G, y, z, rfl, hG⟩
        obtain ⟨z', q | ⟨q, q2⟩⟩ := h4 a b G z ha hb
        · refine ⟨_, _, by rw [Int.zero_add]; exact h2 a b G y z ha hb, .inl q, _, _, _, rfl, fun i j hi hj => ?_⟩
          unfold upd2
          by_cases c : ρ i = ρ a ∧ ρ j = ρ b
          · have e1 := hρ i a hi ha c.1
            have e2 := hρ j b hj hb c.2
            subst e1; subst e2
            rw [if_pos c, if_pos (by omega)]
          · rw [if_neg c, hG i j hi hj]
            by_cases d : i = a ∧ j = b
            · exact absurd ⟨by rw [d.1], by rw [d.2]⟩ c
            · by_cases k : i < a ∨ (i = a ∧ j < b)
              · rw [if_pos k, if_pos (by omega)]
              · rw [if_neg k, if_neg (by omega)]
        · refine ⟨_, _, by rw [Int.zero_add]; exact h2 a b G y z ha hb, .inl q, _, _, _, rfl, fun i j hi hj => ?_⟩
          rw [hG i j hi hj]
          by_cases d : i = a ∧ j = b
          · rw [if_neg (by omega), if_pos (by omega), d.1, d.2, q2]
          · by_cases k : i < a ∨ (i = a ∧ j < b)
            · rw [if_pos k, if_pos (by omega)]
            · rw [if_neg k, if_neg (by omega)])
      (ε := mk G0 (.vl 0 (.int (a : Nat))) y z) ⟨G0, y, z, rfl, fun i j hi hj => by
        rw [h0 i j hi hj]
        by_cases k : i < a
        · rw [if_pos k, if_pos (by omega)]
        · rw [if_neg k, if_neg (by omega)]⟩
    refine ⟨G, y', z', e, fun i j hi hj => ?_⟩
    rw [hG i j hi hj]
    by_cases k : i < a + 1
    · rw [if_pos k, if_pos (by omega)]
    · rw [if_neg k, if_neg (by omega)]
  obtain ⟨ε', e, G, x, y, z, rfl, hG⟩ := loop_range (t := t1) (body := outer) (lo := 0) (n := n) (fun a ε => ∃ G x y z, ε = mk G x y z ∧ ∀ i j, i < n → j < n → G (ρ i) (ρ j) = if i < a then v i j else 0)
    (by
      rintro a ε ha ⟨G, x, y, z, rfl, hG⟩
      obtain ⟨G', y', z', e, hG'⟩ := inner a G y z ha hG
      exact ⟨_, _, by rw [Int.zero_add]; exact h1 a G x y z ha, .inl ((h3 a G y z ha).trans e), G', _, _, _, rfl, hG'⟩)
    (ε := mk (fun _ _ => 0) x0 y0 z0) ⟨_, _, _, _, rfl, fun i j hi hj => by simp⟩
  exact ⟨G, x, y, z, e, fun i j hi hj => by rw [hG i j hi hj, if_pos hi]⟩
end Mir

set_option Elab.async false
set_option linter.all false
set_option maxRecDepth 100000
set_option maxHeartbeats 400000
/-! The law's own helpers, reckoned. -/
namespace Mir
open PySem PySem.Spec PyProof.Rows L2 He
theorem take_spec (l : List Int) (m : Int) (hm : 0 < m) : ∃ r l', m__law_take [dr l, .int m] = .ok (.int r) [dr l', .non] ∧ 0 ≤ r ∧ r < m ∧ l'.length ≤ l.length := by
  rcases List.eq_nil_or_concat l with rfl | ⟨l', x, rfl⟩
  · refine ⟨0, [], ?_, by omega, hm, by simp⟩
    simp [m__law_take, b__law_take, dr]
  · refine ⟨x % m, l', ?_, Int.emod_nonneg _ (by omega), Int.emod_lt_of_pos _ hm, by simp⟩
    simp [m__law_take, b__law_take, dr, pop_ok, f_mod hm, show ¬ ((l'.length : Int) + 1 = 0) by omega]
/-- a draw below a natural number -/
theorem takeN (l : List Int) (m : Nat) (hm : 0 < m) : ∃ (r : Nat) (l' : List Int), m__law_take [dr l, .int (m : Int)] = .ok (.int (r : Int)) [dr l', .non] ∧ r < m := by
  obtain ⟨r, l', h1, h2, h3, _⟩ := take_spec l m (by omega)
  exact ⟨r.toNat, l', by rw [h1, Int.toNat_of_nonneg h2], by omega⟩
theorem rgN {n : Nat} (h : n ≤ 1000) : rg1 (some (n : Int)) = fun ε => .ok (rangeD 0 n) ε := by
  funext ε
  rw [rg1_ok (smallR_nat (Nat.le_trans h (by decide))), Int.toNat_natCast]
theorem szN {n : Nat} (h : n ≤ 1000) : n ≤ sizeLine := Nat.le_of_lt (small1000 h)
theorem blank_spec (n : Nat) (h : n ≤ 1000) : m__law_blank [.int (n : Int)] = .ok (mat n fun _ _ => 0) [.non] := by
  have e0 : ∀ s : Sl, compL [2] (gSet 2 0) mYes e__law_blank_0 (rangeD 0 n) [] [.vl 0 (.int n), s, .un] = .ok ((rangeD 0 n).map fun _ => .int 0) [.vl 0 (.int n), s, .un] := fun s =>
    compL_map (fun _ => .int 0) (fun d hd => ⟨[.vl 0 (.int n), s, .vl 0 d], [.vl 0 (.int n), s, .vl 0 d], by simp, by simp [e__law_blank_0], by simp⟩) (by rw [rangeD_len]; exact szN h)
  have e1 : compL [1] (gSet 1 0) mYes e__law_blank_1 (rangeD 0 n) [] [.vl 0 (.int n), .un, .un] = .ok ((rangeD 0 n).map fun _ => .lst ((rangeD 0 n).map fun _ => .int 0)) [.vl 0 (.int n), .un, .un] :=
    compL_map (fun _ => .lst ((rangeD 0 n).map fun _ => .int 0)) (fun d hd => ⟨[.vl 0 (.int n), .vl 0 d, .un], [.vl 0 (.int n), .vl 0 d, .un], by simp, by simp [e__law_blank_1, q_comp, rgN h, e0], by simp⟩) (by rw [rangeD_len]; exact szN h)
  simp [m__law_blank, b__law_blank, q_comp, rgN h, e1]
  simp [mat, row, rangeD]
/-- a graph on n things -/
def Gr (n : Nat) (g : Nat → Nat → Int) : Prop := ∀ i j, i < n → j < n → (g i j = 0 ∨ g i j = 1) ∧ g i j = g j i ∧ g i i = 0
theorem contrary_spec (n : Nat) (h : n ≤ 1000) (g : Nat → Nat → Int) : ∃ G, m__law_contrary [mat n g] = .ok (mat n G) [.non] ∧ ∀ i j, i < n → j < n → G i j = if i = j then 0 else 1 - g i j := by
  obtain ⟨G, x, y, z, e, hG⟩ := fill2 (n := n) (t1 := gSet 3 0) (t2 := gSet 4 0) (outer := l__law_contrary_1) (body := l__law_contrary_0) (fun G x y _ => [.vl 0 (mat n g), .vl 0 (.int n), .vl 2 (mat n G), x, y]) id (fun i j => if i = j then 0 else 1 - g i j) (fun i j _ _ e => e)
    (fun a G x y z ha => by simp) (fun a b G y z ha hb => by simp) (fun a G y z ha => by simp [l__law_contrary_1, rgN h])
    (fun a b G z ha hb => by
      refine ⟨z, ?_⟩
      by_cases hab : a = b
      · exact .inr ⟨by simp [l__law_contrary_0, hab], by simp [hab]⟩
      · refine .inl ?_
        simp [l__law_contrary_0, show ¬ ((a : Int) = b) by omega, ix_mat ha, ix_row hb]
        rw [cell_ok (n := n) (g := G) (p := a) (q := b) (by simp) (by simp) (by simp) ha hb]
        simp [hab]) .un .un .un
  refine ⟨G, ?_, hG⟩
  simp [m__law_contrary, b__law_contrary, blank_spec n h, rgN h]
  rw [e]
  simp
/-- the ties told to near -/
def prs (l : List (Nat × Nat)) : Dt := .lst (l.map fun p => .tup [.int (p.1 : Int), .int (p.2 : Int)])
theorem near_spec (n : Nat) (h : n ≤ 1000) (l : List (Nat × Nat)) (hl : ∀ p ∈ l, p.1 < n ∧ p.2 < n ∧ p.1 ≠ p.2) : ∃ G, m__law_near [.int (n : Int), prs l] = .ok (mat n G) [.non, .non] ∧ Gr n G := by
  obtain ⟨ε', e, G, s3, s4, _, rfl, hG, _, _⟩ := loop_ind (t := gUnp (gMore (gSet 3 0) (gMore (gSet 4 0) gNone))) (body := l__law_near_0) (fun ds ε => ∃ G s3 s4 r, ε = [.vl 0 (.int n), .vl 0 (prs l), .vl 2 (mat n G), s3, s4] ∧ Gr n G ∧ ds = r.map (fun p : Nat × Nat => .tup [.int (p.1 : Int), .int (p.2 : Int)]) ∧ ∀ p ∈ r, p.1 < n ∧ p.2 < n ∧ p.1 ≠ p.2)
    (by
      rintro d rest ε ⟨G, s3, s4, r, rfl, hG, hr, hp⟩
      cases r with
      | nil => cases hr
      | cons p r =>
        obtain ⟨a, b⟩ := p
        simp only [List.map_cons, List.cons.injEq] at hr
        obtain ⟨rfl, rfl⟩ := hr
        obtain ⟨ha, hb, hab⟩ := hp _ (List.mem_cons_self ..)
        refine ⟨[.vl 0 (.int n), .vl 0 (prs l), .vl 2 (mat n G), .vl 0 (.int a), .vl 0 (.int b)], [.vl 0 (.int n), .vl 0 (prs l), .vl 2 (mat n (upd2 (upd2 G a b 1) b a 1)), .vl 0 (.int a), .vl 0 (.int b)], by simp, .inl ?_, _, _, _, r, rfl, ?_, rfl, fun p hp' => hp p (List.mem_cons_of_mem _ hp')⟩
        · simp [l__law_near_0]
          rw [cell_ok (n := n) (g := G) (p := a) (q := b) (by simp) (by simp) (by simp) ha hb]
          simp
          rw [cell_ok (n := n) (g := upd2 G a b 1) (p := b) (q := a) (by simp) (by simp) (by simp) hb ha]
          simp
        · intro i j hi hj
          obtain ⟨g1, g2, g3⟩ := hG i j hi hj
          simp only [] at hab
          unfold upd2
          refine ⟨?_, ?_, ?_⟩
          · split
            · exact .inr rfl
            · split
              · exact .inr rfl
              · exact g1
          · by_cases c1 : i = b ∧ j = a <;> by_cases c2 : i = a ∧ j = b <;> simp [c1, c2] <;> (try split) <;> (try split) <;> (try omega)
            all_goals (first | exact g2 | (exfalso; omega) | rfl)
          · rw [if_neg (by omega), if_neg (by omega)]
            exact g3)
    (ds := l.map fun p : Nat × Nat => .tup [.int (p.1 : Int), .int (p.2 : Int)]) (ε := [.vl 0 (.int n), .vl 0 (prs l), .vl 2 (mat n fun _ _ => 0), .un, .un]) ⟨_, _, _, l, rfl, fun i j _ _ => ⟨.inl rfl, rfl, rfl⟩, rfl, hl⟩
  refine ⟨G, ?_, hG⟩
  have e0 : prs l = .lst (l.map fun p : Nat × Nat => .tup [.int (p.1 : Int), .int (p.2 : Int)]) := rfl
  simp [m__law_near, b__law_near, blank_spec n h]
  rw [e0]
  simp
  rw [← e0, e]
  simp
/-- a comprehension over range that makes pairs -/
theorem compP {vs : List Nat} {t : Dt → Ev → Rs Unit} {e : Ev → Rs Dt} {ε : Ev} {k : Nat} (u w : Nat → Nat) (hk : k ≤ 1000) (h : ∀ i : Nat, i < k → ∃ ε1 ε3, t (.int (i : Int)) ε = .ok () ε1 ∧ e ε1 = .ok (.tup [.int (u i : Nat), .int (w i : Nat)]) ε3 ∧ wipeE ε3 vs = ε) :
    compL vs t mYes e (rangeD 0 k) [] ε = .ok (((List.range k).map fun i => (u i, w i)).map fun p : Nat × Nat => .tup [.int (p.1 : Int), .int (p.2 : Int)]) ε := by
  have z := compL_map (vs := vs) (t := t) (e := e) (ε := ε) (fun d => match d with
    | .int i => .tup [.int (u i.toNat : Nat), .int (w i.toNat : Nat)]
    | d => d) (ds := rangeD 0 k) (fun d hd => by
      obtain ⟨i, hi, rfl⟩ := rangeD_mem hd
      obtain ⟨ε1, ε3, h1, h2, h3⟩ := h i hi
      exact ⟨ε1, ε3, by rw [Int.zero_add]; exact h1, by simpa using h2, h3⟩) (by rw [rangeD_len]; exact szN hk)
  rw [z]
  congr 1
  simp [rangeD]
theorem path_spec (k : Nat) (h : k + 1 ≤ 1000) : ∃ G, m__law_path [.int ((k + 1 : Nat) : Int)] = .ok (mat (k + 1) G) [.non] ∧ Gr (k + 1) G := by
  obtain ⟨G, e, hG⟩ := near_spec (k + 1) h ((List.range k).map fun i => (i, i + 1)) (fun p hp => by
    obtain ⟨i, hi, rfl⟩ := List.mem_map.mp hp
    have := List.mem_range.mp hi
    exact ⟨by simp only []; omega, by simp only []; omega, by simp only []; omega⟩)
  refine ⟨G, ?_, hG⟩
  have c := compP (vs := [1]) (t := gSet 1 0) (e := e__law_path_0) (ε := [.vl 0 (.int ((k + 1 : Nat) : Int)), .un]) (k := k) (fun i => i) (fun i => i + 1) (by omega) (fun i hi => ⟨[.vl 0 (.int ((k + 1 : Nat) : Int)), .vl 0 (.int i)], [.vl 0 (.int ((k + 1 : Nat) : Int)), .vl 0 (.int i)], by simp, by simp [e__law_path_0], by simp⟩)
  have e2 : ((k + 1 : Nat) : Int) - 1 = (k : Nat) := by omega
  have z : b__law_path [.vl 0 (.int ((k + 1 : Nat) : Int)), .un] = .rt (mat (k + 1) G) [.vl 0 (.int ((k + 1 : Nat) : Int)), .un] := by
    simp only [b__law_path, q_ret, q_call, q_cons, q_var, q_b1, q_nil, List.getElem?_cons_zero, q_vr, q_comp, q_rg1, q_op, q_sc, q_d3, f_sub, q_rz, q_z1, q_i1, e2, rgN (show k ≤ 1000 by omega), q_w1, q_w0]
    simp only [List.set_cons_succ, List.set_cons_zero, c, q_cpK]
    simp
    simp only [prs] at e
    simp at e
    rw [e]
    simp
  show finish [0] (b__law_path [.vl 0 (.int ((k + 1 : Nat) : Int)), .un]) = _
  rw [z]
  simp
theorem add_lst {l m : List Dt} (h : l.length + m.length ≤ sizeLine) : fAdd (.lst l) (.lst m) = some (.lst (l ++ m)) := by simp [fAdd, h]
theorem round_spec (k : Nat) (h0 : 1 ≤ k) (h : k + 1 ≤ 1000) : ∃ G, m__law_round [.int ((k + 1 : Nat) : Int)] = .ok (mat (k + 1) G) [.non] ∧ Gr (k + 1) G := by
  obtain ⟨G, e, hG⟩ := near_spec (k + 1) h (((List.range k).map fun i => (i, i + 1)) ++ [(0, k)]) (fun p hp => by
    rcases List.mem_append.mp hp with hp | hp
    · obtain ⟨i, hi, rfl⟩ := List.mem_map.mp hp
      have := List.mem_range.mp hi
      exact ⟨by simp only []; omega, by simp only []; omega, by simp only []; omega⟩
    · obtain rfl := List.mem_singleton.mp hp
      exact ⟨by simp only []; omega, by simp only []; omega, by simp only []; omega⟩)
  refine ⟨G, ?_, hG⟩
  have c := compP (vs := [1]) (t := gSet 1 0) (e := e__law_round_0) (ε := [.vl 0 (.int ((k + 1 : Nat) : Int)), .un]) (k := k) (fun i => i) (fun i => i + 1) (by omega) (fun i hi => ⟨[.vl 0 (.int ((k + 1 : Nat) : Int)), .vl 0 (.int i)], [.vl 0 (.int ((k + 1 : Nat) : Int)), .vl 0 (.int i)], by simp, by simp [e__law_round_0], by simp⟩)
  have e2 : ((k + 1 : Nat) : Int) - 1 = (k : Nat) := by omega
  have z : b__law_round [.vl 0 (.int ((k + 1 : Nat) : Int)), .un] = .rt (mat (k + 1) G) [.vl 0 (.int ((k + 1 : Nat) : Int)), .un] := by
    simp only [b__law_round, q_ret, q_call, q_cons, q_var, q_b1, q_nil, List.getElem?_cons_zero, q_vr, q_comp, q_rg1, q_op, q_sc, q_d3, f_sub, q_rz, q_z1, q_i1, e2, rgN (show k ≤ 1000 by omega), q_w1, q_w0]
    simp only [List.set_cons_succ, List.set_cons_zero, c, q_cpK]
    simp only [q_b1, q_lst, q_cons, q_tup, q_nil, q_sc, q_d3, q_op, q_var, q_vr, f_sub, q_rz, q_z1, e2, q_k1, q_k0, q_w1, q_w0, List.getElem?_cons_zero, List.getElem?_cons_succ, q_bku, List.set_cons_succ, List.set_cons_zero]
    rw [add_lst (by simp; exact szN h)]
    simp
    simp only [prs] at e
    simp at e
    rw [e]
    simp
  show finish [0] (b__law_round [.vl 0 (.int ((k + 1 : Nat) : Int)), .un]) = _
  rw [z]
  simp
/-! ### a graph as its square -/
def isG (n : Nat) (d : Dt) : Prop := ∃ G, d = mat n G ∧ Gr n G
theorem isG.gr {n : Nat} {G : Nat → Nat → Int} (h : Gr n G) : isG n (mat n G) := ⟨G, rfl, h⟩
theorem blank_g (n : Nat) (h : n ≤ 1000) : ∃ d, m__law_blank [.int (n : Int)] = .ok d [.non] ∧ isG n d := ⟨_, blank_spec n h, isG.gr fun _ _ _ _ => ⟨.inl rfl, rfl, rfl⟩⟩
theorem contrary_g (n : Nat) (h : n ≤ 1000) {d : Dt} (hd : isG n d) : ∃ d', m__law_contrary [d] = .ok d' [.non] ∧ isG n d' := by
  obtain ⟨g, rfl, hg⟩ := hd
  obtain ⟨G, e, hG⟩ := contrary_spec n h g
  refine ⟨_, e, isG.gr fun i j hi hj => ?_⟩
  obtain ⟨g1, g2, g3⟩ := hg i j hi hj
  refine ⟨?_, ?_, ?_⟩
  · rw [hG i j hi hj]
    split
    · exact .inl rfl
    · rcases g1 with g1 | g1 <;> rw [g1] <;> simp
  · rw [hG i j hi hj, hG j i hj hi, g2]
    by_cases c : i = j
    · rw [if_pos c, if_pos c.symm]
    · rw [if_neg c, if_neg fun z => c z.symm]
  · rw [hG i i hi hi, if_pos rfl]
theorem path_g (k : Nat) (h : k + 1 ≤ 1000) : ∃ d, m__law_path [.int ((k + 1 : Nat) : Int)] = .ok d [.non] ∧ isG (k + 1) d := by
  obtain ⟨G, e, hG⟩ := path_spec k h
  exact ⟨_, e, isG.gr hG⟩
theorem round_g (k : Nat) (h0 : 1 ≤ k) (h : k + 1 ≤ 1000) : ∃ d, m__law_round [.int ((k + 1 : Nat) : Int)] = .ok d [.non] ∧ isG (k + 1) d := by
  obtain ⟨G, e, hG⟩ := round_spec k h0 h
  exact ⟨_, e, isG.gr hG⟩
theorem near_g (n : Nat) (h : n ≤ 1000) (l : List (Nat × Nat)) (hl : ∀ p ∈ l, p.1 < n ∧ p.2 < n ∧ p.1 ≠ p.2) : ∃ d, m__law_near [.int (n : Int), prs l] = .ok d [.non, .non] ∧ isG n d := by
  obtain ⟨G, e, hG⟩ := near_spec n h l hl
  exact ⟨_, e, isG.gr hG⟩
theorem isG.len {n : Nat} {d : Dt} (h : isG n d) : bLen d = some (.sc (.int n)) := by
  obtain ⟨G, rfl, _⟩ := h
  exact len_mat
end Mir

set_option Elab.async false
set_option linter.all false
set_option maxRecDepth 100000
set_option maxHeartbeats 400000
/-! The law's own helpers, reckoned: 2. -/
namespace Mir
open PySem PySem.Spec PyProof.Rows L2 He
theorem ix_prs {l : List (Nat × Nat)} {i : Nat} (h : i < l.length) : fIx (prs l) (.int (i : Int)) = some (.el (.tup [.int (l[i].1 : Int), .int (l[i].2 : Int)])) := ix_lst (by simp [List.getElem?_map, h])
theorem ix_t0 {a b : Dt} : fIx (.tup [a, b]) (.int 0) = some (.el a) := by simp [fIx, atI, ixN]
theorem ix_t1 {a b : Dt} : fIx (.tup [a, b]) (.int 1) = some (.el b) := by simp [fIx, atI, ixN]
/-! ### orders -/
def nts (l : List Nat) : Dt := .lst (l.map fun i : Nat => .int (i : Int))
theorem erase_map {α β : Type} (f : α → β) : ∀ (l : List α) (r : Nat), (l.map f).eraseIdx r = (l.eraseIdx r).map f
  | [], _ => rfl
  | _ :: _, 0 => rfl
  | x :: l, r + 1 => by simp [erase_map f l r]
theorem erase_perm {α : Type} : ∀ {l : List α} {r : Nat} (h : r < l.length), (l[r] :: l.eraseIdx r).Perm l
  | x :: l, 0, _ => List.Perm.refl _
  | x :: l, r + 1, h => by
    have q := erase_perm (l := l) (r := r) (by simpa using h)
    simp only [List.getElem_cons_succ, List.eraseIdx_cons_succ]
    exact (List.Perm.swap _ _ _).trans (q.cons x)
theorem popAt_ok {l : List Nat} {r : Nat} (h : r < l.length) (hl : l.length ≤ 1000) : fPopAt (l.map fun i : Nat => Dt.int (i : Int)) [.int (r : Int)] = some (.int (l[r] : Int), (l.eraseIdx r).map fun i : Nat => Dt.int (i : Int)) := by
  have e : seqIndex? (r : Int) l.length = some r := by
    have := (ixN_seq (n := l.length) (i := (r : Int)) (j := r) (by rw [ixN_nat, if_pos h])).1
    exact this
  simp [fPopAt, smallR_nat (show r ≤ 100000 by omega), e, h, erase_map]
theorem row_spec (l : List Int) (n : Nat) (h : n ≤ 1000) : ∃ rl l', m__law_row [dr l, .int (n : Int)] = .ok (nts rl) [dr l', .non] ∧ rl.Perm (List.range n) := by
  obtain ⟨ε', e, l', left, rl, s4, rfl, hp, hl⟩ := loop_range (t := gSet 4 0) (body := l__law_row_0) (lo := 0) (n := n) (fun i ε => ∃ l left rl s4, ε = [.vl 1 (dr l), .vl 0 (.int n), .vl 1 (nts left), .vl 1 (nts rl), s4] ∧ (rl ++ left).Perm (List.range n) ∧ rl.length = i)
    (by
      rintro i ε hi ⟨l, left, rl, s4, rfl, hp, hl⟩
      have hn := hp.length_eq
      rw [List.length_append, List.length_range] at hn
      obtain ⟨r, l1, e1, hr⟩ := takeN l left.length (by omega)
      refine ⟨[.vl 1 (dr l), .vl 0 (.int n), .vl 1 (nts left), .vl 1 (nts rl), .vl 0 (.int i)], [.vl 1 (dr l1), .vl 0 (.int n), .vl 1 (nts (left.eraseIdx r)), .vl 1 (nts (rl ++ [left[r]])), .vl 0 (.int i)], by simp, .inl ?_, _, _, _, _, rfl, ?_, by simp [hl]⟩
      · have hs : (rl.map fun i : Nat => Dt.int (i : Int)).length < sizeLine := by rw [List.length_map]; exact small1000 (by omega)
        simp [l__law_row_0, nts, e1, popAt_ok hr (show left.length ≤ 1000 by omega), append_ok hs]
      · rw [List.append_assoc]
        exact (List.Perm.append_left _ (erase_perm hr)).trans hp)
    (ε := [.vl 1 (dr l), .vl 0 (.int n), .vl 1 (nts (List.range n)), .vl 1 (nts []), .un]) ⟨l, List.range n, [], _, rfl, by simp, rfl⟩
  have hn := hp.length_eq
  rw [List.length_append, List.length_range] at hn
  have hz : left = [] := List.length_eq_zero_iff.mp (by omega)
  rw [hz, List.append_nil] at hp
  refine ⟨rl, l', ?_, hp⟩
  have hg : rgB 0 (n : Int) = true := by
    unfold rgB
    rw [smallR_nat (by omega), show smallR 0 = true by decide]
    simp
    exact Nat.le_trans h (by decide)
  have hr0 : rangeD 0 n = (List.range n).map fun i : Nat => Dt.int (i : Int) := by simp [rangeD]
  simp [nts, hr0] at e
  simp [m__law_row, b__law_row, mLR1, mLR, intD, hg, rgN h, hr0, e]
  simp [nts]
theorem ix_nts {l : List Nat} {i : Nat} (h : i < l.length) : fIx (nts l) (.int (i : Int)) = some (.el (.int (l[i] : Int))) := ix_lst (by simp [List.getElem?_map, h])
/-- what a permutation's list gives -/
theorem perm_fn {rl : List Nat} {n : Nat} (hp : rl.Perm (List.range n)) : ∃ ρ : Nat → Nat, (∀ i (h : i < rl.length), rl[i] = ρ i) ∧ rl.length = n ∧ (∀ i, i < n → ρ i < n) ∧ (∀ i j, i < n → j < n → ρ i = ρ j → i = j) ∧ ∀ p, p < n → ∃ i, i < n ∧ ρ i = p := by
  have hl : rl.length = n := by rw [hp.length_eq, List.length_range]
  have hnd : rl.Nodup := hp.nodup_iff.mpr List.nodup_range
  refine ⟨fun i => if h : i < rl.length then rl[i] else 0, fun i h => (dif_pos h).symm, hl, fun i hi => ?_, fun i j hi hj e => ?_, fun p hp' => ?_⟩
  · simp only []
    rw [dif_pos (by omega)]
    exact List.mem_range.mp (hp.mem_iff.mp (List.getElem_mem _))
  · simp only [] at e
    rw [dif_pos (by omega), dif_pos (by omega)] at e
    exact (List.getElem_inj hnd).mp e
  · obtain ⟨i, hi, e⟩ := List.mem_iff_getElem.mp (hp.mem_iff.mpr (List.mem_range.mpr hp'))
    exact ⟨i, by omega, by simp only []; rw [dif_pos hi]; exact e⟩
theorem renamed_g (n : Nat) (h : n ≤ 1000) {d : Dt} (hd : isG n d) {rl : List Nat} (hp : rl.Perm (List.range n)) : ∃ d', m__law_renamed [d, nts rl] = .ok d' [.non, .non] ∧ isG n d' := by
  obtain ⟨g, rfl, hg⟩ := hd
  obtain ⟨ρ, h1, h2, h3, h4, h5⟩ := perm_fn hp
  have ixr : ∀ i, i < n → fIx (nts rl) (.int (i : Int)) = some (.el (.int (ρ i : Int))) := fun i hi => by rw [ix_nts (by omega), h1 i (by omega)]
  obtain ⟨G, x, y, z, e, hG⟩ := fill2 (n := n) (t1 := gSet 3 0) (t2 := gSet 4 0) (outer := l__law_renamed_1) (body := l__law_renamed_0) (fun G x y _ => [.vl 0 (mat n g), .vl 0 (nts rl), .vl 2 (mat n G), x, y]) ρ g h4
    (fun a G x y z ha => by simp) (fun a b G y z ha hb => by simp) (fun a G y z ha => by simp [l__law_renamed_1, rgN h])
    (fun a b G z ha hb => by
      refine ⟨z, .inl ?_⟩
      simp [l__law_renamed_0, ix_mat ha, ix_row hb]
      rw [cell_ok (n := n) (g := G) (p := ρ a) (q := ρ b) (by simp) (by simp [ixr a ha]) (by simp [ixr b hb]) (h3 a ha) (h3 b hb)]
      simp) .un .un .un
  refine ⟨mat n G, ?_, isG.gr fun i j hi hj => ?_⟩
  · simp [m__law_renamed, b__law_renamed, blank_spec n h, rgN h]
    rw [e]
    simp
  · obtain ⟨a, ha, rfl⟩ := h5 i hi
    obtain ⟨b, hb, rfl⟩ := h5 j hj
    rw [hG a b ha hb, hG b a hb ha, hG a a ha ha]
    exact hg a b ha hb
end Mir

set_option Elab.async false
set_option linter.all false
set_option maxRecDepth 100000
set_option maxHeartbeats 400000
/-! The law's own helpers, reckoned: 3. -/
namespace Mir
open PySem PySem.Spec PyProof.Rows L2 He
def lexT (p q : Nat × Nat) : Prop := p.1 < q.1 ∨ (p.1 = q.1 ∧ p.2 < q.2)
theorem rg2N {a n : Nat} (h : n ≤ 1000) (ha : a ≤ 1000) : rg2 (some ((a : Int) + 1, (n : Int))) = fun ε => .ok (rangeD ((a : Int) + 1) (n - (a + 1))) ε := by
  funext ε
  have e1 : smallR ((a : Int) + 1) = true := by
    have := smallR_nat (n := a + 1) (by omega)
    simpa using this
  rw [rg2_ok e1 (smallR_nat (by omega)), show ((n : Int) - ((a : Int) + 1)).toNat = n - (a + 1) by omega]
theorem prs_len {l : List (Nat × Nat)} (h : l.length ≤ 200000) : (l.map fun p : Nat × Nat => Dt.tup [.int (p.1 : Int), .int (p.2 : Int)]).length < sizeLine := by
  rw [List.length_map]
  exact Nat.lt_of_le_of_lt h (by decide)
theorem ties_spec (n : Nat) (h : n ≤ 100) (g : Nat → Nat → Int) : ∃ tl, m__law_ties [mat n g] = .ok (prs tl) [.non] ∧ (∀ a b, (a, b) ∈ tl ↔ a < b ∧ b < n ∧ g a b = 1) ∧ tl.Pairwise lexT ∧ tl.length ≤ 100000 := by
  obtain ⟨ε', e, tl, s2, s3, rfl, hm, hw, hl⟩ := loop_range (t := gSet 2 0) (body := l__law_ties_1) (lo := 0) (n := n) (fun a ε => ∃ tl s2 s3, ε = [.vl 0 (mat n g), .vl 1 (prs tl), s2, s3] ∧ (∀ i j, (i, j) ∈ tl ↔ i < a ∧ i < j ∧ j < n ∧ g i j = 1) ∧ tl.Pairwise lexT ∧ tl.length ≤ a * 1000)
    (by
      rintro a ε ha ⟨tl, s2, s3, rfl, hm, hw, hl⟩
      obtain ⟨ε', e, tl', s3', rfl, hm', hw', hl'⟩ := loop_range (t := gSet 3 0) (body := l__law_ties_0) (lo := (a : Int) + 1) (n := n - (a + 1)) (fun b ε => ∃ tl s3, ε = [.vl 0 (mat n g), .vl 1 (prs tl), .vl 0 (.int a), s3] ∧ (∀ i j, (i, j) ∈ tl ↔ (i < a ∨ (i = a ∧ j < a + 1 + b)) ∧ i < j ∧ j < n ∧ g i j = 1) ∧ tl.Pairwise lexT ∧ tl.length ≤ a * 1000 + b)
        (by
          rintro b ε hb ⟨tl, s3, rfl, hm, hw, hl⟩
          have hc : (a : Int) + 1 + (b : Int) = ((a + 1 + b : Nat) : Int) := by omega
          by_cases c : g a (a + 1 + b) = 1
          · refine ⟨[.vl 0 (mat n g), .vl 1 (prs tl), .vl 0 (.int a), .vl 0 (.int (a + 1 + b : Nat))], [.vl 0 (mat n g), .vl 1 (prs (tl ++ [(a, a + 1 + b)])), .vl 0 (.int a), .vl 0 (.int (a + 1 + b : Nat))], by rw [hc]; simp only [q_set, List.set_cons_succ, List.set_cons_zero], .inl ?_, _, _, rfl, fun i j => ?_, ?_, by simp; omega⟩
            · simp only [l__law_ties_0, q_if, q_mB, q_opD, q_op, q_var, List.getElem?_cons_zero, List.getElem?_cons_succ, q_vr, q_b1, ix_mat ha, q_rz, q_z4, ix_row (show a + 1 + b < n by omega), q_sc, q_d3, f_eqI, q_sc1, q_d2, q_asB, q_o1, c]
              simp [prs, append_ok (prs_len (l := tl) (by omega))]
            · rw [List.mem_append, hm, List.mem_singleton, Prod.mk.injEq]
              constructor
              · rintro (⟨q1, q2, q3, q4⟩ | ⟨rfl, rfl⟩)
                · exact ⟨by omega, q2, q3, q4⟩
                · exact ⟨by omega, by omega, by omega, c⟩
              · rintro ⟨q1, q2, q3, q4⟩
                by_cases d : i = a ∧ j = a + 1 + b
                · exact .inr d
                · exact .inl ⟨by omega, q2, q3, q4⟩
            · refine List.pairwise_append.mpr ⟨hw, List.pairwise_singleton _ _, fun p hp q hq => ?_⟩
              obtain rfl := List.mem_singleton.mp hq
              obtain ⟨i, j⟩ := p
              have := (hm i j).mp hp
              unfold lexT
              simp only []
              omega
          · refine ⟨[.vl 0 (mat n g), .vl 1 (prs tl), .vl 0 (.int a), .vl 0 (.int (a + 1 + b : Nat))], [.vl 0 (mat n g), .vl 1 (prs tl), .vl 0 (.int a), .vl 0 (.int (a + 1 + b : Nat))], by rw [hc]; simp only [q_set, List.set_cons_succ, List.set_cons_zero], .inl ?_, _, _, rfl, fun i j => ?_, hw, by omega⟩
            · simp only [l__law_ties_0, q_if, q_mB, q_opD, q_op, q_var, List.getElem?_cons_zero, List.getElem?_cons_succ, q_vr, q_b1, ix_mat ha, q_rz, q_z4, ix_row (show a + 1 + b < n by omega), q_sc, q_d3, f_eqI, q_sc1, q_d2, q_asB, q_o1, c]
              simp
            · rw [hm]
              constructor
              · rintro ⟨q1, q2, q3, q4⟩
                exact ⟨by omega, q2, q3, q4⟩
              · rintro ⟨q1, q2, q3, q4⟩
                by_cases d : i = a ∧ j = a + 1 + b
                · rw [d.1, d.2] at q4
                  exact absurd q4 c
                · exact ⟨by omega, q2, q3, q4⟩)
        (ε := [.vl 0 (mat n g), .vl 1 (prs tl), .vl 0 (.int a), s3]) ⟨tl, s3, rfl, fun i j => by
          rw [hm]
          constructor
          · rintro ⟨q1, q2, q3, q4⟩
            exact ⟨by omega, q2, q3, q4⟩
          · rintro ⟨q1, q2, q3, q4⟩
            exact ⟨by omega, q2, q3, q4⟩, hw, by omega⟩
      refine ⟨[.vl 0 (mat n g), .vl 1 (prs tl), .vl 0 (.int a), s3], _, by simp, .inl ?_, tl', .vl 0 (.int a), s3', rfl, fun i j => ?_, hw', by omega⟩
      · simp [l__law_ties_1, rg2N (show n ≤ 1000 by omega) (show a ≤ 1000 by omega)]
        exact e
      · rw [hm']
        constructor
        · rintro ⟨q1, q2, q3, q4⟩
          exact ⟨by omega, q2, q3, q4⟩
        · rintro ⟨q1, q2, q3, q4⟩
          exact ⟨by omega, q2, q3, q4⟩)
    (ε := [.vl 0 (mat n g), .vl 1 (prs []), .un, .un]) ⟨[], _, _, rfl, fun i j => by simp, List.Pairwise.nil, by simp⟩
  refine ⟨tl, ?_, fun i j => ?_, hw, by omega⟩
  · simp [prs] at e
    simp [m__law_ties, b__law_ties, rgN (show n ≤ 1000 by omega), e]
    simp [prs]
  · rw [hm]
    constructor
    · rintro ⟨q1, q2, q3, q4⟩
      exact ⟨q2, q3, q4⟩
    · rintro ⟨q1, q2, q3⟩
      exact ⟨by omega, q1, q2, q3⟩
theorem any_ties_g (l : List Int) (n : Nat) (h : n ≤ 100) : ∃ d l', m__law_any_ties [dr l, .int (n : Int)] = .ok d [dr l', .non] ∧ isG n d := by
  obtain ⟨r0, l0, e0, hr0⟩ := takeN l 4 (by omega)
  simp at e0
  obtain ⟨ε', e, l', tl, s4, s5, rfl, hm, hl⟩ := loop_range (t := gSet 4 0) (body := l__law_any_ties_1) (lo := 0) (n := n) (fun a ε => ∃ l tl s4 s5, ε = [.vl 1 (dr l), .vl 0 (.int n), .vl 0 (.int (1 + (r0 : Int))), .vl 1 (prs tl), s4, s5] ∧ (∀ p ∈ tl, p.1 < p.2 ∧ p.2 < n) ∧ tl.length ≤ a * 1000)
    (by
      rintro a ε ha ⟨l, tl, s4, s5, rfl, hm, hl⟩
      obtain ⟨ε', e, l', tl', s5', rfl, hm', hl'⟩ := loop_range (t := gSet 5 0) (body := l__law_any_ties_0) (lo := (a : Int) + 1) (n := n - (a + 1)) (fun b ε => ∃ l tl s5, ε = [.vl 1 (dr l), .vl 0 (.int n), .vl 0 (.int (1 + (r0 : Int))), .vl 1 (prs tl), .vl 0 (.int a), s5] ∧ (∀ p ∈ tl, p.1 < p.2 ∧ p.2 < n) ∧ tl.length ≤ a * 1000 + b)
        (by
          rintro b ε hb ⟨l, tl, s5, rfl, hm, hl⟩
          have hc : (a : Int) + 1 + (b : Int) = ((a + 1 + b : Nat) : Int) := by omega
          obtain ⟨r, l1, e1, hr⟩ := takeN l 5 (by omega)
          simp at e1
          by_cases c : (r : Int) < 1 + r0
          · refine ⟨[.vl 1 (dr l), .vl 0 (.int n), .vl 0 (.int (1 + (r0 : Int))), .vl 1 (prs tl), .vl 0 (.int a), .vl 0 (.int (a + 1 + b : Nat))], [.vl 1 (dr l1), .vl 0 (.int n), .vl 0 (.int (1 + (r0 : Int))), .vl 1 (prs (tl ++ [(a, a + 1 + b)])), .vl 0 (.int a), .vl 0 (.int (a + 1 + b : Nat))], by rw [hc]; simp only [q_set, List.set_cons_succ, List.set_cons_zero], .inl ?_, _, _, _, rfl, fun p hp => ?_, by simp; omega⟩
            · simp [l__law_any_ties_0, prs, e1, c, append_ok (prs_len (l := tl) (by omega))]
            · rcases List.mem_append.mp hp with hp | hp
              · exact hm p hp
              · obtain rfl := List.mem_singleton.mp hp
                simp only []
                omega
          · refine ⟨[.vl 1 (dr l), .vl 0 (.int n), .vl 0 (.int (1 + (r0 : Int))), .vl 1 (prs tl), .vl 0 (.int a), .vl 0 (.int (a + 1 + b : Nat))], [.vl 1 (dr l1), .vl 0 (.int n), .vl 0 (.int (1 + (r0 : Int))), .vl 1 (prs tl), .vl 0 (.int a), .vl 0 (.int (a + 1 + b : Nat))], by rw [hc]; simp only [q_set, List.set_cons_succ, List.set_cons_zero], .inl (by simp [l__law_any_ties_0, e1, c]), _, _, _, rfl, hm, by omega⟩)
        (ε := [.vl 1 (dr l), .vl 0 (.int n), .vl 0 (.int (1 + (r0 : Int))), .vl 1 (prs tl), .vl 0 (.int a), s5]) ⟨l, tl, s5, rfl, hm, by omega⟩
      refine ⟨[.vl 1 (dr l), .vl 0 (.int n), .vl 0 (.int (1 + (r0 : Int))), .vl 1 (prs tl), .vl 0 (.int a), s5], _, by simp, .inl ?_, l', tl', .vl 0 (.int a), s5', rfl, hm', by omega⟩
      simp [l__law_any_ties_1, rg2N (show n ≤ 1000 by omega) (show a ≤ 1000 by omega)]
      exact e)
    (ε := [.vl 1 (dr l0), .vl 0 (.int n), .vl 0 (.int (1 + (r0 : Int))), .vl 1 (prs []), .un, .un]) ⟨l0, [], _, _, rfl, by simp, by simp⟩
  obtain ⟨d, e2, hd⟩ := near_g n (by omega) tl fun p hp => by
    have := hm p hp
    omega
  refine ⟨d, l', ?_, hd⟩
  simp [prs] at e e2
  simp [m__law_any_ties, b__law_any_ties, e0, rgN (show n ≤ 1000 by omega), e, e2]
end Mir

set_option Elab.async false
set_option linter.all false
set_option maxRecDepth 100000
set_option maxHeartbeats 400000
/-! The law's own helpers, reckoned: 4. -/
namespace Mir
open PySem PySem.Spec PyProof.Rows L2 He
theorem compL_mapf {ι : Type} {vs : List Nat} {t : Dt → Ev → Rs Unit} {e : Ev → Rs Dt} {ε : Ev} (u F : ι → Dt) : ∀ {xs : List ι} {acc : List Dt} (_ : ∀ x ∈ xs, ∃ ε1 ε3, t (u x) ε = .ok () ε1 ∧ e ε1 = .ok (F x) ε3 ∧ wipeE ε3 vs = ε) (_ : acc.length + xs.length ≤ sizeLine), compL vs t mYes e (xs.map u) acc ε = .ok (acc ++ xs.map F) ε
  | [], acc, _, _ => by simp [compL]
  | x :: xs, acc, h, hl => by
    obtain ⟨ε1, ε3, h1, h2, h3⟩ := h x (List.mem_cons_self ..)
    have hr : ∀ y ∈ xs, _ := fun y hy => h y (List.mem_cons_of_mem _ hy)
    rw [List.length_cons] at hl
    rw [List.map_cons]
    unfold compL
    rw [h1]
    simp only [q_yes, h2, h3]
    rw [if_pos (by omega), compL_mapf u F hr (by simp; omega)]
    simp
theorem eqIx_mem : ∀ {rl : List Nat} {a : Nat}, a ∈ rl → ∃ j, eqIx (V.int (a : Int)) (rl.map fun i : Nat => V.int (i : Int)) = some j ∧ rl[j]? = some a
  | x :: rl, a, h => by
    by_cases c : x = a
    · subst c
      exact ⟨0, by simp [eqIx, eqV], rfl⟩
    · have hm : a ∈ rl := by
        rcases List.mem_cons.mp h with z | z
        · exact absurd z.symm c
        · exact z
      obtain ⟨j, e1, e2⟩ := eqIx_mem hm
      refine ⟨j + 1, ?_, by simpa using e2⟩
      rw [List.map_cons]
      unfold eqIx
      rw [if_neg (by simp [eqV]; omega), e1]
      rfl
theorem scDs_nts : ∀ rl : List Nat, scDs (rl.map fun i : Nat => Dt.int (i : Int)) = some (rl.map fun i : Nat => V.int (i : Int))
  | [] => rfl
  | x :: rl => by
    rw [List.map_cons]
    unfold scDs
    rw [scDs_nts rl]
    rfl
theorem blsD_map : ∀ bs : List Bool, blsD (bs.map Dt.bl) = some bs
  | [] => rfl
  | b :: bs => by
    rw [List.map_cons]
    unfold blsD
    rw [blsD_map bs]
    rfl
/-- where a number stands in an order -/
def whr (rl : List Nat) (a : Nat) : Nat := (eqIx (V.int (a : Int)) (rl.map fun i : Nat => V.int (i : Int))).getD 0
theorem whr_ok {rl : List Nat} {n a : Nat} (hp : rl.Perm (List.range n)) (ha : a < n) : fIndex (rl.map fun i : Nat => Dt.int (i : Int)) [.int (a : Int)] = some (.int (whr rl a : Int)) ∧ rl[whr rl a]? = some a := by
  obtain ⟨j, e1, e2⟩ := eqIx_mem (hp.mem_iff.mpr (List.mem_range.mpr ha))
  have e3 : whr rl a = j := by simp [whr, e1]
  refine ⟨?_, by rw [e3]; exact e2⟩
  unfold fIndex
  rw [scDs_nts, e3]
  simp [one1, scD, e1]
theorem mIdx_ok {rl : List Nat} {n a : Nat} {ε : Ev} {fo : Ev → Rs Dt} {fa : Ev → Rs (List Dt)} (hp : rl.Perm (List.range n)) (ha : a < n) (h1 : fo ε = .ok (nts rl) ε) (h2 : fa ε = .ok [.int (a : Int)] ε) : mIndex fo fa ε = .ok (.int (whr rl a : Int)) ε := by
  unfold mIndex
  rw [h1]
  simp only [q_b1, nts, lstD, mOpt, h2, (whr_ok hp ha).1]
theorem agree_g (n : Nat) (h : n ≤ 1000) (r0 : List Nat) (rls : List (List Nat)) (hp : ∀ rl ∈ r0 :: rls, rl.Perm (List.range n)) (hl : (r0 :: rls).length ≤ 1000) : ∃ d, m__law_agree [.lst ((r0 :: rls).map nts)] = .ok d [.non] ∧ isG n d := by
  obtain ⟨R, hR⟩ : ∃ R, R = r0 :: rls := ⟨_, rfl⟩
  rw [← hR] at hp hl ⊢
  have hw : ∀ a b, a < n → b < n → ∀ (G : Nat → Nat → Int) (z : Sl), compL [6] (gSet 6 0) mYes e__law_agree_0 (R.map nts) [] [.vl 0 (.lst (R.map nts)), .vl 0 (.int n), .vl 2 (mat n G), .vl 0 (.int a), .vl 0 (.int b), z, .un] =
      .ok ((R.map fun rl => decide (whr rl a < whr rl b)).map Dt.bl) [.vl 0 (.lst (R.map nts)), .vl 0 (.int n), .vl 2 (mat n G), .vl 0 (.int a), .vl 0 (.int b), z, .un] := fun a b ha hb G z => by
    rw [compL_mapf nts (fun rl => .bl (decide (whr rl a < whr rl b))) (xs := R) (acc := []) (fun rl hrl => by
      refine ⟨[.vl 0 (.lst (R.map nts)), .vl 0 (.int n), .vl 2 (mat n G), .vl 0 (.int a), .vl 0 (.int b), z, .vl 0 (nts rl)], [.vl 0 (.lst (R.map nts)), .vl 0 (.int n), .vl 2 (mat n G), .vl 0 (.int a), .vl 0 (.int b), z, .vl 0 (nts rl)], by simp, ?_, by simp⟩
      simp only [e__law_agree_0, q_opD]
      rw [mIdx_ok (hp rl hrl) ha (by simp) (by simp)]
      simp only [q_b1]
      rw [mIdx_ok (hp rl hrl) hb (by simp) (by simp)]
      simp) (by simp; exact szN hl)]
    simp
  obtain ⟨G, x, y, z, e, hG⟩ := fill2 (n := n) (t1 := gSet 3 0) (t2 := gSet 4 0) (outer := l__law_agree_2) (body := l__law_agree_1) (fun G x y z => [.vl 0 (.lst (R.map nts)), .vl 0 (.int n), .vl 2 (mat n G), x, y, z, .un]) id
    (fun a b => if a ≠ b ∧ ((R.map fun rl => decide (whr rl a < whr rl b)).all id = true ∨ (R.map fun rl => decide (whr rl a < whr rl b)).any id = false) then 1 else 0) (fun i j _ _ e => e)
    (fun a G x y z ha => by simp) (fun a b G y z ha hb => by simp) (fun a G y z ha => by simp [l__law_agree_2, rgN h])
    (fun a b G z ha hb => by
      refine ⟨.vl 0 (.lst ((R.map fun rl => decide (whr rl a < whr rl b)).map Dt.bl)), ?_⟩
      obtain ⟨W, hW⟩ : ∃ W, W = R.map fun rl => decide (whr rl a < whr rl b) := ⟨_, rfl⟩
      have hw' := hw a b ha hb G z
      rw [← hW] at hw' ⊢
      have hall : bAll (.lst (W.map Dt.bl)) = some (.sc (.bl (W.all id))) := by simp [bAll, fAll, blsD_map]
      have hany : bAny (.lst (W.map Dt.bl)) = some (.sc (.bl (W.any id))) := by simp [bAny, fAny, blsD_map]
      by_cases c1 : a = b
      · refine .inr ⟨?_, if_neg fun z => z.1 c1⟩
        simp only [l__law_agree_1, q_seq, q_asg, q_comp, q_iter, q_var, List.getElem?_cons_zero, q_vr, q_b1, q_itL, q_w1, q_w0, List.set_cons_succ, List.set_cons_zero, hw', q_cpK, q_o1, q_set, q_a1, q_s1]
        simp [c1]
      · cases ha1 : W.all id with
        | true =>
          refine .inl ?_
          simp only [l__law_agree_1, q_seq, q_asg, q_comp, q_iter, q_var, List.getElem?_cons_zero, q_vr, q_b1, q_itL, q_w1, q_w0, List.set_cons_succ, List.set_cons_zero, hw', q_cpK, q_o1, q_set, q_a1, q_s1]
          simp only [q_if, q_and, q_or, q_mB, q_opD, q_varD, q_k1, q_k0, q_bku, List.getElem?_cons_zero, List.getElem?_cons_succ, q_vrD, q_b1, f_neI, q_sc1, q_d2, q_asB, q_tru, q_un, q_var, q_vr, hall, ha1, q_rz, q_z1, q_trb, q_opt1, show ¬ ((a : Int) = b) by omega, List.set_cons_succ, List.set_cons_zero]
          simp
          rw [cell_ok (n := n) (g := G) (p := a) (q := b) (by simp) (by simp) (by simp) ha hb]
          simp [c1]
        | false =>
          cases hb1 : W.any id with
          | true =>
            refine .inr ⟨?_, if_neg fun z => by rcases z.2 with z | z <;> cases z⟩
            simp only [l__law_agree_1, q_seq, q_asg, q_comp, q_iter, q_var, List.getElem?_cons_zero, q_vr, q_b1, q_itL, q_w1, q_w0, List.set_cons_succ, List.set_cons_zero, hw', q_cpK, q_o1, q_set, q_a1, q_s1]
            simp only [q_if, q_and, q_or, q_not, q_mB, q_opD, q_varD, q_k1, q_k0, q_bku, List.getElem?_cons_zero, List.getElem?_cons_succ, q_vrD, q_b1, f_neI, q_sc1, q_d2, q_asB, q_tru, q_un, q_var, q_vr, hall, hany, ha1, hb1, q_rz, q_z1, q_trb, q_opt1, show ¬ ((a : Int) = b) by omega, List.set_cons_succ, List.set_cons_zero]
            simp
          | false =>
            refine .inl ?_
            simp only [l__law_agree_1, q_seq, q_asg, q_comp, q_iter, q_var, List.getElem?_cons_zero, q_vr, q_b1, q_itL, q_w1, q_w0, List.set_cons_succ, List.set_cons_zero, hw', q_cpK, q_o1, q_set, q_a1, q_s1]
            simp only [q_if, q_and, q_or, q_not, q_mB, q_opD, q_varD, q_k1, q_k0, q_bku, List.getElem?_cons_zero, List.getElem?_cons_succ, q_vrD, q_b1, f_neI, q_sc1, q_d2, q_asB, q_tru, q_un, q_var, q_vr, hall, hany, ha1, hb1, q_rz, q_z1, q_trb, q_opt1, show ¬ ((a : Int) = b) by omega, List.set_cons_succ, List.set_cons_zero]
            simp
            rw [cell_ok (n := n) (g := G) (p := a) (q := b) (by simp) (by simp) (by simp) ha hb]
            simp [c1]) .un .un .un
  refine ⟨mat n G, ?_, isG.gr fun i j hi hj => ?_⟩
  · have hlen : bLen (nts r0) = some (.sc (.int n)) := by
      have := (hp r0 (by rw [hR]; exact List.mem_cons_self ..)).length_eq
      rw [List.length_range] at this
      simp [nts, this]
    have h0 : fIx (.lst (R.map nts)) (.int 0) = some (.el (nts r0)) := by
      have := ix_lst (l := R.map nts) (i := 0) (d := nts r0) (by rw [hR]; rfl)
      simpa using this
    simp only [m__law_agree, b__law_agree, q_fn, q_ent, q_en, q_en0, List.cons_append, List.nil_append, List.replicate, q_seq, q_asg, q_un, q_op, q_var, List.getElem?_cons_zero, q_vr, q_b1, q_sc, q_d3, h0, q_rz, q_z4, hlen, q_z1, q_o1, q_set, q_a1, q_s1, List.set_cons_succ, List.set_cons_zero]
    simp [blank_spec n h, rgN h]
    rw [e]
    simp
  · have key : ∀ a b, a < n → b < n → a ≠ b → ((R.map fun rl => decide (whr rl a < whr rl b)).all id = true ∨ (R.map fun rl => decide (whr rl a < whr rl b)).any id = false) → ((R.map fun rl => decide (whr rl b < whr rl a)).all id = true ∨ (R.map fun rl => decide (whr rl b < whr rl a)).any id = false) := by
      intro a b ha hb hab q
      have ne : ∀ rl ∈ R, whr rl a ≠ whr rl b := fun rl hrl z => by
        have z1 := (whr_ok (hp rl hrl) ha).2
        have z2 := (whr_ok (hp rl hrl) hb).2
        rw [z, z2] at z1
        exact hab (Option.some.inj z1).symm
      simp only [List.all_map, List.all_eq_true, List.any_map, List.any_eq_false, Function.comp, id, decide_eq_true_eq] at q ⊢
      rcases q with q | q
      · exact .inr fun rl hrl z => by have := q rl hrl; omega
      · exact .inl fun rl hrl => by have := q rl hrl; have := ne rl hrl; omega
    have q1 := hG i j hi hj
    have q2 := hG j i hj hi
    have q3 := hG i i hi hi
    simp only [id] at q1 q2 q3
    rw [q1, q2, q3]
    refine ⟨?_, ?_, if_neg fun z => z.1 rfl⟩
    · split
      · exact .inr rfl
      · exact .inl rfl
    · by_cases c : i = j
      · rw [if_neg fun z => z.1 c, if_neg fun z => z.1 c.symm]
      · split
        · rename_i z
          exact (if_pos ⟨fun w => c w.symm, key i j hi hj c z.2⟩).symm
        · rename_i z
          exact (if_neg fun w => z ⟨c, key j i hj hi (fun u => c u.symm) w.2⟩).symm
end Mir

set_option Elab.async false
set_option linter.all false
set_option maxRecDepth 100000
set_option maxHeartbeats 400000
/-! The law's own helpers, reckoned: 5. -/
namespace Mir
open PySem PySem.Spec PyProof.Rows L2 He
theorem compL_fmf {ι : Type} {vs : List Nat} {t : Dt → Ev → Rs Unit} {c : Ev → Rs Bool} {e : Ev → Rs Dt} {ε : Ev} (u F : ι → Dt) (p : ι → Bool) : ∀ {xs : List ι} {acc : List Dt} (_ : ∀ x ∈ xs, ∃ ε1 ε2, t (u x) ε = .ok () ε1 ∧ c ε1 = .ok (p x) ε2 ∧ (p x = true → ∃ ε3, e ε2 = .ok (F x) ε3 ∧ wipeE ε3 vs = ε) ∧ (p x = false → wipeE ε2 vs = ε))
    (_ : acc.length + xs.length ≤ sizeLine), compL vs t c e (xs.map u) acc ε = .ok (acc ++ (xs.filter p).map F) ε
  | [], acc, _, _ => by simp [compL]
  | x :: xs, acc, h, hl => by
    obtain ⟨ε1, ε2, h1, h2, h3, h4⟩ := h x (List.mem_cons_self ..)
    have hr : ∀ y ∈ xs, _ := fun y hy => h y (List.mem_cons_of_mem _ hy)
    rw [List.length_cons] at hl
    rw [List.map_cons]
    unfold compL
    rw [h1]
    simp only []
    rw [h2]
    cases hp : p x with
    | true =>
      obtain ⟨ε3, h5, h6⟩ := h3 hp
      simp only [h5, h6]
      rw [if_pos (by omega), compL_fmf u F p hr (by simp; omega)]
      simp [hp]
    | false =>
      simp only [h4 hp]
      rw [compL_fmf u F p hr (by omega)]
      simp [hp]
theorem rangeD_nts (n : Nat) : rangeD 0 n = (List.range n).map fun i : Nat => Dt.int (i : Int) := by simp [rangeD]
theorem graft_g (n k : Nat) (h : n + k ≤ 1000) {d d' : Dt} (hd : isG n d) (hd' : isG k d') (th : Nat) (ht : th < n) : ∃ r, m__law_graft [d, .int (th : Int), d'] = .ok r [.non, .non, .non] ∧ isG (n - 1 + k) r := by
  obtain ⟨g, rfl, hg⟩ := hd
  obtain ⟨gg, rfl, hgg⟩ := hd'
  obtain ⟨ol, hol⟩ : ∃ ol, ol = (List.range n).filter fun i => decide (i ≠ th) := ⟨_, rfl⟩
  have hlen : ol.length = n - 1 := by
    have e := List.Nodup.erase_eq_filter (l := List.range n) List.nodup_range th
    have e2 : ol = (List.range n).erase th := by
      rw [e, hol]
      apply List.filter_congr
      intro x _
      by_cases c : x = th <;> simp [c]
    rw [e2, List.length_erase_of_mem (List.mem_range.mpr ht), List.length_range]
  obtain ⟨f, hf⟩ : ∃ f : Nat → Nat, ∀ i (hi : i < ol.length), f i = ol[i] := ⟨fun i => if hi : i < ol.length then ol[i] else 0, fun i hi => dif_pos hi⟩
  have fl : ∀ i, i < n - 1 → f i < n ∧ f i ≠ th := fun i hi => by
    rw [hf i (by omega)]
    have hm : ol[i]'(by omega) ∈ (List.range n).filter fun i => decide (i ≠ th) := by rw [← hol]; exact List.getElem_mem _
    have := List.mem_filter.mp hm
    exact ⟨List.mem_range.mp this.1, of_decide_eq_true this.2⟩
  have ixo : ∀ i, i < n - 1 → fIx (nts ol) (.int (i : Int)) = some (.el (.int (f i : Int))) := fun i hi => by rw [ix_nts (by omega), hf i (by omega)]
  have lo : bLen (nts ol) = some (.sc (.int ((n - 1 : Nat) : Int))) := by simp [nts, hlen]
  have hc : compL [6] (gSet 6 0) c__law_graft_0 e__law_graft_0 (rangeD 0 n) [] [.vl 0 (mat n g), .vl 0 (.int th), .vl 0 (mat k gg), .un, .un, .un, .un, .un] = .ok (ol.map fun i : Nat => .int (i : Int)) [.vl 0 (mat n g), .vl 0 (.int th), .vl 0 (mat k gg), .un, .un, .un, .un, .un] := by
    rw [rangeD_nts, compL_fmf (fun i : Nat => Dt.int (i : Int)) (fun i : Nat => Dt.int (i : Int)) (fun i => decide (i ≠ th)) (xs := List.range n) (acc := []) (fun i hi => by
      refine ⟨[.vl 0 (mat n g), .vl 0 (.int th), .vl 0 (mat k gg), .un, .un, .un, .vl 0 (.int i), .un], [.vl 0 (mat n g), .vl 0 (.int th), .vl 0 (mat k gg), .un, .un, .un, .vl 0 (.int i), .un], by simp, ?_, fun _ => ⟨[.vl 0 (mat n g), .vl 0 (.int th), .vl 0 (mat k gg), .un, .un, .un, .vl 0 (.int i), .un], by simp [e__law_graft_0], by simp⟩, fun _ => by simp⟩
      by_cases c : i = th
      · simp [c__law_graft_0, c]
      · simp [c__law_graft_0, c, show ¬ ((i : Int) = th) by omega]) (by simp; exact szN (by omega)), ← hol]
    simp
  obtain ⟨G, x, y, z, e, hG⟩ := fill2 (n := n - 1 + k) (t1 := gSet 6 0) (t2 := gSet 7 0) (outer := l__law_graft_2) (body := l__law_graft_1) (fun G x y _ => [.vl 0 (mat n g), .vl 0 (.int th), .vl 0 (mat k gg), .vl 0 (nts ol), .vl 0 (.int ((n - 1 + k : Nat) : Int)), .vl 2 (mat (n - 1 + k) G), x, y]) id
    (fun a b => if a < n - 1 then (if b < n - 1 then g (f a) (f b) else g (f a) th) else (if b < n - 1 then g th (f b) else gg (a - (n - 1)) (b - (n - 1)))) (fun i j _ _ e => e)
    (fun a G x y z ha => by simp) (fun a b G y z ha hb => by simp)
    (fun a G y z ha => by
      simp only [l__law_graft_2, q_for, q_rg1, q_cons, q_var, q_b1, q_nil, List.getElem?_cons_zero, List.getElem?_cons_succ, q_vr, q_i1, rgN (show n - 1 + k ≤ 1000 by omega), q_o1])
    (fun a b G z ha hb => by
      refine ⟨z, .inl ?_⟩
      by_cases c1 : a < n - 1 <;> by_cases c2 : b < n - 1
      · have w1 : ((a : Int) < ((n - 1 : Nat) : Int)) := by omega
        have w2 : ((b : Int) < ((n - 1 : Nat) : Int)) := by omega
        simp only [l__law_graft_1, q_if, q_and, q_mB, q_opD, q_varD, q_un, q_var, List.getElem?_cons_zero, List.getElem?_cons_succ, q_vrD, q_vr, q_b1, lo, q_rz, q_z1, q_d3, f_lt, q_sc1, q_d2, q_asB, w1, w2, decide_true, if_true, q_o1, q_asg, q_op, ixo a c1, ixo b c2, q_z4, ix_mat (fl a c1).1, ix_row (fl b c2).1]
        rw [cell_ok (n := n - 1 + k) (g := G) (p := a) (q := b) (by simp) (by simp) (by simp) ha hb]
        simp [c1, c2]
      · have w1 : ((a : Int) < ((n - 1 : Nat) : Int)) := by omega
        have w2 : ¬ ((b : Int) < ((n - 1 : Nat) : Int)) := by omega
        have w3 : ¬ (((n - 1 : Nat) : Int) ≤ (a : Int)) := by omega
        simp only [l__law_graft_1, q_if, q_and, q_mB, q_opD, q_varD, q_un, q_var, List.getElem?_cons_zero, List.getElem?_cons_succ, q_vrD, q_vr, q_b1, lo, q_rz, q_z1, q_d3, f_lt, f_ge, q_sc1, q_d2, q_asB, w1, w2, w3, decide_true, decide_false, if_true, Bool.false_eq_true, if_false, q_o1, q_asg, q_op, ixo a c1, q_z4, ix_mat (fl a c1).1, ix_row ht]
        rw [cell_ok (n := n - 1 + k) (g := G) (p := a) (q := b) (by simp) (by simp) (by simp) ha hb]
        simp [c1, c2]
      · have w1 : ¬ ((a : Int) < ((n - 1 : Nat) : Int)) := by omega
        have w2 : ((b : Int) < ((n - 1 : Nat) : Int)) := by omega
        have w3 : (((n - 1 : Nat) : Int) ≤ (a : Int)) := by omega
        have w4 : ¬ (((n - 1 : Nat) : Int) ≤ (b : Int)) := by omega
        simp only [l__law_graft_1, q_if, q_and, q_mB, q_opD, q_varD, q_un, q_var, List.getElem?_cons_zero, List.getElem?_cons_succ, q_vrD, q_vr, q_b1, lo, q_rz, q_z1, q_d3, f_lt, f_ge, q_sc1, q_d2, q_asB, w1, w2, w3, w4, decide_true, decide_false, if_true, Bool.false_eq_true, if_false, q_o1, q_asg, q_op, ixo b c2, q_z4, ix_mat ht, ix_row (fl b c2).1]
        rw [cell_ok (n := n - 1 + k) (g := G) (p := a) (q := b) (by simp) (by simp) (by simp) ha hb]
        simp [c1, c2]
      · have w1 : ¬ ((a : Int) < ((n - 1 : Nat) : Int)) := by omega
        have w3 : (((n - 1 : Nat) : Int) ≤ (a : Int)) := by omega
        have w4 : (((n - 1 : Nat) : Int) ≤ (b : Int)) := by omega
        have s1 : (a : Int) - ((n - 1 : Nat) : Int) = ((a - (n - 1) : Nat) : Int) := by omega
        have s2 : (b : Int) - ((n - 1 : Nat) : Int) = ((b - (n - 1) : Nat) : Int) := by omega
        simp only [l__law_graft_1, q_if, q_and, q_mB, q_opD, q_varD, q_un, q_var, List.getElem?_cons_zero, List.getElem?_cons_succ, q_vrD, q_vr, q_b1, lo, q_rz, q_z1, q_d3, f_lt, f_ge, f_sub, q_sc1, q_d2, q_asB, w1, w3, w4, s1, s2, decide_true, decide_false, if_true, Bool.false_eq_true, if_false, q_o1, q_asg, q_op, q_z4, ix_mat (show a - (n - 1) < k by omega), ix_row (show b - (n - 1) < k by omega)]
        rw [cell_ok (n := n - 1 + k) (g := G) (p := a) (q := b) (by simp) (by simp) (by simp) ha hb]
        simp [c1, c2]) .un .un .un
  refine ⟨mat (n - 1 + k) G, ?_, isG.gr fun i j hi hj => ?_⟩
  · have s3 : ((n - 1 : Nat) : Int) + (k : Int) = ((n - 1 + k : Nat) : Int) := by omega
    simp only [m__law_graft, b__law_graft, q_fn, q_ent, q_en, q_en0, List.cons_append, List.nil_append, List.replicate, q_seq, q_asg, q_comp, q_rg1, q_cons, q_nil, q_un, q_var, List.getElem?_cons_zero, List.getElem?_cons_succ, q_vr, q_b1, len_mat, q_rz, q_z1, q_d3, q_i1, rgN (show n ≤ 1000 by omega), q_w1, q_w0, List.set_cons_succ, List.set_cons_zero, hc, q_cpK, q_o1, q_k1, q_k0, q_bku, q_set, q_a1, q_s1]
    have ne : ∀ l : List Nat, Dt.lst (l.map fun i : Nat => Dt.int (i : Int)) = nts l := fun _ => rfl
    simp only [ne, q_seq, q_asg, q_op, q_un, q_var, List.getElem?_cons_zero, List.getElem?_cons_succ, q_vr, q_b1, lo, len_mat, q_rz, q_z1, q_d3, f_add, s3, q_o1, q_set, q_a1, q_s1, List.set_cons_succ, List.set_cons_zero, q_call, q_cons, q_nil, q_rsN, q_rs0, Option.map_some, q_fo0, blank_spec (n - 1 + k) (by omega), q_fo1, q_pbN, q_pb0, q_for, q_rg1, q_i1, rgN (show n - 1 + k ≤ 1000 by omega), q_ret, q_frz]
    rw [e]
    simp
  · have q1 := hG i j hi hj
    have q2 := hG j i hj hi
    have q3 := hG i i hi hi
    simp only [id] at q1 q2 q3
    rw [q1, q2, q3]
    by_cases c1 : i < n - 1 <;> by_cases c2 : j < n - 1 <;> simp only [c1, c2, if_true, if_false]
    · exact hg _ _ (fl i c1).1 (fl j c2).1
    · have := hg (f i) th (fl i c1).1 ht
      exact ⟨this.1, this.2.1, (hg _ _ (fl i c1).1 (fl i c1).1).2.2⟩
    · have := hg th (f j) ht (fl j c2).1
      exact ⟨this.1, this.2.1, (hgg (i - (n - 1)) (i - (n - 1)) (by omega) (by omega)).2.2⟩
    · exact hgg _ _ (by omega) (by omega)
end Mir

set_option Elab.async false
set_option linter.all false
set_option maxRecDepth 100000
set_option maxHeartbeats 800000
/-! The law's own helpers, reckoned: 8, the draws. -/
namespace Mir
open PySem PySem.Spec PyProof.Rows L2 He
theorem f_mulL {a b : Int} (h1 : -(2 ^ 64) < a) (h2 : a < 2 ^ 64) : fMul (.int a) (.int b) = some (.sc (.int (a * b))) := by
  have : cMulB a b = true := by
    unfold cMulB
    rw [decide_eq_true h1, decide_eq_true h2]
    rfl
  simp [fMul, this]
theorem f_mulR {a b : Int} (h1 : -(2 ^ 64) < b) (h2 : b < 2 ^ 64) : fMul (.int a) (.int b) = some (.sc (.int (a * b))) := by
  have : cMulB a b = true := by
    unfold cMulB
    rw [decide_eq_true h1, decide_eq_true h2]
    simp
  simp [fMul, this]
theorem f_div {a b : Int} (h1 : 0 < b) (h2 : b < 1073741824) : fDiv (.int a) (.int b) = some (.sc (.int (a / b))) := by simp [fDiv, fII, cDivB, h1, h2]
theorem f_pow1018 : fPow (.int 10) (.int 18) = some (.sc (.int 1000000000000000000)) := by
  have : cPowB 10 18 = true := by decide
  simp [fPow, fII, this]
theorem dr_app {l : List Int} {x : Int} (h : l.length ≤ 100000) : fAppend (l.map Dt.int) [.int x] = some (.non, (l ++ [x]).map Dt.int) := by
  rw [append_ok (by rw [List.length_map]; exact Nat.lt_of_le_of_lt h (by decide))]
  simp
theorem rgK (n : Nat) (h : n ≤ 1000) {ε : Ev} : rg1 (some (n : Int)) ε = .ok (rangeD 0 n) ε := by rw [rgN h]
theorem draws_in (ns : List Int) (pl x : Int) (l : List Int) (s4 s5 s6 : Sl) (hl : l.length ≤ 9000) : ∃ l' s4' s5' s6', l__law_draws_2 [.vl 0 (.scr ns), .vl 1 (dr l), .vl 0 (.int pl), .vl 0 (.int x), s4, s5, s6] = .nx [.vl 0 (.scr ns), .vl 1 (dr l'), .vl 0 (.int (pl + 1)), .vl 0 (.int x), s4', s5', s6'] ∧ l'.length ≤ l.length + 60 := by
  obtain ⟨y, hy⟩ : ∃ y, y = if x < 0 then 3 - 2 * x else x := ⟨_, rfl⟩
  have h1 : (sIf (mB (mOpD fLt (mVarD 4) (mSc (.int 0)))) (sAsg (mOp fSub (mSc (.int 3)) (mOp fMul (mSc (.int 2)) (mVar 4))) (gSet 4 0)) sNx) [.vl 0 (.scr ns), .vl 1 (dr l), .vl 0 (.int (pl + 1)), .vl 0 (.int x), .vl 0 (.int x), s5, s6] = .nx [.vl 0 (.scr ns), .vl 1 (dr l), .vl 0 (.int (pl + 1)), .vl 0 (.int x), .vl 0 (.int y), s5, s6] := by
    by_cases c : x < 0
    · simp [c, f_mulL (a := 2) (b := x) (by decide) (by decide), hy]
    · simp [c, hy]
  have h0 : ∀ k : Ev → So, (sSeq (sAsg (mCB fInt (mCons (mVar 3) mNil)) (gSet 4 0)) (sSeq (sAsg (mOp fAdd (mVar 2) (mSc (.int 1))) (gSet 2 0)) k)) [.vl 0 (.scr ns), .vl 1 (dr l), .vl 0 (.int pl), .vl 0 (.int x), s4, s5, s6] = k [.vl 0 (.scr ns), .vl 1 (dr l), .vl 0 (.int (pl + 1)), .vl 0 (.int x), .vl 0 (.int x), s5, s6] := fun k => by simp
  unfold l__law_draws_2
  rw [h0, q_seq, h1, q_s1]
  by_cases c : (1000000000000000000 : Int) ≤ y
  · obtain ⟨ε', e, l', y', t5, rfl, hl'⟩ := loop_range (t := gSet 5 0) (body := l__law_draws_0) (lo := 0) (n := 60) (fun i ε => ∃ l' y' t5, ε = [.vl 0 (.scr ns), .vl 1 (dr l'), .vl 0 (.int (pl + 1)), .vl 0 (.int x), .vl 0 (.int y'), t5, s6] ∧ l'.length ≤ l.length + i)
      (by
        rintro i ε hi ⟨l', y', t5, rfl, hl'⟩
        by_cases c : 0 < y'
        · refine ⟨[.vl 0 (.scr ns), .vl 1 (dr l'), .vl 0 (.int (pl + 1)), .vl 0 (.int x), .vl 0 (.int y'), .vl 0 (.int i), s6], [.vl 0 (.scr ns), .vl 1 (dr (l' ++ [y' % 24])), .vl 0 (.int (pl + 1)), .vl 0 (.int x), .vl 0 (.int (y' / 24)), .vl 0 (.int i), s6], by simp, .inl ?_, _, _, _, rfl, by simp; omega⟩
          simp [l__law_draws_0, c, dr, f_mod (show (0 : Int) < 24 by decide), dr_app (l := l') (x := y' % 24) (by omega), f_div (a := y') (b := 24) (by decide) (by decide)]
        · exact ⟨[.vl 0 (.scr ns), .vl 1 (dr l'), .vl 0 (.int (pl + 1)), .vl 0 (.int x), .vl 0 (.int y'), .vl 0 (.int i), s6], [.vl 0 (.scr ns), .vl 1 (dr l'), .vl 0 (.int (pl + 1)), .vl 0 (.int x), .vl 0 (.int y'), .vl 0 (.int i), s6], by simp, .inl (by simp [l__law_draws_0, c]), _, _, _, rfl, by omega⟩)
      (ε := [.vl 0 (.scr ns), .vl 1 (dr l), .vl 0 (.int (pl + 1)), .vl 0 (.int x), .vl 0 (.int y), s5, s6]) ⟨l, y, s5, rfl, by omega⟩
    refine ⟨l', .vl 0 (.int y'), t5, s6, ?_, hl'⟩
    have r60 : rg1 (some (60 : Int)) = fun ε => .ok (rangeD 0 60) ε := rgN (n := 60) (by decide)
    simp [f_pow1018, c, r60]
    exact e
  · obtain ⟨z, hz⟩ : ∃ z, z = (y * 69069 + (pl + 1) * 40503 + 17) % 2147483629 := ⟨_, rfl⟩
    have z0 : 0 ≤ z ∧ z < 2147483629 := by rw [hz]; exact ⟨Int.emod_nonneg _ (by decide), Int.emod_lt_of_pos _ (by decide)⟩
    obtain ⟨ε', e, l', z', t5, rfl, hl', _⟩ := loop_range (t := gSet 5 0) (body := l__law_draws_1) (lo := 0) (n := 5) (fun i ε => ∃ l' z' t5, ε = [.vl 0 (.scr ns), .vl 1 (dr l'), .vl 0 (.int (pl + 1)), .vl 0 (.int x), .vl 0 (.int y), t5, .vl 0 (.int z')] ∧ l'.length ≤ l.length + i ∧ 0 ≤ z' ∧ z' < 2147483629)
      (by
        rintro i ε hi ⟨l', z', t5, rfl, hl', hz1, hz2⟩
        obtain ⟨w, hw⟩ : ∃ w, w = (z' * (z' + 2 * (i : Int) + 3) + (pl + 1) * 7919 + 11) % 2147483587 := ⟨_, rfl⟩
        have w0 : 0 ≤ w ∧ w < 2147483587 := by rw [hw]; exact ⟨Int.emod_nonneg _ (by decide), Int.emod_lt_of_pos _ (by decide)⟩
        refine ⟨[.vl 0 (.scr ns), .vl 1 (dr l'), .vl 0 (.int (pl + 1)), .vl 0 (.int x), .vl 0 (.int y), .vl 0 (.int i), .vl 0 (.int z')], [.vl 0 (.scr ns), .vl 1 (dr (l' ++ [w / 64])), .vl 0 (.int (pl + 1)), .vl 0 (.int x), .vl 0 (.int y), .vl 0 (.int i), .vl 0 (.int w)], by simp, .inl ?_, _, _, _, rfl, by simp; omega, w0.1, by omega⟩
        simp [l__law_draws_1, dr, f_mulL (a := 2) (b := (i : Int)) (by decide) (by decide), f_mulL (a := z') (b := z' + 2 * (i : Int) + 3) (by omega) (by omega), f_mulR (a := pl + 1) (b := 7919) (by decide) (by decide), f_mod (show (0 : Int) < 2147483587 by decide), ← hw, f_div (a := w) (b := 64) (by decide) (by decide), dr_app (l := l') (x := w / 64) (by omega)])
      (ε := [.vl 0 (.scr ns), .vl 1 (dr l), .vl 0 (.int (pl + 1)), .vl 0 (.int x), .vl 0 (.int y), s5, .vl 0 (.int z)]) ⟨l, z, s5, rfl, by omega, z0.1, z0.2⟩
    refine ⟨l', .vl 0 (.int y), t5, .vl 0 (.int z'), ?_, by omega⟩
    have r5 : rg1 (some (5 : Int)) = fun ε => .ok (rangeD 0 5) ε := rgN (n := 5) (by decide)
    simp [f_pow1018, c, r5, f_mulR (a := y) (b := 69069) (by decide) (by decide), f_mulR (a := pl + 1) (b := 40503) (by decide) (by decide), f_mod (show (0 : Int) < 2147483629 by decide), ← hz]
    exact e
theorem draws_spec (ns : List Int) (h : ns.length ≤ 63) : ∃ l, m__law_draws [.scr ns] = .ok (dr l) [.non] := by
  obtain ⟨ds, hds⟩ : ∃ ds, ds = cutD (ns.map Dt.int) none (some 63) := ⟨_, rfl⟩
  have hlen : ds.length ≤ 63 := by
    rw [hds]
    unfold cutD
    refine Nat.le_trans (List.length_take_le' _ _) ?_
    rw [List.length_drop, List.length_map]
    omega
  have hint : ∀ d ∈ ds, ∃ x : Int, d = .int x := fun d hd => by
    rw [hds] at hd
    unfold cutD at hd
    obtain ⟨x, _, rfl⟩ := List.mem_map.mp (List.mem_of_mem_drop (List.mem_of_mem_take hd))
    exact ⟨x, rfl⟩
  obtain ⟨ε', e, l, pl, s3, s4, s5, s6, rfl, _, _⟩ := loop_ind (t := gSet 3 0) (body := l__law_draws_2) (fun ds ε => ∃ l pl s3 s4 s5 s6, ε = [.vl 0 (.scr ns), .vl 1 (dr l), .vl 0 (.int pl), s3, s4, s5, s6] ∧ (∀ d ∈ ds, ∃ x : Int, d = .int x) ∧ l.length + ds.length * 60 ≤ 9000)
    (by
      rintro d r ε ⟨l, pl, s3, s4, s5, s6, rfl, hi, hl⟩
      obtain ⟨x, rfl⟩ := hi d (List.mem_cons_self ..)
      rw [List.length_cons] at hl
      obtain ⟨l', t4, t5, t6, e, hl'⟩ := draws_in ns pl x l s4 s5 s6 (by omega)
      exact ⟨[.vl 0 (.scr ns), .vl 1 (dr l), .vl 0 (.int pl), .vl 0 (.int x), s4, s5, s6], _, by simp, .inl e, _, _, _, _, _, _, rfl, fun d hd => hi d (List.mem_cons_of_mem _ hd), by omega⟩)
    (ds := ds) (ε := [.vl 0 (.scr ns), .vl 1 (dr []), .vl 0 (.int 0), .un, .un, .un, .un]) ⟨[], 0, _, _, _, _, rfl, hint, by simp; omega⟩
  refine ⟨l.reverse, ?_⟩
  simp [dr] at e
  simp [m__law_draws, b__law_draws, mSliceL, mPart, slD, ← hds, e, dr]
end Mir

set_option Elab.async false
set_option linter.all false
set_option maxRecDepth 100000
set_option maxHeartbeats 800000
/-! The program's checks and its web, reckoned. -/
namespace Mir
open PySem PySem.Spec PyProof.Rows L2 He
/-! ### more words -/
section
variable {ε ε1 : Ev} {d : Dt} {f fa fb fc fk fd fv : Ev → Rs Dt} {fs : Ev → Rs (List Dt)} {i k : Nat} {op op2 : Dt → Dt → Option Sc} {neg : Bool} {tbs : List IsiT} {c x : Str} {cs fl : List Str} {ds : List Dt}
@[simp] theorem q_din : mDIn neg fk fd ε = (fk ε).bind fun k ε1 => (fd ε1).bind fun d ε2 => (mOpt (getD? d k) ε2).bind fun r ε2 => .ok (.bl (if neg then !r.isSome else r.isSome)) ε2 := id rfl
def ow1 (s : Option Sl) : Option Dt := match s with
  | some (.vl 1 d) => some d
  | _ => none
@[simp] theorem q_ow1 : ow1 (some (.vl 1 d)) = some d := id rfl
@[simp] theorem q_dput : sDPutS i fk fv ε = So.of (fv ε) fun d ε1 => So.of (mOpt (ow1 ε1[i]?) ε1) fun _ ε1 => So.of (fk ε1) fun k ε2 => So.of (mOpt ((ow1 ε2[i]?).bind (putD? k d)) ε2) fun m ε2 => .nx (ε2.set i (.vl 1 m)) := id rfl
@[simp] theorem q_isi : mIsi tbs fa ε = (fa ε).bind fun d ε1 => (mOpt (isiD tbs d) ε1).bind fun b ε1 => .ok (.bl b) ε1 := id rfl
def chK (op2 : Dt → Dt → Option Sc) (fc : Ev → Rs Dt) (d2 : Dt) (ε2 : Ev) (o : Option Sc) : Rs Dt := match o with
  | some (.bl true) => (fc ε2).bind fun d3 ε3 => mSc? (op2 d2 d3) ε3
  | some (.bl false) => .ok (.bl false) ε2
  | _ => .no
@[simp] theorem q_chK {b : Bool} : chK op2 fc d ε (some (.bl b)) = if b = true then (fc ε).bind fun d3 ε3 => mSc? (op2 d d3) ε3 else .ok (.bl false) ε := by cases b <;> rfl
@[simp] theorem q_chain : mChain op op2 fa fb fc ε = (fa ε).bind fun d1 ε1 => (fb ε1).bind fun d2 ε2 => chK op2 fc d2 ε2 (op d1 d2) := by
  unfold mChain chK
  rfl
@[simp] theorem q_newT : mNewT ε = .ok (.dT [] []) ε := id rfl
@[simp] theorem q_fld : mFld cs x fa ε = (fa ε).bind fun d ε1 => mOpt (fFld cs x d) ε1 := id rfl
@[simp] theorem q_enum : mEnum fs ε = (fs ε).bind fun as ε1 => mOpt ((lst1 as).map (enumD 0)) ε1 := id rfl
@[simp] theorem q_lst1 : lst1 [.lst ds] = some ds := id rfl
def raK (c : Str) (fl : List Str) (ds : List Dt) (ε : Ev) : So := if ds.length = fl.length then .er ⟨c, fl.reverse, ds.reverse⟩ ε else .no
@[simp] theorem q_raise : sRaise c fl fs ε = So.of (fs ε) (raK c fl) := id rfl
end
/-! ### numbers and pairs -/
theorem isi_ii {x : Int} : isiD [tbTy "int"] (.int x) = some true := by rfl
theorem isi_ib {x : Int} : isiD [tbTy "bool"] (.int x) = some false := by rfl
theorem isi_t {l : List Dt} : isiD [tbTy "list", tbTy "tuple"] (.tup l) = some true := by rfl
theorem isi_l {l : List Dt} : isiD [tbTy "list", tbTy "tuple"] (.lst l) = some true := by rfl
theorem isint_ok (x : Int) : m_is_integer [.int x] = .ok (.bl true) [.non] := by simp [m_is_integer, b_is_integer, isi_ii, isi_ib]
theorem isthing_ok (n x : Int) : m_is_thing [.int n, .int x] = .ok (.bl (decide (0 ≤ x) && decide (x < n))) [.non, .non] := by
  by_cases c : 0 ≤ x <;> simp [m_is_thing, b_is_thing, isint_ok, c]
theorem ispair_t (n a b : Nat) (ha : a < n) (hb : b < n) (hab : a ≠ b) : m_is_pair [.int (n : Int), .tup [.int (a : Int), .int (b : Int)]] = .ok (.bl true) [.non, .non] := by
  simp [m_is_pair, b_is_pair, isi_t, ix_t0, ix_t1, isthing_ok, ha, hb, show ¬ ((a : Int) = b) by omega]
theorem ix_l0 {a b : Dt} : fIx (.lst [a, b]) (.int 0) = some (.el a) := by simp [fIx, atI, ixN]
theorem ix_l1 {a b : Dt} : fIx (.lst [a, b]) (.int 1) = some (.el b) := by simp [fIx, atI, ixN]
theorem ispair_l (n a b : Nat) (ha : a < n) (hb : b < n) (hab : a ≠ b) : m_is_pair [.int (n : Int), .lst [.int (a : Int), .int (b : Int)]] = .ok (.bl true) [.non, .non] := by
  simp [m_is_pair, b_is_pair, isi_l, ix_l0, ix_l1, isthing_ok, ha, hb, show ¬ ((a : Int) = b) by omega]
/-! ### tables of pairs -/
def kp (p : Nat × Nat) : List Key := [.inl (p.1 : Int), .inl (p.2 : Int)]
def tbl (l : List (Nat × Nat)) : Dt := .dT (l.map kp) (l.map fun _ => .bl true)
theorem kp_inj {p q : Nat × Nat} (h : kp p = kp q) : p = q := by
  obtain ⟨a, b⟩ := p
  obtain ⟨c, d⟩ := q
  simp [kp] at h
  exact Prod.ext (by simp only []; omega) (by simp only []; omega)
theorem valD_tbl (p : Nat × Nat) : ∀ l : List (Nat × Nat), valD (kp p) (l.map kp) (l.map fun _ => Dt.bl true) = if p ∈ l then some (.bl true) else none
  | [] => by simp [valD]
  | q :: l => by
    rw [List.map_cons, List.map_cons]
    unfold valD
    by_cases c : q = p
    · subst c
      simp
    · rw [if_neg fun z => c (kp_inj z), valD_tbl p l]
      have c2 : ¬ p = q := fun z => c z.symm
      simp [c2]
theorem keys_p (a b : Nat) : keysD [.int (a : Int), .int (b : Int)] = some (kp (a, b)) := rfl
theorem get_tbl (l : List (Nat × Nat)) (a b : Nat) : getD? (tbl l) (.tup [.int (a : Int), .int (b : Int)]) = some (if (a, b) ∈ l then some (.bl true) else none) := by
  unfold getD? tbl
  simp only [keys_p, valD_tbl]
theorem mem_kp (p : Nat × Nat) (l : List (Nat × Nat)) : kp p ∈ l.map kp ↔ p ∈ l := by
  constructor
  · intro h
    obtain ⟨q, h1, h2⟩ := List.mem_map.mp h
    rw [← kp_inj h2]
    exact h1
  · exact fun h => List.mem_map.mpr ⟨p, h, rfl⟩
theorem put_tbl (l : List (Nat × Nat)) (a b : Nat) (h : (a, b) ∉ l) (hl : l.length ≤ 1000000) : putD? (.tup [.int (a : Int), .int (b : Int)]) (.bl true) (tbl l) = some (tbl (l ++ [(a, b)])) := by
  have h2 : ¬ (kp (a, b) ∈ l.map kp) := fun z => h ((mem_kp _ _).mp z)
  have h3 : (l.map kp).length < sizeLine := by rw [List.length_map]; exact Nat.lt_of_le_of_lt hl (by decide)
  unfold putD? tbl
  simp only [keys_p]
  rw [if_pos h3]
  simp only [putKs, putVs, if_neg h2]
  simp
theorem pairof_t (n a b : Nat) (ha : a < n) (hb : b < n) (hab : a ≠ b) : m_pair_of [.int (n : Int), .tup [.int (a : Int), .int (b : Int)]] = .ok (.tup [.int (a : Int), .int (b : Int)]) [.non, .non] := by
  simp [m_pair_of, b_pair_of, ispair_t n a b ha hb hab, ix_t0, ix_t1]
theorem pairof_l (n a b : Nat) (ha : a < n) (hb : b < n) (hab : a ≠ b) : m_pair_of [.int (n : Int), .lst [.int (a : Int), .int (b : Int)]] = .ok (.tup [.int (a : Int), .int (b : Int)]) [.non, .non] := by
  simp [m_pair_of, b_pair_of, ispair_l n a b ha hb hab, ix_l0, ix_l1]
/-- ties as the law tells them -/
structure Tl (n : Nat) (tl : List (Nat × Nat)) : Prop where
  lt : ∀ p ∈ tl, p.1 < p.2 ∧ p.2 < n
  pw : tl.Pairwise lexT
  len : tl.length ≤ 100000
def tp (p : Nat × Nat) : Dt := .tup [.int (p.1 : Int), .int (p.2 : Int)]
theorem several_ok (n : Nat) (tl : List (Nat × Nat)) (T : Tl n tl) : m_several_pairs [.int (n : Int), prs tl] = .ok (prs tl) [.non, .non] := by
  obtain ⟨ε', e, j, done, rest, l, s4, s5, rfl, hds, hdone, _, _⟩ := loop_ind (t := gUnp (gMore (gSet 4 0) (gMore (gSet 5 0) gNone))) (body := l_several_pairs_0) (fun ds ε => ∃ (j : Nat) (done rest l : List (Nat × Nat)) (s4 s5 : Sl), ε = [.vl 0 (.int n), .vl 0 (prs tl), .vl 1 (tbl l), .vl 1 (prs done), s4, s5] ∧ ds = enumD j (rest.map tp) ∧ done ++ rest = tl ∧ (∀ p ∈ l, p ∈ done ∨ (p.2, p.1) ∈ done) ∧ l.length ≤ 2 * done.length)
    (by
      rintro d r ε ⟨j, done, rest, l, s4, s5, rfl, hds, hd, hm, hl⟩
      cases rest with
      | nil => cases hds
      | cons p rest =>
        obtain ⟨a, b⟩ := p
        simp only [List.map_cons, enumD, List.cons.injEq, tp] at hds
        obtain ⟨rfl, rfl⟩ := hds
        have hin : (a, b) ∈ tl := by rw [← hd]; exact List.mem_append_right _ (List.mem_cons_self ..)
        obtain ⟨h1, h2⟩ := T.lt _ hin
        simp only [] at h1 h2
        have hbef : ∀ q ∈ done, lexT q (a, b) := fun q hq => by
          have := T.pw
          rw [← hd] at this
          exact (List.pairwise_append.mp this).2.2 q hq _ (List.mem_cons_self ..)
        have hin2 : ∀ q ∈ done, q.1 < q.2 := fun q hq => (T.lt q (by rw [← hd]; exact List.mem_append_left _ hq)).1
        have n1 : (a, b) ∉ l := fun z => by
          rcases hm _ z with z | z
          · have := hbef _ z
            unfold lexT at this
            simp only [] at this
            omega
          · have := hin2 _ z
            simp only [] at this
            omega
        have n2 : (b, a) ∉ l ++ [(a, b)] := fun z => by
          rcases List.mem_append.mp z with z | z
          · rcases hm _ z with z | z
            · have := hin2 _ z
              simp only [] at this
              omega
            · have := hbef _ z
              unfold lexT at this
              simp only [] at this
              omega
          · simp at z
            omega
        have hlen : done.length ≤ 100000 := by
          have := T.len
          rw [← hd, List.length_append] at this
          omega
        have p1 := put_tbl l a b n1 (by omega)
        have p2 := put_tbl (l ++ [(a, b)]) b a n2 (by simp; omega)
        refine ⟨[.vl 0 (.int n), .vl 0 (prs tl), .vl 1 (tbl l), .vl 1 (prs done), .vl 0 (.int j), .vl 0 (.tup [.int a, .int b])], [.vl 0 (.int n), .vl 0 (prs tl), .vl 1 (tbl (l ++ [(a, b)] ++ [(b, a)])), .vl 1 (prs (done ++ [(a, b)])), .vl 0 (.int j), .vl 0 (.tup [.int a, .int b])], by simp, .inl ?_, j + 1, done ++ [(a, b)], rest, l ++ [(a, b)] ++ [(b, a)], .vl 0 (.int j), .vl 0 (.tup [.int a, .int b]), rfl, rfl, by rw [← hd]; simp, ?_, by simp; omega⟩
        · simp only [l_several_pairs_0, q_seq, q_if, q_or, q_not, q_tru, q_call, q_cons, q_nil, q_var, List.getElem?_cons_zero, List.getElem?_cons_succ, q_vr, q_b1, q_rsN, q_rs0, Option.map_some, q_fo0, ispair_t n a b (by omega) h2 (by omega), q_fo1, q_pbN, q_pb0, q_trb, q_opt1, Bool.not_true, Bool.false_eq_true, if_false, q_mB, q_din, q_tup, q_op, q_sc, q_d3, ix_t0, ix_t1, q_rz, q_z4, q_varB, q_vrB1, get_tbl, n1, Option.isSome_none, q_asB, q_o1, q_nx, q_s1, q_dput, q_d2, q_ow1, Option.bind_some, p1, p2, List.set_cons_succ, List.set_cons_zero]
          simp [prs, ix_t0, ix_t1, append_ok (prs_len (l := done) (by omega))]
        · intro q hq
          rcases List.mem_append.mp hq with hq | hq
          · rcases List.mem_append.mp hq with hq | hq
            · rcases hm q hq with z | z
              · exact .inl (List.mem_append_left _ z)
              · exact .inr (List.mem_append_left _ z)
            · obtain rfl := List.mem_singleton.mp hq
              exact .inl (List.mem_append_right _ (List.mem_singleton.mpr rfl))
          · obtain rfl := List.mem_singleton.mp hq
            exact .inr (List.mem_append_right _ (List.mem_singleton.mpr rfl)))
    (ds := enumD 0 (tl.map tp)) (ε := [.vl 0 (.int n), .vl 0 (prs tl), .vl 1 (tbl []), .vl 1 (prs []), .un, .un]) ⟨0, [], tl, [], _, _, rfl, rfl, rfl, by simp, by simp⟩
  have hr : rest = [] := by
    cases rest with
    | nil => rfl
    | cons p r => cases hds
  rw [hr, List.append_nil] at hdone
  rw [hdone] at e
  have e0 : prs tl = .lst (tl.map tp) := rfl
  have t0 : Dt.dT [] [] = tbl [] := rfl
  have t1 : Dt.lst [] = prs [] := rfl
  have iso : isiD [tbTy "list", tbTy "tuple"] (prs tl) = some true := by rw [e0]; exact isi_l
  have lo : lst1 [prs tl] = some (tl.map tp) := rfl
  simp only [m_several_pairs, b_several_pairs, q_fn, q_ent, q_en, q_en0, List.cons_append, List.nil_append, List.replicate, q_seq, q_if, q_not, q_tru, q_isi, q_varD, List.getElem?_cons_zero, List.getElem?_cons_succ, q_vrD, q_b1, iso, q_opt1, q_trb, Bool.not_true, Bool.false_eq_true, if_false, q_o1, q_nx, q_s1, q_asg, q_newT, q_set, q_a1, q_lst, q_nil, List.set_cons_succ, List.set_cons_zero, t0, t1, q_for, q_enum, q_cons, q_var, q_vr, lo, Option.map_some]
  rw [e]
  simp
/-! ### sorting -/
def ip (p : Nat × Nat) : Int × Int := ((p.1 : Int), (p.2 : Int))
theorem pairsD_tp : ∀ l : List (Nat × Nat), pairsD (l.map tp) = some (l.map ip)
  | [] => rfl
  | p :: l => by
    rw [List.map_cons]
    show (pairsD (l.map tp)).map _ = _
    rw [pairsD_tp l]
    rfl
theorem lexb_ff {p q : Nat × Nat} (h : lexT p q) : lexb (ip q) (ip p) = false := by
  unfold lexT at h
  unfold lexb ip
  rw [Bool.or_eq_false_iff]
  refine ⟨decide_eq_false (by simp only []; omega), ?_⟩
  rw [Bool.and_eq_false_iff]
  by_cases c : q.1 = p.1
  · exact .inr (decide_eq_false (by simp only []; omega))
  · exact .inl (decide_eq_false (by simp only []; omega))
theorem srtP_id : ∀ {l : List (Nat × Nat)}, l.Pairwise lexT → srtP (l.map ip) = l.map ip
  | [], _ => rfl
  | p :: l, h => by
    obtain ⟨h1, h2⟩ := List.pairwise_cons.mp h
    rw [List.map_cons]
    show insP (ip p) (srtP (l.map ip)) = _
    rw [srtP_id h2]
    cases l with
    | nil => rfl
    | cons q r =>
      rw [List.map_cons]
      unfold insP
      rw [lexb_ff (h1 q (List.mem_cons_self ..))]
      simp
theorem pD_ip (l : List (Nat × Nat)) : (l.map ip).map pD = l.map tp := by
  rw [List.map_map]
  rfl
theorem sorted_id {l : List (Nat × Nat)} (h : l.Pairwise lexT) : fSorted [.lst (l.map tp)] = some (.lst (l.map tp)) := by
  cases l with
  | nil => rfl
  | cons p r =>
    have e : intsD ((p :: r).map tp) = none := rfl
    unfold fSorted
    simp only [e, pairsD_tp, Option.map_some, srtP_id h, pD_ip]
@[simp] theorem f_tup {l : List Dt} : bTuple (.lst l) = some (.tup l) := id rfl
theorem tiesof_ok (n : Nat) (tl : List (Nat × Nat)) (T : Tl n tl) : m_ties_of [.int (n : Int), prs tl] = .ok (.tup (tl.map tp)) [.non, .non] := by
  have hc : compL [3, 4] (gUnp (gMore (gSet 3 0) (gMore (gSet 4 0) gNone))) mYes e_ties_of_0 (tl.map tp) [] [.vl 0 (.int n), .vl 0 (prs tl), .vl 0 (prs tl), .un, .un] = .ok (tl.map tp) [.vl 0 (.int n), .vl 0 (prs tl), .vl 0 (prs tl), .un, .un] := by
    rw [compL_mapf tp tp (xs := tl) (acc := []) (fun p hp => by
      obtain ⟨h1, h2⟩ := T.lt p hp
      refine ⟨[.vl 0 (.int n), .vl 0 (prs tl), .vl 0 (prs tl), .vl 0 (.int p.1), .vl 0 (.int p.2)], [.vl 0 (.int n), .vl 0 (prs tl), .vl 0 (prs tl), .vl 0 (.int p.1), .vl 0 (.int p.2)], by simp [tp], ?_, by simp⟩
      simp [e_ties_of_0, show (p.1 : Int) < p.2 by omega, tp]) (by simp; exact Nat.le_trans T.len (by decide))]
    simp
  have e0 : prs tl = .lst (tl.map tp) := rfl
  have il : itL (prs tl) [.vl 0 (.int n), .vl 0 (prs tl), .vl 0 (prs tl), .un, .un] = .ok (tl.map tp) [.vl 0 (.int n), .vl 0 (prs tl), .vl 0 (prs tl), .un, .un] := rfl
  simp only [m_ties_of, b_ties_of, q_fn, q_ent, q_en, q_en0, List.cons_append, List.nil_append, List.replicate, q_seq, q_asg, q_call, q_cons, q_nil, q_var, List.getElem?_cons_zero, List.getElem?_cons_succ, q_vr, q_b1, q_rsN, q_rs0, Option.map_some, q_fo0, several_ok n tl T, q_fo1, q_pbN, q_pb0, q_o1, q_set, q_a1, q_s1, List.set_cons_succ, List.set_cons_zero, q_ret, q_un, q_cb, q_comp, q_iter, il, q_w1, q_w0, hc, q_cpK, sorted_id T.pw, q_rz, q_z3, f_tup]
  simp
end Mir

set_option Elab.async false
set_option linter.all false
set_option maxRecDepth 100000
set_option maxHeartbeats 800000
/-! The web. -/
namespace Mir
open PySem PySem.Spec PyProof.Rows L2 He
def fsK (cs : List Str) (i : Nat) (f : Str) (d : Dt) (ε1 : Ev) (s : Option Sl) : So := match s with
  | some (.vl 1 (.ins c fs ds)) => if c ∈ cs ∧ fs.length < 1000 then .nx (ε1.set i (.vl 1 (.ins c (putFs f fs) (putDs f d fs ds)))) else .no
  | _ => .no
theorem q_fldS {cs : List Str} {i : Nat} {f : Str} {fa : Ev → Rs Dt} {ε : Ev} : sFldS cs i f fa ε = So.of (fa ε) fun d ε1 => fsK cs i f d ε1 ε1[i]? := by
  unfold sFldS fsK
  rfl
theorem fsK_ok {cs : List Str} {i : Nat} {f c : Str} {d : Dt} {ε : Ev} {fs : List Str} {ds : List Dt} (hc : c ∈ cs) (hl : fs.length < 1000) : fsK cs i f d ε (some (.vl 1 (.ins c fs ds))) = .nx (ε.set i (.vl 1 (.ins c (putFs f fs) (putDs f d fs ds)))) := if_pos ⟨hc, hl⟩
theorem fs_size {i : Nat} {d : Dt} {ε : Ev} : fsK ["Web"] i "size" d ε (some (.vl 1 (.ins "Web" [] []))) = .nx (ε.set i (.vl 1 (.ins "Web" ["size"] [d]))) := fsK_ok (List.mem_singleton.mpr rfl) (by decide)
theorem fs_ties {i : Nat} {d e : Dt} {ε : Ev} : fsK ["Web"] i "ties" d ε (some (.vl 1 (.ins "Web" ["size"] [e]))) = .nx (ε.set i (.vl 1 (.ins "Web" ["size", "ties"] [e, d]))) := by
  rw [fsK_ok (List.mem_singleton.mpr rfl) (by decide)]
  rfl
theorem fs_table {i : Nat} {d e f : Dt} {ε : Ev} : fsK ["Web"] i "table" d ε (some (.vl 1 (.ins "Web" ["size", "ties"] [e, f]))) = .nx (ε.set i (.vl 1 (.ins "Web" ["size", "ties", "table"] [e, f, d]))) := by
  rw [fsK_ok (List.mem_singleton.mpr rfl) (by decide)]
  rfl
theorem ff_ties2 {e f : Dt} : fFld ["Web"] "ties" (.ins "Web" ["size", "ties"] [e, f]) = some f := by
  unfold fFld
  dsimp only
  rw [if_pos (List.mem_singleton.mpr rfl)]
  rfl
def web (n : Nat) (t b : Dt) : Dt := .ins "Web" ["size", "ties", "table"] [.int (n : Int), t, b]
theorem ff_size {n : Nat} {t b : Dt} : fFld ["Web"] "size" (web n t b) = some (.int n) := by
  unfold fFld web
  dsimp only
  rw [if_pos (List.mem_singleton.mpr rfl)]
  rfl
theorem ff_table {n : Nat} {t b : Dt} : fFld ["Web"] "table" (web n t b) = some b := by
  unfold fFld web
  dsimp only
  rw [if_pos (List.mem_singleton.mpr rfl)]
  rfl
theorem nok_ok (n : Nat) (h1 : 1 ≤ n) (h2 : n ≤ 40) : m_number_of_kind [.int (n : Int), .int 1, .int 40, .str "size"] = .ok (.int n) [.non, .non, .non, .non] := by
  simp [m_number_of_kind, b_number_of_kind, isint_ok, show (1 : Int) ≤ n by omega, show (n : Int) ≤ 40 by omega]
def bth (l : List (Nat × Nat)) : List (Nat × Nat) := l.flatMap fun p => [p, (p.2, p.1)]
theorem mem_bth {p : Nat × Nat} {l : List (Nat × Nat)} : p ∈ bth l ↔ p ∈ l ∨ (p.2, p.1) ∈ l := by
  unfold bth
  rw [List.mem_flatMap]
  constructor
  · rintro ⟨q, h1, h2⟩
    simp at h2
    rcases h2 with rfl | rfl
    · exact .inl h1
    · exact .inr h1
  · rintro (h | h)
    · exact ⟨p, h, by simp⟩
    · exact ⟨_, h, by simp⟩
theorem bth_len (l : List (Nat × Nat)) : (bth l).length = 2 * l.length := by
  induction l with
  | nil => rfl
  | cons p l ih =>
    have : bth (p :: l) = [p, (p.2, p.1)] ++ bth l := rfl
    rw [this, List.length_append, ih]
    simp
    omega
theorem web_ok (n : Nat) (tl : List (Nat × Nat)) (T : Tl n tl) (h1 : 1 ≤ n) (h2 : n ≤ 40) : m_Web_init [.ins "Web" [] [], .int (n : Int), prs tl] = .ok .non [web n (.tup (tl.map tp)) (tbl (bth tl)), .non, .non] := by
  obtain ⟨W, hW⟩ : ∃ W, W = Dt.ins "Web" ["size", "ties"] [.int n, .tup (tl.map tp)] := ⟨_, rfl⟩
  obtain ⟨ε', e, done, rest, s4, s5, rfl, hds, hdone⟩ := loop_ind (t := gUnp (gMore (gSet 4 0) (gMore (gSet 5 0) gNone))) (body := l_Web_init_0) (fun ds ε => ∃ (done rest : List (Nat × Nat)) (s4 s5 : Sl), ε = [.vl 1 W, .vl 0 (.int n), .vl 0 (prs tl), .vl 1 (tbl (bth done)), s4, s5] ∧ ds = rest.map tp ∧ done ++ rest = tl)
    (by
      rintro d r ε ⟨done, rest, s4, s5, rfl, hds, hd⟩
      cases rest with
      | nil => cases hds
      | cons p rest =>
        obtain ⟨a, b⟩ := p
        simp only [List.map_cons, List.cons.injEq, tp] at hds
        obtain ⟨rfl, rfl⟩ := hds
        have hin : (a, b) ∈ tl := by rw [← hd]; exact List.mem_append_right _ (List.mem_cons_self ..)
        obtain ⟨h1, h2⟩ := T.lt _ hin
        simp only [] at h1 h2
        have hbef : ∀ q ∈ done, lexT q (a, b) := fun q hq => by
          have := T.pw
          rw [← hd] at this
          exact (List.pairwise_append.mp this).2.2 q hq _ (List.mem_cons_self ..)
        have hin2 : ∀ q ∈ done, q.1 < q.2 := fun q hq => (T.lt q (by rw [← hd]; exact List.mem_append_left _ hq)).1
        have n1 : (a, b) ∉ bth done := fun z => by
          rcases mem_bth.mp z with z | z
          · have := hbef _ z
            unfold lexT at this
            simp only [] at this
            omega
          · have := hin2 _ z
            simp only [] at this
            omega
        have n2 : (b, a) ∉ bth done ++ [(a, b)] := fun z => by
          rcases List.mem_append.mp z with z | z
          · rcases mem_bth.mp z with z | z
            · have := hin2 _ z
              simp only [] at this
              omega
            · have := hbef _ z
              unfold lexT at this
              simp only [] at this
              omega
          · simp at z
            omega
        have hlen : (bth done).length ≤ 200000 := by
          have := T.len
          rw [← hd, List.length_append] at this
          rw [bth_len]
          omega
        have p1 := put_tbl (bth done) a b n1 (by omega)
        have p2 := put_tbl (bth done ++ [(a, b)]) b a n2 (by simp; omega)
        have hb : bth (done ++ [(a, b)]) = bth done ++ [(a, b)] ++ [(b, a)] := by simp [bth]
        refine ⟨[.vl 1 W, .vl 0 (.int n), .vl 0 (prs tl), .vl 1 (tbl (bth done)), .vl 0 (.int a), .vl 0 (.int b)], [.vl 1 W, .vl 0 (.int n), .vl 0 (prs tl), .vl 1 (tbl (bth (done ++ [(a, b)]))), .vl 0 (.int a), .vl 0 (.int b)], by simp, .inl ?_, done ++ [(a, b)], rest, .vl 0 (.int a), .vl 0 (.int b), rfl, rfl, by rw [← hd]; simp⟩
        simp only [l_Web_init_0, q_seq, q_dput, q_sc, q_d2, q_o1, List.getElem?_cons_zero, List.getElem?_cons_succ, q_ow1, q_opt1, q_tup, q_cons, q_nil, q_var, q_vr, q_b1, Option.bind_some, p1, p2, q_s1, List.set_cons_succ, List.set_cons_zero, hb])
    (ds := tl.map tp) (ε := [.vl 1 W, .vl 0 (.int n), .vl 0 (prs tl), .vl 1 (tbl (bth [])), .un, .un]) ⟨[], tl, _, _, rfl, rfl, rfl⟩
  have hr : rest = [] := by
    cases rest with
    | nil => rfl
    | cons p r => cases hds
  rw [hr, List.append_nil] at hdone
  rw [hdone] at e
  have t0 : Dt.dT [] [] = tbl (bth []) := rfl
  simp only [m_Web_init, b_Web_init, q_fn, q_ent, q_en, q_en0, List.cons_append, List.nil_append, List.replicate, q_seq, q_fldS, q_call, q_cons, q_nil, q_var, q_sc, q_d3, q_d4, List.getElem?_cons_zero, List.getElem?_cons_succ, q_vr, q_b1, q_rsN, q_rs0, Option.map_some, q_fo0, nok_ok n h1 h2, q_fo1, q_pbN, q_pb0, q_o1, fs_size, q_s1, List.set_cons_succ, List.set_cons_zero, tiesof_ok n tl T, fs_ties, q_asg, q_newT, q_set, q_a1, t0, ← hW]
  simp only [q_for, q_iterT, q_fld, q_varB, List.getElem?_cons_zero, q_vrB1, q_b1]
  have hf : fFld ["Web"] "ties" W = some (.tup (tl.map tp)) := by rw [hW]; exact ff_ties2
  simp only [hf, q_opt1, q_b1, q_itT, q_o1]
  rw [e]
  simp only [q_s1, q_fldS, q_frz, List.getElem?_cons_zero, List.getElem?_cons_succ, q_vrF, q_o1, List.set_cons_succ, List.set_cons_zero]
  rw [hW, fs_table]
  simp [web]
end Mir

set_option Elab.async false
set_option linter.all false
set_option maxRecDepth 100000
set_option maxHeartbeats 800000
/-! Arrows. -/
namespace Mir
open PySem PySem.Spec PyProof.Rows L2 He
/-- a web's ties are those of a graph -/
structure Wb (n : Nat) (g : Nat → Nat → Int) (tl : List (Nat × Nat)) : Prop where
  gr : Gr n g
  mem : ∀ a b, (a, b) ∈ tl ↔ a < b ∧ b < n ∧ g a b = 1
  tl : Tl n tl
  n1 : 1 ≤ n
  n2 : n ≤ 40
section
variable {n : Nat} {g : Nat → Nat → Int} {tl : List (Nat × Nat)} {a b : Nat}
theorem Wb.tie (w : Wb n g tl) (ha : a < n) (hb : b < n) : (a, b) ∈ bth tl ↔ g a b = 1 := by
  rw [mem_bth, w.mem, w.mem]
  obtain ⟨g1, g2, g3⟩ := w.gr a b ha hb
  constructor
  · rintro (h | h)
    · exact h.2.2
    · rw [g2]; exact h.2.2
  · intro h
    by_cases c : a < b
    · exact .inl ⟨c, hb, h⟩
    · by_cases d : a = b
      · subst d
        rw [g3] at h
        exact absurd h (by decide)
      · exact .inr ⟨by simp only []; omega, ha, by simp only []; rw [← g2]; exact h⟩
theorem Wb.get (w : Wb n g tl) (ha : a < n) (hb : b < n) : getD? (tbl (bth tl)) (.tup [.int (a : Int), .int (b : Int)]) = some (if g a b = 1 then some (.bl true) else none) := by
  rw [get_tbl]
  by_cases c : g a b = 1
  · rw [if_pos c, if_pos ((w.tie ha hb).mpr c)]
  · rw [if_neg c, if_neg fun z => c ((w.tie ha hb).mp z)]
abbrev wb (n : Nat) (tl : List (Nat × Nat)) : Dt := web n (.tup (tl.map tp)) (tbl (bth tl))
/-- a pair as the law gives it: a tuple or a list -/
inductive Pr2 (a b : Nat) : Dt → Prop
  | t : Pr2 a b (.tup [.int (a : Int), .int (b : Int)])
  | l : Pr2 a b (.lst [.int (a : Int), .int (b : Int)])
theorem pairof_ok {d : Dt} (h : Pr2 a b d) (ha : a < n) (hb : b < n) (hab : a ≠ b) : m_pair_of [.int (n : Int), d] = .ok (.tup [.int (a : Int), .int (b : Int)]) [.non, .non] := by
  cases h
  · exact pairof_t n a b ha hb hab
  · exact pairof_l n a b ha hb hab
theorem arrow_yes (w : Wb n g tl) {d : Dt} (h : Pr2 a b d) (ha : a < n) (hb : b < n) (hg : g a b = 1) : m_arrow_in [wb n tl, d] = .ok (.tup [.int (a : Int), .int (b : Int)]) [.non, .non] := by
  have hab : a ≠ b := fun z => by
    subst z
    rw [(w.gr a a ha ha).2.2] at hg
    exact absurd hg (by decide)
  simp [m_arrow_in, b_arrow_in, ff_size, ff_table, pairof_ok h ha hb hab, w.get ha hb, hg]
theorem arrow_no (w : Wb n g tl) {d : Dt} (h : Pr2 a b d) (ha : a < n) (hb : b < n) (hab : a ≠ b) (hg : g a b ≠ 1) : m_arrow_in [wb n tl, d] = .er ⟨"NotTied", ["second", "first"], [.int (b : Int), .int (a : Int)]⟩ [.non, .non] := by
  simp [m_arrow_in, b_arrow_in, ff_size, ff_table, pairof_ok h ha hb hab, w.get ha hb, hg, raK]
end
/-- what the program's steps find, in its order -/
def fnd (g : Nat → Nat → Int) (a b : Nat) (k : Nat) : List (Nat × Nat) := (List.range k).flatMap fun c => (if c ≠ b ∧ g a c = 1 ∧ g b c ≠ 1 then [(a, c)] else []) ++ (if c ≠ a ∧ g c b = 1 ∧ g a c ≠ 1 then [(c, b)] else [])
theorem fnd_succ (g : Nat → Nat → Int) (a b k : Nat) : fnd g a b (k + 1) = fnd g a b k ++ ((if k ≠ b ∧ g a k = 1 ∧ g b k ≠ 1 then [(a, k)] else []) ++ (if k ≠ a ∧ g k b = 1 ∧ g a k ≠ 1 then [(k, b)] else [])) := by
  unfold fnd
  rw [List.range_succ, List.flatMap_append]
  simp
theorem fnd_len (g : Nat → Nat → Int) (a b k : Nat) : (fnd g a b k).length ≤ 2 * k := by
  induction k with
  | zero => simp [fnd]
  | succ k ih =>
    rw [fnd_succ, List.length_append, List.length_append]
    have h1 : (if k ≠ b ∧ g a k = 1 ∧ g b k ≠ 1 then [(a, k)] else [] : List (Nat × Nat)).length ≤ 1 := by split <;> simp
    have h2 : (if k ≠ a ∧ g k b = 1 ∧ g a k ≠ 1 then [(k, b)] else [] : List (Nat × Nat)).length ≤ 1 := by split <;> simp
    omega
end Mir

set_option Elab.async false
set_option linter.all false
set_option maxRecDepth 100000
set_option maxHeartbeats 800000
/-! The program's steps. -/
namespace Mir
open PySem PySem.Spec PyProof.Rows L2 He
def told (g : Nat → Nat → Int) (a b n : Nat) : Dt := .tup ((srtP ((fnd g a b n).map ip)).map pD)
theorem sorted_prs (l : List (Nat × Nat)) : fSorted [prs l] = some (.lst ((srtP (l.map ip)).map pD)) := by
  have e0 : prs l = .lst (l.map tp) := rfl
  cases l with
  | nil => rfl
  | cons p r =>
    have e : intsD ((p :: r).map tp) = none := rfl
    rw [e0]
    unfold fSorted
    simp only [e, pairsD_tp, Option.map_some]
end Mir

set_option Elab.async false
set_option linter.all false
set_option maxRecDepth 100000
set_option maxHeartbeats 800000
/-! Equality and membership of pairs. -/
namespace Mir
open PySem PySem.Spec PyProof.Rows L2 He
def pyP (p : Int × Int) : PyData := .tuple [.int p.1, .int p.2]
theorem toPy_pD (p : Int × Int) : toPy (pD p) = some (pyP p) := by simp [pD, toPy, toPys, pyP]
theorem toPys_pD : ∀ l : List (Int × Int), toPys (l.map pD) = some (l.map pyP)
  | [] => by simp [toPys]
  | p :: l => by
    rw [List.map_cons]
    unfold toPys
    rw [toPy_pD, toPys_pD l]
    rfl
theorem lay_pyP : ∀ l : List (Int × Int), PyData.canLayAll0 (l.map pyP) = true
  | [] => by simp [PyData.canLayAll0]
  | p :: l => by
    rw [List.map_cons]
    unfold PyData.canLayAll0
    rw [lay_pyP l]
    simp [pyP, PyData.canLay0, PyData.canLayAll0]
theorem dep_pyP : ∀ l : List (Int × Int), PyData.depthAll (l.map pyP) ≤ 1
  | [] => by simp [PyData.depthAll]
  | p :: l => by
    rw [List.map_cons]
    unfold PyData.depthAll
    have := dep_pyP l
    have h2 : PyData.depth (pyP p) = 1 := by simp [pyP, PyData.depth, PyData.depthAll]
    omega
theorem shp_pD (p : Int × Int) : shp (pD p) = some (pyP p) := shp_of (toPy_pD p) (by simp [SeqAt.shaped, pyP, PyData.canLay0, PyData.canLayAll0, PyData.depth, PyData.depthAll])
theorem shp_tup (l : List (Int × Int)) : shp (.tup (l.map pD)) = some (.tuple (l.map pyP)) := by
  refine shp_of (by simp [toPy, toPys_pD]) ?_
  have h1 := lay_pyP l
  have h2 := dep_pyP l
  unfold SeqAt.shaped
  rw [show PyData.canLay0 (.tuple (l.map pyP)) = PyData.canLayAll0 (l.map pyP) by simp [PyData.canLay0], h1, show PyData.depth (.tuple (l.map pyP)) = PyData.depthAll (l.map pyP) + 1 by simp [PyData.depth]]
  exact decide_eq_true (by omega)
theorem shp_lst (l : List (Int × Int)) : shp (.lst (l.map pD)) = some (.list (l.map pyP)) := by
  refine shp_of (by simp [toPy, toPys_pD]) ?_
  have h1 := lay_pyP l
  have h2 := dep_pyP l
  unfold SeqAt.shaped
  rw [show PyData.canLay0 (.list (l.map pyP)) = PyData.canLayAll0 (l.map pyP) by simp [PyData.canLay0], h1, show PyData.depth (.list (l.map pyP)) = PyData.depthAll (l.map pyP) + 1 by simp [PyData.depth]]
  exact decide_eq_true (by omega)
theorem eqv_pyP (p q : Int × Int) : PyData.eqv (pyP p) (pyP q) = decide (p = q) := by
  obtain ⟨a, b⟩ := p
  obtain ⟨c, d⟩ := q
  by_cases h1 : a = c <;> by_cases h2 : b = d <;> simp [pyP, PyData.eqv, PyData.eqvAll, h1, h2]
theorem eqvAll_pyP : ∀ l m : List (Int × Int), PyData.eqvAll (l.map pyP) (m.map pyP) = decide (l = m)
  | [], [] => by simp [PyData.eqvAll]
  | [], _ :: _ => by simp [PyData.eqvAll]
  | _ :: _, [] => by simp [PyData.eqvAll]
  | p :: l, q :: m => by
    rw [List.map_cons, List.map_cons]
    unfold PyData.eqvAll
    rw [eqv_pyP, eqvAll_pyP l m]
    by_cases h1 : p = q <;> by_cases h2 : l = m <;> simp [h1, h2]
theorem in_tup (p : Int × Int) (l : List (Int × Int)) : fIn false (pD p) (.tup (l.map pD)) = some (.bl (decide (p ∈ l))) := by
  unfold fIn
  rw [shp_pD, shp_tup]
  simp only [Option.bind_some, seqPy, Option.map_some, Bool.false_eq_true, if_false]
  congr 2
  rw [List.any_map]
  by_cases h : p ∈ l
  · rw [decide_eq_true h]
    exact List.any_eq_true.mpr ⟨p, h, by simp [Function.comp, eqv_pyP]⟩
  · rw [decide_eq_false h]
    refine List.any_eq_false.mpr fun q hq => ?_
    simp only [Function.comp, eqv_pyP, decide_eq_true_eq]
    intro z
    rw [z] at hq
    exact h hq
theorem in_lst (p : Int × Int) (l : List (Int × Int)) : fIn false (pD p) (.lst (l.map pD)) = some (.bl (decide (p ∈ l))) := by
  unfold fIn
  rw [shp_pD, shp_lst]
  simp only [Option.bind_some, seqPy, Option.map_some, Bool.false_eq_true, if_false]
  congr 2
  rw [List.any_map]
  by_cases h : p ∈ l
  · rw [decide_eq_true h]
    exact List.any_eq_true.mpr ⟨p, h, by simp [Function.comp, eqv_pyP]⟩
  · rw [decide_eq_false h]
    refine List.any_eq_false.mpr fun q hq => ?_
    simp only [Function.comp, eqv_pyP, decide_eq_true_eq]
    intro z
    rw [z] at hq
    exact h hq
theorem ne_lst (l m : List (Int × Int)) : fNe (.lst (l.map pD)) (.lst (m.map pD)) = some (.bl (!decide (l = m))) := by
  unfold fNe
  rw [shp_lst, shp_lst]
  simp [PyData.eqv, eqvAll_pyP]
theorem ne_tup (l m : List (Int × Int)) : fNe (.tup (l.map pD)) (.tup (m.map pD)) = some (.bl (!decide (l = m))) := by
  unfold fNe
  rw [shp_tup, shp_tup]
  simp [PyData.eqv, eqvAll_pyP]
/-! ### sorting does not care about the order -/
theorem lexb_anti {p q : Int × Int} (h1 : lexb p q = false) (h2 : lexb q p = false) : p = q := by
  obtain ⟨a, b⟩ := p
  obtain ⟨c, d⟩ := q
  simp [lexb] at h1 h2
  obtain ⟨h3, h4⟩ := h1
  obtain ⟨h5, h6⟩ := h2
  have e1 : a = c := by omega
  subst e1
  have := h4 rfl
  have := h6 rfl
  exact Prod.ext rfl (by simp only []; omega)
theorem srtP_eq {l m : List (Int × Int)} (h : l.Perm m) : srtP l = srtP m := by
  have hp : (srtP l).Perm (srtP m) := (srtP_perm l).trans (h.trans (srtP_perm m).symm)
  exact List.Perm.eq_of_pairwise (fun a b _ _ h1 h2 => (lexb_anti h1 h2).symm) (srtP_sorted l) (srtP_sorted m) hp
theorem srtP_mem {l : List (Int × Int)} {p : Int × Int} : p ∈ srtP l ↔ p ∈ l := (srtP_perm l).mem_iff
end Mir

set_option Elab.async false
set_option linter.all false
set_option maxRecDepth 100000
set_option maxHeartbeats 800000
/-! forces, refusals. -/
namespace Mir
open PySem PySem.Spec PyProof.Rows L2 He
section
variable {n : Nat} {g : Nat → Nat → Int} {tl : List (Nat × Nat)} {a b c e : Nat} {d d' : Dt}
theorem Wb.ne (w : Wb n g tl) (ha : a < n) (hg : g a b = 1) : a ≠ b := fun z => by
  subst z
  rw [(w.gr a a ha ha).2.2] at hg
  exact absurd hg (by decide)
theorem two_yes (w : Wb n g tl) (h : Pr2 a b d) (h' : Pr2 c e d') (ha : a < n) (hb : b < n) (hc : c < n) (he : e < n) (hg : g a b = 1) (hg' : g c e = 1) : m_two_arrows [wb n tl, d, d'] = .ok (.tup [.tup [.int (a : Int), .int (b : Int)], .tup [.int (c : Int), .int (e : Int)]]) [.non, .non, .non] := by
  simp [m_two_arrows, b_two_arrows, ff_size, pairof_ok h ha hb (w.ne ha hg), pairof_ok h' hc he (w.ne hc hg'), arrow_yes w h ha hb hg, arrow_yes w h' hc he hg']
/-- what is no pair of the web -/
def Bad (n : Nat) (d : Dt) : Prop := m_is_pair [.int (n : Int), d] = .ok (.bl false) [.non, .non]
abbrev xBP : Xc := ⟨"BadPair", ["place"], [.int 0]⟩
abbrev xNT (a b : Nat) : Xc := ⟨"NotTied", ["second", "first"], [.int (b : Int), .int (a : Int)]⟩
theorem pairof_bad (h : Bad n d) : m_pair_of [.int (n : Int), d] = .er xBP [.non, .non] := by
  simp [m_pair_of, b_pair_of, show m_is_pair [.int (n : Int), d] = _ from h, raK]
theorem arrow_bad (h : Bad n d) : m_arrow_in [wb n tl, d] = .er xBP [.non, .non] := by
  simp [m_arrow_in, b_arrow_in, ff_size, pairof_bad h]
end
end Mir

set_option Elab.async false
set_option linter.all false
set_option maxRecDepth 100000
set_option maxHeartbeats 800000
/-! The law's own steps. -/
namespace Mir
open PySem PySem.Spec PyProof.Rows L2 He
def o1 (g : Nat → Nat → Int) (a b k : Nat) : List (Nat × Nat) := ((List.range k).filter fun c => decide (c ≠ b ∧ g a c = 1 ∧ g b c ≠ 1)).map fun c => (a, c)
def o2 (g : Nat → Nat → Int) (a b k : Nat) : List (Nat × Nat) := ((List.range k).filter fun c => decide (c ≠ a ∧ g c b = 1 ∧ g a c ≠ 1)).map fun c => (c, b)
theorem fnd_perm (g : Nat → Nat → Int) (a b : Nat) : ∀ k, (fnd g a b k).Perm (o1 g a b k ++ o2 g a b k)
  | 0 => by simp [fnd, o1, o2]
  | k + 1 => by
    have ih := fnd_perm g a b k
    rw [fnd_succ]
    have e1 : o1 g a b (k + 1) = o1 g a b k ++ (if k ≠ b ∧ g a k = 1 ∧ g b k ≠ 1 then [(a, k)] else []) := by
      unfold o1
      rw [List.range_succ, List.filter_append, List.map_append]
      by_cases c : k ≠ b ∧ g a k = 1 ∧ g b k ≠ 1
      · rw [if_pos c]; simp [c]
      · rw [if_neg c]
        have : decide (k ≠ b ∧ g a k = 1 ∧ g b k ≠ 1) = false := decide_eq_false c
        simp only [List.filter_cons, this, List.filter_nil, Bool.false_eq_true, if_false, List.map_nil]
    have e2 : o2 g a b (k + 1) = o2 g a b k ++ (if k ≠ a ∧ g k b = 1 ∧ g a k ≠ 1 then [(k, b)] else []) := by
      unfold o2
      rw [List.range_succ, List.filter_append, List.map_append]
      by_cases c : k ≠ a ∧ g k b = 1 ∧ g a k ≠ 1
      · rw [if_pos c]; simp [c]
      · rw [if_neg c]
        have : decide (k ≠ a ∧ g k b = 1 ∧ g a k ≠ 1) = false := decide_eq_false c
        simp only [List.filter_cons, this, List.filter_nil, Bool.false_eq_true, if_false, List.map_nil]
    rw [e1, e2]
    generalize (if k ≠ b ∧ g a k = 1 ∧ g b k ≠ 1 then [(a, k)] else []) = x
    generalize (if k ≠ a ∧ g k b = 1 ∧ g a k ≠ 1 then [(k, b)] else []) = y
    refine (List.Perm.append_right (x ++ y) ih).trans ?_
    rw [List.append_assoc, List.append_assoc]
    refine List.Perm.append_left _ ?_
    rw [← List.append_assoc, ← List.append_assoc]
    exact List.Perm.append_right y List.perm_append_comm
theorem isi_bb {b : Bool} : isiD [tbTy "bool"] (.bl b) = some true := by rfl
theorem f_eqB {x y : Bool} : fEq (.bl x) (.bl y) = some (.bl (x == y)) := by
  unfold fEq
  rw [shp_bl, shp_bl]
  cases x <;> cases y <;> simp [PyData.eqv]
end Mir

set_option Elab.async false
set_option linter.all false
set_option maxRecDepth 100000
set_option maxHeartbeats 800000
/-! The law's own steps: 2. -/
namespace Mir
open PySem PySem.Spec PyProof.Rows L2 He
theorem lsteps_ok {n : Nat} {g : Nat → Nat → Int} {a b : Nat} (h : n ≤ 100) (hg : Gr n g) (ha : a < n) (hb : b < n) : m__law_steps [mat n g, .tup [.int (a : Int), .int (b : Int)]] = .ok (prs (o1 g a b n ++ o2 g a b n)) [.non, .non] := by
  have z01 : ∀ i j, i < n → j < n → (g i j = 0 ↔ ¬ g i j = 1) := fun i j hi hj => by
    rcases (hg i j hi hj).1 with z | z <;> rw [z] <;> decide
  have c1 : compL [6] (gSet 6 0) c__law_steps_0 e__law_steps_0 (rangeD 0 n) [] [.vl 0 (mat n g), .vl 0 (.tup [.int a, .int b]), .vl 0 (.int a), .vl 0 (.int b), .vl 0 (.int n), .un, .un] = .ok ((o1 g a b n).map tp) [.vl 0 (mat n g), .vl 0 (.tup [.int a, .int b]), .vl 0 (.int a), .vl 0 (.int b), .vl 0 (.int n), .un, .un] := by
    rw [rangeD_nts, compL_fmf (fun i : Nat => Dt.int (i : Int)) (fun c : Nat => tp (a, c)) (fun c => decide (c ≠ b ∧ g a c = 1 ∧ g b c ≠ 1)) (xs := List.range n) (acc := []) (fun c hc => by
      have hc := List.mem_range.mp hc
      refine ⟨[.vl 0 (mat n g), .vl 0 (.tup [.int a, .int b]), .vl 0 (.int a), .vl 0 (.int b), .vl 0 (.int n), .un, .vl 0 (.int c)], [.vl 0 (mat n g), .vl 0 (.tup [.int a, .int b]), .vl 0 (.int a), .vl 0 (.int b), .vl 0 (.int n), .un, .vl 0 (.int c)], by simp, ?_, fun _ => ⟨[.vl 0 (mat n g), .vl 0 (.tup [.int a, .int b]), .vl 0 (.int a), .vl 0 (.int b), .vl 0 (.int n), .un, .vl 0 (.int c)], by simp [e__law_steps_0, tp], by simp⟩, fun _ => by simp⟩
      by_cases k1 : c = b
      · simp [c__law_steps_0, k1]
      · by_cases k2 : g a c = 1
        · by_cases k3 : g b c = 1
          · simp [c__law_steps_0, k1, k2, k3, show ¬ ((c : Int) = b) by omega, ix_mat ha, ix_mat hb, ix_row hc]
          · simp [c__law_steps_0, k1, k2, (z01 b c hb hc).mpr k3, show ¬ ((c : Int) = b) by omega, ix_mat ha, ix_mat hb, ix_row hc]
        · simp [c__law_steps_0, k1, k2, show ¬ ((c : Int) = b) by omega, ix_mat ha, ix_row hc]) (by simp; exact szN (by omega))]
    simp [o1, List.map_map, Function.comp]
  have c2 : compL [6] (gSet 6 0) c__law_steps_1 e__law_steps_1 (rangeD 0 n) [] [.vl 0 (mat n g), .vl 0 (.tup [.int a, .int b]), .vl 0 (.int a), .vl 0 (.int b), .vl 0 (.int n), .vl 0 (prs (o1 g a b n)), .un] = .ok ((o2 g a b n).map tp) [.vl 0 (mat n g), .vl 0 (.tup [.int a, .int b]), .vl 0 (.int a), .vl 0 (.int b), .vl 0 (.int n), .vl 0 (prs (o1 g a b n)), .un] := by
    rw [rangeD_nts, compL_fmf (fun i : Nat => Dt.int (i : Int)) (fun c : Nat => tp (c, b)) (fun c => decide (c ≠ a ∧ g c b = 1 ∧ g a c ≠ 1)) (xs := List.range n) (acc := []) (fun c hc => by
      have hc := List.mem_range.mp hc
      refine ⟨[.vl 0 (mat n g), .vl 0 (.tup [.int a, .int b]), .vl 0 (.int a), .vl 0 (.int b), .vl 0 (.int n), .vl 0 (prs (o1 g a b n)), .vl 0 (.int c)], [.vl 0 (mat n g), .vl 0 (.tup [.int a, .int b]), .vl 0 (.int a), .vl 0 (.int b), .vl 0 (.int n), .vl 0 (prs (o1 g a b n)), .vl 0 (.int c)], by simp, ?_, fun _ => ⟨[.vl 0 (mat n g), .vl 0 (.tup [.int a, .int b]), .vl 0 (.int a), .vl 0 (.int b), .vl 0 (.int n), .vl 0 (prs (o1 g a b n)), .vl 0 (.int c)], by simp [e__law_steps_1, tp], by simp⟩, fun _ => by simp⟩
      by_cases k1 : c = a
      · simp [c__law_steps_1, k1]
      · by_cases k2 : g c b = 1
        · by_cases k3 : g a c = 1
          · simp [c__law_steps_1, k1, k2, k3, show ¬ ((c : Int) = a) by omega, ix_mat ha, ix_mat hc, ix_row hb, ix_row hc]
          · simp [c__law_steps_1, k1, k2, (z01 a c ha hc).mpr k3, show ¬ ((c : Int) = a) by omega, ix_mat ha, ix_mat hc, ix_row hb, ix_row hc]
        · simp [c__law_steps_1, k1, k2, show ¬ ((c : Int) = a) by omega, ix_mat hc, ix_row hb]) (by simp; exact szN (by omega))]
    simp [o2, List.map_map, Function.comp]
  have l1 : (o1 g a b n).length ≤ n := by
    unfold o1
    rw [List.length_map]
    exact Nat.le_trans (List.length_filter_le _ _) (by simp)
  have l2 : (o2 g a b n).length ≤ n := by
    unfold o2
    rw [List.length_map]
    exact Nat.le_trans (List.length_filter_le _ _) (by simp)
  have ep : ∀ l : List (Nat × Nat), Dt.lst (l.map tp) = prs l := fun _ => rfl
  have ea : fAdd (prs (o1 g a b n)) (prs (o2 g a b n)) = some (.lst ((o1 g a b n ++ o2 g a b n).map tp)) := by
    rw [← ep, ← ep, add_lst (by simp; exact szN (by omega)), List.map_append]
  simp only [m__law_steps, b__law_steps, q_fn, q_ent, q_en, q_en0, List.cons_append, List.nil_append, List.replicate, q_seq, q_asg, q_op, q_var, List.getElem?_cons_zero, List.getElem?_cons_succ, q_vr, q_b1, q_sc, q_d3, ix_t0, ix_t1, q_rz, q_z4, q_o1, q_set, q_a1, q_s1, List.set_cons_succ, List.set_cons_zero, q_un, len_mat, q_z1, q_comp, q_rg1, q_cons, q_nil, q_i1, rgN (show n ≤ 1000 by omega), q_w1, q_w0, c1, q_cpK, q_k1, q_k0, q_bku, ep, q_ret, c2, ea, q_z3]
  simp
end Mir

set_option Elab.async false
set_option linter.all false
set_option maxRecDepth 100000
set_option maxHeartbeats 800000
/-! Facts of the steps. -/
namespace Mir
open PySem PySem.Spec PyProof.Rows L2 He
theorem mem_fnd {g : Nat → Nat → Int} {a b n c d : Nat} : (c, d) ∈ fnd g a b n ↔ (c = a ∧ d < n ∧ d ≠ b ∧ g a d = 1 ∧ g b d ≠ 1) ∨ (d = b ∧ c < n ∧ c ≠ a ∧ g c b = 1 ∧ g a c ≠ 1) := by
  rw [(fnd_perm g a b n).mem_iff, List.mem_append]
  unfold o1 o2
  simp only [List.mem_map, List.mem_filter, List.mem_range, decide_eq_true_eq, Prod.mk.injEq]
  constructor
  · rintro (⟨x, ⟨h1, h2, h3, h4⟩, rfl, rfl⟩ | ⟨x, ⟨h1, h2, h3, h4⟩, rfl, rfl⟩)
    · exact .inl ⟨rfl, h1, h2, h3, h4⟩
    · exact .inr ⟨rfl, h1, h2, h3, h4⟩
  · rintro (⟨rfl, h1, h2, h3, h4⟩ | ⟨rfl, h1, h2, h3, h4⟩)
    · exact .inl ⟨d, ⟨h1, h2, h3, h4⟩, rfl, rfl⟩
    · exact .inr ⟨c, ⟨h1, h2, h3, h4⟩, rfl, rfl⟩
section
variable {n : Nat} {g : Nat → Nat → Int} {tl : List (Nat × Nat)} {a b c d : Nat}
theorem fnd_tie (w : Wb n g tl) (ha : a < n) (hb : b < n) (h : (c, d) ∈ fnd g a b n) : c < n ∧ d < n ∧ g c d = 1 := by
  rcases mem_fnd.mp h with ⟨rfl, h1, h2, h3, h4⟩ | ⟨rfl, h1, h2, h3, h4⟩
  · exact ⟨ha, h1, h3⟩
  · exact ⟨h1, hb, h3⟩
theorem fnd_self (h : (a, b) ∈ fnd g a b n) : False := by
  rcases mem_fnd.mp h with ⟨_, _, h2, _⟩ | ⟨_, _, h2, _⟩
  · exact h2 rfl
  · exact h2 rfl
theorem fnd_back (w : Wb n g tl) (ha : a < n) (hb : b < n) (hg : g a b = 1) (h : (b, a) ∈ fnd g a b n) : False := by
  have := w.ne ha hg
  rcases mem_fnd.mp h with ⟨h1, _⟩ | ⟨h1, _⟩
  · exact this h1.symm
  · exact this h1
/-- what is forced forces back -/
theorem fnd_sym (w : Wb n g tl) (ha : a < n) (hb : b < n) (hg : g a b = 1) (h : (c, d) ∈ fnd g a b n) : (a, b) ∈ fnd g c d n := by
  rcases mem_fnd.mp h with ⟨rfl, h1, h2, h3, h4⟩ | ⟨rfl, h1, h2, h3, h4⟩
  · refine mem_fnd.mpr (.inl ⟨rfl, hb, fun z => h2 z.symm, hg, ?_⟩)
    rw [(w.gr d b h1 hb).2.1]
    exact h4
  · refine mem_fnd.mpr (.inr ⟨rfl, ha, fun z => h2 z.symm, hg, ?_⟩)
    rw [(w.gr c a h1 ha).2.1]
    exact h4
/-- turned round -/
theorem fnd_turn (w : Wb n g tl) (ha : a < n) (hb : b < n) (h : (c, d) ∈ fnd g a b n) : (d, c) ∈ fnd g b a n := by
  rcases mem_fnd.mp h with ⟨rfl, h1, h2, h3, h4⟩ | ⟨rfl, h1, h2, h3, h4⟩
  · exact mem_fnd.mpr (.inr ⟨rfl, h1, h2, by rw [(w.gr d c h1 ha).2.1]; exact h3, h4⟩)
  · exact mem_fnd.mpr (.inl ⟨rfl, h1, h2, by rw [(w.gr d c hb h1).2.1]; exact h3, h4⟩)
end
end Mir

set_option Elab.async false
set_option linter.all false
set_option maxRecDepth 100000
set_option maxHeartbeats 800000
/-! The law's looks at what is told. -/
namespace Mir
open PySem PySem.Spec PyProof.Rows L2 He
theorem isi_tup {l : List Dt} : isiD [tbTy "tuple"] (.tup l) = some true := by rfl
theorem lint_ok (x : Int) : m__law_int [.int x] = .ok (.bl true) [.non] := by simp [m__law_int, b__law_int, isi_ii, isi_ib]
theorem lints_ok (n a b : Nat) (ha : a < n) (hb : b < n) : m__law_ints [.tup [.int (a : Int), .int (b : Int)], .int (n : Int)] = .ok (.bl true) [.non, .non] := by
  simp [m__law_ints, b__law_ints, isi_tup, loopL, l__law_ints_0, lint_ok, ha, hb, show ¬ ((a : Int) < 0) by omega, show ¬ ((b : Int) < 0) by omega, show ¬ ((n : Int) ≤ a) by omega, show ¬ ((n : Int) ≤ b) by omega]
def ni (p : Int × Int) : Nat × Nat := (p.1.toNat, p.2.toNat)
/-- the sorted list in natural numbers -/
theorem srt_nat (l : List (Nat × Nat)) : (srtP (l.map ip)).map pD = ((srtP (l.map ip)).map ni).map tp ∧ ((srtP (l.map ip)).map ni).Perm l := by
  have hp := srtP_perm (l.map ip)
  constructor
  · rw [List.map_map]
    refine List.map_congr_left fun p hp' => ?_
    obtain ⟨q, _, rfl⟩ := List.mem_map.mp (hp.mem_iff.mp hp')
    obtain ⟨a, b⟩ := q
    simp [Function.comp, pD, tp, ni, ip]
  · have h2 := hp.map ni
    rw [List.map_map] at h2
    have e : l.map (ni ∘ ip) = l := by
      conv => rhs; rw [← List.map_id l]
      refine List.map_congr_left fun q _ => ?_
      obtain ⟨a, b⟩ := q
      simp [Function.comp, ni, ip]
    rw [e] at h2
    exact h2
end Mir

set_option Elab.async false
set_option linter.all false
set_option maxRecDepth 100000
set_option maxHeartbeats 800000
/-! No step is told twice. -/
namespace Mir
open PySem PySem.Spec PyProof.Rows L2 He
theorem fnd_nodup (g : Nat → Nat → Int) (a b n : Nat) : (fnd g a b n).Nodup := by
  rw [(fnd_perm g a b n).nodup_iff]
  refine List.nodup_append.mpr ⟨?_, ?_, ?_⟩
  · exact (List.Pairwise.filter _ List.nodup_range).map _ fun x y h z => h (Prod.mk.inj z).2
  · exact (List.Pairwise.filter _ List.nodup_range).map _ fun x y h z => h (Prod.mk.inj z).1
  · intro p hp q hq z
    subst z
    unfold o1 at hp
    unfold o2 at hq
    obtain ⟨x, hx, rfl⟩ := List.mem_map.mp hp
    obtain ⟨y, hy, e⟩ := List.mem_map.mp hq
    have h1 := of_decide_eq_true (List.mem_filter.mp hx).2
    have h2 := (Prod.mk.inj e).2
    exact h1.1 h2.symm
theorem lexT_of {p q : Nat × Nat} (h : lexb (ip q) (ip p) = false) (hn : p ≠ q) : lexT p q := by
  obtain ⟨a, b⟩ := p
  obtain ⟨c, d⟩ := q
  simp [lexb, ip] at h
  unfold lexT
  simp only []
  by_cases e : a = c
  · subst e
    have : ¬ b = d := fun z => hn (by rw [z])
    have h3 := h.2 (by simp)
    omega
  · omega
end Mir

set_option Elab.async false
set_option linter.all false
set_option maxRecDepth 100000
set_option maxHeartbeats 800000
/-! Pairs as told. -/
namespace Mir
open PySem PySem.Spec PyProof.Rows L2 He
theorem lt_pair {x y a b : Int} (h : x < a ∨ (x = a ∧ y < b)) : fLt (.tup [.int x, .int y]) (.tup [.int a, .int b]) = some (.bl true) := by
  have e : HT.lexLt [x, y] [a, b] = true := by
    rcases h with h | ⟨rfl, h⟩
    · simp [HT.lexLt, h]
      omega
    · simp [HT.lexLt, h]
      omega
  simp [fLt, intsD, e]
theorem lpairs_ok (n : Nat) (sl : List (Nat × Nat)) (hw : sl.Pairwise lexT) (hm : ∀ p ∈ sl, p.1 < n ∧ p.2 < n ∧ p.1 ≠ p.2) : m__law_pairs [.tup (sl.map tp), .int (n : Int)] = .ok (.bl true) [.non, .non] := by
  obtain ⟨ε', e, x, y, s3, _, rfl, _⟩ := loop_ind (t := gSet 3 0) (body := l__law_pairs_0) (fun ds ε => ∃ (x y : Int) (s3 : Sl) (rest : List (Nat × Nat)), ε = [.vl 0 (.tup (sl.map tp)), .vl 0 (.int n), .vl 0 (.tup [.int x, .int y]), s3] ∧ ds = rest.map tp ∧ rest.Pairwise lexT ∧ (∀ p ∈ rest, p.1 < n ∧ p.2 < n ∧ p.1 ≠ p.2) ∧ ∀ p ∈ rest, x < (p.1 : Int) ∨ (x = (p.1 : Int) ∧ y < (p.2 : Int)))
    (by
      rintro d r ε ⟨x, y, s3, rest, rfl, hds, hw, hm, hl⟩
      cases rest with
      | nil => cases hds
      | cons p rest =>
        obtain ⟨a, b⟩ := p
        simp only [List.map_cons, List.cons.injEq, tp] at hds
        obtain ⟨rfl, rfl⟩ := hds
        obtain ⟨h1, h2, h3⟩ := hm _ (List.mem_cons_self ..)
        have h4 := hl _ (List.mem_cons_self ..)
        simp only [] at h1 h2 h3 h4
        refine ⟨[.vl 0 (.tup (sl.map tp)), .vl 0 (.int n), .vl 0 (.tup [.int x, .int y]), .vl 0 (.tup [.int a, .int b])], [.vl 0 (.tup (sl.map tp)), .vl 0 (.int n), .vl 0 (.tup [.int a, .int b]), .vl 0 (.tup [.int a, .int b])], by simp, .inl ?_, a, b, _, rest, rfl, rfl, (List.pairwise_cons.mp hw).2, fun p hp => hm p (List.mem_cons_of_mem _ hp), fun p hp => ?_⟩
        · simp [l__law_pairs_0, lints_ok n a b h1 h2, ix_t0, ix_t1, show ¬ ((a : Int) = b) by omega, lt_pair h4]
        · have := (List.pairwise_cons.mp hw).1 p hp
          unfold lexT at this
          simp only [] at this
          omega)
    (ds := sl.map tp) (ε := [.vl 0 (.tup (sl.map tp)), .vl 0 (.int n), .vl 0 (.tup [.int (-1), .int (-1)]), .un]) ⟨-1, -1, _, sl, rfl, rfl, hw, hm, fun p _ => .inl (by omega)⟩
  simp [m__law_pairs, b__law_pairs, isi_tup]
  rw [e]
  simp
end Mir

set_option Elab.async false
set_option linter.all false
set_option maxRecDepth 100000
set_option maxHeartbeats 800000
/-! What is no pair. -/
namespace Mir
open PySem PySem.Spec PyProof.Rows L2 He
theorem isi_n : isiD [tbTy "list", tbTy "tuple"] .non = some false := by rfl
theorem isi_s {z : Str} : isiD [tbTy "list", tbTy "tuple"] (.str z) = some false := by rfl
theorem isi_bi {b : Bool} : isiD [tbTy "int"] (.bl b) = some true := by rfl
theorem isint_b (b : Bool) : m_is_integer [.bl b] = .ok (.bl false) [.non] := by simp [m_is_integer, b_is_integer, isi_bi, isi_bb]
theorem isthing_b (n : Int) (b : Bool) : m_is_thing [.int n, .bl b] = .ok (.bl false) [.non, .non] := by simp [m_is_thing, b_is_thing, isint_b]
theorem bad0 (n : Nat) : Bad n .non := by simp [Bad, m_is_pair, b_is_pair, isi_n]
theorem bad5 (n : Nat) (z : Str) : Bad n (.str z) := by simp [Bad, m_is_pair, b_is_pair, isi_s]
theorem bad1 (n : Nat) : Bad n (.tup [.int 0, .int 0]) := by
  by_cases h : 0 < n <;> simp [Bad, m_is_pair, b_is_pair, isi_t, ix_t0, ix_t1, isthing_ok, h]
theorem bad2 (n : Nat) : Bad n (.lst [.int 0]) := by simp [Bad, m_is_pair, b_is_pair, isi_l]
theorem bad3 (n : Nat) : Bad n (.tup [.int 0, .int (n : Int)]) := by
  by_cases h : 0 < n <;> simp [Bad, m_is_pair, b_is_pair, isi_t, ix_t0, ix_t1, isthing_ok, h]
theorem bad4 (n : Nat) : Bad n (.tup [.bl true, .int 0]) := by simp [Bad, m_is_pair, b_is_pair, isi_t, ix_t0, ix_t1, isthing_b]
theorem bad6 (n : Nat) : Bad n (.tup [.int (-1), .int 0]) := by simp [Bad, m_is_pair, b_is_pair, isi_t, ix_t0, ix_t1, isthing_ok]
theorem bad7 (n : Nat) : Bad n (.tup [.int 0, .int 1, .int 0]) := by simp [Bad, m_is_pair, b_is_pair, isi_t]
end Mir

set_option Elab.async false
set_option linter.all false
set_option maxRecDepth 100000
set_option maxHeartbeats 800000
/-! An arrow is right. -/
namespace Mir
open PySem PySem.Spec PyProof.Rows L2 He
theorem len_prs {l : List (Nat × Nat)} : bLen (prs l) = some (.sc (.int (l.length : Int))) := by simp [prs]
theorem ix_prt {l : List (Nat × Nat)} {i : Nat} (h : i < l.length) : fIx (prs l) (.int (i : Int)) = some (.el (tp l[i])) := ix_prs h
theorem ip_inj {p q : Nat × Nat} (h : ip p = ip q) : p = q := by
  obtain ⟨a, b⟩ := p
  obtain ⟨c, d⟩ := q
  simp [ip] at h
  exact Prod.ext (by simp only []; omega) (by simp only []; omega)
theorem mem_ip (p : Nat × Nat) (l : List (Nat × Nat)) : ip p ∈ l.map ip ↔ p ∈ l := by
  constructor
  · intro h
    obtain ⟨q, h1, h2⟩ := List.mem_map.mp h
    rw [← ip_inj h2]
    exact h1
  · exact fun h => List.mem_map.mpr ⟨_, h, rfl⟩
theorem map_ip_inj {l m : List (Nat × Nat)} (h : l.map ip = m.map ip) : l = m := (List.map_inj_right fun _ _ z => ip_inj z).mp h
theorem in_tupN (p : Nat × Nat) (l : List (Nat × Nat)) : fIn false (tp p) (.tup (l.map tp)) = some (.bl (decide (p ∈ l))) := by
  have z := in_tup (ip p) (l.map ip)
  rw [pD_ip, show decide (ip p ∈ l.map ip) = decide (p ∈ l) from decide_eq_decide.mpr (mem_ip p l)] at z
  exact z
theorem in_prs (p : Nat × Nat) (l : List (Nat × Nat)) : fIn false (tp p) (prs l) = some (.bl (decide (p ∈ l))) := by
  have z := in_lst (ip p) (l.map ip)
  rw [pD_ip, show decide (ip p ∈ l.map ip) = decide (p ∈ l) from decide_eq_decide.mpr (mem_ip p l)] at z
  exact z
theorem ne_prs (l m : List (Nat × Nat)) : fNe (prs l) (prs m) = some (.bl (!decide (l = m))) := by
  have z := ne_lst (l.map ip) (m.map ip)
  rw [pD_ip, pD_ip, show decide (l.map ip = m.map ip) = decide (l = m) from decide_eq_decide.mpr ⟨map_ip_inj, fun h => by rw [h]⟩] at z
  exact z
theorem ne_tupN (l m : List (Nat × Nat)) : fNe (.tup (l.map tp)) (.tup (m.map tp)) = some (.bl (!decide (l = m))) := by
  have z := ne_tup (l.map ip) (m.map ip)
  rw [pD_ip, pD_ip, show decide (l.map ip = m.map ip) = decide (l = m) from decide_eq_decide.mpr ⟨map_ip_inj, fun h => by rw [h]⟩] at z
  exact z
/-! what is due -/
def srt (g : Nat → Nat → Int) (a b n : Nat) : List (Nat × Nat) := (srtP ((fnd g a b n).map ip)).map ni
theorem told_eq (g : Nat → Nat → Int) (a b n : Nat) : told g a b n = .tup ((srt g a b n).map tp) := by
  unfold told srt
  rw [(srt_nat (fnd g a b n)).1]
theorem srt_perm (g : Nat → Nat → Int) (a b n : Nat) : (srt g a b n).Perm (fnd g a b n) := (srt_nat (fnd g a b n)).2
theorem srt_mem {g : Nat → Nat → Int} {a b n : Nat} {p : Nat × Nat} : p ∈ srt g a b n ↔ p ∈ fnd g a b n := (srt_perm g a b n).mem_iff
theorem srt_ip (g : Nat → Nat → Int) (a b n : Nat) : (srt g a b n).map ip = srtP ((fnd g a b n).map ip) := by
  unfold srt
  rw [List.map_map]
  conv => rhs; rw [← List.map_id (srtP ((fnd g a b n).map ip))]
  refine List.map_congr_left fun p hp => ?_
  obtain ⟨q, _, rfl⟩ := List.mem_map.mp ((srtP_perm _).mem_iff.mp hp)
  obtain ⟨x, y⟩ := q
  simp [Function.comp, ip, ni]
theorem srt_pw (g : Nat → Nat → Int) (a b n : Nat) : (srt g a b n).Pairwise lexT := by
  have hs := srtP_sorted ((fnd g a b n).map ip)
  rw [← srt_ip] at hs
  have hnd : (srt g a b n).Nodup := (srt_perm g a b n).nodup_iff.mpr (fnd_nodup g a b n)
  have h2 := List.pairwise_map.mp hs
  exact List.Pairwise.imp₂ (fun p q h1 h3 => lexT_of h1 h3) h2 hnd
theorem due_eq (g : Nat → Nat → Int) (a b n : Nat) : fSorted [prs (o1 g a b n ++ o2 g a b n)] = some (.lst ((srt g a b n).map tp)) := by
  rw [sorted_prs, srtP_eq ((fnd_perm g a b n).symm.map ip)]
  unfold srt
  rw [(srt_nat (fnd g a b n)).1]
end Mir

set_option Elab.async false
set_option linter.all false
set_option maxRecDepth 100000
set_option maxHeartbeats 400000
/-! Reckoning with mirrors: slices, stores at an index, reversals, reading dicts. -/
namespace Mir
open PySem PySem.Spec PyProof.Rows L2 He
section
variable {ε ε1 : Ev} {d : Dt} {f fa fk fd fi : Ev → Rs Dt} {fl fh : Ev → Rs (Option Int)} {i k : Nat} {l : List Dt}
def paK (ε : Ev) (d : Dt) : Rs (Option Int) := match d with
  | .int i => .ok (some i) ε
  | _ => .no
@[simp] theorem q_paK {j : Int} : paK ε (.int j) = .ok (some j) ε := id rfl
@[simp] theorem q_part : mPart f ε = (f ε).bind fun d ε1 => paK ε1 d := id rfl
@[simp] theorem q_sliceT : mSliceT fa fl fh ε = (fa ε).bind fun d ε1 => (fl ε1).bind fun l ε2 => (fh ε2).bind fun r ε3 => mOpt (slT d l r) ε3 := id rfl
@[simp] theorem q_sliceL : mSliceL fa fl fh ε = (fa ε).bind fun d ε1 => (fl ε1).bind fun l ε2 => (fh ε2).bind fun r ε3 => mOpt (slD d l r) ε3 := id rfl
@[simp] theorem q_slT {lo hi : Option Int} : slT (.tup l) lo hi = some (.tup (cutD l lo hi)) := id rfl
@[simp] theorem q_slD {lo hi : Option Int} : slD (.lst l) lo hi = some (.lst (cutD l lo hi)) := id rfl
theorem cut_take {i : Nat} : cutD l none (some (i : Int)) = l.take i := by
  unfold cutD
  rw [HT.sIx_none, HT.sIx_nat]
  simp
theorem cut_drop {i : Nat} : cutD l (some (i : Int)) none = l.drop i := by
  unfold cutD
  rw [HT.sIx_none, HT.sIx_nat]
  by_cases h : i ≤ l.length
  · rw [Nat.min_eq_left h]
    exact List.take_of_length_le (by rw [List.length_drop]; omega)
  · rw [Nat.min_eq_right (by omega), List.drop_eq_nil_of_le (by omega), List.drop_eq_nil_of_le (by omega)]
    simp
@[simp] theorem q_dget : mDGet fd fk ε = (fd ε).bind fun d ε1 => (fk ε1).bind fun k ε2 => (mOpt (getD? d k) ε2).bind fun r ε2 => mOpt r ε2 := id rfl
@[simp] theorem q_revL : mRevL fa ε = (fa ε).bind fun d ε1 => mOpt (revD d) ε1 := id rfl
@[simp] theorem q_revD : revD (.lst l) = some (.lst l.reverse) := id rfl
def itA (d : Dt) (ε : Ev) : Rs (List Dt) := match d with
  | .lst ds => .ok ds ε
  | .tup ds => .ok ds ε
  | _ => .no
@[simp] theorem q_itAl : itA (.lst l) ε = .ok l ε := id rfl
@[simp] theorem q_itAt : itA (.tup l) ε = .ok l ε := id rfl
@[simp] theorem q_iterA : mIterA f ε = (f ε).bind itA := id rfl
@[simp] theorem q_while {n : Nat} {c : Ev → Rs Bool} {g : Ev → So} : sWhile n c g ε = loopW c g n ε := id rfl
theorem put_ok {z : Nat} (h0 : ε[i]? = some (.vl 1 (.lst l))) (h1 : fi ε = .ok (.int (z : Int)) ε) (hz : z < l.length) : gPut i fi d ε = .ok () (ε.set i (.vl 1 (.lst (l.set z d)))) := by
  unfold gPut
  rw [h0]
  show (fi ε).bind _ = _
  rw [h1]
  simp only [q_b1]
  unfold putAt
  simp [h0, ixN_nat, hz]
end
end Mir

set_option Elab.async false
set_option linter.all false
set_option maxRecDepth 100000
set_option maxHeartbeats 400000
/-! Walks, and two ways to search them layer by layer. Plain Lean. -/
namespace Mir
inductive Wlk {α : Type} (r : α → α → Prop) (s : α) : Nat → α → Prop
  | zero : Wlk r s 0 s
  | succ {k : Nat} {p q : α} : Wlk r s k p → r p q → Wlk r s (k + 1) q
section
variable {α : Type} {r : α → α → Prop} {s : α}
/-! a queue -/
structure QInv (r : α → α → Prop) (s : α) (at_ : Nat) (Z : List (α × Nat)) : Prop where
  ne : Z[0]? = some (s, 0)
  wk : ∀ x ∈ Z, Wlk r s x.2 x.1
  nd : (Z.map Prod.fst).Nodup
  mono : Z.Pairwise fun x y => x.2 ≤ y.2
  bd : ∀ x, Z[at_]? = some x → ∀ y ∈ Z, y.2 ≤ x.2 + 1
  cl : ∀ (i : Nat) x, i < at_ → Z[i]? = some x → ∀ q, r x.1 q → ∃ y ∈ Z, y.1 = q ∧ y.2 ≤ x.2 + 1
structure QIn (r : α → α → Prop) (s : α) (at_ : Nat) (Z : List (α × Nat)) (x : α × Nat) (done : List α) : Prop extends QInv r s at_ Z where
  hx : Z[at_]? = some x
  dn : ∀ q ∈ done, ∃ y ∈ Z, y.1 = q ∧ y.2 ≤ x.2 + 1
theorem QInv.start : QInv r s 0 [(s, 0)] where
  ne := rfl
  wk x hx := by
    obtain rfl := List.mem_singleton.mp hx
    exact .zero
  nd := by simp
  mono := List.pairwise_singleton _ _
  bd x hx y hy := by
    obtain rfl := List.mem_singleton.mp hy
    simp
  cl i x hi := absurd hi (Nat.not_lt_zero i)
variable {at_ : Nat} {Z : List (α × Nat)} {x : α × Nat} {done : List α} {q : α}
theorem QIn.have_ (h : QIn r s at_ Z x done) (hq : q ∈ Z.map Prod.fst) : QIn r s at_ Z x (done ++ [q]) := by
  refine ⟨h.toQInv, h.hx, fun w hw => ?_⟩
  rcases List.mem_append.mp hw with hw | hw
  · exact h.dn w hw
  · obtain rfl := List.mem_singleton.mp hw
    obtain ⟨y, hy, rfl⟩ := List.mem_map.mp hq
    exact ⟨y, hy, rfl, h.bd x h.hx y hy⟩
theorem QIn.add (h : QIn r s at_ Z x done) (hq : q ∉ Z.map Prod.fst) (hr : r x.1 q) : QIn r s at_ (Z ++ [(q, x.2 + 1)]) x (done ++ [q]) := by
  have hlt : at_ < Z.length := (List.getElem?_eq_some_iff.mp h.hx).1
  have hx' : (Z ++ [(q, x.2 + 1)])[at_]? = some x := by rw [List.getElem?_append_left hlt]; exact h.hx
  have hxm : x ∈ Z := List.mem_of_getElem? h.hx
  refine ⟨⟨?_, fun y hy => ?_, ?_, ?_, fun y hy z hz => ?_, fun i y hi hy w hw => ?_⟩, hx', fun w hw => ?_⟩
  · rw [List.getElem?_append_left (by omega)]; exact h.ne
  · rcases List.mem_append.mp hy with hy | hy
    · exact h.wk y hy
    · obtain rfl := List.mem_singleton.mp hy
      exact .succ (h.wk x hxm) hr
  · rw [List.map_append, List.nodup_append]
    refine ⟨h.nd, by simp, fun a ha b hb z => ?_⟩
    subst z
    obtain rfl : a = q := by simpa using hb
    exact hq ha
  · rw [List.pairwise_append]
    refine ⟨h.mono, List.pairwise_singleton _ _, fun y hy z hz => ?_⟩
    obtain rfl := List.mem_singleton.mp hz
    exact h.bd x h.hx y hy
  · rw [hx'] at hy
    obtain rfl := Option.some.inj hy
    rcases List.mem_append.mp hz with hz | hz
    · exact h.bd _ h.hx z hz
    · obtain rfl := List.mem_singleton.mp hz
      exact Nat.le_refl _
  · rw [List.getElem?_append_left (by omega)] at hy
    obtain ⟨z, hz, e⟩ := h.cl i y hi hy w hw
    exact ⟨z, List.mem_append_left _ hz, e⟩
  · rcases List.mem_append.mp hw with hw | hw
    · obtain ⟨z, hz, e⟩ := h.dn w hw
      exact ⟨z, List.mem_append_left _ hz, e⟩
    · obtain rfl := List.mem_singleton.mp hw
      exact ⟨_, List.mem_append_right _ (List.mem_singleton.mpr rfl), rfl, Nat.le_refl _⟩
theorem QInv.begin_ (h : QInv r s at_ Z) (hx : Z[at_]? = some x) : QIn r s at_ Z x [] := ⟨h, hx, fun _ hq => nomatch hq⟩
theorem QIn.next (h : QIn r s at_ Z x done) (hd : ∀ q, r x.1 q → q ∈ done) : QInv r s (at_ + 1) Z := by
  refine ⟨h.ne, h.wk, h.nd, h.mono, fun y hy z hz => ?_, fun i y hi hy w hw => ?_⟩
  · have h1 := h.bd x h.hx z hz
    obtain ⟨l1, e1⟩ := List.getElem?_eq_some_iff.mp h.hx
    obtain ⟨l2, e2⟩ := List.getElem?_eq_some_iff.mp hy
    have h2 := List.pairwise_iff_getElem.mp h.mono at_ (at_ + 1) l1 l2 (Nat.lt_succ_self _)
    rw [e1, e2] at h2
    omega
  · by_cases c : i < at_
    · exact h.cl i y c hy w hw
    · obtain rfl : i = at_ := by omega
      rw [h.hx] at hy
      obtain rfl := Option.some.inj hy
      exact h.dn w (hd w hw)
theorem QInv.fin (h : QInv r s at_ Z) (hl : Z.length ≤ at_) {k : Nat} {p : α} (w : Wlk r s k p) : ∃ y ∈ Z, y.1 = p ∧ y.2 ≤ k := by
  induction w with
  | zero => exact ⟨_, List.mem_of_getElem? h.ne, rfl, Nat.le_refl _⟩
  | succ w hr ih =>
    obtain ⟨y, hy, rfl, hk⟩ := ih
    obtain ⟨i, hi⟩ := List.mem_iff_getElem?.mp hy
    have : i < Z.length := (List.getElem?_eq_some_iff.mp hi).1
    obtain ⟨z, hz, e, hz2⟩ := h.cl i y (by omega) hi _ hr
    exact ⟨z, hz, e, by omega⟩
/-! layer by layer -/
structure Nd (α : Type) where
  key : α
  lev : Nat
  par : Option α
structure LInv (r : α → α → Prop) (s : α) (k : Nat) (Z : List (Nd α)) : Prop where
  ne : ∃ x ∈ Z, x.key = s ∧ x.lev = 0
  wk : ∀ x ∈ Z, Wlk r s x.lev x.key
  nd : (Z.map Nd.key).Nodup
  pa : ∀ x ∈ Z, (x.lev = 0 ∧ x.key = s ∧ x.par = none) ∨ ∃ y ∈ Z, x.par = some y.key ∧ r y.key x.key ∧ x.lev = y.lev + 1
  cl : ∀ x ∈ Z, x.lev < k → ∀ q, r x.key q → ∃ y ∈ Z, y.key = q ∧ y.lev ≤ x.lev + 1
structure LIn (r : α → α → Prop) (s : α) (k : Nat) (Z : List (Nd α)) (layer fresh done : List α) : Prop extends LInv r s k Z where
  la : ∀ p, p ∈ layer ↔ ∃ x ∈ Z, x.key = p ∧ x.lev = k
  fr : ∀ p, p ∈ fresh ↔ ∃ x ∈ Z, x.key = p ∧ x.lev = k + 1
  le : ∀ x ∈ Z, x.lev ≤ k + 1
  dn : ∀ p ∈ done, ∀ q, r p q → ∃ y ∈ Z, y.key = q ∧ y.lev ≤ k + 1
structure LOut (r : α → α → Prop) (s : α) (k : Nat) (Z : List (Nd α)) (layer : List α) : Prop extends LInv r s k Z where
  la : ∀ p, p ∈ layer ↔ ∃ x ∈ Z, x.key = p ∧ x.lev = k
  le : ∀ x ∈ Z, x.lev ≤ k
theorem LOut.start : LOut r s 0 [⟨s, 0, none⟩] [s] where
  ne := ⟨_, List.mem_singleton.mpr rfl, rfl, rfl⟩
  wk x hx := by
    obtain rfl := List.mem_singleton.mp hx
    exact .zero
  nd := by simp
  pa x hx := by
    obtain rfl := List.mem_singleton.mp hx
    exact .inl ⟨rfl, rfl, rfl⟩
  cl x hx h := absurd h (Nat.not_lt_zero _)
  la p := by
    constructor
    · intro h
      obtain rfl := List.mem_singleton.mp h
      exact ⟨_, List.mem_singleton.mpr rfl, rfl, rfl⟩
    · rintro ⟨x, hx, rfl, _⟩
      obtain rfl := List.mem_singleton.mp hx
      exact List.mem_singleton.mpr rfl
  le x hx := by
    obtain rfl := List.mem_singleton.mp hx
    exact Nat.le_refl _
variable {k : Nat} {Y : List (Nd α)} {layer fresh dne : List α} {p : α}
theorem LOut.begin_ (h : LOut r s k Y layer) : LIn r s k Y layer [] [] := by
  refine ⟨h.toLInv, h.la, fun p => ⟨fun hp => (nomatch hp), ?_⟩, fun x hx => Nat.le_succ_of_le (h.le x hx), fun p hp => (nomatch hp)⟩
  rintro ⟨x, hx, _, e⟩
  have := h.le x hx
  omega
/-- a new one is found from p, which stands in the layer -/
theorem LIn.add (h : LIn r s k Y layer fresh dne) (hp : p ∈ layer) (hr : r p q) (hq : q ∉ Y.map Nd.key) : LIn r s k (Y ++ [⟨q, k + 1, some p⟩]) layer (fresh ++ [q]) dne := by
  obtain ⟨x0, hx0, rfl, hk⟩ := (h.la p).mp hp
  refine ⟨⟨?_, fun y hy => ?_, ?_, fun y hy => ?_, fun y hy hl w hw => ?_⟩, fun w => ?_, fun w => ?_, fun y hy => ?_, fun w hw v hv => ?_⟩
  · obtain ⟨x, hx, e⟩ := h.ne
    exact ⟨x, List.mem_append_left _ hx, e⟩
  · rcases List.mem_append.mp hy with hy | hy
    · exact h.wk y hy
    · obtain rfl := List.mem_singleton.mp hy
      have := h.wk x0 hx0
      rw [hk] at this
      exact .succ this hr
  · rw [List.map_append, List.nodup_append]
    refine ⟨h.nd, by simp, fun a ha b hb z => ?_⟩
    subst z
    obtain rfl : a = q := by simpa using hb
    exact hq ha
  · rcases List.mem_append.mp hy with hy | hy
    · rcases h.pa y hy with e | ⟨z, hz, e⟩
      · exact .inl e
      · exact .inr ⟨z, List.mem_append_left _ hz, e⟩
    · obtain rfl := List.mem_singleton.mp hy
      exact .inr ⟨x0, List.mem_append_left _ hx0, rfl, hr, by simp only []; omega⟩
  · rcases List.mem_append.mp hy with hy | hy
    · obtain ⟨z, hz, e⟩ := h.cl y hy hl w hw
      exact ⟨z, List.mem_append_left _ hz, e⟩
    · obtain rfl := List.mem_singleton.mp hy
      simp only [] at hl
      omega
  · rw [h.la]
    constructor
    · rintro ⟨x, hx, e⟩
      exact ⟨x, List.mem_append_left _ hx, e⟩
    · rintro ⟨x, hx, e1, e2⟩
      rcases List.mem_append.mp hx with hx | hx
      · exact ⟨x, hx, e1, e2⟩
      · obtain rfl := List.mem_singleton.mp hx
        simp only [] at e2
        omega
  · rw [List.mem_append, h.fr]
    constructor
    · rintro (⟨x, hx, e⟩ | e)
      · exact ⟨x, List.mem_append_left _ hx, e⟩
      · obtain rfl := List.mem_singleton.mp e
        exact ⟨_, List.mem_append_right _ (List.mem_singleton.mpr rfl), rfl, rfl⟩
    · rintro ⟨x, hx, e1, e2⟩
      rcases List.mem_append.mp hx with hx | hx
      · exact .inl ⟨x, hx, e1, e2⟩
      · obtain rfl := List.mem_singleton.mp hx
        exact .inr (List.mem_singleton.mpr e1.symm)
  · rcases List.mem_append.mp hy with hy | hy
    · exact h.le y hy
    · obtain rfl := List.mem_singleton.mp hy
      exact Nat.le_refl _
  · obtain ⟨z, hz, e⟩ := h.dn w hw v hv
    exact ⟨z, List.mem_append_left _ hz, e⟩
/-- p is done -/
theorem LIn.done_ (h : LIn r s k Y layer fresh dne) (hd : ∀ q, r p q → q ∈ Y.map Nd.key) : LIn r s k Y layer fresh (dne ++ [p]) := by
  refine ⟨h.toLInv, h.la, h.fr, h.le, fun w hw v hv => ?_⟩
  rcases List.mem_append.mp hw with hw | hw
  · exact h.dn w hw v hv
  · obtain rfl := List.mem_singleton.mp hw
    obtain ⟨y, hy, e⟩ := List.mem_map.mp (hd v hv)
    exact ⟨y, hy, e, h.le y hy⟩
theorem LIn.next (h : LIn r s k Y layer fresh layer) : LOut r s (k + 1) Y fresh := by
  refine ⟨⟨h.ne, h.wk, h.nd, h.pa, fun x hx hl q hq => ?_⟩, h.fr, h.le⟩
  by_cases c : x.lev < k
  · exact h.cl x hx c q hq
  · have e : x.lev = k := by omega
    obtain ⟨y, hy, e1, e2⟩ := h.dn x.key ((h.la _).mpr ⟨x, hx, rfl, e⟩) q hq
    exact ⟨y, hy, e1, by omega⟩
theorem LInv.near (h : LInv r s k Y) {j : Nat} {p : α} (w : Wlk r s j p) : j ≤ k → ∃ y ∈ Y, y.key = p ∧ y.lev ≤ j := by
  induction w with
  | zero =>
    intro _
    obtain ⟨x, hx, e, e2⟩ := h.ne
    exact ⟨x, hx, e, by omega⟩
  | succ w hr ih =>
    intro hj
    obtain ⟨y, hy, rfl, hk⟩ := ih (by omega)
    obtain ⟨z, hz, e, hz2⟩ := h.cl y hy (by omega) _ hr
    exact ⟨z, hz, e, by omega⟩
end
end Mir

set_option Elab.async false
set_option linter.all false
set_option maxRecDepth 100000
set_option maxHeartbeats 800000
/-! A drawn web; the law's own layers. -/
namespace Mir
open PySem PySem.Spec PyProof.Rows L2 He
theorem drawn_g (l : List Int) (m : Nat) (h4 : 4 ≤ m) (h : m ≤ 100) : ∃ d l' n, m__law_drawn [dr l, .int (m : Int)] = .ok d [dr l', .non] ∧ isG n d ∧ 1 ≤ n ∧ n ≤ m := by
  obtain ⟨r, l1, e1, hr⟩ := takeN l 5 (by omega)
  obtain ⟨s, l2, e2, hs⟩ := takeN l1 (m - 3) (by omega)
  have em : ((m - 3 : Nat) : Int) = (m : Int) - 3 := by omega
  rw [em] at e2
  simp at e1
  have tail : ∀ (l : List Int) (n : Nat) (d : Dt), isG n d → n ≤ m → ∃ d' l' rl, isG n d' ∧ m__law_row [dr l, .int (n : Int)] = .ok (nts rl) [dr l', .non] ∧ m__law_renamed [d, nts rl] = .ok d' [.non, .non] := fun l n d hd hn => by
    obtain ⟨rl, l', e, hp⟩ := row_spec l n (by omega)
    obtain ⟨d', e2, hd'⟩ := renamed_g n (by omega) hd hp
    exact ⟨d', l', rl, hd', e, e2⟩
  have hc : r = 0 ∨ r = 1 ∨ r = 2 ∨ r = 3 ∨ r = 4 := by omega
  rcases hc with rfl | rfl | rfl | rfl | rfl
  · obtain ⟨d, e3, hd⟩ := path_g (3 + s) (by omega)
    obtain ⟨d', l4, rl, hd', e4, e5⟩ := tail l2 (3 + s + 1) d hd (by omega)
    have es : ((3 + s + 1 : Nat) : Int) = 4 + (s : Int) := by omega
    have hl := hd.len
    rw [es] at e3 e4 hl
    exact ⟨d', l4, 3 + s + 1, by simp [m__law_drawn, b__law_drawn, e1, e2, e3, hl, e4, e5], hd', by omega, by omega⟩
  · obtain ⟨d, e3, hd⟩ := round_g (3 + s) (by omega) (by omega)
    obtain ⟨d', l4, rl, hd', e4, e5⟩ := tail l2 (3 + s + 1) d hd (by omega)
    have es : ((3 + s + 1 : Nat) : Int) = 4 + (s : Int) := by omega
    have hl := hd.len
    rw [es] at e3 e4 hl
    exact ⟨d', l4, 3 + s + 1, by simp [m__law_drawn, b__law_drawn, e1, e2, e3, hl, e4, e5], hd', by omega, by omega⟩
  · obtain ⟨r3, l3, e3, hr3⟩ := takeN l2 4 (by omega)
    obtain ⟨d, l4, e4, hd⟩ := any_ties_g l3 (4 + s - r3) (by omega)
    obtain ⟨d', l5, rl, hd', e5, e6⟩ := tail l4 (4 + s - r3) d hd (by omega)
    have es : ((4 + s - r3 : Nat) : Int) = 4 + (s : Int) - r3 := by omega
    have hl := hd.len
    rw [es] at e4 e5 hl
    simp at e3
    exact ⟨d', l5, 4 + s - r3, by simp [m__law_drawn, b__law_drawn, e1, e2, e3, e4, hl, e5, e6], hd', by omega, by omega⟩
  · obtain ⟨ra, l3, e3, hpa⟩ := row_spec l2 (4 + s) (by omega)
    obtain ⟨rb, l4, e4, hpb⟩ := row_spec l3 (4 + s) (by omega)
    obtain ⟨d, e5, hd⟩ := agree_g (4 + s) (by omega) ra [rb] (by simp; exact ⟨hpa, hpb⟩) (by simp)
    obtain ⟨d', l5, rl, hd', e6, e7⟩ := tail l4 (4 + s) d hd (by omega)
    simp at e3 e4 e5 e6
    exact ⟨d', l5, 4 + s, by simp [m__law_drawn, b__law_drawn, e1, e2, e3, e4, e5, hd.len, e6, e7], hd', by omega, by omega⟩
  · obtain ⟨d0, e3, hd0⟩ := path_g 3 (by omega)
    obtain ⟨r4, l4, e4, hr4⟩ := takeN l2 4 (by omega)
    obtain ⟨d1, l5, e5, hd1⟩ := any_ties_g l4 (1 + s) (by omega)
    obtain ⟨d, e6, hd⟩ := graft_g 4 (1 + s) (by omega) hd0 hd1 r4 hr4
    rw [show 4 - 1 + (1 + s) = 4 + s by omega] at hd
    obtain ⟨d', l6, rl, hd', e7, e8⟩ := tail l5 (4 + s) d hd (by omega)
    have es : ((1 + s : Nat) : Int) = 4 + (s : Int) - 3 := by omega
    rw [es] at e5
    simp at e3 e4 e7
    exact ⟨d', l6, 4 + s, by simp [m__law_drawn, b__law_drawn, e1, e2, e3, e4, e5, e6, hd.len, e7, e8], hd', by omega, by omega⟩
theorem fin_neg {d1 d2 : Dt} {b : Bool} (h : fIn false d1 d2 = some (.bl b)) : fIn true d1 d2 = some (.bl (!b)) := by
  unfold fIn at h ⊢
  obtain ⟨x, y, e1, e2, e3⟩ := two_of h
  rw [e1]
  simp only [Option.bind_some, e2, Option.map_some]
  simp at e3
  rw [e3]
  simp
theorem nin_prs (p : Nat × Nat) (l : List (Nat × Nat)) : fIn true (tp p) (prs l) = some (.bl (!decide (p ∈ l))) := fin_neg (in_prs p l)
theorem nodup_le {α : Type} [BEq α] [LawfulBEq α] : ∀ {l m : List α}, l.Nodup → (∀ x ∈ l, x ∈ m) → l.length ≤ m.length
  | [], _, _, _ => Nat.zero_le _
  | x :: l, m, h, hs => by
    obtain ⟨h1, h2⟩ := List.nodup_cons.mp h
    have hx := hs x (List.mem_cons_self ..)
    have := nodup_le (l := l) (m := m.erase x) h2 fun y hy => (List.mem_erase_of_ne fun z => by subst z; exact h1 hy).mpr (hs y (List.mem_cons_of_mem _ hy))
    rw [List.length_erase_of_mem hx] at this
    have := List.length_pos_of_mem hx
    rw [List.length_cons]
    omega
theorem pairs_le {n : Nat} {l : List (Nat × Nat)} (h : l.Nodup) (hb : ∀ p ∈ l, p.1 < n ∧ p.2 < n) : l.length ≤ n * n := by
  have z := nodup_le (l := l.map fun p => p.1 * n + p.2) (m := List.range (n * n)) (by
    rw [List.Nodup, List.pairwise_map]
    refine h.imp_of_mem fun {p q} hp hq hn e => hn ?_
    obtain ⟨p1, p2⟩ := hb p hp
    obtain ⟨q1, q2⟩ := hb q hq
    have hpos : 0 < n := by omega
    have e2 : p.2 = q.2 := by
      have := congrArg (· % n) e
      simpa [Nat.add_mod, Nat.mod_eq_of_lt p2, Nat.mod_eq_of_lt q2] using this
    have e1 : p.1 = q.1 := by
      have e' : p.1 * n = q.1 * n := by omega
      exact Nat.eq_of_mul_eq_mul_right hpos e'
    exact Prod.ext e1 e2) (fun x hx => by
    obtain ⟨p, hp, rfl⟩ := List.mem_map.mp hx
    obtain ⟨p1, p2⟩ := hb p hp
    refine List.mem_range.mpr ?_
    calc p.1 * n + p.2 < p.1 * n + n := by omega
      _ = (p.1 + 1) * n := by rw [Nat.add_mul, Nat.one_mul]
      _ ≤ n * n := Nat.mul_le_mul_right _ p1)
  rw [List.length_map, List.length_range] at z
  exact z
end Mir

set_option Elab.async false
set_option linter.all false
set_option maxRecDepth 100000
set_option maxHeartbeats 800000
/-! The law's own layers. -/
namespace Mir
open PySem PySem.Spec PyProof.Rows L2 He
def rel (g : Nat → Nat → Int) (n : Nat) (p q : Nat × Nat) : Prop := q ∈ fnd g p.1 p.2 n
def dps (Z : List ((Nat × Nat) × Nat)) : Dt := .lst (Z.map fun x => .int (x.2 : Int))
theorem ix_dps {Z : List ((Nat × Nat) × Nat)} {i : Nat} (h : i < Z.length) : fIx (dps Z) (.int (i : Int)) = some (.el (.int (Z[i].2 : Int))) := ix_lst (by simp [List.getElem?_map, h])
theorem wlk_tie {n : Nat} {g : Nat → Nat → Int} {tl : List (Nat × Nat)} {s p : Nat × Nat} {k : Nat} (w : Wb n g tl) (hs : s.1 < n ∧ s.2 < n ∧ g s.1 s.2 = 1) (h : Wlk (rel g n) s k p) : p.1 < n ∧ p.2 < n ∧ g p.1 p.2 = 1 := by
  induction h with
  | zero => exact hs
  | succ h hr ih => exact fnd_tie w ih.1 ih.2.1 hr
theorem mem_o {g : Nat → Nat → Int} {a b n : Nat} {q : Nat × Nat} : q ∈ o1 g a b n ++ o2 g a b n ↔ q ∈ fnd g a b n := (fnd_perm g a b n).mem_iff.symm
abbrev ky (Z : List ((Nat × Nat) × Nat)) : List (Nat × Nat) := Z.map Prod.fst
end Mir

set_option Elab.async false
set_option linter.all false
set_option maxRecDepth 100000
set_option maxHeartbeats 800000
/-! The program's chain. -/
namespace Mir
open PySem PySem.Spec PyProof.Rows L2 He
theorem loop_while {c : Ev → Rs Bool} {body : Ev → So} (I : Nat → Ev → Prop) (J : Ev → Prop)
    (hs : ∀ m ε, I m ε → (∃ ε1, c ε = .ok false ε1 ∧ J ε1) ∨ ∃ ε1 m' ε2, c ε = .ok true ε1 ∧ body ε1 = .nx ε2 ∧ m' < m ∧ I m' ε2) :
    ∀ {fuel m : Nat} {ε : Ev}, I m ε → m < fuel → ∃ ε', loopW c body fuel ε = .nx ε' ∧ J ε'
  | 0, m, ε, _, h => absurd h (Nat.not_lt_zero m)
  | fuel + 1, m, ε, hI, h => by
    rcases hs m ε hI with ⟨ε1, e1, hJ⟩ | ⟨ε1, m', ε2, e1, e2, hm, hI'⟩
    · exact ⟨ε1, by unfold loopW; rw [e1]; simp, hJ⟩
    · obtain ⟨ε', e3, hJ⟩ := loop_while I J hs (fuel := fuel) hI' (by omega)
      refine ⟨ε', ?_, hJ⟩
      unfold loopW
      rw [e1]
      simp [e2, e3]
section
variable {α : Type} {r : α → α → Prop} {s : α} {k : Nat} {Y : List (Nd α)}
theorem key_inj (h : (Y.map Nd.key).Nodup) {x y : Nd α} (hx : x ∈ Y) (hy : y ∈ Y) (e : x.key = y.key) : x = y := by
  induction Y with
  | nil => cases hx
  | cons z Y ih =>
    rw [List.map_cons, List.nodup_cons] at h
    rcases List.mem_cons.mp hx with h1 | h1 <;> rcases List.mem_cons.mp hy with h2 | h2
    · rw [h1, h2]
    · exact absurd (List.mem_map.mpr ⟨y, h2, by rw [← e, h1]⟩) h.1
    · exact absurd (List.mem_map.mpr ⟨x, h1, by rw [e, h2]⟩) h.1
    · exact ih h.2 h1 h2
theorem LOut.all (h : LOut r s k Y []) {j : Nat} {p : α} (w : Wlk r s j p) : ∃ y ∈ Y, y.key = p := by
  induction w with
  | zero =>
    obtain ⟨x, hx, e, _⟩ := h.ne
    exact ⟨x, hx, e⟩
  | succ w hr ih =>
    obtain ⟨y, hy, rfl⟩ := ih
    have h1 := h.le y hy
    have h2 : y.lev ≠ k := fun z => nomatch (h.la y.key).mpr ⟨y, hy, rfl, z⟩
    obtain ⟨z, hz, e, _⟩ := h.cl y hy (by omega) _ hr
    exact ⟨z, hz, e⟩
def Lnk (r : α → α → Prop) : List α → Prop
  | [] => True
  | [_] => True
  | a :: b :: l => r a b ∧ Lnk r (b :: l)
end
abbrev Ndp := Nd (Nat × Nat)
def vlp : Option (Nat × Nat) → Dt
  | none => .non
  | some q => tp q
def cm (Y : List Ndp) : Dt := .dT (Y.map fun x => kp x.key) (Y.map fun x => vlp x.par)
abbrev kys (Y : List Ndp) : List (Nat × Nat) := Y.map Nd.key
theorem valD_cm0 (p : Nat × Nat) : ∀ Y : List Ndp, (valD (kp p) (Y.map fun x => kp x.key) (Y.map fun x => vlp x.par)).isSome = decide (p ∈ kys Y)
  | [] => by simp [valD]
  | y :: Y => by
    rw [List.map_cons, List.map_cons]
    unfold valD
    by_cases c : y.key = p
    · subst c
      simp
    · rw [if_neg fun z => c (kp_inj z), valD_cm0 p Y]
      have c2 : ¬ p = y.key := fun z => c z.symm
      simp [c2]
theorem valD_cm : ∀ {Y : List Ndp} {x : Ndp}, (kys Y).Nodup → x ∈ Y → valD (kp x.key) (Y.map fun x => kp x.key) (Y.map fun x => vlp x.par) = some (vlp x.par)
  | [], _, _, h => nomatch h
  | y :: Y, x, hn, h => by
    rw [List.map_cons, List.map_cons]
    unfold valD
    have hn' := List.nodup_cons.mp (show (y.key :: kys Y).Nodup from hn)
    by_cases c : y.key = x.key
    · have : y = x := key_inj (Y := y :: Y) hn (List.mem_cons_self ..) h c
      subst this
      simp
    · rw [if_neg fun z => c (kp_inj z)]
      refine valD_cm hn'.2 ?_
      rcases List.mem_cons.mp h with z | z
      · subst z; exact absurd rfl c
      · exact z
theorem get_cm (Y : List Ndp) (p : Nat × Nat) : ∃ o, getD? (cm Y) (tp p) = some o ∧ o.isSome = decide (p ∈ kys Y) := by
  refine ⟨valD (kp p) (Y.map fun x => kp x.key) (Y.map fun x => vlp x.par), ?_, valD_cm0 p Y⟩
  unfold getD? cm tp
  simp only [keys_p]
theorem get_cm1 {Y : List Ndp} {x : Ndp} (hn : (kys Y).Nodup) (h : x ∈ Y) : getD? (cm Y) (tp x.key) = some (some (vlp x.par)) := by
  unfold getD? cm tp
  simp only [keys_p]
  rw [show ((x.key.1, x.key.2) : Nat × Nat) = x.key from rfl, valD_cm hn h]
theorem put_cm {Y : List Ndp} {q p : Nat × Nat} {k : Nat} (h : q ∉ kys Y) (hl : Y.length ≤ 100000) : putD? (tp q) (tp p) (cm Y) = some (cm (Y ++ [⟨q, k, some p⟩])) := by
  have h2 : ¬ (kp q ∈ Y.map fun x : Ndp => kp x.key) := fun z => by
    obtain ⟨x, hx, e⟩ := List.mem_map.mp z
    exact h (List.mem_map.mpr ⟨x, hx, kp_inj e⟩)
  have h3 : (Y.map fun x : Ndp => kp x.key).length < sizeLine := by rw [List.length_map]; exact Nat.lt_of_le_of_lt hl (by decide)
  unfold putD? cm
  unfold tp
  simp only [keys_p]
  rw [if_pos h3]
  simp only [putKs, putVs, show ((q.1, q.2) : Nat × Nat) = q from rfl, if_neg h2]
  simp [vlp, tp]
theorem ix_last {l : List Dt} {d : Dt} : fIx (.lst (l ++ [d])) (.int (-1)) = some (.el d) := by
  have : ixN (l ++ [d]).length (-1) = some l.length := by
    unfold ixN
    simp
    omega
  unfold fIx atI
  simp only [this]
  simp
end Mir

set_option Elab.async false
set_option linter.all false
set_option maxRecDepth 100000
set_option maxHeartbeats 800000
/-! Dicts from pairs to numbers; lists of numbers. -/
namespace Mir
open PySem PySem.Spec PyProof.Rows L2 He
def dct (ks : List (Nat × Nat)) (h : Nat × Nat → Nat) : Dt := .dT (ks.map kp) (ks.map fun p => .int (h p : Int))
def updF (h : Nat × Nat → Nat) (p : Nat × Nat) (v : Nat) : Nat × Nat → Nat := fun q => if q = p then v else h q
theorem updF_same (h : Nat × Nat → Nat) (p : Nat × Nat) (v : Nat) : updF h p v p = v := if_pos rfl
theorem updF_ne {h : Nat × Nat → Nat} {p q : Nat × Nat} {v : Nat} (e : q ≠ p) : updF h p v q = h q := if_neg e
theorem valD_dct (h : Nat × Nat → Nat) (p : Nat × Nat) : ∀ ks : List (Nat × Nat), valD (kp p) (ks.map kp) (ks.map fun p => Dt.int (h p : Int)) = if p ∈ ks then some (.int (h p : Int)) else none
  | [] => by simp [valD]
  | q :: l => by
    rw [List.map_cons, List.map_cons]
    unfold valD
    by_cases c : q = p
    · subst c
      simp
    · rw [if_neg fun z => c (kp_inj z), valD_dct h p l]
      have c2 : ¬ p = q := fun z => c z.symm
      simp [c2]
theorem get_dct (ks : List (Nat × Nat)) (h : Nat × Nat → Nat) (p : Nat × Nat) : getD? (dct ks h) (tp p) = some (if p ∈ ks then some (.int (h p : Int)) else none) := by
  unfold getD? dct tp
  simp only [keys_p]
  rw [show ((p.1, p.2) : Nat × Nat) = p from rfl, valD_dct]
theorem get_dct1 {ks : List (Nat × Nat)} {h : Nat × Nat → Nat} {p : Nat × Nat} (hp : p ∈ ks) : getD? (dct ks h) (tp p) = some (some (.int (h p : Int))) := by rw [get_dct, if_pos hp]
theorem put_new {ks : List (Nat × Nat)} {h : Nat × Nat → Nat} {p : Nat × Nat} {v : Nat} (hp : p ∉ ks) (hl : ks.length ≤ 100000) : putD? (tp p) (.int (v : Int)) (dct ks h) = some (dct (ks ++ [p]) (updF h p v)) := by
  have h2 : ¬ (kp p ∈ ks.map kp) := fun z => hp ((mem_kp _ _).mp z)
  have h3 : (ks.map kp).length < sizeLine := by rw [List.length_map]; exact Nat.lt_of_le_of_lt hl (by decide)
  have h4 : ks.map (fun q => Dt.int (updF h p v q : Int)) = ks.map fun q => Dt.int (h q : Int) := List.map_congr_left fun q hq => by
    have hne : q ≠ p := fun z => by rw [z] at hq; exact hp hq
    rw [updF_ne hne]
  unfold putD? dct
  unfold tp
  simp only [keys_p]
  rw [if_pos h3]
  simp only [putKs, putVs, show ((p.1, p.2) : Nat × Nat) = p from rfl, if_neg h2, List.map_append, h4]
  simp [updF_same]
theorem put_old {ks : List (Nat × Nat)} {h : Nat × Nat → Nat} {p : Nat × Nat} {v : Nat} (hp : p ∈ ks) (hl : ks.length ≤ 100000) : putD? (tp p) (.int (v : Int)) (dct ks h) = some (dct ks (updF h p v)) := by
  have h2 : kp p ∈ ks.map kp := (mem_kp _ _).mpr hp
  have h3 : (ks.map kp).length < sizeLine := by rw [List.length_map]; exact Nat.lt_of_le_of_lt hl (by decide)
  have h4 : ((ks.map kp).zip (ks.map fun q => Dt.int (h q : Int))).map (fun q => if q.1 = kp p then Dt.int (v : Int) else q.2) = ks.map fun q => Dt.int (updF h p v q : Int) := by
    rw [List.zip_map', List.map_map]
    refine List.map_congr_left fun q _ => ?_
    simp only [Function.comp]
    by_cases c : q = p
    · subst c; simp [updF_same]
    · rw [if_neg fun z => c (kp_inj z), updF_ne c]
  unfold putD? dct
  unfold tp
  simp only [keys_p]
  rw [if_pos h3]
  simp only [putKs, putVs, show ((p.1, p.2) : Nat × Nat) = p from rfl, if_pos h2, h4]
theorem len_dct {ks : List (Nat × Nat)} {h : Nat × Nat → Nat} : bLenT (dct ks h) = some (.sc (.int (ks.length : Int))) := by
  unfold bLenT dct
  simp
theorem dct_congr {ks : List (Nat × Nat)} {h h' : Nat × Nat → Nat} (e : ∀ p ∈ ks, h p = h' p) : dct ks h = dct ks h' := by
  unfold dct
  congr 1
  exact List.map_congr_left fun p hp => by rw [e p hp]
theorem toPys_nts : ∀ l : List Nat, toPys (l.map fun i : Nat => Dt.int (i : Int)) = some (l.map fun i : Nat => PyData.int (i : Int))
  | [] => rfl
  | x :: l => by
    show ((toPy (.int (x : Int))).bind fun p => (toPys (l.map fun i : Nat => Dt.int (i : Int))).map fun r => p :: r) = _
    rw [toPys_nts l]
    rfl
theorem lay_nts : ∀ l : List Nat, PyData.canLayAll0 (l.map fun i : Nat => PyData.int (i : Int)) = true ∧ PyData.depthAll (l.map fun i : Nat => PyData.int (i : Int)) ≤ 1
  | [] => by simp [PyData.canLayAll0, PyData.depthAll]
  | x :: l => by
    have := lay_nts l
    simp [PyData.canLayAll0, PyData.depthAll, PyData.canLay0, PyData.depth] at this ⊢
    omega
theorem any_nts (a : Nat) (l : List Nat) : ((l.map fun i : Nat => PyData.int (i : Int)).any fun z => PyData.eqv z (.int (a : Int))) = decide (a ∈ l) := by
  induction l with
  | nil => simp
  | cons x l ih =>
    rw [List.map_cons, List.any_cons, ih, eqv_int]
    by_cases c : x = a
    · subst c; simp
    · have c2 : ¬ a = x := fun z => c z.symm
      simp [c2, show ¬ ((x : Int) = a) by omega]
theorem shp_nts (l : List Nat) : shp (nts l) = some (.list (l.map fun i : Nat => PyData.int (i : Int))) := by
  have h := lay_nts l
  refine shp_of ?_ ?_
  · show (toPys (l.map fun i : Nat => Dt.int (i : Int))).map PyData.list = _
    rw [toPys_nts]; rfl
  · simp [SeqAt.shaped, PyData.canLay0, PyData.depth, h.1]
    omega
theorem shp_ntt (l : List Nat) : shp (.tup (l.map fun i : Nat => Dt.int (i : Int))) = some (.tuple (l.map fun i : Nat => PyData.int (i : Int))) := by
  have h := lay_nts l
  refine shp_of ?_ ?_
  · show (toPys (l.map fun i : Nat => Dt.int (i : Int))).map PyData.tuple = _
    rw [toPys_nts]; rfl
  · simp [SeqAt.shaped, PyData.canLay0, PyData.depth, h.1]
    omega
theorem in_nts (neg : Bool) (a : Nat) (l : List Nat) : fIn neg (.int (a : Int)) (nts l) = some (.bl (if neg then !decide (a ∈ l) else decide (a ∈ l))) := by
  unfold fIn
  rw [shp_nts, shp_int]
  simp only [Option.bind_some, Option.map_some, seqPy, any_nts]
theorem in_ntt (neg : Bool) (a : Nat) (l : List Nat) : fIn neg (.int (a : Int)) (.tup (l.map fun i : Nat => Dt.int (i : Int))) = some (.bl (if neg then !decide (a ∈ l) else decide (a ∈ l))) := by
  unfold fIn
  rw [shp_ntt, shp_int]
  simp only [Option.bind_some, Option.map_some, seqPy, any_nts]
end Mir

set_option Elab.async false
set_option linter.all false
set_option maxRecDepth 100000
set_option maxHeartbeats 800000
/-! What hangs together with a thing. -/
namespace Mir
open PySem PySem.Spec PyProof.Rows L2 He
/-- reached by pairs of T -/
inductive Rch (T : List (Nat × Nat)) (x : Nat) : Nat → Prop
  | base : Rch T x x
  | step {a b : Nat} : Rch T x a → (a, b) ∈ T → Rch T x b
def itd (l : List Nat) : List Dt := l.map fun i : Nat => .int (i : Int)
theorem nts_itd (l : List Nat) : nts l = .lst (itd l) := rfl
theorem itd_app (l m : List Nat) : itd (l ++ m) = itd l ++ itd m := by simp [itd]
theorem itd_len (l : List Nat) : (itd l).length = l.length := by simp [itd]
structure RInv (T : List (Nat × Nat)) (x : Nat) (os R A L : List Nat) : Prop where
  ro : ∀ b ∈ R, b ∈ os
  lo : ∀ b ∈ L, b ∈ os
  all : ∀ b ∈ os, b ∈ L ∨ b ∈ R
  cn : ∀ b ∈ R, Rch T x b
  ca : ∀ a ∈ A, Rch T x a
  cl : ∀ a, a = x ∨ a ∈ R → a ∈ A ∨ ∀ b ∈ os, (a, b) ∈ T → b ∈ R
  len : R.length + L.length = os.length
theorem filter_len {α : Type} (p : α → Bool) : ∀ l : List α, (l.filter p).length + (l.filter fun x => !p x).length = l.length
  | [] => rfl
  | x :: l => by
    have := filter_len p l
    cases h : p x <;> simp [h] <;> omega
theorem RInv.next {T : List (Nat × Nat)} {x a : Nat} {os R A L : List Nat} (h : RInv T x os R (A ++ [a]) L) :
    RInv T x os (R ++ L.filter fun b => decide ((a, b) ∈ T)) (A ++ L.filter fun b => decide ((a, b) ∈ T)) (L.filter fun b => !decide ((a, b) ∈ T)) := by
  have ca : Rch T x a := h.ca a (by simp)
  have mf : ∀ b, b ∈ (L.filter fun b => decide ((a, b) ∈ T)) → b ∈ L ∧ (a, b) ∈ T := fun b hb => by
    have := List.mem_filter.mp hb
    exact ⟨this.1, of_decide_eq_true this.2⟩
  refine ⟨fun b hb => ?_, fun b hb => ?_, fun b hb => ?_, fun b hb => ?_, fun b hb => ?_, fun c hc => ?_, ?_⟩
  · rcases List.mem_append.mp hb with hb | hb
    · exact h.ro b hb
    · exact h.lo b (mf b hb).1
  · exact h.lo b (List.mem_filter.mp hb).1
  · rcases h.all b hb with hb | hb
    · by_cases c : (a, b) ∈ T
      · exact .inr (List.mem_append.mpr (.inr (List.mem_filter.mpr ⟨hb, decide_eq_true c⟩)))
      · exact .inl (List.mem_filter.mpr ⟨hb, by simp [c]⟩)
    · exact .inr (List.mem_append.mpr (.inl hb))
  · rcases List.mem_append.mp hb with hb | hb
    · exact h.cn b hb
    · exact .step ca (mf b hb).2
  · rcases List.mem_append.mp hb with hb | hb
    · exact h.ca b (List.mem_append.mpr (.inl hb))
    · exact .step ca (mf b hb).2
  · by_cases e : c = a
    · subst e
      refine .inr fun b hb hT => ?_
      rcases h.all b hb with hb | hb
      · exact List.mem_append.mpr (.inr (List.mem_filter.mpr ⟨hb, decide_eq_true hT⟩))
      · exact List.mem_append.mpr (.inl hb)
    · have old : c = x ∨ c ∈ R → (c ∈ A ++ L.filter fun b => decide ((a, b) ∈ T)) ∨ ∀ b ∈ os, (c, b) ∈ T → b ∈ R ++ L.filter fun b => decide ((a, b) ∈ T) := fun hc => by
        rcases h.cl c hc with h1 | h1
        · rcases List.mem_append.mp h1 with h1 | h1
          · exact .inl (List.mem_append.mpr (.inl h1))
          · exact absurd (List.mem_singleton.mp h1) e
        · exact .inr fun b hb hT => List.mem_append.mpr (.inl (h1 b hb hT))
      rcases hc with hc | hc
      · exact old (.inl hc)
      · rcases List.mem_append.mp hc with hc | hc
        · exact old (.inr hc)
        · exact .inl (List.mem_append.mpr (.inr hc))
  · have := filter_len (fun b => decide ((a, b) ∈ T)) L
    have := h.len
    rw [List.length_append]
    omega
theorem RInv.begin_ (T : List (Nat × Nat)) (x : Nat) (os : List Nat) : RInv T x os [] [x] os where
  ro b hb := nomatch hb
  lo b hb := hb
  all b hb := .inl hb
  cn b hb := nomatch hb
  ca b hb := by rw [List.mem_singleton.mp hb]; exact .base
  cl a ha := by
    rcases ha with rfl | ha
    · exact .inl List.mem_cons_self
    · exact nomatch ha
  len := by simp
theorem comp_b {T : List (Nat × Nat)} {a : Nat} {D0 D1 : Dt} {R A L : List Nat} {s7 : Sl} (hl : L.length ≤ 1000) :
    mComp [8] (mIter (mVar 5)) (gSet 8 0) c_reach_from_0 e_reach_from_0 [.vl 0 D0, .vl 0 D1, .vl 0 (tbl T), .vl 0 (nts R), .vl 1 (nts A), .vl 0 (nts L), .vl 0 (.int (a : Int)), s7, .un] = .ok (nts (L.filter fun b => decide ((a, b) ∈ T))) [.vl 0 D0, .vl 0 D1, .vl 0 (tbl T), .vl 0 (nts R), .vl 1 (nts A), .vl 0 (nts L), .vl 0 (.int (a : Int)), s7, .un] := by
  obtain ⟨dR, hR⟩ : ∃ d, d = nts R := ⟨_, rfl⟩
  obtain ⟨dA, hA⟩ : ∃ d, d = nts A := ⟨_, rfl⟩
  rw [← hR, ← hA, q_comp]
  have e0 : (mIter (mVar 5)) [.vl 0 D0, .vl 0 D1, .vl 0 (tbl T), .vl 0 dR, .vl 1 dA, .vl 0 (nts L), .vl 0 (.int (a : Int)), s7, .un] = .ok (itd L) [.vl 0 D0, .vl 0 D1, .vl 0 (tbl T), .vl 0 dR, .vl 1 dA, .vl 0 (nts L), .vl 0 (.int (a : Int)), s7, .un] := by simp [nts_itd]
  rw [e0]
  obtain ⟨dL, hL⟩ : ∃ d, d = nts L := ⟨_, rfl⟩
  rw [← hL, q_b1]
  have hc : compL [8] (gSet 8 0) c_reach_from_0 e_reach_from_0 (itd L) [] [.vl 0 D0, .vl 0 D1, .vl 0 (tbl T), .vl 0 dR, .vl 1 dA, .vl 0 dL, .vl 0 (.int (a : Int)), s7, .un] = .ok ([] ++ itd (L.filter fun b => decide ((a, b) ∈ T))) [.vl 0 D0, .vl 0 D1, .vl 0 (tbl T), .vl 0 dR, .vl 1 dA, .vl 0 dL, .vl 0 (.int (a : Int)), s7, .un] :=
    compL_fmf (fun i : Nat => Dt.int (i : Int)) (fun i : Nat => Dt.int (i : Int)) (fun b => decide ((a, b) ∈ T)) (fun b hb => by
      refine ⟨[.vl 0 D0, .vl 0 D1, .vl 0 (tbl T), .vl 0 dR, .vl 1 dA, .vl 0 dL, .vl 0 (.int (a : Int)), s7, .vl 0 (.int (b : Int))], [.vl 0 D0, .vl 0 D1, .vl 0 (tbl T), .vl 0 dR, .vl 1 dA, .vl 0 dL, .vl 0 (.int (a : Int)), s7, .vl 0 (.int (b : Int))], by simp, ?_, fun _ => ⟨[.vl 0 D0, .vl 0 D1, .vl 0 (tbl T), .vl 0 dR, .vl 1 dA, .vl 0 dL, .vl 0 (.int (a : Int)), s7, .vl 0 (.int (b : Int))], by simp [e_reach_from_0], by simp⟩, fun _ => by simp⟩
      by_cases c : (a, b) ∈ T <;> simp [c_reach_from_0, get_tbl, c]) (by simp; exact szN (by omega))
  simp [hc]
  rfl
theorem comp_n {T : List (Nat × Nat)} {a : Nat} {D0 D1 : Dt} {R A L : List Nat} {s7 : Sl} (hl : L.length ≤ 1000) :
    mComp [8] (mIter (mVar 5)) (gSet 8 0) c_reach_from_1 e_reach_from_1 [.vl 0 D0, .vl 0 D1, .vl 0 (tbl T), .vl 0 (nts R), .vl 1 (nts A), .vl 0 (nts L), .vl 0 (.int (a : Int)), s7, .un] = .ok (nts (L.filter fun b => !decide ((a, b) ∈ T))) [.vl 0 D0, .vl 0 D1, .vl 0 (tbl T), .vl 0 (nts R), .vl 1 (nts A), .vl 0 (nts L), .vl 0 (.int (a : Int)), s7, .un] := by
  obtain ⟨dR, hR⟩ : ∃ d, d = nts R := ⟨_, rfl⟩
  obtain ⟨dA, hA⟩ : ∃ d, d = nts A := ⟨_, rfl⟩
  rw [← hR, ← hA, q_comp]
  have e0 : (mIter (mVar 5)) [.vl 0 D0, .vl 0 D1, .vl 0 (tbl T), .vl 0 dR, .vl 1 dA, .vl 0 (nts L), .vl 0 (.int (a : Int)), s7, .un] = .ok (itd L) [.vl 0 D0, .vl 0 D1, .vl 0 (tbl T), .vl 0 dR, .vl 1 dA, .vl 0 (nts L), .vl 0 (.int (a : Int)), s7, .un] := by simp [nts_itd]
  rw [e0]
  obtain ⟨dL, hL⟩ : ∃ d, d = nts L := ⟨_, rfl⟩
  rw [← hL, q_b1]
  have hc : compL [8] (gSet 8 0) c_reach_from_1 e_reach_from_1 (itd L) [] [.vl 0 D0, .vl 0 D1, .vl 0 (tbl T), .vl 0 dR, .vl 1 dA, .vl 0 dL, .vl 0 (.int (a : Int)), s7, .un] = .ok ([] ++ itd (L.filter fun b => !decide ((a, b) ∈ T))) [.vl 0 D0, .vl 0 D1, .vl 0 (tbl T), .vl 0 dR, .vl 1 dA, .vl 0 dL, .vl 0 (.int (a : Int)), s7, .un] :=
    compL_fmf (fun i : Nat => Dt.int (i : Int)) (fun i : Nat => Dt.int (i : Int)) (fun b => !decide ((a, b) ∈ T)) (fun b hb => by
      refine ⟨[.vl 0 D0, .vl 0 D1, .vl 0 (tbl T), .vl 0 dR, .vl 1 dA, .vl 0 dL, .vl 0 (.int (a : Int)), s7, .vl 0 (.int (b : Int))], [.vl 0 D0, .vl 0 D1, .vl 0 (tbl T), .vl 0 dR, .vl 1 dA, .vl 0 dL, .vl 0 (.int (a : Int)), s7, .vl 0 (.int (b : Int))], by simp, ?_, fun _ => ⟨[.vl 0 D0, .vl 0 D1, .vl 0 (tbl T), .vl 0 dR, .vl 1 dA, .vl 0 dL, .vl 0 (.int (a : Int)), s7, .vl 0 (.int (b : Int))], by simp [e_reach_from_1], by simp⟩, fun _ => by simp⟩
      by_cases c : (a, b) ∈ T <;> simp [c_reach_from_1, get_tbl, c]) (by simp; exact szN (by omega))
  simp [hc]
  rfl
theorem add_nts {l m : List Nat} (h : l.length + m.length ≤ 1000) : fAdd (nts l) (nts m) = some (.lst (itd (l ++ m))) := by
  rw [nts_itd, nts_itd, add_lst (by rw [itd_len, itd_len]; exact szN h), itd_app]
theorem reach_ok (T : List (Nat × Nat)) (x : Nat) (os : List Nat) (ho : os.length ≤ 400) :
    ∃ R, m_reach_from [nts [x], nts os, tbl T] = .ok (nts R) [.non, .non, .non] ∧ (∀ b ∈ R, b ∈ os ∧ Rch T x b) ∧ (∀ a b, a = x ∨ a ∈ R → b ∈ os → (a, b) ∈ T → b ∈ R) ∧ R.length ≤ os.length := by
  obtain ⟨ε', e, R, L, s6, s7, rfl, hI⟩ := loop_while (c := w_reach_from_2) (body := l_reach_from_2)
    (fun m ε => ∃ (R A L : List Nat) (s6 s7 : Sl), ε = [.vl 0 (nts [x]), .vl 0 (nts os), .vl 0 (tbl T), .vl 0 (nts R), .vl 1 (nts A), .vl 0 (nts L), s6, s7, .un] ∧ RInv T x os R A L ∧ A.length + L.length ≤ m ∧ m ≤ 1 + os.length)
    (fun ε => ∃ (R L : List Nat) (s6 s7 : Sl), ε = [.vl 0 (nts [x]), .vl 0 (nts os), .vl 0 (tbl T), .vl 0 (nts R), .vl 1 (nts []), .vl 0 (nts L), s6, s7, .un] ∧ RInv T x os R [] L)
    (by
      rintro m ε ⟨R, A, L, s6, s7, rfl, hI, hm, hm2⟩
      rcases List.eq_nil_or_concat A with rfl | ⟨A', a, rfl⟩
      · exact .inl ⟨[.vl 0 (nts [x]), .vl 0 (nts os), .vl 0 (tbl T), .vl 0 (nts R), .vl 1 (nts []), .vl 0 (nts L), s6, s7, .un], by simp [w_reach_from_2, nts, truD], R, L, s6, s7, rfl, hI⟩
      · rw [List.concat_eq_append] at hI hm ⊢
        right
        have hlen := hI.len
        have hA : A'.length + 1 + L.length ≤ m := by simp at hm; omega
        have hf := filter_len (fun b => decide ((a, b) ∈ T)) L
        obtain ⟨F, hF⟩ : ∃ F, F = L.filter fun b => decide ((a, b) ∈ T) := ⟨_, rfl⟩
        obtain ⟨N, hN⟩ : ∃ N, N = L.filter fun b => !decide ((a, b) ∈ T) := ⟨_, rfl⟩
        have hI' := hI.next
        rw [← hF, ← hN] at hf hI'
        obtain ⟨D0, hD0⟩ : ∃ d, d = nts [x] := ⟨_, rfl⟩
        obtain ⟨D1, hD1⟩ : ∃ d, d = nts os := ⟨_, rfl⟩
        rw [← hD0, ← hD1]
        refine ⟨[.vl 0 D0, .vl 0 D1, .vl 0 (tbl T), .vl 0 (nts R), .vl 1 (nts (A' ++ [a])), .vl 0 (nts L), s6, s7, .un], A'.length + L.length, [.vl 0 D0, .vl 0 D1, .vl 0 (tbl T), .vl 0 (nts (R ++ F)), .vl 1 (nts (A' ++ F)), .vl 0 (nts N), .vl 0 (.int (a : Int)), .vl 0 (nts F), .un], ?_, ?_, by simp at hm; omega, R ++ F, A' ++ F, N, _, _, rfl, hI', by simp; omega, by omega⟩
        · simp [w_reach_from_2, nts, truD]
        · have p1 : ∀ k : Ev → So, (sSeq (sAsg (mMut 4 fPop mNil) (gSet 6 0)) k) [.vl 0 D0, .vl 0 D1, .vl 0 (tbl T), .vl 0 (nts R), .vl 1 (nts (A' ++ [a])), .vl 0 (nts L), s6, s7, .un] = k [.vl 0 D0, .vl 0 D1, .vl 0 (tbl T), .vl 0 (nts R), .vl 1 (nts A'), .vl 0 (nts L), .vl 0 (.int (a : Int)), s7, .un] := fun k => by
            have e1 : nts (A' ++ [a]) = .lst (itd A' ++ [.int (a : Int)]) := by rw [nts_itd, itd_app]; rfl
            rw [e1]
            simp [pop_ok, nts_itd]
          have c1 := comp_b (T := T) (a := a) (D0 := D0) (D1 := D1) (R := R) (A := A') (L := L) (s7 := s7) (by omega)
          have c2 := comp_n (T := T) (a := a) (D0 := D0) (D1 := D1) (R := R) (A := A') (L := L) (s7 := .vl 0 (nts F)) (by omega)
          rw [← hF] at c1
          rw [← hN] at c2
          have a1 := add_nts (l := R) (m := F) (by omega)
          have a2 := add_nts (l := A') (m := F) (by omega)
          unfold l_reach_from_2
          rw [p1]
          obtain ⟨dT, hT⟩ : ∃ d, d = tbl T := ⟨_, rfl⟩
          simp only [← hT] at c1 c2 ⊢
          simp only [q_seq, q_asg, c1, q_o1, q_set, List.set_cons_succ, List.set_cons_zero, q_a1, q_s1, c2]
          simp [a1, a2, ← nts_itd])
    (fuel := 100000) (m := 1 + os.length) (ε := [.vl 0 (nts [x]), .vl 0 (nts os), .vl 0 (tbl T), .vl 0 (nts []), .vl 1 (nts [x]), .vl 0 (nts os), .un, .un, .un])
    ⟨[], [x], os, _, _, rfl, RInv.begin_ T x os, by simp, Nat.le_refl _⟩ (by omega)
  refine ⟨R, ?_, fun b hb => ⟨hI.ro b hb, hI.cn b hb⟩, fun a b ha hb hT => ?_, by have := hI.len; omega⟩
  · obtain ⟨D0, hD0⟩ : ∃ d, d = nts [x] := ⟨_, rfl⟩
    have t0 : Dt.lst [] = nts [] := rfl
    have l1 : bList (nts [x]) = some (.lst (itd [x])) := rfl
    have l2 : bList (nts os) = some (.lst (itd os)) := rfl
    simp [m_reach_from, b_reach_from, t0, l1, l2, ← nts_itd]
    rw [e]
    simp
  · rcases hI.cl a ha with h | h
    · exact nomatch h
    · exact h b hb hT
end Mir

set_option Elab.async false
set_option linter.all false
set_option maxRecDepth 100000
set_option maxHeartbeats 1600000
/-! Lots alike at a thing. -/
namespace Mir
open PySem PySem.Spec PyProof.Rows L2 He
theorem put_tbl2 (l : List (Nat × Nat)) (p : Nat × Nat) (hl : l.length ≤ 100000) : ∃ l', putD? (tp p) (.bl true) (tbl l) = some (tbl l') ∧ (∀ q, q ∈ l' ↔ q ∈ l ∨ q = p) ∧ l'.length ≤ l.length + 1 := by
  by_cases hp : p ∈ l
  · refine ⟨l, ?_, fun q => ⟨.inl, fun h => ?_⟩, by omega⟩
    · have h2 : kp p ∈ l.map kp := (mem_kp _ _).mpr hp
      have h3 : (l.map kp).length < sizeLine := by rw [List.length_map]; exact Nat.lt_of_le_of_lt hl (by decide)
      have h4 : ((l.map kp).zip (l.map fun _ => Dt.bl true)).map (fun q => if q.1 = kp p then Dt.bl true else q.2) = l.map fun _ => Dt.bl true := by
        rw [List.zip_map', List.map_map]
        refine List.map_congr_left fun q _ => ?_
        simp only [Function.comp]
        split <;> rfl
      unfold putD? tbl
      unfold tp
      simp only [keys_p]
      rw [if_pos h3]
      simp only [putKs, putVs, show ((p.1, p.2) : Nat × Nat) = p from rfl, if_pos h2, h4]
    · rcases h with h | h
      · exact h
      · rw [h]; exact hp
  · exact ⟨l ++ [p], put_tbl l p.1 p.2 hp (by omega), fun q => by simp, by simp⟩
theorem noLs_map {α : Type} (f : α → Dt) (h : ∀ x, noL (f x) = true) : ∀ l : List α, noLs (l.map f) = true
  | [] => rfl
  | x :: l => by
    rw [List.map_cons]
    unfold noLs
    rw [h x, noLs_map f h l]
    rfl
theorem noL_wb (n : Nat) (tl : List (Nat × Nat)) : noL (wb n tl) = true := by
  unfold wb web noL noLs
  rw [show noL (.int (n : Int)) = true from rfl]
  unfold noLs
  rw [show noL (.tup (tl.map tp)) = true from noLs_map tp (fun _ => rfl) tl]
  unfold noLs
  rw [show noL (tbl (bth tl)) = true from noLs_map (fun _ => Dt.bl true) (fun _ => rfl) (bth tl)]
  rfl
theorem noLs_itd (l : List Nat) : noLs (itd l) = true := noLs_map _ (fun _ => rfl) l
theorem keep_ok {i : Nat} {g : Ev → So} {ε ε' : Ev} {ds ds' : List Dt} (h0 : ε[i]? = some (.vl 1 (.lst ds))) (h : g (ε.set i (.vl 0 (.lst ds))) = .nx ε') (h2 : ε'[i]? = some (.vl 0 (.lst ds'))) (hl : (noLs ds' && lone i ε') = true) :
    sKeep i g ε = .nx (ε'.set i (.vl 1 (.lst ds'))) := by
  unfold sKeep
  simp only [h0, h, h2, if_pos hl]
/-- pairs of L that are not tied -/
def Apart (g : Nat → Nat → Int) (L : List Nat) (T : List (Nat × Nat)) : Prop := ∀ p, p ∈ T ↔ p.1 ∈ L ∧ p.2 ∈ L ∧ p.1 ≠ p.2 ∧ g p.1 p.2 ≠ 1
section
variable {n a : Nat} {g : Nat → Nat → Int} {tl : List (Nat × Nat)}
theorem apart_in (w : Wb n g tl) {A : Dt} {L : List Nat} (hL : ∀ b ∈ L, b < n) (hl : L.length ≤ 40) {b : Nat} (hb : b ∈ L) (T0 : List (Nat × Nat)) (hT : T0.length ≤ 2000) {s5 s6 s7 s8 : Sl} :
    ∃ T s6', l_alike_at_2 [.vl 0 (wb n tl), .vl 0 A, .vl 0 (nts L), .vl 1 (tbl T0), .vl 0 (.int (b : Int)), s5, s6, s7, s8] = .nx [.vl 0 (wb n tl), .vl 0 A, .vl 0 (nts L), .vl 1 (tbl T), .vl 0 (.int (b : Int)), s5, s6', s7, s8] ∧
      (∀ p, p ∈ T ↔ p ∈ T0 ∨ (p.1 = b ∧ p.2 ∈ L ∧ b ≠ p.2 ∧ g b p.2 ≠ 1)) ∧ T.length ≤ T0.length + L.length ∧ (s6' = s6 ∨ ∃ d, s6' = .vl 0 (.int d)) := by
  obtain ⟨W, hW⟩ : ∃ W, W = wb n tl := ⟨_, rfl⟩
  have ft : fFld ["Web"] "table" W = some (tbl (bth tl)) := by rw [hW]; exact ff_table
  obtain ⟨dL, hdL⟩ : ∃ d, d = nts L := ⟨_, rfl⟩
  rw [← hW, ← hdL]
  obtain ⟨ε', e, done, T, s6', rfl, ⟨rest, hr, hdr⟩, hd, hT', hlen, h6⟩ := loop_ind (t := gSet 6 0) (body := l_alike_at_1) (fun ds ε => ∃ (done : List Nat) (T : List (Nat × Nat)) (t6 : Sl), ε = [.vl 0 W, .vl 0 A, .vl 0 dL, .vl 1 (tbl T), .vl 0 (.int (b : Int)), s5, t6, s7, s8] ∧ (∃ rest, ds = itd rest ∧ done ++ rest = L) ∧ done.length + ds.length = L.length ∧ (∀ p, p ∈ T ↔ p ∈ T0 ∨ (p.1 = b ∧ p.2 ∈ done ∧ b ≠ p.2 ∧ g b p.2 ≠ 1)) ∧ T.length ≤ T0.length + done.length ∧ (t6 = s6 ∨ ∃ d, t6 = .vl 0 (.int d)))
    (by
      rintro d r ε ⟨done, T, t6, rfl, ⟨rest, hds, hdr⟩, hdl, hT', hlen, h6⟩
      cases rest with
      | nil => cases hds
      | cons c rest =>
        have hds : d :: r = Dt.int (c : Int) :: itd rest := hds
        obtain ⟨rfl, rfl⟩ := List.cons.inj hds
        have hc : c ∈ L := by rw [← hdr]; simp
        have hcn := hL c hc
        have hbn := hL b hb
        have gt := w.get hbn hcn
        rw [List.length_cons] at hdl
        have step : ∃ T', l_alike_at_1 [.vl 0 W, .vl 0 A, .vl 0 dL, .vl 1 (tbl T), .vl 0 (.int (b : Int)), s5, .vl 0 (.int (c : Int)), s7, s8] = .nx [.vl 0 W, .vl 0 A, .vl 0 dL, .vl 1 (tbl T'), .vl 0 (.int (b : Int)), s5, .vl 0 (.int (c : Int)), s7, s8] ∧ (∀ p, p ∈ T' ↔ p ∈ T ∨ (p = (b, c) ∧ b ≠ c ∧ g b c ≠ 1)) ∧ T'.length ≤ T.length + 1 := by
          obtain ⟨dT, hdT⟩ : ∃ d, d = tbl (bth tl) := ⟨_, rfl⟩
          rw [← hdT] at gt ft
          by_cases c1 : b = c
          · exact ⟨T, by simp [l_alike_at_1, c1], fun p => by simp [c1], by omega⟩
          · have c1' : ¬ ((b : Int) = c) := by omega
            by_cases c2 : g b c = 1
            · exact ⟨T, by simp [l_alike_at_1, c1', ft, gt, c2], fun p => by simp [c2], by omega⟩
            · obtain ⟨T', e1, e2, e3⟩ := put_tbl2 T (b, c) (by omega)
              have e1' : putD? (.tup [.int (b : Int), .int (c : Int)]) (.bl true) (tbl T) = some (tbl T') := e1
              obtain ⟨dX, hdX⟩ : ∃ d, d = tbl T := ⟨_, rfl⟩
              obtain ⟨dY, hdY⟩ : ∃ d, d = tbl T' := ⟨_, rfl⟩
              rw [← hdX, ← hdY] at e1'
              refine ⟨T', ?_, fun p => ?_, e3⟩
              · rw [← hdX, ← hdY]
                simp [l_alike_at_1, c1', ft, gt, c2, e1']
              · rw [e2 p]
                simp [c1, c2]
        obtain ⟨T', e1, e2, e3⟩ := step
        refine ⟨_, _, rfl, .inl e1, done ++ [c], T', _, rfl, ⟨rest, rfl, by rw [← hdr]; simp⟩, by simp; omega, fun p => ?_, by simp; omega, .inr ⟨_, rfl⟩⟩
        rw [e2 p, hT' p]
        constructor
        · rintro ((h | h) | h)
          · exact .inl h
          · exact .inr ⟨h.1, List.mem_append_left _ h.2.1, h.2.2⟩
          · obtain ⟨rfl, h2, h3⟩ := h
            exact .inr ⟨rfl, by simp, h2, h3⟩
        · rintro (h | ⟨h1, h2, h3, h4⟩)
          · exact .inl (.inl h)
          · rcases List.mem_append.mp h2 with h2 | h2
            · exact .inl (.inr ⟨h1, h2, h3, h4⟩)
            · have h2 := List.mem_singleton.mp h2
              obtain ⟨x, y⟩ := p
              simp only [] at h1 h2 h3 h4
              subst h1 h2
              exact .inr ⟨rfl, h3, h4⟩)
    (ds := itd L) (ε := [.vl 0 W, .vl 0 A, .vl 0 dL, .vl 1 (tbl T0), .vl 0 (.int (b : Int)), s5, s6, s7, s8]) ⟨[], T0, _, rfl, ⟨L, rfl, rfl⟩, by simp [itd_len], fun p => by simp, by simp, .inl rfl⟩
  simp at hd
  refine ⟨T, s6', ?_, fun p => ?_, by omega, h6⟩
  · have e1 : (mIter (mVar 2)) [.vl 0 W, .vl 0 A, .vl 0 dL, .vl 1 (tbl T0), .vl 0 (.int (b : Int)), s5, s6, s7, s8] = .ok (itd L) [.vl 0 W, .vl 0 A, .vl 0 dL, .vl 1 (tbl T0), .vl 0 (.int (b : Int)), s5, s6, s7, s8] := by rw [hdL]; rfl
    unfold l_alike_at_2
    rw [q_for, e1, q_o1, e]
  · cases rest with
    | nil => rw [List.append_nil] at hdr; rw [hT' p, hdr]
    | cons x r => cases hr
theorem apart_ok (w : Wb n g tl) {A : Dt} {L : List Nat} (hL : ∀ b ∈ L, b < n) (hl : L.length ≤ 40) {s4 s5 s6 s7 s8 : Sl} :
    ∃ T s4' s6', (sFor (mIter (mVar 2)) (gSet 4 0) l_alike_at_2) [.vl 0 (wb n tl), .vl 0 A, .vl 0 (nts L), .vl 1 (tbl []), s4, s5, s6, s7, s8] = .nx [.vl 0 (wb n tl), .vl 0 A, .vl 0 (nts L), .vl 1 (tbl T), s4', s5, s6', s7, s8] ∧
      Apart g L T ∧ (s4' = s4 ∨ ∃ d, s4' = .vl 0 (.int d)) ∧ (s6' = s6 ∨ ∃ d, s6' = .vl 0 (.int d)) := by
  obtain ⟨W, hW⟩ : ∃ W, W = wb n tl := ⟨_, rfl⟩
  obtain ⟨dL, hdL⟩ : ∃ d, d = nts L := ⟨_, rfl⟩
  obtain ⟨ε', e, done, T, s4', s6', rfl, ⟨rest, hr, hdr⟩, hdl, hT, hlen, h4, h6⟩ := loop_ind (t := gSet 4 0) (body := l_alike_at_2) (fun ds ε => ∃ (done : List Nat) (T : List (Nat × Nat)) (t4 t6 : Sl), ε = [.vl 0 (wb n tl), .vl 0 A, .vl 0 (nts L), .vl 1 (tbl T), t4, s5, t6, s7, s8] ∧ (∃ rest, ds = itd rest ∧ done ++ rest = L) ∧ done.length + ds.length = L.length ∧ (∀ p, p ∈ T ↔ p.1 ∈ done ∧ p.2 ∈ L ∧ p.1 ≠ p.2 ∧ g p.1 p.2 ≠ 1) ∧ T.length ≤ done.length * 40 ∧ (t4 = s4 ∨ ∃ d, t4 = .vl 0 (.int d)) ∧ (t6 = s6 ∨ ∃ d, t6 = .vl 0 (.int d)))
    (by
      rintro d r ε ⟨done, T, t4, t6, rfl, ⟨rest, hds, hdr⟩, hdl, hT, hlen, h4, h6⟩
      cases rest with
      | nil => cases hds
      | cons b rest =>
        have hds : d :: r = Dt.int (b : Int) :: itd rest := hds
        obtain ⟨rfl, rfl⟩ := List.cons.inj hds
        have hb : b ∈ L := by rw [← hdr]; simp
        rw [List.length_cons] at hdl
        have hm : done.length * 40 ≤ 40 * 40 := Nat.mul_le_mul_right _ (by omega)
        obtain ⟨T', t6', e1, e2, e3, e4⟩ := apart_in w (A := A) hL hl hb T (by omega) (s5 := s5) (s6 := t6) (s7 := s7) (s8 := s8)
        refine ⟨_, _, rfl, .inl e1, done ++ [b], T', _, _, rfl, ⟨rest, rfl, by rw [← hdr]; simp⟩, by simp; omega, fun p => ?_, by simp; omega, .inr ⟨_, rfl⟩, ?_⟩
        · rw [e2 p, hT p, List.mem_append, List.mem_singleton]
          constructor
          · rintro (h | ⟨h1, h2, h3, h4⟩)
            · exact ⟨.inl h.1, h.2⟩
            · rw [h1]; exact ⟨.inr rfl, h2, h3, h4⟩
          · rintro ⟨h1 | h1, h2, h3, h4⟩
            · exact .inl ⟨h1, h2, h3, h4⟩
            · rw [h1] at h3 h4; exact .inr ⟨h1, h2, h3, h4⟩
        · rcases e4 with h | h
          · rw [h]; exact h6
          · exact .inr h)
    (ds := itd L) (ε := [.vl 0 (wb n tl), .vl 0 A, .vl 0 (nts L), .vl 1 (tbl []), s4, s5, s6, s7, s8]) ⟨[], [], _, _, rfl, ⟨L, rfl, rfl⟩, by simp [itd_len], fun p => by simp, by simp, .inl rfl, .inl rfl⟩
  refine ⟨T, s4', s6', ?_, fun p => ?_, h4, h6⟩
  · have e1 : (mIter (mVar 2)) [.vl 0 (wb n tl), .vl 0 A, .vl 0 (nts L), .vl 1 (tbl []), s4, s5, s6, s7, s8] = .ok (itd L) [.vl 0 (wb n tl), .vl 0 A, .vl 0 (nts L), .vl 1 (tbl []), s4, s5, s6, s7, s8] := rfl
    rw [q_for, e1, q_o1, e]
  · cases rest with
    | nil => rw [List.append_nil] at hdr; rw [hT p, hdr]
    | cons x r => cases hr
end
end Mir

set_option Elab.async false
set_option linter.all false
set_option maxRecDepth 100000
set_option maxHeartbeats 1600000
/-! Lots alike at a thing: the lots. -/
namespace Mir
open PySem PySem.Spec PyProof.Rows L2 He
section
variable {n a : Nat} {g : Nat → Nat → Int} {tl : List (Nat × Nat)}
/-- neighbours -/
def nbs (g : Nat → Nat → Int) (n a : Nat) : List Nat := (List.range n).filter fun b => decide (g a b = 1)
theorem mem_nbs {b : Nat} : b ∈ nbs g n a ↔ b < n ∧ g a b = 1 := by simp [nbs]
theorem nbs_len : (nbs g n a).length ≤ n := by
  have := List.length_filter_le (fun b => decide (g a b = 1)) (List.range n)
  simpa [nbs] using this
theorem comp_left (w : Wb n g tl) (ha : a < n) :
    mComp [4] (mRange1 (mCons (mFld ["Web"] "size" (mVar 0)) mNil)) (gSet 4 0) c_alike_at_0 e_alike_at_0 [.vl 0 (wb n tl), .vl 0 (.int (a : Int)), .un, .un, .un, .un, .un, .un, .un] = .ok (.lst (itd (nbs g n a))) [.vl 0 (wb n tl), .vl 0 (.int (a : Int)), .un, .un, .un, .un, .un, .un, .un] := by
  have hn := w.n2
  obtain ⟨W, hW⟩ : ∃ W, W = wb n tl := ⟨_, rfl⟩
  have ft : fFld ["Web"] "table" W = some (tbl (bth tl)) := by rw [hW]; exact ff_table
  have fs : fFld ["Web"] "size" W = some (.int n) := by rw [hW]; exact ff_size
  have gt : ∀ b, b < n → getD? (tbl (bth tl)) (.tup [.int (a : Int), .int (b : Int)]) = some (if g a b = 1 then some (.bl true) else none) := fun b hb => w.get ha hb
  obtain ⟨dT, hdT⟩ : ∃ d, d = tbl (bth tl) := ⟨_, rfl⟩
  rw [← hdT] at gt ft
  rw [← hW, q_comp]
  have e0 : (mRange1 (mCons (mFld ["Web"] "size" (mVar 0)) mNil)) [.vl 0 W, .vl 0 (.int (a : Int)), .un, .un, .un, .un, .un, .un, .un] = .ok ((List.range n).map fun i : Nat => .int (i : Int)) [.vl 0 W, .vl 0 (.int (a : Int)), .un, .un, .un, .un, .un, .un, .un] := by
    simp [fs, rgN (show n ≤ 1000 by omega), rangeD_nts]
  rw [e0, q_b1]
  have hc : compL [4] (gSet 4 0) c_alike_at_0 e_alike_at_0 ((List.range n).map fun i : Nat => Dt.int (i : Int)) [] [.vl 0 W, .vl 0 (.int (a : Int)), .un, .un, .un, .un, .un, .un, .un] = .ok ([] ++ itd (nbs g n a)) [.vl 0 W, .vl 0 (.int (a : Int)), .un, .un, .un, .un, .un, .un, .un] :=
    compL_fmf (fun i : Nat => Dt.int (i : Int)) (fun i : Nat => Dt.int (i : Int)) (fun b => decide (g a b = 1)) (fun b hb => by
      have hb := List.mem_range.mp hb
      refine ⟨[.vl 0 W, .vl 0 (.int (a : Int)), .un, .un, .vl 0 (.int (b : Int)), .un, .un, .un, .un], [.vl 0 W, .vl 0 (.int (a : Int)), .un, .un, .vl 0 (.int (b : Int)), .un, .un, .un, .un], by simp, ?_, fun _ => ⟨[.vl 0 W, .vl 0 (.int (a : Int)), .un, .un, .vl 0 (.int (b : Int)), .un, .un, .un, .un], by simp [e_alike_at_0], by simp⟩, fun _ => by simp⟩
      by_cases c : g a b = 1 <;> simp [c_alike_at_0, ft, gt b hb, c]) (by simp; exact szN (by omega))
  simp [hc]
theorem comp_lot {W A : Dt} {L l : List Nat} {s3 s4 s5 s6 s7 : Sl} (h4 : s4 = .un ∨ ∃ d, s4 = .vl 0 d) (hl : L.length ≤ 1000) :
    mComp [4] (mIter (mFrz 2)) (gSet 4 0) c_alike_at_3 e_alike_at_3 [.vl 0 W, .vl 0 A, .vl 0 (nts L), s3, s4, s5, s6, s7, .vl 0 (nts l)] = .ok (nts (L.filter fun b => !decide (b ∈ l))) [.vl 0 W, .vl 0 A, .vl 0 (nts L), s3, s4, s5, s6, s7, .vl 0 (nts l)] := by
  have e0 : (mIter (mFrz 2)) [.vl 0 W, .vl 0 A, .vl 0 (nts L), s3, s4, s5, s6, s7, .vl 0 (nts l)] = .ok (itd L) [.vl 0 W, .vl 0 A, .vl 0 (nts L), s3, s4, s5, s6, s7, .vl 0 (nts l)] := rfl
  have inl := fun b => in_nts true b l
  obtain ⟨dl, hdl⟩ : ∃ d, d = nts l := ⟨_, rfl⟩
  obtain ⟨dL, hdL⟩ : ∃ d, d = nts L := ⟨_, rfl⟩
  rw [← hdl] at inl
  rw [q_comp, e0, q_b1, ← hdl, ← hdL]
  have hc : compL [4] (gSet 4 0) c_alike_at_3 e_alike_at_3 (itd L) [] [.vl 0 W, .vl 0 A, .vl 0 dL, s3, .un, s5, s6, s7, .vl 0 dl] = .ok ([] ++ itd (L.filter fun b => !decide (b ∈ l))) [.vl 0 W, .vl 0 A, .vl 0 dL, s3, .un, s5, s6, s7, .vl 0 dl] :=
    compL_fmf (fun i : Nat => Dt.int (i : Int)) (fun i : Nat => Dt.int (i : Int)) (fun b => !decide (b ∈ l)) (fun b hb => by
      refine ⟨[.vl 0 W, .vl 0 A, .vl 0 dL, s3, .vl 0 (.int (b : Int)), s5, s6, s7, .vl 0 dl], [.vl 0 W, .vl 0 A, .vl 0 dL, s3, .vl 0 (.int (b : Int)), s5, s6, s7, .vl 0 dl], by simp, ?_, fun _ => ⟨[.vl 0 W, .vl 0 A, .vl 0 dL, s3, .vl 0 (.int (b : Int)), s5, s6, s7, .vl 0 dl], by simp [e_alike_at_3], by simp⟩, fun _ => by simp⟩
      simp [c_alike_at_3, inl b]) (by simp; exact szN (by omega))
  rcases h4 with rfl | ⟨d, rfl⟩
  · simp [hc]; rfl
  · simp [hc]; rfl
structure LotsI (g : Nat → Nat → Int) (nb : List Nat) (T : List (Nat × Nat)) (L : List Nat) (Ls : List (List Nat)) : Prop where
  lt : ∀ l ∈ Ls, ∃ x r, l = x :: r ∧ x ∈ nb ∧ ∀ b ∈ l, b ∈ nb ∧ Rch T x b
  all : ∀ b ∈ nb, b ∈ L ∨ ∃ l ∈ Ls, b ∈ l
  sub : ∀ b ∈ L, b ∈ nb
  cl : ∀ l ∈ Ls, ∀ b ∈ l, ∀ c ∈ nb, (b, c) ∈ T → c ∈ l
  dis : ∀ b ∈ L, ∀ l ∈ Ls, b ∉ l
  len : Ls.length + L.length ≤ nb.length
  le : ∀ l ∈ Ls, l.length ≤ nb.length
theorem LotsI.next {nb : List Nat} {T : List (Nat × Nat)} {x : Nat} {L R : List Nat} {Ls : List (List Nat)} (h : LotsI g nb T (x :: L) Ls) (sy : ∀ b c, (b, c) ∈ T → (c, b) ∈ T)
    (r1 : ∀ b ∈ R, b ∈ L ∧ Rch T x b) (r2 : ∀ a b, a = x ∨ a ∈ R → b ∈ L → (a, b) ∈ T → b ∈ R) (r3 : R.length ≤ L.length) : LotsI g nb T (L.filter fun b => !decide (b ∈ x :: R)) (Ls ++ [x :: R]) := by
  have hl := h.len
  rw [List.length_cons] at hl
  refine ⟨fun l hl' => ?_, fun b hb => ?_, fun b hb => ?_, fun l hl' b hb c hc hT => ?_, fun b hb l hl' hm => ?_, ?_, fun l hl' => ?_⟩
  · rcases List.mem_append.mp hl' with hl' | hl'
    · exact h.lt l hl'
    · rw [List.mem_singleton.mp hl']
      refine ⟨x, R, rfl, h.sub x List.mem_cons_self, fun b hb => ?_⟩
      rcases List.mem_cons.mp hb with rfl | hb
      · exact ⟨h.sub b List.mem_cons_self, .base⟩
      · exact ⟨h.sub b (List.mem_cons_of_mem _ (r1 b hb).1), (r1 b hb).2⟩
  · rcases h.all b hb with hb | ⟨l, hl', hb⟩
    · by_cases c : b ∈ x :: R
      · exact .inr ⟨_, by simp, c⟩
      · rcases List.mem_cons.mp hb with rfl | hb
        · exact absurd List.mem_cons_self c
        · exact .inl (List.mem_filter.mpr ⟨hb, by simp at c ⊢; exact c⟩)
    · exact .inr ⟨l, List.mem_append_left _ hl', hb⟩
  · exact h.sub b (List.mem_cons_of_mem _ (List.mem_filter.mp hb).1)
  · rcases List.mem_append.mp hl' with hl' | hl'
    · exact h.cl l hl' b hb c hc hT
    · rw [List.mem_singleton.mp hl'] at hb ⊢
      rcases h.all c hc with hcL | ⟨l', hl2, hc2⟩
      · rcases List.mem_cons.mp hcL with rfl | hcL
        · exact List.mem_cons_self
        · exact List.mem_cons_of_mem _ (r2 b c (List.mem_cons.mp hb) hcL hT)
      · have hbL : b ∈ x :: L := by
          rcases List.mem_cons.mp hb with rfl | hb
          · exact List.mem_cons_self
          · exact List.mem_cons_of_mem _ (r1 b hb).1
        exact absurd (h.cl l' hl2 c hc2 b (h.sub b hbL) (sy b c hT)) (h.dis b hbL l' hl2)
  · have hf := List.mem_filter.mp hb
    rcases List.mem_append.mp hl' with hl' | hl'
    · exact h.dis b (List.mem_cons_of_mem _ hf.1) l hl' hm
    · rw [List.mem_singleton.mp hl'] at hm
      have := hf.2
      rw [decide_eq_true hm] at this
      cases this
  · have := List.length_filter_le (fun b => !decide (b ∈ x :: R)) L
    rw [List.length_append]
    simp only [List.length_singleton]
    omega
  · rcases List.mem_append.mp hl' with hl' | hl'
    · exact h.le l hl'
    · rw [List.mem_singleton.mp hl', List.length_cons]
      omega
theorem pop0 (x : Nat) (L : List Nat) (h : L.length ≤ 900) : fPopAt (itd (x :: L)) [.int 0] = some (.int (x : Int), itd L) := by
  have := popAt_ok (l := x :: L) (r := 0) (by simp) (by simp; omega)
  simpa [itd] using this
theorem app_ls {Ls : List (List Nat)} {l : List Nat} (h : Ls.length ≤ 900) : fAppend (Ls.map nts) [nts l] = some (.non, (Ls ++ [l]).map nts) := by
  rw [append_ok (by rw [List.length_map]; exact small1000 (by omega))]
  simp
theorem alike_ok (w : Wb n g tl) (ha : a < n) : ∃ Ls T, m_alike_at [wb n tl, .int (a : Int)] = .ok (.lst (Ls.map nts)) [.non, .non] ∧ Apart g (nbs g n a) T ∧ LotsI g (nbs g n a) T [] Ls := by
  have hn := w.n2
  have nl : (nbs g n a).length ≤ 40 := Nat.le_trans nbs_len hn
  obtain ⟨T, s4, s6, e1, hT, h4, h6⟩ := apart_ok w (A := .int (a : Int)) (L := nbs g n a) (fun b hb => (mem_nbs.mp hb).1) nl (s4 := .un) (s5 := .un) (s6 := .un) (s7 := .un) (s8 := .un)
  have h4' : s4 = .un ∨ ∃ d, s4 = .vl 0 d := by
    rcases h4 with h | ⟨d, h⟩
    · exact .inl h
    · exact .inr ⟨_, h⟩
  have sy : ∀ b c, (b, c) ∈ T → (c, b) ∈ T := fun b c h => by
    obtain ⟨h1, h2, h3, h4⟩ := (hT (b, c)).mp h
    refine (hT (c, b)).mpr ⟨h2, h1, fun z => h3 z.symm, ?_⟩
    rw [← (w.gr b c (mem_nbs.mp h1).1 (mem_nbs.mp h2).1).2.1]
    exact h4
  obtain ⟨nb, hnb⟩ : ∃ nb, nb = nbs g n a := ⟨_, rfl⟩
  have noW := noL_wb n tl
  have noT : noL1 (tbl T) = true := noLs_map (fun _ => Dt.bl true) (fun _ => rfl) T
  obtain ⟨W, hW⟩ : ∃ W, W = wb n tl := ⟨_, rfl⟩
  have ek : (sKeep 2 (sFor (mIter (mVar 2)) (gSet 4 0) l_alike_at_2)) [.vl 0 W, .vl 0 (.int (a : Int)), .vl 1 (nts nb), .vl 1 (tbl []), .un, .un, .un, .un, .un] = .nx [.vl 0 W, .vl 0 (.int (a : Int)), .vl 1 (nts nb), .vl 1 (tbl T), s4, .un, s6, .un, .un] := by
    rw [hW, hnb]
    refine keep_ok (i := 2) (ds := itd (nbs g n a)) (ds' := itd (nbs g n a)) (ε' := [.vl 0 (wb n tl), .vl 0 (.int (a : Int)), .vl 0 (nts (nbs g n a)), .vl 1 (tbl T), s4, .un, s6, .un, .un]) rfl e1 rfl ?_
    have n4 : slN s4 = true := by rcases h4 with rfl | ⟨d, rfl⟩ <;> rfl
    have n6 : slN s6 = true := by rcases h6 with rfl | ⟨d, rfl⟩ <;> rfl
    rw [noLs_itd]
    simp [lone, List.range_succ, slN, noW, noT, noL]
    exact ⟨n4, n6⟩
  obtain ⟨ε', e, L, Ls, k3, s6', s7, s8, rfl, hI⟩ := loop_while (c := w_alike_at_4) (body := l_alike_at_4)
    (fun m ε => ∃ (L : List Nat) (Ls : List (List Nat)) (k3 : Nat) (s7 s8 : Sl), ε = [.vl 0 W, .vl 0 (.int (a : Int)), .vl 1 (nts L), .vl k3 (tbl T), s4, .vl 1 (.lst (Ls.map nts)), s6, s7, s8] ∧ LotsI g nb T L Ls ∧ L.length ≤ m)
    (fun ε => ∃ (L : List Nat) (Ls : List (List Nat)) (k3 : Nat) (s6 s7 s8 : Sl), ε = [.vl 0 W, .vl 0 (.int (a : Int)), .vl 1 (nts L), .vl k3 (tbl T), s4, .vl 1 (.lst (Ls.map nts)), s6, s7, s8] ∧ LotsI g nb T [] Ls)
    (by
      rintro m ε ⟨L, Ls, k3, s7, s8, rfl, hI, hm⟩
      have hlen := hI.len
      rw [← hnb] at nl
      cases L with
      | nil => exact .inl ⟨_, by simp [w_alike_at_4, nts, truD], [], Ls, k3, s6, s7, s8, rfl, hI⟩
      | cons x L =>
        rw [List.length_cons] at hlen hm
        obtain ⟨R, r0, r1, r2, r3⟩ := reach_ok T x L (by omega)
        have hI' := hI.next sy r1 r2 r3
        obtain ⟨N, hN⟩ : ∃ N, N = L.filter fun b => !decide (b ∈ x :: R) := ⟨_, rfl⟩
        have hNl : N.length ≤ L.length := by rw [hN]; exact List.length_filter_le _ _
        rw [← hN] at hI'
        obtain ⟨dT, hdT⟩ : ∃ d, d = tbl T := ⟨_, rfl⟩
        have c1 := comp_lot (W := W) (A := .int (a : Int)) (L := L) (l := x :: R) (s3 := .vl 0 dT) (s4 := s4) (s5 := .vl 1 (.lst (Ls.map nts))) (s6 := s6) (s7 := .vl 0 (.int (x : Int))) h4' (by omega)
        rw [← hN] at c1
        have p1 : ∀ k : Ev → So, (sSeq (sAsg (mMut 2 fPopAt (mCons (mSc (.int 0)) mNil)) (gSet 7 0)) k) [.vl 0 W, .vl 0 (.int (a : Int)), .vl 1 (nts (x :: L)), .vl k3 dT, s4, .vl 1 (.lst (Ls.map nts)), s6, s7, s8] = k [.vl 0 W, .vl 0 (.int (a : Int)), .vl 1 (nts L), .vl k3 dT, s4, .vl 1 (.lst (Ls.map nts)), s6, .vl 0 (.int (x : Int)), s8] := fun k => by
          simp [nts_itd, pop0 x L (by omega)]
        have a1 : fAdd (nts [x]) (nts R) = some (.lst (itd (x :: R))) := add_nts (l := [x]) (m := R) (by simp; omega)
        have p2 : ∀ k : Ev → So, (sSeq (sAsg (mOp fAdd (mLst (mCons (mVar 7) mNil)) (mCall [none, none, none] m_reach_from (mCons (mLst (mCons (mVar 7) mNil)) (mCons (mFrz 2) (mCons (mFrz 3) mNil))))) (gSet 8 0)) k) [.vl 0 W, .vl 0 (.int (a : Int)), .vl 1 (nts L), .vl k3 dT, s4, .vl 1 (.lst (Ls.map nts)), s6, .vl 0 (.int (x : Int)), s8] = k [.vl 0 W, .vl 0 (.int (a : Int)), .vl 0 (nts L), .vl 0 dT, s4, .vl 1 (.lst (Ls.map nts)), s6, .vl 0 (.int (x : Int)), .vl 0 (nts (x :: R))] := fun k => by
          have t0 : Dt.lst [.int (x : Int)] = nts [x] := rfl
          rw [← hdT] at r0
          obtain ⟨dL, hdL⟩ : ∃ d, d = nts L := ⟨_, rfl⟩
          rw [← hdL] at r0 ⊢
          simp [t0, r0, a1, ← nts_itd]
        have ap := app_ls (Ls := Ls) (l := x :: R) (by omega)
        refine .inr ⟨[.vl 0 W, .vl 0 (.int (a : Int)), .vl 1 (nts (x :: L)), .vl k3 dT, s4, .vl 1 (.lst (Ls.map nts)), s6, s7, s8], L.length, [.vl 0 W, .vl 0 (.int (a : Int)), .vl 1 (nts N), .vl 0 dT, s4, .vl 1 (.lst ((Ls ++ [x :: R]).map nts)), s6, .vl 0 (.int (x : Int)), .vl 0 (nts (x :: R))], ?_, ?_, by omega, N, Ls ++ [x :: R], 0, _, _, by rw [hdT], hI', hNl⟩
        · rw [← hdT]; simp [w_alike_at_4, nts, truD]
        · unfold l_alike_at_4
          rw [p1, p2]
          obtain ⟨dl, hdl⟩ : ∃ d, d = nts (x :: R) := ⟨_, rfl⟩
          rw [← hdl] at c1 ap ⊢
          simp only [q_seq, q_asg, c1, q_o1, q_set, q_a1, q_s1, List.set_cons_succ, List.set_cons_zero]
          obtain ⟨ml, hml⟩ : ∃ d, d = Ls.map nts := ⟨_, rfl⟩
          obtain ⟨ml', hml'⟩ : ∃ d, d = (Ls ++ [x :: R]).map nts := ⟨_, rfl⟩
          rw [← hml, ← hml'] at ap
          rw [← hml, ← hml']
          simp [ap])
    (fuel := 100000) (m := nb.length) (ε := [.vl 0 W, .vl 0 (.int (a : Int)), .vl 1 (nts nb), .vl 1 (tbl T), s4, .vl 1 (.lst (([] : List (List Nat)).map nts)), s6, .un, .un])
    ⟨nb, [], 1, _, _, rfl, ⟨fun l hl => (nomatch hl), fun b hb => .inl hb, fun b hb => hb, fun l hl => (nomatch hl), fun b hb l hl => (nomatch hl), by simp, fun l hl => (nomatch hl)⟩, Nat.le_refl _⟩ (by rw [hnb]; omega)
  refine ⟨Ls, T, ?_, hT, by rw [← hnb]; exact hI⟩
  have cl := comp_left w ha
  rw [← hW, ← hnb] at cl
  rw [← hW]
  have t0 : Dt.dT [] [] = tbl [] := rfl
  have t1 : Dt.lst [] = .lst (([] : List (List Nat)).map nts) := rfl
  simp only [m_alike_at, b_alike_at, q_fn, q_ent, q_en, q_en0, List.cons_append, List.nil_append, List.replicate, q_seq, q_asg, cl, q_o1, q_set, q_a1, q_s1, List.set_cons_succ, List.set_cons_zero, q_newT, t0]
  rw [← nts_itd, ek]
  simp only [q_seq, q_asg, q_s1, q_lst, q_nil, q_b1, q_o1, q_set, q_a1, List.set_cons_succ, List.set_cons_zero, t1, q_while]
  rw [e]
  simp
end
end Mir

set_option Elab.async false
set_option linter.all false
set_option maxRecDepth 100000
set_option maxHeartbeats 800000
/-! Classes, and classes joined. Plain Lean. -/
namespace Mir
section
variable {α : Type} {r : α → α → Prop}
theorem Wlk.trans {s p q : α} {k : Nat} (h1 : Wlk r s k p) {j : Nat} (h2 : Wlk r p j q) : ∃ m, Wlk r s m q := by
  induction h2 with
  | zero => exact ⟨k, h1⟩
  | succ h hr ih =>
    obtain ⟨m, hm⟩ := ih
    exact ⟨m + 1, .succ hm hr⟩
end
/-- one class -/
def Cls (g : Nat → Nat → Int) (n : Nat) (p q : Nat × Nat) : Prop := ∃ k, Wlk (rel g n) p k q
def Tie (g : Nat → Nat → Int) (n : Nat) (p : Nat × Nat) : Prop := p.1 < n ∧ p.2 < n ∧ g p.1 p.2 = 1
section
variable {n : Nat} {g : Nat → Nat → Int} {tl : List (Nat × Nat)} {p q s : Nat × Nat}
theorem Cls.refl (p : Nat × Nat) : Cls g n p p := ⟨0, .zero⟩
theorem Cls.trans (h1 : Cls g n p q) (h2 : Cls g n q s) : Cls g n p s := by
  obtain ⟨k, h1⟩ := h1
  obtain ⟨j, h2⟩ := h2
  exact h1.trans h2
theorem Cls.one (h : rel g n p q) : Cls g n p q := ⟨1, .succ .zero h⟩
theorem Cls.tie (w : Wb n g tl) (hp : Tie g n p) (h : Cls g n p q) : Tie g n q := by
  obtain ⟨k, h⟩ := h
  exact wlk_tie w hp h
theorem rel_sym (w : Wb n g tl) (hp : Tie g n p) (h : rel g n p q) : rel g n q p := fnd_sym w hp.1 hp.2.1 hp.2.2 h
theorem Cls.symm (w : Wb n g tl) (hp : Tie g n p) (h : Cls g n p q) : Cls g n q p := by
  obtain ⟨k, h⟩ := h
  induction h with
  | zero => exact .refl _
  | succ h hr ih => exact (Cls.one (rel_sym w (wlk_tie w hp h) hr)).trans ih
/-- turned round -/
theorem Cls.turn (w : Wb n g tl) (hp : Tie g n p) (h : Cls g n p q) : Cls g n (p.2, p.1) (q.2, q.1) := by
  obtain ⟨k, h⟩ := h
  induction h with
  | zero => exact .refl _
  | succ h hr ih =>
    have t := wlk_tie w hp h
    exact ih.trans (Cls.one (fnd_turn w t.1 t.2.1 hr))
theorem Tie.turn (w : Wb n g tl) (h : Tie g n p) : Tie g n (p.2, p.1) := ⟨h.2.1, h.1, by rw [← (w.gr p.1 p.2 h.1 h.2.1).2.1]; exact h.2.2⟩
theorem Tie.ne (w : Wb n g tl) (h : Tie g n p) : p.1 ≠ p.2 := fun z => by
  have := h.2.2
  rw [z, (w.gr p.2 p.2 h.2.1 h.2.1).2.2] at this
  exact absurd this (by decide)
/-- things that hang together by what is not tied: their arrows at a thing are of one class -/
theorem rch_cls (w : Wb n g tl) {a x b : Nat} {T : List (Nat × Nat)} (hT : Apart g (nbs g n a) T) (ha : a < n) (h : Rch T x b) : Cls g n (a, x) (a, b) ∧ Cls g n (x, a) (b, a) := by
  induction h with
  | base => exact ⟨.refl _, .refl _⟩
  | @step u v h hm ih =>
    obtain ⟨h1, h2, h3, h4⟩ := (hT (u, v)).mp hm
    have m1 := mem_nbs.mp h1
    have m2 := mem_nbs.mp h2
    simp only [] at m1 m2 h3 h4
    have s1 : g u v = g v u := (w.gr u v m1.1 m2.1).2.1
    have s2 : g a v = g v a := (w.gr a v ha m2.1).2.1
    refine ⟨ih.1.trans (Cls.one ?_), ih.2.trans (Cls.one ?_)⟩
    · exact mem_fnd.mpr (.inl ⟨rfl, m2.1, fun z => h3 z.symm, m2.2, h4⟩)
    · exact mem_fnd.mpr (.inr ⟨rfl, m2.1, fun z => h3 z.symm, by rw [← s2]; exact m2.2, h4⟩)
end
/-- numbers of classes found so far, and their members -/
structure MInv (R : Nat × Nat → Nat × Nat → Prop) (ks : List (Nat × Nat)) (h : Nat × Nat → Nat) (ms : List (List (Nat × Nat))) : Prop where
  len : ms.length = ks.length
  at_ : ∀ p ∈ ks, ∃ l, ms[h p]? = some l ∧ p ∈ l
  mem : ∀ (i : Nat) l, ms[i]? = some l → ∀ p ∈ l, p ∈ ks ∧ h p = i
  nd : ∀ l ∈ ms, l.Nodup
  eq : ∀ p ∈ ks, ∀ q ∈ ks, h p = h q → R p q
def joinF (h : Nat × Nat → Nat) (l : List (Nat × Nat)) (i : Nat) : Nat × Nat → Nat := fun p => if p ∈ l then i else h p
theorem MInv.join {R : Nat × Nat → Nat × Nat → Prop} (rt : ∀ {p q s}, R p q → R q s → R p s) {ks : List (Nat × Nat)} (rs : ∀ p ∈ ks, ∀ q, R p q → R q p) {h : Nat × Nat → Nat} {ms : List (List (Nat × Nat))} (I : MInv R ks h ms)
    {p q : Nat × Nat} (hp : p ∈ ks) (hq : q ∈ ks) (hr : R p q) (ne : h p ≠ h q) {lp lq : List (Nat × Nat)} (ep : ms[h p]? = some lp) (eq : ms[h q]? = some lq) :
    MInv R ks (joinF h lq (h p)) ((ms.set (h p) (lp ++ lq)).set (h q) []) ∧ joinF h lq (h p) p = joinF h lq (h p) q ∧ ∀ u ∈ ks, ∀ v ∈ ks, h u = h v → joinF h lq (h p) u = joinF h lq (h p) v := by
  have mq : ∀ u ∈ ks, u ∈ lq ↔ h u = h q := fun u hu => by
    constructor
    · exact fun hm => (I.mem _ _ eq u hm).2
    · intro e
      obtain ⟨l, e1, e2⟩ := I.at_ u hu
      rw [e, eq] at e1
      cases e1
      exact e2
  have hip : h p < ms.length := (List.getElem?_eq_some_iff.mp ep).1
  have hiq : h q < ms.length := (List.getElem?_eq_some_iff.mp eq).1
  have jp : joinF h lq (h p) p = h p := by
    unfold joinF
    split <;> rfl
  have jq : joinF h lq (h p) q = h p := if_pos ((mq q hq).mpr rfl)
  have ev : ∀ u ∈ ks, joinF h lq (h p) u = if h u = h q then h p else h u := fun u hu => by
    unfold joinF
    by_cases c : h u = h q
    · rw [if_pos ((mq u hu).mpr c), if_pos c]
    · rw [if_neg fun z => c ((mq u hu).mp z), if_neg c]
  have nq : ∀ u ∈ ks, joinF h lq (h p) u ≠ h q := fun u hu z => by
    rw [ev u hu] at z
    split at z
    · exact ne z
    · contradiction
  refine ⟨⟨by simp [I.len], fun u hu => ?_, fun i l e u hu => ?_, fun l hl => ?_, fun u hu v hv e => ?_⟩, by rw [jp, jq], fun u hu v hv e => by rw [ev u hu, ev v hv, e]⟩
  · have n1 := nq u hu
    rw [List.getElem?_set_ne fun z => n1 z.symm]
    by_cases c : joinF h lq (h p) u = h p
    · rw [c, List.getElem?_set_self hip]
      refine ⟨_, rfl, ?_⟩
      rw [ev u hu] at c
      split at c
      · rename_i cc
        exact List.mem_append_right _ ((mq u hu).mpr cc)
      · obtain ⟨l, e1, e2⟩ := I.at_ u hu
        rw [c, ep] at e1
        cases e1
        exact List.mem_append_left _ e2
    · rw [List.getElem?_set_ne fun z => c z.symm]
      rw [ev u hu] at c ⊢
      split at c
      · exact absurd rfl c
      · rename_i cc
        rw [if_neg cc]
        exact I.at_ u hu
  · by_cases c : h q = i
    · subst c
      rw [List.getElem?_set_self (by rw [List.length_set]; exact hiq)] at e
      cases e
      exact nomatch hu
    · rw [List.getElem?_set_ne c] at e
      by_cases d : h p = i
      · subst d
        rw [List.getElem?_set_self hip] at e
        cases e
        rcases List.mem_append.mp hu with hu | hu
        · have := I.mem _ _ ep u hu
          refine ⟨this.1, ?_⟩
          rw [ev u this.1, if_neg (by rw [this.2]; exact ne), this.2]
        · have := I.mem _ _ eq u hu
          refine ⟨this.1, ?_⟩
          rw [ev u this.1, if_pos this.2]
      · rw [List.getElem?_set_ne d] at e
        have := I.mem _ _ e u hu
        refine ⟨this.1, ?_⟩
        rw [ev u this.1, if_neg (by rw [this.2]; exact fun z => c z.symm), this.2]
  · rcases List.mem_or_eq_of_mem_set hl with hl | hl
    · rcases List.mem_or_eq_of_mem_set hl with hl | hl
      · exact I.nd l hl
      · rw [hl]
        refine List.nodup_append.mpr ⟨I.nd _ (List.mem_of_getElem? ep), I.nd _ (List.mem_of_getElem? eq), fun u hu v hv z => ?_⟩
        subst z
        exact ne ((I.mem _ _ ep u hu).2.symm.trans (I.mem _ _ eq u hv).2)
    · rw [hl]; exact List.nodup_nil
  · rw [ev u hu, ev v hv] at e
    have pq := hr
    have qp := rs p hp q hr
    by_cases c : h u = h q <;> by_cases d : h v = h q
    · exact I.eq u hu v hv (c.trans d.symm)
    · rw [if_pos c, if_neg d] at e
      exact rt (I.eq u hu q hq c) (rt qp (I.eq p hp v hv e))
    · rw [if_neg c, if_pos d] at e
      exact rt (I.eq u hu p hp e) (rt pq (I.eq q hq v hv d.symm))
    · rw [if_neg c, if_neg d] at e
      exact I.eq u hu v hv e
end Mir

set_option Elab.async false
set_option linter.all false
set_option maxRecDepth 100000
set_option maxHeartbeats 1600000
/-! The program's classes: two are joined. -/
namespace Mir
open PySem PySem.Spec PyProof.Rows L2 He
abbrev mems (ms : List (List (Nat × Nat))) : Dt := .lst (ms.map prs)
theorem ix_mems {ms : List (List (Nat × Nat))} {i : Nat} {l : List (Nat × Nat)} (h : ms[i]? = some l) : fIx (mems ms) (.int (i : Int)) = some (.el (prs l)) := ix_lst (by rw [List.getElem?_map, h]; rfl)
theorem nodup_len {l m : List (Nat × Nat)} (h : l.Nodup) (hm : ∀ x ∈ l, x ∈ m) : l.length ≤ m.length := nodup_le h hm
theorem add_prs {l m : List (Nat × Nat)} (h : l.length + m.length ≤ 100000) : fAdd (prs l) (prs m) = some (.lst ((l ++ m).map tp)) := by
  have : prs (l ++ m) = .lst (l.map tp ++ m.map tp) := by rw [← List.map_append]; rfl
  have e1 : prs l = .lst (l.map tp) := rfl
  have e2 : prs m = .lst (m.map tp) := rfl
  rw [e1, e2, add_lst (by rw [List.length_map, List.length_map]; exact Nat.le_trans h (by decide)), List.map_append]
section
variable {R : Nat × Nat → Nat × Nat → Prop} {ks : List (Nat × Nat)} {h : Nat × Nat → Nat} {ms : List (List (Nat × Nat))} {p q : Nat × Nat} {W : Dt} {s3 s4 s8 s9 s12 s13 : Sl}
theorem turn_over (kl : ks.length ≤ 1600) (l : List (Nat × Nat)) (hl : ∀ u ∈ l, u ∈ ks) (i j : Nat) {M : Dt} {s10 s11 : Sl} :
    ∃ h' s9', loopL (gSet 9 0) l_class_numbers_2 (l.map tp) [.vl 0 W, .vl 1 (dct ks h), .vl 1 M, s3, s4, .un, .un, .un, s8, s9, s10, s11, .vl 0 (.int (i : Int)), .vl 0 (.int (j : Int))] = .nx [.vl 0 W, .vl 1 (dct ks h'), .vl 1 M, s3, s4, .un, .un, .un, s8, s9', s10, s11, .vl 0 (.int (i : Int)), .vl 0 (.int (j : Int))] ∧ dct ks h' = dct ks (joinF h l i) := by
  obtain ⟨ε', e, done, h', s9', rfl, ⟨rest, hr, hdr⟩, hh⟩ := loop_ind (t := gSet 9 0) (body := l_class_numbers_2) (fun ds ε => ∃ (done : List (Nat × Nat)) (h' : Nat × Nat → Nat) (t9 : Sl), ε = [.vl 0 W, .vl 1 (dct ks h'), .vl 1 M, s3, s4, .un, .un, .un, s8, t9, s10, s11, .vl 0 (.int (i : Int)), .vl 0 (.int (j : Int))] ∧ (∃ rest, ds = rest.map tp ∧ done ++ rest = l) ∧ ∀ u, h' u = joinF h done i u)
    (by
      rintro d r ε ⟨done, h', t9, rfl, ⟨rest, hds, hdr⟩, hh⟩
      cases rest with
      | nil => cases hds
      | cons u rest =>
        obtain ⟨rfl, rfl⟩ := List.cons.inj hds
        have hu := hl u (by rw [← hdr]; simp)
        have pu := put_old (h := h') (v := i) hu (by omega)
        obtain ⟨D, hD⟩ : ∃ D, D = dct ks h' := ⟨_, rfl⟩
        obtain ⟨D', hD'⟩ : ∃ D, D = dct ks (updF h' u i) := ⟨_, rfl⟩
        rw [← hD, ← hD'] at pu
        refine ⟨[.vl 0 W, .vl 1 D, .vl 1 M, s3, s4, .un, .un, .un, s8, .vl 0 (tp u), s10, s11, .vl 0 (.int (i : Int)), .vl 0 (.int (j : Int))], [.vl 0 W, .vl 1 D', .vl 1 M, s3, s4, .un, .un, .un, s8, .vl 0 (tp u), s10, s11, .vl 0 (.int (i : Int)), .vl 0 (.int (j : Int))], ?_, .inl ?_, done ++ [u], updF h' u i, _, by rw [hD'], ⟨rest, rfl, by rw [← hdr]; simp⟩, fun v => ?_⟩
        · rw [← hD]; simp
        · simp [l_class_numbers_2, pu]
        · unfold updF joinF
          rw [hh v]
          unfold joinF
          by_cases c : v = u
          · subst c; simp
          · simp [c])
    (ds := l.map tp) (ε := [.vl 0 W, .vl 1 (dct ks h), .vl 1 M, s3, s4, .un, .un, .un, s8, s9, s10, s11, .vl 0 (.int (i : Int)), .vl 0 (.int (j : Int))]) ⟨[], h, _, rfl, ⟨l, rfl, rfl⟩, fun u => by simp [joinF]⟩
  refine ⟨h', s9', e, ?_⟩
  cases rest with
  | nil =>
    rw [List.append_nil] at hdr
    rw [hdr] at hh
    exact dct_congr fun u _ => hh u
  | cons x r => cases hr
theorem un_step (kl : ks.length ≤ 1600) (rt : ∀ {p q s}, R p q → R q s → R p s) (rs : ∀ p ∈ ks, ∀ q, R p q → R q p) (I : MInv R ks h ms) (hp : p ∈ ks) (hq : q ∈ ks) (hr : R p q) :
    ∃ h' ms' s9' s12' s13', l_class_numbers_3 [.vl 0 W, .vl 1 (dct ks h), .vl 1 (mems ms), s3, s4, .un, .un, .un, s8, s9, .vl 0 (tp p), .vl 0 (tp q), s12, s13] = .nx [.vl 0 W, .vl 1 (dct ks h'), .vl 1 (mems ms'), s3, s4, .un, .un, .un, s8, s9', .vl 0 (tp p), .vl 0 (tp q), s12', s13'] ∧
      MInv R ks h' ms' ∧ h' p = h' q ∧ ∀ u ∈ ks, ∀ v ∈ ks, h u = h v → h' u = h' v := by
  have g1 := get_dct1 (h := h) hp
  have g2 := get_dct1 (h := h) hq
  obtain ⟨D, hD⟩ : ∃ D, D = dct ks h := ⟨_, rfl⟩
  obtain ⟨P, hP⟩ : ∃ P, P = tp p := ⟨_, rfl⟩
  obtain ⟨Q, hQ⟩ : ∃ Q, Q = tp q := ⟨_, rfl⟩
  obtain ⟨M, hM⟩ : ∃ M, M = mems ms := ⟨_, rfl⟩
  have g1' := g1
  have g2' := g2
  rw [← hD, ← hP] at g1
  rw [← hD, ← hQ] at g2
  by_cases c : h p = h q
  · refine ⟨h, ms, s9, .vl 0 (.int (h p : Int)), .vl 0 (.int (h q : Int)), ?_, I, c, fun u _ v _ e => e⟩
    rw [← hD, ← hP, ← hQ, ← hM]
    rw [c] at g1
    simp [l_class_numbers_3, g1, g2, c]
  · obtain ⟨lp, ep, _⟩ := I.at_ p hp
    obtain ⟨lq, eq, _⟩ := I.at_ q hq
    have J := MInv.join (R := R) (p := p) (q := q) @rt rs I hp hq hr c ep eq
    have hip : h p < ms.length := (List.getElem?_eq_some_iff.mp ep).1
    have hiq : h q < ms.length := (List.getElem?_eq_some_iff.mp eq).1
    have l1 : lp.length ≤ 1600 := Nat.le_trans (nodup_len (I.nd _ (List.mem_of_getElem? ep)) fun u hu => (I.mem _ _ ep u hu).1) kl
    have l2 : lq.length ≤ 1600 := Nat.le_trans (nodup_len (I.nd _ (List.mem_of_getElem? eq)) fun u hu => (I.mem _ _ eq u hu).1) kl
    obtain ⟨h', s9', e1, e2⟩ := turn_over (h := h) (W := W) (s3 := s3) (s4 := s4) (s8 := s8) (s9 := s9) kl lq (fun u hu => (I.mem _ _ eq u hu).1) (h p) (h q) (M := M) (s10 := .vl 0 P) (s11 := .vl 0 Q)
    rw [e2] at e1
    refine ⟨joinF h lq (h p), (ms.set (h p) (lp ++ lq)).set (h q) [], s9', .vl 0 (.int (h p : Int)), .vl 0 (.int (h q : Int)), ?_, J.1, J.2.1, J.2.2⟩
    obtain ⟨D', hD'⟩ : ∃ D, D = dct ks (joinF h lq (h p)) := ⟨_, rfl⟩
    rw [← hD, ← hD'] at e1
    rw [← hD, ← hD', ← hP, ← hQ]
    obtain ⟨i, hi⟩ : ∃ i, i = h p := ⟨_, rfl⟩
    obtain ⟨j, hj⟩ : ∃ i, i = h q := ⟨_, rfl⟩
    have x1 := ix_mems ep
    have x2 := ix_mems eq
    have a1 := add_prs (l := lp) (m := lq) (by omega)
    rw [← hi] at x1 e1 g1 hip ⊢
    rw [← hj] at x2 e1 g2 hiq ⊢
    rw [← hM] at x1 x2 ⊢
    have cij : ¬ ((i : Int) = j) := by rw [hi, hj]; omega
    have it : (mIter (mOp fIx (mVarB 2) (mVar 13))) [.vl 0 W, .vl 1 D, .vl 1 M, s3, s4, .un, .un, .un, s8, s9, .vl 0 P, .vl 0 Q, .vl 0 (.int (i : Int)), .vl 0 (.int (j : Int))] = .ok (lq.map tp) [.vl 0 W, .vl 1 D, .vl 1 M, s3, s4, .un, .un, .un, s8, s9, .vl 0 P, .vl 0 Q, .vl 0 (.int (i : Int)), .vl 0 (.int (j : Int))] := by
      simp [x2]
      rfl
    have w1 : (sAsg (mOp fAdd (mOp fIx (mVarB 2) (mVar 12)) (mOp fIx (mVarB 2) (mVar 13))) (gPut 2 (mVar 12))) [.vl 0 W, .vl 1 D', .vl 1 M, s3, s4, .un, .un, .un, s8, s9', .vl 0 P, .vl 0 Q, .vl 0 (.int (i : Int)), .vl 0 (.int (j : Int))] = .nx [.vl 0 W, .vl 1 D', .vl 1 (mems (ms.set i (lp ++ lq))), s3, s4, .un, .un, .un, s8, s9', .vl 0 P, .vl 0 Q, .vl 0 (.int (i : Int)), .vl 0 (.int (j : Int))] := by
      have e0 : (mOp fAdd (mOp fIx (mVarB 2) (mVar 12)) (mOp fIx (mVarB 2) (mVar 13))) [.vl 0 W, .vl 1 D', .vl 1 M, s3, s4, .un, .un, .un, s8, s9', .vl 0 P, .vl 0 Q, .vl 0 (.int (i : Int)), .vl 0 (.int (j : Int))] = .ok (.lst ((lp ++ lq).map tp)) [.vl 0 W, .vl 1 D', .vl 1 M, s3, s4, .un, .un, .un, s8, s9', .vl 0 P, .vl 0 Q, .vl 0 (.int (i : Int)), .vl 0 (.int (j : Int))] := by
        simp [x1, x2, a1]
      rw [q_asg, e0, q_o1, put_ok (z := i) (i := 2) (fi := mVar 12) (l := ms.map prs) (by rw [hM]; rfl) rfl (by rw [List.length_map]; exact hip), q_a1]
      have : (ms.map prs).set i (.lst ((lp ++ lq).map tp)) = (ms.set i (lp ++ lq)).map prs := by rw [List.map_set]; rfl
      rw [this]
      rfl
    have w2 : (sAsg (mLst mNil) (gPut 2 (mVar 13))) [.vl 0 W, .vl 1 D', .vl 1 (mems (ms.set i (lp ++ lq))), s3, s4, .un, .un, .un, s8, s9', .vl 0 P, .vl 0 Q, .vl 0 (.int (i : Int)), .vl 0 (.int (j : Int))] = .nx [.vl 0 W, .vl 1 D', .vl 1 (mems ((ms.set i (lp ++ lq)).set j [])), s3, s4, .un, .un, .un, s8, s9', .vl 0 P, .vl 0 Q, .vl 0 (.int (i : Int)), .vl 0 (.int (j : Int))] := by
      have e0 : (mLst mNil) [.vl 0 W, .vl 1 D', .vl 1 (mems (ms.set i (lp ++ lq))), s3, s4, .un, .un, .un, s8, s9', .vl 0 P, .vl 0 Q, .vl 0 (.int (i : Int)), .vl 0 (.int (j : Int))] = .ok (.lst []) [.vl 0 W, .vl 1 D', .vl 1 (mems (ms.set i (lp ++ lq))), s3, s4, .un, .un, .un, s8, s9', .vl 0 P, .vl 0 Q, .vl 0 (.int (i : Int)), .vl 0 (.int (j : Int))] := rfl
      rw [q_asg, e0, q_o1, put_ok (z := j) (i := 2) (fi := mVar 13) (ε := [.vl 0 W, .vl 1 D', .vl 1 (mems (ms.set i (lp ++ lq))), s3, s4, .un, .un, .un, s8, s9', .vl 0 P, .vl 0 Q, .vl 0 (.int (i : Int)), .vl 0 (.int (j : Int))]) (l := (ms.set i (lp ++ lq)).map prs) rfl rfl (by rw [List.length_map, List.length_set]; exact hiq), q_a1]
      have : ((ms.set i (lp ++ lq)).map prs).set j (.lst []) = ((ms.set i (lp ++ lq)).set j []).map prs := by rw [List.map_set (l := ms.set i (lp ++ lq))]; rfl
      rw [this]
      rfl
    have fa : (sSeq (sFor (mIter (mOp fIx (mVarB 2) (mVar 13))) (gSet 9 0) l_class_numbers_2) (sSeq (sAsg (mOp fAdd (mOp fIx (mVarB 2) (mVar 12)) (mOp fIx (mVarB 2) (mVar 13))) (gPut 2 (mVar 12))) (sAsg (mLst mNil) (gPut 2 (mVar 13))))) [.vl 0 W, .vl 1 D, .vl 1 M, s3, s4, .un, .un, .un, s8, s9, .vl 0 P, .vl 0 Q, .vl 0 (.int (i : Int)), .vl 0 (.int (j : Int))] = .nx [.vl 0 W, .vl 1 D', .vl 1 (mems ((ms.set i (lp ++ lq)).set j [])), s3, s4, .un, .un, .un, s8, s9', .vl 0 P, .vl 0 Q, .vl 0 (.int (i : Int)), .vl 0 (.int (j : Int))] := by
      rw [q_seq, q_for, it, q_o1, e1, q_s1, q_seq, w1, q_s1, w2]
    have pre : ∀ k : Ev → So, (sSeq (sAsg (mDGet (mVarB 1) (mVar 10)) (gSet 12 0)) (sSeq (sAsg (mDGet (mVarB 1) (mVar 11)) (gSet 13 0)) (sIf (mB (mOpD fNe (mVarD 12) (mVarD 13))) k sNx))) [.vl 0 W, .vl 1 D, .vl 1 M, s3, s4, .un, .un, .un, s8, s9, .vl 0 P, .vl 0 Q, s12, s13] = k [.vl 0 W, .vl 1 D, .vl 1 M, s3, s4, .un, .un, .un, s8, s9, .vl 0 P, .vl 0 Q, .vl 0 (.int (i : Int)), .vl 0 (.int (j : Int))] := fun k => by
      simp [g1, g2, cij]
    unfold l_class_numbers_3
    rw [pre, fa]
end
end Mir

set_option Elab.async false
set_option linter.all false
set_option maxRecDepth 100000
set_option maxHeartbeats 1600000
/-! The program's classes: all things walked. -/
namespace Mir
open PySem PySem.Spec PyProof.Rows L2 He
def cE (W D M : Dt) (s3 s4 s8 s9 s10 s11 s12 s13 : Sl) : Ev := [.vl 0 W, .vl 1 D, .vl 1 M, s3, s4, .un, .un, .un, s8, s9, s10, s11, s12, s13]
theorem lp_cons {t : Dt → Ev → Rs Unit} {body : Ev → So} {d : Dt} {r : List Dt} {ε ε1 ε2 : Ev} (h1 : t d ε = .ok () ε1) (h2 : body ε1 = .nx ε2) : loopL t body (d :: r) ε = loopL t body r ε2 := by
  conv => lhs; unfold loopL
  rw [h1]
  show (body ε1).turn _ = _
  rw [h2]
  simp
theorem lp_nil {t : Dt → Ev → Rs Unit} {body : Ev → So} {ε : Ev} : loopL t body [] ε = .nx ε := by
  unfold loopL
  rfl
/-- what holds together stays together -/
def Mon (ks : List (Nat × Nat)) (h h' : Nat × Nat → Nat) : Prop := ∀ u ∈ ks, ∀ v ∈ ks, h u = h v → h' u = h' v
theorem Mon.refl {ks : List (Nat × Nat)} {h : Nat × Nat → Nat} : Mon ks h h := fun _ _ _ _ e => e
theorem Mon.trans {ks : List (Nat × Nat)} {h h' h'' : Nat × Nat → Nat} (a : Mon ks h h') (b : Mon ks h' h'') : Mon ks h h'' := fun u hu v hv e => b u hu v hv (a u hu v hv e)
section
variable {n : Nat} {g : Nat → Nat → Int} {tl : List (Nat × Nat)} {ks : List (Nat × Nat)} {h : Nat × Nat → Nat} {ms : List (List (Nat × Nat))} {W : Dt} {a x b : Nat}
theorem b_step (w : Wb n g tl) (hk : ∀ p, p ∈ ks ↔ Tie g n p) (kl : ks.length ≤ 1600) (I : MInv (Cls g n) ks h ms) {r : List Nat} (h1 : Tie g n (a, x)) (h2 : Tie g n (a, b)) (c1 : Cls g n (a, x) (a, b)) (c2 : Cls g n (x, a) (b, a)) (s9 s10 s11 s12 s13 : Sl) :
    ∃ h' ms' t9 t10 t11 t12 t13, l_class_numbers_4 (cE W (dct ks h) (mems ms) (.vl 0 (.int (a : Int))) (.vl 0 (.int (b : Int))) (.vl 0 (nts (x :: r))) s9 s10 s11 s12 s13) = .nx (cE W (dct ks h') (mems ms') (.vl 0 (.int (a : Int))) (.vl 0 (.int (b : Int))) (.vl 0 (nts (x :: r))) t9 t10 t11 t12 t13) ∧
      MInv (Cls g n) ks h' ms' ∧ (h' (a, x) = h' (a, b) ∧ h' (x, a) = h' (b, a)) ∧ Mon ks h h' := by
  have k1 := (hk (a, x)).mpr h1
  have k2 := (hk (a, b)).mpr h2
  have k3 := (hk (x, a)).mpr (h1.turn w)
  have k4 := (hk (b, a)).mpr (h2.turn w)
  have rs : ∀ p ∈ ks, ∀ q, Cls g n p q → Cls g n q p := fun p hp q hr => hr.symm w ((hk p).mp hp)
  obtain ⟨h', ms', t9, t12, t13, e1, I1, f1, m1⟩ := un_step (R := Cls g n) (p := (a, x)) (q := (a, b)) (W := W) (s3 := .vl 0 (.int (a : Int))) (s4 := .vl 0 (.int (b : Int))) (s8 := .vl 0 (nts (x :: r))) (s9 := s9) (s12 := s12) (s13 := s13) kl (fun a b => Cls.trans a b) rs I k1 k2 c1
  obtain ⟨h2', ms2, u9, u12, u13, e2, I2, f2, m2⟩ := un_step (R := Cls g n) (p := (x, a)) (q := (b, a)) (W := W) (s3 := .vl 0 (.int (a : Int))) (s4 := .vl 0 (.int (b : Int))) (s8 := .vl 0 (nts (x :: r))) (s9 := t9) (s12 := t12) (s13 := t13) kl (fun a b => Cls.trans a b) rs I1 k3 k4 c2
  refine ⟨h2', ms2, u9, .vl 0 (tp (x, a)), .vl 0 (tp (b, a)), u12, u13, ?_, I2, ⟨m2 _ k1 _ k2 f1, f2⟩, Mon.trans m1 m2⟩
  have x0 : fIx (nts (x :: r)) (.int 0) = some (.el (.int (x : Int))) := ix_nts (l := x :: r) (i := 0) (by simp)
  obtain ⟨L, hL⟩ : ∃ L, L = nts (x :: r) := ⟨_, rfl⟩
  obtain ⟨D, hD⟩ : ∃ L, L = dct ks h := ⟨_, rfl⟩
  obtain ⟨M, hM⟩ : ∃ L, L = mems ms := ⟨_, rfl⟩
  rw [← hL] at x0 e1 e2 ⊢
  rw [← hD, ← hM] at e1 ⊢
  have it : (mIterT (mTup (mCons (mTup (mCons (mTup (mCons (mVar 3) (mCons (mOp fIx (mVar 8) (mSc (.int 0))) mNil))) (mCons (mTup (mCons (mVar 3) (mCons (mVar 4) mNil))) mNil))) (mCons (mTup (mCons (mTup (mCons (mOp fIx (mVar 8) (mSc (.int 0))) (mCons (mVar 3) mNil))) (mCons (mTup (mCons (mVar 4) (mCons (mVar 3) mNil))) mNil))) mNil)))) (cE W D M (.vl 0 (.int (a : Int))) (.vl 0 (.int (b : Int))) (.vl 0 L) s9 s10 s11 s12 s13) = .ok [.tup [tp (a, x), tp (a, b)], .tup [tp (x, a), tp (b, a)]] (cE W D M (.vl 0 (.int (a : Int))) (.vl 0 (.int (b : Int))) (.vl 0 L) s9 s10 s11 s12 s13) := by
    simp [cE, x0, tp]
  unfold l_class_numbers_4
  rw [q_for, it, q_o1, lp_cons (ε1 := cE W D M (.vl 0 (.int (a : Int))) (.vl 0 (.int (b : Int))) (.vl 0 L) s9 (.vl 0 (tp (a, x))) (.vl 0 (tp (a, b))) s12 s13) (by simp [cE]) e1]
  obtain ⟨D', hD'⟩ : ∃ L, L = dct ks h' := ⟨_, rfl⟩
  obtain ⟨M', hM'⟩ : ∃ L, L = mems ms' := ⟨_, rfl⟩
  rw [← hD', ← hM'] at e2 ⊢
  rw [lp_cons (ε1 := cE W D' M' (.vl 0 (.int (a : Int))) (.vl 0 (.int (b : Int))) (.vl 0 L) t9 (.vl 0 (tp (x, a))) (.vl 0 (tp (b, a))) t12 t13) (by simp [cE]) e2, lp_nil]
  rfl
theorem lot_step (w : Wb n g tl) (hk : ∀ p, p ∈ ks ↔ Tie g n p) (kl : ks.length ≤ 1600) (I : MInv (Cls g n) ks h ms) {r : List Nat} (h1 : Tie g n (a, x)) (hr : ∀ b ∈ r, Tie g n (a, b) ∧ Cls g n (a, x) (a, b) ∧ Cls g n (x, a) (b, a)) (s4 s9 s10 s11 s12 s13 : Sl) :
    ∃ h' ms' t4 t9 t10 t11 t12 t13, l_class_numbers_5 (cE W (dct ks h) (mems ms) (.vl 0 (.int (a : Int))) s4 (.vl 0 (nts (x :: r))) s9 s10 s11 s12 s13) = .nx (cE W (dct ks h') (mems ms') (.vl 0 (.int (a : Int))) t4 (.vl 0 (nts (x :: r))) t9 t10 t11 t12 t13) ∧
      MInv (Cls g n) ks h' ms' ∧ (∀ b ∈ r, h' (a, x) = h' (a, b) ∧ h' (x, a) = h' (b, a)) ∧ Mon ks h h' := by
  obtain ⟨ε', e, done, h', ms', t4, t9, t10, t11, t12, t13, rfl, ⟨rest, hre, hdr⟩, I', hd, hm⟩ := loop_ind (t := gSet 4 0) (body := l_class_numbers_4) (fun ds ε => ∃ (done : List Nat) (h' : Nat × Nat → Nat) (ms' : List (List (Nat × Nat))) (t4 t9 t10 t11 t12 t13 : Sl), ε = cE W (dct ks h') (mems ms') (.vl 0 (.int (a : Int))) t4 (.vl 0 (nts (x :: r))) t9 t10 t11 t12 t13 ∧ (∃ rest, ds = itd rest ∧ done ++ rest = r) ∧ MInv (Cls g n) ks h' ms' ∧ (∀ b ∈ done, h' (a, x) = h' (a, b) ∧ h' (x, a) = h' (b, a)) ∧ Mon ks h h')
    (by
      rintro d ds ε ⟨done, h', ms', t4, t9, t10, t11, t12, t13, rfl, ⟨rest, hre, hdr⟩, I', hd, hm⟩
      cases rest with
      | nil => cases hre
      | cons b rest =>
        have hre : d :: ds = Dt.int (b : Int) :: itd rest := hre
        obtain ⟨rfl, rfl⟩ := List.cons.inj hre
        obtain ⟨b1, b2, b3⟩ := hr b (by rw [← hdr]; simp)
        obtain ⟨h2, ms2, u9, u10, u11, u12, u13, e2, I2, f2, m2⟩ := b_step (W := W) w hk kl I' (r := r) h1 b1 b2 b3 t9 t10 t11 t12 t13
        refine ⟨_, _, rfl, .inl e2, done ++ [b], h2, ms2, _, _, _, _, _, _, rfl, ⟨rest, rfl, by rw [← hdr]; simp⟩, I2, fun c hc => ?_, hm.trans m2⟩
        rcases List.mem_append.mp hc with hc | hc
        · have hcr := hr c (by rw [← hdr]; exact List.mem_append_left _ hc)
          have := hd c hc
          exact ⟨m2 _ ((hk _).mpr h1) _ ((hk _).mpr hcr.1) this.1, m2 _ ((hk _).mpr (h1.turn w)) _ ((hk _).mpr (hcr.1.turn w)) this.2⟩
        · rw [List.mem_singleton.mp hc]; exact f2)
    (ds := itd r) (ε := cE W (dct ks h) (mems ms) (.vl 0 (.int (a : Int))) s4 (.vl 0 (nts (x :: r))) s9 s10 s11 s12 s13) ⟨[], h, ms, _, _, _, _, _, _, rfl, ⟨r, rfl, rfl⟩, I, fun b hb => (nomatch hb), Mon.refl⟩
  refine ⟨h', ms', t4, t9, t10, t11, t12, t13, ?_, I', ?_, hm⟩
  · have it : (mIter (mSliceL (mVar 8) (mPart (mSc (.int 1))) mNoP)) (cE W (dct ks h) (mems ms) (.vl 0 (.int (a : Int))) s4 (.vl 0 (nts (x :: r))) s9 s10 s11 s12 s13) = .ok (itd r) (cE W (dct ks h) (mems ms) (.vl 0 (.int (a : Int))) s4 (.vl 0 (nts (x :: r))) s9 s10 s11 s12 s13) := by
      have cd : cutD (itd (x :: r)) (some 1) none = itd r := cut_drop (l := itd (x :: r)) (i := 1)
      obtain ⟨D, hD⟩ : ∃ L, L = dct ks h := ⟨_, rfl⟩
      obtain ⟨M, hM⟩ : ∃ L, L = mems ms := ⟨_, rfl⟩
      rw [← hD, ← hM, nts_itd]
      simp [cE, cd]
    unfold l_class_numbers_5
    rw [q_for, it, q_o1, e]
  · cases rest with
    | nil => rw [List.append_nil] at hdr; rw [← hdr]; exact hd
    | cons y z => cases hre
theorem a_step (w : Wb n g tl) (ha : a < n) (hk : ∀ p, p ∈ ks ↔ Tie g n p) (kl : ks.length ≤ 1600) (I : MInv (Cls g n) ks h ms) (s4 s8 s9 s10 s11 s12 s13 : Sl) :
    ∃ h' ms' t4 t8 t9 t10 t11 t12 t13, l_class_numbers_6 (cE (wb n tl) (dct ks h) (mems ms) (.vl 0 (.int (a : Int))) s4 s8 s9 s10 s11 s12 s13) = .nx (cE (wb n tl) (dct ks h') (mems ms') (.vl 0 (.int (a : Int))) t4 t8 t9 t10 t11 t12 t13) ∧
      MInv (Cls g n) ks h' ms' ∧ (∀ b ∈ nbs g n a, ∀ c ∈ nbs g n a, b ≠ c → g b c ≠ 1 → h' (a, b) = h' (a, c) ∧ h' (b, a) = h' (c, a)) ∧ Mon ks h h' := by
  obtain ⟨Ls, T, eL, hT, hI⟩ := alike_ok w ha
  have ta : ∀ b, b ∈ nbs g n a → Tie g n (a, b) := fun b hb => ⟨ha, (mem_nbs.mp hb).1, (mem_nbs.mp hb).2⟩
  obtain ⟨V, hV⟩ : ∃ V, V = wb n tl := ⟨_, rfl⟩
  obtain ⟨ε', e, done, h', ms', t4, t8, t9, t10, t11, t12, t13, rfl, ⟨rest, hre, hdr⟩, I', hd, hm⟩ := loop_ind (t := gSet 8 0) (body := l_class_numbers_5) (fun ds ε => ∃ (done : List (List Nat)) (h' : Nat × Nat → Nat) (ms' : List (List (Nat × Nat))) (t4 t8 t9 t10 t11 t12 t13 : Sl), ε = cE V (dct ks h') (mems ms') (.vl 0 (.int (a : Int))) t4 t8 t9 t10 t11 t12 t13 ∧ (∃ rest, ds = rest.map nts ∧ done ++ rest = Ls) ∧ MInv (Cls g n) ks h' ms' ∧ (∀ l ∈ done, ∀ b ∈ l, ∀ c ∈ l, h' (a, b) = h' (a, c) ∧ h' (b, a) = h' (c, a)) ∧ Mon ks h h')
    (by
      rintro d ds ε ⟨done, h', ms', t4, t8, t9, t10, t11, t12, t13, rfl, ⟨rest, hre, hdr⟩, I', hd, hm⟩
      cases rest with
      | nil => cases hre
      | cons l rest =>
        obtain ⟨rfl, rfl⟩ := List.cons.inj hre
        obtain ⟨x, r, rfl, hx, hl⟩ := hI.lt l (by rw [← hdr]; simp)
        have lm : ∀ l' ∈ done, ∀ b ∈ l', b ∈ nbs g n a := fun l' hl' b hb => by
          obtain ⟨_, _, _, _, h3⟩ := hI.lt l' (by rw [← hdr]; exact List.mem_append_left _ hl')
          exact (h3 b hb).1
        obtain ⟨h2, ms2, u4, u9, u10, u11, u12, u13, e2, I2, f2, m2⟩ := lot_step (W := V) w hk kl I' (r := r) (ta x hx) (fun b hb => by
          have q := hl b (List.mem_cons_of_mem _ hb)
          exact ⟨ta b q.1, rch_cls w hT ha q.2⟩) t4 t9 t10 t11 t12 t13
        have f3 : ∀ b ∈ x :: r, h2 (a, x) = h2 (a, b) ∧ h2 (x, a) = h2 (b, a) := fun b hb => by
          rcases List.mem_cons.mp hb with rfl | hb
          · exact ⟨rfl, rfl⟩
          · exact f2 b hb
        refine ⟨_, _, rfl, .inl e2, done ++ [x :: r], h2, ms2, _, _, _, _, _, _, _, rfl, ⟨rest, rfl, by rw [← hdr]; simp⟩, I2, fun l' hl' b hb c hc => ?_, hm.trans m2⟩
        rcases List.mem_append.mp hl' with hl' | hl'
        · have := hd l' hl' b hb c hc
          have t1 := ta b (lm l' hl' b hb)
          have t2 := ta c (lm l' hl' c hc)
          exact ⟨m2 _ ((hk _).mpr t1) _ ((hk _).mpr t2) this.1, m2 _ ((hk _).mpr (t1.turn w)) _ ((hk _).mpr (t2.turn w)) this.2⟩
        · rw [List.mem_singleton.mp hl'] at hb hc
          exact ⟨(f3 b hb).1.symm.trans (f3 c hc).1, (f3 b hb).2.symm.trans (f3 c hc).2⟩)
    (ds := Ls.map nts) (ε := cE V (dct ks h) (mems ms) (.vl 0 (.int (a : Int))) s4 s8 s9 s10 s11 s12 s13) ⟨[], h, ms, _, _, _, _, _, _, _, rfl, ⟨Ls, rfl, rfl⟩, I, fun b hb => (nomatch hb), Mon.refl⟩
  refine ⟨h', ms', t4, t8, t9, t10, t11, t12, t13, ?_, I', fun b hb c hc ne ng => ?_, hm⟩
  · rw [← hV] at eL ⊢
    have it : (mIter (mCall [none, none] m_alike_at (mCons (mVar 0) (mCons (mVar 3) mNil)))) (cE V (dct ks h) (mems ms) (.vl 0 (.int (a : Int))) s4 s8 s9 s10 s11 s12 s13) = .ok (Ls.map nts) (cE V (dct ks h) (mems ms) (.vl 0 (.int (a : Int))) s4 s8 s9 s10 s11 s12 s13) := by
      obtain ⟨D, hD⟩ : ∃ L, L = dct ks h := ⟨_, rfl⟩
      obtain ⟨M, hM⟩ : ∃ L, L = mems ms := ⟨_, rfl⟩
      obtain ⟨N, hN⟩ : ∃ L, L = Ls.map nts := ⟨_, rfl⟩
      rw [← hD, ← hM, ← hN]
      rw [← hN] at eL
      simp [cE, eL]
    unfold l_class_numbers_6
    rw [q_for, it, q_o1, e]
  · cases rest with
    | cons y z => cases hre
    | nil =>
      rw [List.append_nil] at hdr
      rcases hI.all b hb with z | ⟨l, hl, hbl⟩
      · exact nomatch z
      · have hcl := hI.cl l hl b hbl c hc ((hT (b, c)).mpr ⟨hb, hc, ne, ng⟩)
        exact hd l (by rw [hdr]; exact hl) b hbl c hcl
end
end Mir

set_option Elab.async false
set_option linter.all false
set_option maxRecDepth 100000
set_option maxHeartbeats 1600000
/-! The program's classes: begun, and joined to the end. -/
namespace Mir
open PySem PySem.Spec PyProof.Rows L2 He
theorem bth_cons (p : Nat × Nat) (l : List (Nat × Nat)) : bth (p :: l) = p :: (p.2, p.1) :: bth l := rfl
theorem bth_app (l m : List (Nat × Nat)) : bth (l ++ m) = bth l ++ bth m := by simp [bth]
theorem nodup_bth : ∀ {l : List (Nat × Nat)}, (∀ p ∈ l, p.1 < p.2) → l.Nodup → (bth l).Nodup
  | [], _, _ => List.nodup_nil
  | p :: l, h, hn => by
    rw [List.nodup_cons] at hn
    have hp := h p List.mem_cons_self
    rw [bth_cons, List.nodup_cons, List.nodup_cons, List.mem_cons, not_or]
    refine ⟨⟨fun z => ?_, fun z => ?_⟩, fun z => ?_, nodup_bth (fun q hq => h q (List.mem_cons_of_mem _ hq)) hn.2⟩
    · have := congrArg Prod.fst z
      simp only [] at this
      omega
    · rcases mem_bth.mp z with z | z
      · exact hn.1 z
      · have := h _ (List.mem_cons_of_mem _ z)
        simp only [] at this
        omega
    · rcases mem_bth.mp z with z | z
      · have := h _ (List.mem_cons_of_mem _ z)
        simp only [] at this
        omega
      · exact hn.1 z
theorem nodup_lex {l : List (Nat × Nat)} (h : l.Pairwise lexT) : l.Nodup := h.imp fun {p q} hpq z => by
  subst z
  unfold lexT at hpq
  omega
theorem Tl.nd {n : Nat} {tl : List (Nat × Nat)} (t : Tl n tl) : (bth tl).Nodup := nodup_bth (fun p hp => (t.lt p hp).1) (nodup_lex t.pw)
theorem Wb.tie_bth {n : Nat} {g : Nat → Nat → Int} {tl : List (Nat × Nat)} (w : Wb n g tl) (p : Nat × Nat) : p ∈ bth tl ↔ Tie g n p := by
  constructor
  · intro h
    have hb : p.1 < n ∧ p.2 < n := by
      rcases mem_bth.mp h with z | z
      · have := w.tl.lt p z
        omega
      · have := w.tl.lt _ z
        simp only [] at this
        omega
    exact ⟨hb.1, hb.2, (w.tie hb.1 hb.2).mp h⟩
  · rintro ⟨h1, h2, h3⟩
    exact (w.tie h1 h2).mpr h3
theorem Wb.bth_le {n : Nat} {g : Nat → Nat → Int} {tl : List (Nat × Nat)} (w : Wb n g tl) : (bth tl).length ≤ 1600 := by
  have h1 := pairs_le (n := n) w.tl.nd fun p hp => by
    have := (w.tie_bth p).mp hp
    exact ⟨this.1, this.2.1⟩
  have h2 : n * n ≤ 40 * 40 := Nat.mul_le_mul w.n2 w.n2
  omega
def sng (ks : List (Nat × Nat)) : List (List (Nat × Nat)) := ks.map fun p => [p]
/-- an arrow more -/
theorem put_sng {W : Dt} {ks : List (Nat × Nat)} {h : Nat × Nat → Nat} {p : Nat × Nat} (hp : p ∉ ks) (hl : ks.length ≤ 1600) (s3 s4 s8 s10 s11 s12 s13 : Sl) :
    l_class_numbers_0 (cE W (dct ks h) (mems (sng ks)) s3 s4 s8 (.vl 0 (tp p)) s10 s11 s12 s13) = .nx (cE W (dct (ks ++ [p]) (updF h p ks.length)) (mems (sng (ks ++ [p]))) s3 s4 s8 (.vl 0 (tp p)) s10 s11 s12 s13) := by
  have pu := put_new (h := h) (v := ks.length) hp (by omega)
  have ap : fAppend ((sng ks).map prs) [.lst [tp p]] = some (.non, (sng (ks ++ [p])).map prs) := by
    rw [append_ok (by rw [List.length_map]; unfold sng; rw [List.length_map]; exact Nat.lt_of_le_of_lt hl (by decide))]
    unfold sng
    rw [List.map_append, List.map_append]
    rfl
  have ln : (((sng ks).map prs).length : Int) = (ks.length : Int) := by simp [sng]
  obtain ⟨D, hD⟩ : ∃ L, L = dct ks h := ⟨_, rfl⟩
  obtain ⟨D', hD'⟩ : ∃ L, L = dct (ks ++ [p]) (updF h p ks.length) := ⟨_, rfl⟩
  obtain ⟨M, hM⟩ : ∃ L, L = (sng ks).map prs := ⟨_, rfl⟩
  obtain ⟨M', hM'⟩ : ∃ L, L = (sng (ks ++ [p])).map prs := ⟨_, rfl⟩
  rw [← hD, ← hD'] at pu
  rw [← hM, ← hM'] at ap
  rw [← hM] at ln
  unfold mems
  rw [← hD, ← hD', ← hM, ← hM']
  simp [cE, l_class_numbers_0, ln, pu, ap]
theorem MInv.init {R : Nat × Nat → Nat × Nat → Prop} {ks : List (Nat × Nat)} {h : Nat × Nat → Nat} (rf : ∀ p, R p p) (hh : ∀ (i : Nat) p, ks[i]? = some p → h p = i) : MInv R ks h (sng ks) := by
  have at' : ∀ p ∈ ks, ks[h p]? = some p := fun p hp => by
    obtain ⟨i, hi⟩ := List.mem_iff_getElem?.mp hp
    rw [hh i p hi]
    exact hi
  refine ⟨by simp [sng], fun p hp => ⟨[p], ?_, List.mem_singleton.mpr rfl⟩, fun i l e p hp => ?_, fun l hl => ?_, fun p hp q hq e => ?_⟩
  · unfold sng
    rw [List.getElem?_map, at' p hp]
    rfl
  · unfold sng at e
    rw [List.getElem?_map] at e
    obtain ⟨q, e1, rfl⟩ := Option.map_eq_some_iff.mp e
    rw [List.mem_singleton.mp hp]
    exact ⟨List.mem_of_getElem? e1, hh i q e1⟩
  · obtain ⟨p, _, rfl⟩ := List.mem_map.mp hl
    simp
  · have e1 := at' p hp
    rw [e, at' q hq] at e1
    cases e1
    exact rf p
section
variable {n : Nat} {g : Nat → Nat → Int} {tl : List (Nat × Nat)}
theorem ff_ties3 {n : Nat} {t b : Dt} : fFld ["Web"] "ties" (web n t b) = some t := by
  unfold fFld web
  dsimp only
  rw [if_pos (List.mem_singleton.mpr rfl)]
  rfl
theorem begun (w : Wb n g tl) : ∃ h t3 t4 t9, (sFor (mIterT (mFld ["Web"] "ties" (mVar 0))) (gUnp (gMore (gSet 3 0) (gMore (gSet 4 0) gNone))) l_class_numbers_1) (cE (wb n tl) (dct [] fun _ => 0) (mems []) .un .un .un .un .un .un .un .un) = .nx (cE (wb n tl) (dct (bth tl) h) (mems (sng (bth tl))) t3 t4 .un t9 .un .un .un .un) ∧
    ∀ (i : Nat) p, (bth tl)[i]? = some p → h p = i := by
  have nd := w.tl.nd
  have kl := w.bth_le
  obtain ⟨V, hV⟩ : ∃ V, V = wb n tl := ⟨_, rfl⟩
  obtain ⟨ε', e, done, h, t3, t4, t9, rfl, ⟨rest, hre, hdr⟩, hh⟩ := loop_ind (t := gUnp (gMore (gSet 3 0) (gMore (gSet 4 0) gNone))) (body := l_class_numbers_1) (fun ds ε => ∃ (done : List (Nat × Nat)) (h : Nat × Nat → Nat) (t3 t4 t9 : Sl), ε = cE V (dct (bth done) h) (mems (sng (bth done))) t3 t4 .un t9 .un .un .un .un ∧ (∃ rest, ds = rest.map tp ∧ done ++ rest = tl) ∧ ∀ (i : Nat) p, (bth done)[i]? = some p → h p = i)
    (by
      rintro d ds ε ⟨done, h, t3, t4, t9, rfl, ⟨rest, hre, hdr⟩, hh⟩
      cases rest with
      | nil => cases hre
      | cons p rest =>
        obtain ⟨rfl, rfl⟩ := List.cons.inj hre
        rw [← hdr, bth_app, bth_cons] at nd kl
        rw [List.length_append, List.length_cons, List.length_cons] at kl
        have nd1 := List.nodup_append.mp nd
        have n1 : p ∉ bth done := fun z => nd1.2.2 p z p (by simp) rfl
        have n2 : (p.2, p.1) ∉ bth done ++ [p] := fun z => by
          rcases List.mem_append.mp z with z | z
          · exact nd1.2.2 _ z (p.2, p.1) (by simp) rfl
          · have := (List.nodup_cons.mp nd1.2.1).1
            rw [List.mem_singleton.mp z] at this
            exact this List.mem_cons_self
        have e1 := put_sng (W := V) (h := h) n1 (by omega) (.vl 0 (.int (p.1 : Int))) (.vl 0 (.int (p.2 : Int))) .un .un .un .un .un
        have e2 := put_sng (W := V) (h := updF h p (bth done).length) n2 (by simp; omega) (.vl 0 (.int (p.1 : Int))) (.vl 0 (.int (p.2 : Int))) .un .un .un .un .un
        have eb : bth (done ++ [p]) = bth done ++ [p] ++ [(p.2, p.1)] := by rw [bth_app]; simp [bth]
        rw [← eb] at e2
        have it : ∀ (D M : Dt), (mIterT (mTup (mCons (mTup (mCons (mVar 3) (mCons (mVar 4) mNil))) (mCons (mTup (mCons (mVar 4) (mCons (mVar 3) mNil))) mNil)))) (cE V D M (.vl 0 (.int (p.1 : Int))) (.vl 0 (.int (p.2 : Int))) .un t9 .un .un .un .un) = .ok [tp p, tp (p.2, p.1)] (cE V D M (.vl 0 (.int (p.1 : Int))) (.vl 0 (.int (p.2 : Int))) .un t9 .un .un .un .un) := fun D M => by
          simp [cE, tp]
        refine ⟨cE V (dct (bth done) h) (mems (sng (bth done))) (.vl 0 (.int (p.1 : Int))) (.vl 0 (.int (p.2 : Int))) .un t9 .un .un .un .un, _, ?_, .inl ?_, done ++ [p], updF (updF h p (bth done).length) (p.2, p.1) (bth done ++ [p]).length, .vl 0 (.int (p.1 : Int)), .vl 0 (.int (p.2 : Int)), .vl 0 (tp (p.2, p.1)), rfl, ⟨rest, rfl, by rw [← hdr]; simp⟩, fun i q hq => ?_⟩
        · obtain ⟨D, hD⟩ : ∃ L, L = dct (bth done) h := ⟨_, rfl⟩
          obtain ⟨M, hM⟩ : ∃ L, L = mems (sng (bth done)) := ⟨_, rfl⟩
          rw [← hD, ← hM]
          simp [cE, tp]
        · unfold l_class_numbers_1
          rw [q_for, it, q_o1]
          obtain ⟨D, hD⟩ : ∃ L, L = dct (bth done) h := ⟨_, rfl⟩
          obtain ⟨M, hM⟩ : ∃ L, L = mems (sng (bth done)) := ⟨_, rfl⟩
          rw [← hD, ← hM] at e1 ⊢
          rw [lp_cons (ε1 := cE V D M (.vl 0 (.int (p.1 : Int))) (.vl 0 (.int (p.2 : Int))) .un (.vl 0 (tp p)) .un .un .un .un) (by simp [cE]) e1]
          obtain ⟨D2, hD2⟩ : ∃ L, L = dct (bth done ++ [p]) (updF h p (bth done).length) := ⟨_, rfl⟩
          obtain ⟨M2, hM2⟩ : ∃ L, L = mems (sng (bth done ++ [p])) := ⟨_, rfl⟩
          rw [← hD2, ← hM2] at e2 ⊢
          rw [lp_cons (ε1 := cE V D2 M2 (.vl 0 (.int (p.1 : Int))) (.vl 0 (.int (p.2 : Int))) .un (.vl 0 (tp (p.2, p.1))) .un .un .un .un) (by simp [cE]) e2, lp_nil]
        · rw [eb] at hq
          by_cases c : i < (bth done ++ [p]).length
          · rw [List.getElem?_append_left c] at hq
            have qm := List.mem_of_getElem? hq
            have : q ≠ (p.2, p.1) := fun z => n2 (by rw [← z]; exact qm)
            rw [updF_ne this]
            by_cases c2 : i < (bth done).length
            · rw [List.getElem?_append_left c2] at hq
              have : q ≠ p := fun z => n1 (by rw [← z]; exact List.mem_of_getElem? hq)
              rw [updF_ne this]
              exact hh i q hq
            · have : i = (bth done).length := by simp at c; omega
              subst this
              simp at hq
              rw [← hq, updF_same]
          · have hi := (List.getElem?_eq_some_iff.mp hq).1
            have : i = (bth done ++ [p]).length := by simp at c hi ⊢; omega
            subst this
            simp at hq
            rw [← hq, updF_same])
    (ds := tl.map tp) (ε := cE V (dct (bth []) fun _ => 0) (mems (sng (bth []))) .un .un .un .un .un .un .un .un) ⟨[], fun _ => 0, _, _, _, rfl, ⟨tl, rfl, rfl⟩, fun i p hp => by simp [bth] at hp⟩
  refine ⟨h, t3, t4, t9, ?_, ?_⟩
  · have ft : fFld ["Web"] "ties" V = some (.tup (tl.map tp)) := by rw [hV]; exact ff_ties3
    rw [← hV]
    obtain ⟨D, hD⟩ : ∃ L, L = dct [] fun _ => 0 := ⟨_, rfl⟩
    have it : (mIterT (mFld ["Web"] "ties" (mVar 0))) (cE V (dct [] fun _ => 0) (mems []) .un .un .un .un .un .un .un .un) = .ok (tl.map tp) (cE V (dct [] fun _ => 0) (mems []) .un .un .un .un .un .un .un .un) := by
      rw [← hD]
      simp [cE, ft]
    rw [q_for, it, q_o1]
    have e0 : (cE V (dct [] fun _ => 0) (mems []) .un .un .un .un .un .un .un .un) = cE V (dct (bth []) fun _ => 0) (mems (sng (bth []))) .un .un .un .un .un .un .un .un := rfl
    rw [e0, e]
    cases rest with
    | nil => rw [List.append_nil] at hdr; rw [hdr]
    | cons x y => cases hre
  · cases rest with
    | nil => rw [List.append_nil] at hdr; rw [hdr] at hh; exact hh
    | cons x y => cases hre
theorem joined (w : Wb n g tl) {h : Nat × Nat → Nat} (hh : ∀ (i : Nat) p, (bth tl)[i]? = some p → h p = i) (s3 s4 s8 s9 s10 s11 s12 s13 : Sl) :
    ∃ h' ms' t3 t4 t8 t9 t10 t11 t12 t13, (sFor (mRange1 (mCons (mFld ["Web"] "size" (mVar 0)) mNil)) (gSet 3 0) l_class_numbers_6) (cE (wb n tl) (dct (bth tl) h) (mems (sng (bth tl))) s3 s4 s8 s9 s10 s11 s12 s13) = .nx (cE (wb n tl) (dct (bth tl) h') (mems ms') t3 t4 t8 t9 t10 t11 t12 t13) ∧
      MInv (Cls g n) (bth tl) h' ms' ∧ ∀ p q, Tie g n p → Tie g n q → (h' p = h' q ↔ Cls g n p q) := by
  have hn := w.n2
  obtain ⟨ε', e, h', ms', t4, t8, t9, t10, t11, t12, t13, t3, rfl, I, hd⟩ := loop_range (t := gSet 3 0) (body := l_class_numbers_6) (lo := 0) (n := n) (fun i ε => ∃ (h' : Nat × Nat → Nat) (ms' : List (List (Nat × Nat))) (t4 t8 t9 t10 t11 t12 t13 t3 : Sl), ε = cE (wb n tl) (dct (bth tl) h') (mems ms') t3 t4 t8 t9 t10 t11 t12 t13 ∧ MInv (Cls g n) (bth tl) h' ms' ∧ ∀ a, a < i → ∀ b ∈ nbs g n a, ∀ c ∈ nbs g n a, b ≠ c → g b c ≠ 1 → h' (a, b) = h' (a, c) ∧ h' (b, a) = h' (c, a))
    (by
      rintro i ε hi ⟨h', ms', t4, t8, t9, t10, t11, t12, t13, t3, rfl, I, hd⟩
      obtain ⟨h2, ms2, u4, u8, u9, u10, u11, u12, u13, e2, I2, f2, m2⟩ := a_step w hi (fun p => w.tie_bth p) w.bth_le I t4 t8 t9 t10 t11 t12 t13
      refine ⟨cE (wb n tl) (dct (bth tl) h') (mems ms') (.vl 0 (.int (i : Int))) t4 t8 t9 t10 t11 t12 t13, _, ?_, .inl e2, h2, ms2, _, _, _, _, _, _, _, _, rfl, I2, fun a ha b hb c hc ne ng => ?_⟩
      · obtain ⟨D, hD⟩ : ∃ L, L = dct (bth tl) h' := ⟨_, rfl⟩
        obtain ⟨M, hM⟩ : ∃ L, L = mems ms' := ⟨_, rfl⟩
        obtain ⟨V, hV⟩ : ∃ V, V = wb n tl := ⟨_, rfl⟩
        rw [← hD, ← hM, ← hV]
        simp [cE]
      · by_cases c1 : a = i
        · subst c1; exact f2 b hb c hc ne ng
        · have q := hd a (by omega) b hb c hc ne ng
          have t1 : Tie g n (a, b) := ⟨by simp only []; omega, (mem_nbs.mp hb).1, (mem_nbs.mp hb).2⟩
          have t2 : Tie g n (a, c) := ⟨by simp only []; omega, (mem_nbs.mp hc).1, (mem_nbs.mp hc).2⟩
          exact ⟨m2 _ ((w.tie_bth _).mpr t1) _ ((w.tie_bth _).mpr t2) q.1, m2 _ ((w.tie_bth _).mpr (t1.turn w)) _ ((w.tie_bth _).mpr (t2.turn w)) q.2⟩)
    (ε := cE (wb n tl) (dct (bth tl) h) (mems (sng (bth tl))) s3 s4 s8 s9 s10 s11 s12 s13) ⟨h, sng (bth tl), _, _, _, _, _, _, _, _, rfl, MInv.init (fun p => Cls.refl p) hh, fun a ha => absurd ha (Nat.not_lt_zero a)⟩
  refine ⟨h', ms', t3, t4, t8, t9, t10, t11, t12, t13, ?_, I, fun p q hp hq => ⟨fun z => I.eq p ((w.tie_bth p).mpr hp) q ((w.tie_bth q).mpr hq) z, fun z => ?_⟩⟩
  · have it : (mRange1 (mCons (mFld ["Web"] "size" (mVar 0)) mNil)) (cE (wb n tl) (dct (bth tl) h) (mems (sng (bth tl))) s3 s4 s8 s9 s10 s11 s12 s13) = .ok (rangeD 0 n) (cE (wb n tl) (dct (bth tl) h) (mems (sng (bth tl))) s3 s4 s8 s9 s10 s11 s12 s13) := by
      have fs : fFld ["Web"] "size" (wb n tl) = some (.int n) := ff_size
      obtain ⟨D, hD⟩ : ∃ L, L = dct (bth tl) h := ⟨_, rfl⟩
      obtain ⟨M, hM⟩ : ∃ L, L = mems (sng (bth tl)) := ⟨_, rfl⟩
      obtain ⟨V, hV⟩ : ∃ V, V = wb n tl := ⟨_, rfl⟩
      rw [← hV] at fs
      rw [← hD, ← hM, ← hV]
      simp [cE, fs, rgN (show n ≤ 1000 by omega)]
    rw [q_for, it, q_o1, e]
  · obtain ⟨k, hw⟩ := z
    clear hq
    induction hw with
    | zero => rfl
    | @succ k u v hw hr ih =>
      have tu := wlk_tie w hp hw
      rw [ih]
      obtain ⟨x, y⟩ := u
      obtain ⟨c, d⟩ := v
      have sxy : g x y = g y x := (w.gr x y tu.1 tu.2.1).2.1
      rcases mem_fnd.mp hr with ⟨rfl, h1, h2, h3, h4⟩ | ⟨rfl, h1, h2, h3, h4⟩
      · exact (hd c tu.1 y (mem_nbs.mpr ⟨tu.2.1, tu.2.2⟩) d (mem_nbs.mpr ⟨h1, h3⟩) (fun z => h2 z.symm) h4).1
      · have s2 : g c d = g d c := (w.gr c d h1 tu.2.1).2.1
        have q := hd d tu.2.1 x (mem_nbs.mpr ⟨tu.1, by rw [← sxy]; exact tu.2.2⟩) c (mem_nbs.mpr ⟨h1, by rw [← s2]; exact h3⟩) (fun z => h2 z.symm) h4
        exact q.2
end
end Mir

set_option Elab.async false
set_option linter.all false
set_option maxRecDepth 100000
set_option maxHeartbeats 1600000
/-! The program's classes, told. -/
namespace Mir
open PySem PySem.Spec PyProof.Rows L2 He PySem.W
/-- a list of pairs as sorted tells it -/
def srl (l : List (Nat × Nat)) : List (Nat × Nat) := (srtP (l.map ip)).map ni
abbrev ptp (l : List (Nat × Nat)) : Dt := .tup (l.map tp)
theorem srl_perm (l : List (Nat × Nat)) : (srl l).Perm l := (srt_nat l).2
theorem sorted_srl (l : List (Nat × Nat)) : fSorted [prs l] = some (.lst ((srl l).map tp)) := by
  rw [sorted_prs, (srt_nat l).1]
  rfl
theorem srl_ip (l : List (Nat × Nat)) : (srl l).map ip = srtP (l.map ip) := by
  unfold srl
  rw [List.map_map]
  conv => rhs; rw [← List.map_id (srtP (l.map ip))]
  refine List.map_congr_left fun p hp => ?_
  obtain ⟨q, _, rfl⟩ := List.mem_map.mp ((srtP_perm _).mem_iff.mp hp)
  obtain ⟨x, y⟩ := q
  simp [Function.comp, ip, ni]
theorem srl_pw {l : List (Nat × Nat)} (h : l.Nodup) : (srl l).Pairwise lexT := by
  have hs := srtP_sorted (l.map ip)
  rw [← srl_ip] at hs
  have hnd : (srl l).Nodup := (srl_perm l).nodup_iff.mpr h
  have h2 := List.pairwise_map.mp hs
  exact List.Pairwise.imp₂ (fun p q h1 h3 => lexT_of h1 h3) h2 hnd
/-! sorting deep data -/
def pyL (l : List (Nat × Nat)) : PyData := .tuple ((l.map ip).map pyP)
theorem toPy_ptp (l : List (Nat × Nat)) : toPy (ptp l) = some (pyL l) := by
  have : l.map tp = (l.map ip).map pD := by rw [pD_ip]
  unfold ptp pyL
  rw [this]
  obtain ⟨m, hm⟩ : ∃ m, m = l.map ip := ⟨_, rfl⟩
  rw [← hm]
  simp [toPy, toPys_pD]
theorem toPys_ptp : ∀ C : List (List (Nat × Nat)), toPys (C.map ptp) = some (C.map pyL)
  | [] => by simp [toPys]
  | l :: C => by
    rw [List.map_cons]
    unfold toPys
    rw [toPy_ptp, toPys_ptp C]
    rfl
theorem alike_pyP (p q : Int × Int) : alike (pyP p) (pyP q) = true := by simp [pyP, alike, alikeAll]
theorem alike_pyPs : ∀ l m : List (Int × Int), alikeAll (l.map pyP) (m.map pyP) = true
  | [], _ => by simp [alikeAll]
  | _ :: _, [] => by simp [alikeAll]
  | p :: l, q :: m => by
    rw [List.map_cons, List.map_cons, alikeAll, alike_pyP, alike_pyPs l m]
    rfl
theorem dep_le (l : List (Int × Int)) : PyData.depthAll (l.map pyP) ≤ 2 := by
  induction l with
  | nil => simp [PyData.depthAll]
  | cons p l ih =>
    rw [List.map_cons]
    simp [PyData.depthAll, pyP, PyData.depth] at ih ⊢
    omega
theorem okZ_pyL {C : List (List (Nat × Nat))} (h : ∀ l ∈ C, l ≠ []) : okZ (C.map pyL) = true := by
  unfold okZ
  rw [List.all_eq_true]
  intro d hd
  obtain ⟨l, hl, rfl⟩ := List.mem_map.mp hd
  rw [Bool.and_eq_true, Bool.and_eq_true]
  refine ⟨⟨?_, ?_⟩, ?_⟩
  · cases l with
    | nil => exact absurd rfl (h [] hl)
    | cons p l => rfl
  · have := dep_le (l.map ip)
    rw [decide_eq_true_eq]
    show (PyData.tuple ((l.map ip).map pyP)).depth ≤ 60
    simp [PyData.depth] at this ⊢
    omega
  · rw [List.all_eq_true]
    intro d' hd'
    obtain ⟨m, hm, rfl⟩ := List.mem_map.mp hd'
    show alike (.tuple _) (.tuple _) = true
    rw [alike, alike_pyPs]
theorem sortedD_ok {C : List (List (Nat × Nat))} (h : ∀ l ∈ C, l ≠ []) : ∃ F : List (List (Nat × Nat)), fSortedD [.lst (C.map ptp)] = some (.lst (F.map ptp)) ∧ F.Perm C := by
  refine ⟨C.mergeSort fun a b => leZ (ptp a, pyL a) (ptp b, pyL b), ?_, List.mergeSort_perm _ _⟩
  have hz : (C.map ptp).zip (C.map pyL) = C.map fun l => (ptp l, pyL l) := List.zip_map' ..
  unfold fSortedD
  simp only [toPys_ptp, Option.bind_some]
  rw [if_pos (okZ_pyL h), hz, ← List.map_mergeSort (f := fun l => (ptp l, pyL l)) (s := leZ) (r := fun a b => leZ (ptp a, pyL a) (ptp b, pyL b)) (fun _ _ _ _ => rfl), List.map_map]
  rfl
/-- the classes, and a number for each arrow -/
structure ClF (g : Nat → Nat → Int) (n : Nat) (F : List (List (Nat × Nat))) (ix : Nat × Nat → Nat) : Prop where
  pw : ∀ l ∈ F, l.Pairwise lexT
  ne : ∀ l ∈ F, l ≠ []
  at_ : ∀ (i : Nat) l, F[i]? = some l → ∀ p ∈ l, Tie g n p ∧ ix p = i
  all : ∀ p, Tie g n p → ∃ l, F[ix p]? = some l ∧ p ∈ l
  eq : ∀ p q, Tie g n p → Tie g n q → (ix p = ix q ↔ Cls g n p q)
theorem disj_ix {F : List (List (Nat × Nat))} (h : F.Pairwise fun l m => ∀ p ∈ l, p ∉ m) {i : Nat} {l : List (Nat × Nat)} (e : F[i]? = some l) {p : Nat × Nat} (hp : p ∈ l) : F.findIdx (fun l => decide (p ∈ l)) = i := by
  obtain ⟨hi, e⟩ := List.getElem?_eq_some_iff.mp e
  rw [List.findIdx_eq hi]
  refine ⟨by rw [e]; exact decide_eq_true hp, fun j hj => decide_eq_false fun z => ?_⟩
  have := List.pairwise_iff_getElem.mp h j i (by omega) hi hj p z
  rw [e] at this
  exact this hp
section
variable {n : Nat} {g : Nat → Nat → Int} {tl : List (Nat × Nat)}
theorem clf_of (w : Wb n g tl) {h : Nat × Nat → Nat} {ms : List (List (Nat × Nat))} (I : MInv (Cls g n) (bth tl) h ms) (hc : ∀ p q, Tie g n p → Tie g n q → (h p = h q ↔ Cls g n p q)) {F : List (List (Nat × Nat))}
    (hF : F.Perm ((ms.filter fun l => !l.isEmpty).map srl)) : ClF g n F (fun p => F.findIdx fun l => decide (p ∈ l)) := by
  have mF : ∀ l, l ∈ F ↔ ∃ (i : Nat) (m : List (Nat × Nat)), ms[i]? = some m ∧ m ≠ [] ∧ l = srl m := fun l => by
    rw [hF.mem_iff, List.mem_map]
    constructor
    · rintro ⟨m, hm, rfl⟩
      have := List.mem_filter.mp hm
      obtain ⟨i, hi⟩ := List.mem_iff_getElem?.mp this.1
      exact ⟨i, m, hi, fun z => by rw [z] at this; simp at this, rfl⟩
    · rintro ⟨i, m, hi, hm, rfl⟩
      exact ⟨m, List.mem_filter.mpr ⟨List.mem_of_getElem? hi, by cases m with
        | nil => exact absurd rfl hm
        | cons a b => rfl⟩, rfl⟩
  have dj : F.Pairwise fun l m => ∀ p ∈ l, p ∉ m := by
    have d1 : ms.Pairwise fun l m => ∀ p ∈ l, p ∉ m := by
      rw [List.pairwise_iff_getElem]
      intro i j hi hj hij p hp hq
      have a1 := (I.mem i _ (List.getElem?_eq_getElem hi) p hp).2
      have a2 := (I.mem j _ (List.getElem?_eq_getElem hj) p hq).2
      omega
    have d2 : ((ms.filter fun l => !l.isEmpty).map srl).Pairwise fun l m => ∀ p ∈ l, p ∉ m :=
      List.Pairwise.map _ (fun l m hlm p hp hq => hlm p ((srl_perm l).mem_iff.mp hp) ((srl_perm m).mem_iff.mp hq)) (List.Pairwise.filter _ d1)
    exact (hF.pairwise_iff fun {l m} hlm p hp hq => hlm p hq hp).mpr d2
  have ix : ∀ (i : Nat) l, F[i]? = some l → ∀ p ∈ l, F.findIdx (fun l => decide (p ∈ l)) = i := fun i l e p hp => disj_ix dj e hp
  have all : ∀ p, Tie g n p → ∃ l m, F[F.findIdx (fun l => decide (p ∈ l))]? = some l ∧ p ∈ l ∧ ms[h p]? = some m ∧ l = srl m := fun p hp => by
    obtain ⟨m, e, hm⟩ := I.at_ p ((w.tie_bth p).mpr hp)
    have hl : srl m ∈ F := (mF _).mpr ⟨h p, m, e, fun z => by rw [z] at hm; exact absurd hm List.not_mem_nil, rfl⟩
    have hpm : p ∈ srl m := (srl_perm m).mem_iff.mpr hm
    obtain ⟨i, hi⟩ := List.mem_iff_getElem?.mp hl
    exact ⟨srl m, m, by rw [ix i _ hi p hpm]; exact hi, hpm, e, rfl⟩
  refine ⟨fun l hl => ?_, fun l hl => ?_, fun i l e p hp => ⟨?_, ix i l e p hp⟩, fun p hp => ?_, fun p q hp hq => ?_⟩
  · obtain ⟨i, m, e, hm, rfl⟩ := (mF l).mp hl
    exact srl_pw (I.nd m (List.mem_of_getElem? e))
  · obtain ⟨i, m, e, hm, rfl⟩ := (mF l).mp hl
    intro z
    have := (srl_perm m).length_eq
    rw [z] at this
    exact hm (List.eq_nil_of_length_eq_zero this.symm)
  · obtain ⟨j, m, e', hm, rfl⟩ := (mF l).mp (List.mem_of_getElem? e)
    exact (w.tie_bth p).mp (I.mem j m e' p ((srl_perm m).mem_iff.mp hp)).1
  · obtain ⟨l, m, e, hl, _⟩ := all p hp
    exact ⟨l, e, hl⟩
  · rw [← hc p q hp hq]
    obtain ⟨l, m, e, hl, em, rfl⟩ := all p hp
    obtain ⟨l', m', e', hl', em', rfl⟩ := all q hq
    constructor
    · intro z
      rw [z, e'] at e
      have e := Option.some.inj e
      rw [← e] at hl
      have := (I.mem _ _ em' p ((srl_perm m').mem_iff.mp hl)).2
      exact this
    · intro z
      rw [z, em'] at em
      cases em
      exact (ix _ _ e q hl').symm
theorem flat_nd {F : List (List (Nat × Nat))} {ix : Nat × Nat → Nat} (c : ClF g n F ix) : F.flatten.Nodup := by
  unfold List.Nodup
  rw [List.pairwise_flatten]
  refine ⟨fun l hl => nodup_lex (c.pw l hl), ?_⟩
  rw [List.pairwise_iff_getElem]
  intro i j hi hj hij p hp q hq z
  subst z
  have a1 := (c.at_ i _ (List.getElem?_eq_getElem hi) p hp).2
  have a2 := (c.at_ j _ (List.getElem?_eq_getElem hj) p hq).2
  omega
theorem mem_fl {F : List (List (Nat × Nat))} {ix : Nat × Nat → Nat} (c : ClF g n F ix) (p : Nat × Nat) : p ∈ F.flatten ↔ Tie g n p := by
  rw [List.mem_flatten]
  constructor
  · rintro ⟨l, hl, hp⟩
    obtain ⟨i, hi⟩ := List.mem_iff_getElem?.mp hl
    exact (c.at_ i l hi p hp).1
  · intro hp
    obtain ⟨l, e, hl⟩ := c.all p hp
    exact ⟨l, List.mem_of_getElem? e, hl⟩
theorem flat_len (w : Wb n g tl) {F : List (List (Nat × Nat))} {ix : Nat × Nat → Nat} (c : ClF g n F ix) : F.flatten.length = (bth tl).length := by
  have h1 := nodup_len (flat_nd c) fun p hp => (w.tie_bth p).mpr ((mem_fl c p).mp hp)
  have h2 := nodup_len w.tl.nd fun p hp => (mem_fl c p).mpr ((w.tie_bth p).mp hp)
  omega
end
end Mir

set_option Elab.async false
set_option linter.all false
set_option maxRecDepth 100000
set_option maxHeartbeats 1600000
/-! The program's classes: the whole function. -/
namespace Mir
open PySem PySem.Spec PyProof.Rows L2 He PySem.W
def fE (W H M : Dt) (s3 s4 : Sl) (Fd N : Dt) (s7 s8 s9 s10 s11 s12 s13 : Sl) : Ev := [.vl 0 W, .vl 1 H, .vl 0 M, s3, s4, .vl 0 Fd, .vl 1 N, s7, s8, s9, s10, s11, s12, s13]
theorem comp_found {W H : Dt} {ms : List (List (Nat × Nat))} {s3 s4 s9 s10 s11 s12 s13 : Sl} (t8 : Sl) (hl : ms.length ≤ 1600) :
    ∃ t8', mComp [8] (mIter (mFrz 2)) (gSet 8 0) c_class_numbers_7 e_class_numbers_7 (cE W H (mems ms) s3 s4 t8 s9 s10 s11 s12 s13) = .ok (.lst (((ms.filter fun l => !l.isEmpty).map srl).map ptp)) [.vl 0 W, .vl 1 H, .vl 0 (mems ms), s3, s4, .un, .un, .un, t8', s9, s10, s11, s12, s13] := by
  have e0 : (mIter (mFrz 2)) (cE W H (mems ms) s3 s4 t8 s9 s10 s11 s12 s13) = .ok (ms.map prs) [.vl 0 W, .vl 1 H, .vl 0 (mems ms), s3, s4, .un, .un, .un, t8, s9, s10, s11, s12, s13] := rfl
  obtain ⟨M, hM⟩ : ∃ M, M = mems ms := ⟨_, rfl⟩
  rw [q_comp, e0, q_b1, ← hM]
  have hc : compL [8] (gSet 8 0) c_class_numbers_7 e_class_numbers_7 (ms.map prs) [] [.vl 0 W, .vl 1 H, .vl 0 M, s3, s4, .un, .un, .un, .un, s9, s10, s11, s12, s13] = .ok ([] ++ (ms.filter fun l => !l.isEmpty).map fun l => ptp (srl l)) [.vl 0 W, .vl 1 H, .vl 0 M, s3, s4, .un, .un, .un, .un, s9, s10, s11, s12, s13] :=
    compL_fmf prs (fun l => ptp (srl l)) (fun l => !l.isEmpty) (fun l hl => by
      have ss := sorted_srl l
      have tt : truD (prs l) = some (!l.isEmpty) := by cases l <;> rfl
      obtain ⟨P, hP⟩ : ∃ P, P = prs l := ⟨_, rfl⟩
      rw [← hP] at ss tt
      refine ⟨[.vl 0 W, .vl 1 H, .vl 0 M, s3, s4, .un, .un, .un, .vl 0 P, s9, s10, s11, s12, s13], [.vl 0 W, .vl 1 H, .vl 0 M, s3, s4, .un, .un, .un, .vl 0 P, s9, s10, s11, s12, s13], by rw [← hP]; simp, ?_, fun _ => ⟨[.vl 0 W, .vl 1 H, .vl 0 M, s3, s4, .un, .un, .un, .vl 0 P, s9, s10, s11, s12, s13], by simp [e_class_numbers_7, ss], by simp⟩, fun _ => by simp⟩
      simp [c_class_numbers_7, tt]) (by simp; exact Nat.le_trans hl (by decide))
  have hw : wipeE [.vl 0 W, .vl 1 H, .vl 0 M, s3, s4, .un, .un, .un, t8, s9, s10, s11, s12, s13] [8] = [.vl 0 W, .vl 1 H, .vl 0 M, s3, s4, .un, .un, .un, .un, s9, s10, s11, s12, s13] := rfl
  have hz : ((ms.filter fun l => !l.isEmpty).map srl).map ptp = (ms.filter fun l => !l.isEmpty).map fun l => ptp (srl l) := by rw [List.map_map]; rfl
  rw [hw, hc, q_cpK, List.nil_append, ← hz]
  match t8 with
  | .un => exact ⟨.un, rfl⟩
  | .vl 0 d => exact ⟨.vl 0 d, rfl⟩
  | .vl (k + 1) d => exact ⟨.un, rfl⟩
section
variable {n : Nat} {g : Nat → Nat → Int} {tl : List (Nat × Nat)} {W H M : Dt} {F : List (List (Nat × Nat))} {ix : Nat × Nat → Nat} {s3 s4 : Sl}
theorem num_in {Fd : Dt} {k : Nat} {ks l : List (Nat × Nat)} (hn : (ks ++ l).Nodup) (hl : (ks ++ l).length ≤ 1600) (hi : ∀ p ∈ l, ix p = k) {s9 s10 s11 s12 s13 : Sl} :
    ∃ t9, l_class_numbers_9 (fE W H M s3 s4 Fd (dct ks ix) (.vl 0 (.int (k : Int))) (.vl 0 (ptp l)) s9 s10 s11 s12 s13) = .nx (fE W H M s3 s4 Fd (dct (ks ++ l) ix) (.vl 0 (.int (k : Int))) (.vl 0 (ptp l)) t9 s10 s11 s12 s13) := by
  obtain ⟨L, hL⟩ : ∃ L, L = ptp l := ⟨_, rfl⟩
  obtain ⟨ε', e, done, t9, rfl, ⟨rest, hre, hdr⟩⟩ := loop_ind (t := gSet 9 0) (body := l_class_numbers_8) (fun ds ε => ∃ (done : List (Nat × Nat)) (t9 : Sl), ε = fE W H M s3 s4 Fd (dct (ks ++ done) ix) (.vl 0 (.int (k : Int))) (.vl 0 L) t9 s10 s11 s12 s13 ∧ (∃ rest, ds = rest.map tp ∧ done ++ rest = l))
    (by
      rintro d ds ε ⟨done, t9, rfl, ⟨rest, hre, hdr⟩⟩
      cases rest with
      | nil => cases hre
      | cons p rest =>
        obtain ⟨rfl, rfl⟩ := List.cons.inj hre
        have np : p ∉ ks ++ done := fun z => by
          rw [← hdr, ← List.append_assoc] at hn
          exact (List.nodup_append.mp hn).2.2 p z p List.mem_cons_self rfl
        rw [← hdr] at hl
        simp only [List.length_append, List.length_cons] at hl
        have pu := put_new (h := ix) (v := k) np (by simp only [List.length_append]; omega)
        have ec : dct (ks ++ done ++ [p]) (updF ix p k) = dct (ks ++ (done ++ [p])) ix := by
          rw [← List.append_assoc]
          refine dct_congr fun q hq => ?_
          by_cases c : q = p
          · subst c; rw [updF_same, hi q (by rw [← hdr]; simp)]
          · rw [updF_ne c]
        rw [ec] at pu
        obtain ⟨D, hD⟩ : ∃ L, L = dct (ks ++ done) ix := ⟨_, rfl⟩
        obtain ⟨D', hD'⟩ : ∃ L, L = dct (ks ++ (done ++ [p])) ix := ⟨_, rfl⟩
        rw [← hD, ← hD'] at pu
        refine ⟨fE W H M s3 s4 Fd D (.vl 0 (.int (k : Int))) (.vl 0 L) (.vl 0 (tp p)) s10 s11 s12 s13, fE W H M s3 s4 Fd D' (.vl 0 (.int (k : Int))) (.vl 0 L) (.vl 0 (tp p)) s10 s11 s12 s13, ?_, .inl ?_, done ++ [p], _, by rw [hD'], ⟨rest, rfl, by rw [← hdr]; simp⟩⟩
        · rw [← hD]; simp [fE]
        · simp [l_class_numbers_8, fE, pu])
    (ds := l.map tp) (ε := fE W H M s3 s4 Fd (dct (ks ++ []) ix) (.vl 0 (.int (k : Int))) (.vl 0 L) s9 s10 s11 s12 s13) ⟨[], _, rfl, ⟨l, rfl, rfl⟩⟩
  rw [List.append_nil] at e
  refine ⟨t9, ?_⟩
  have it : (mIterA (mVar 8)) (fE W H M s3 s4 Fd (dct ks ix) (.vl 0 (.int (k : Int))) (.vl 0 L) s9 s10 s11 s12 s13) = .ok (l.map tp) (fE W H M s3 s4 Fd (dct ks ix) (.vl 0 (.int (k : Int))) (.vl 0 L) s9 s10 s11 s12 s13) := by
    rw [hL]
    obtain ⟨D, hD⟩ : ∃ L, L = dct ks ix := ⟨_, rfl⟩
    rw [← hD]
    obtain ⟨m, hm⟩ : ∃ L, L = l.map tp := ⟨_, rfl⟩
    unfold ptp
    rw [← hm]
    simp [fE]
  rw [← hL]
  unfold l_class_numbers_9
  rw [q_for, it, q_o1, e]
  cases rest with
  | nil => rw [List.append_nil] at hdr; rw [hdr]
  | cons x y => cases hre
theorem num_ok (w : Wb n g tl) (c : ClF g n F ix) {s7 s8 s9 s10 s11 s12 s13 : Sl} :
    ∃ t7 t8 t9, (sFor (mEnum (mCons (mVar 5) mNil)) (gUnp (gMore (gSet 7 0) (gMore (gSet 8 0) gNone))) l_class_numbers_9) (fE W H M s3 s4 (.lst (F.map ptp)) (dct [] ix) s7 s8 s9 s10 s11 s12 s13) = .nx (fE W H M s3 s4 (.lst (F.map ptp)) (dct F.flatten ix) t7 t8 t9 s10 s11 s12 s13) := by
  have nd := flat_nd c
  have ln := flat_len w c
  have kl := w.bth_le
  obtain ⟨Fd, hFd⟩ : ∃ D, D = Dt.lst (F.map ptp) := ⟨_, rfl⟩
  obtain ⟨ε', e, done, t7, t8, t9, rfl, ⟨rest, hre, hdr⟩⟩ := loop_ind (t := gUnp (gMore (gSet 7 0) (gMore (gSet 8 0) gNone))) (body := l_class_numbers_9) (fun ds ε => ∃ (done : List (List (Nat × Nat))) (t7 t8 t9 : Sl), ε = fE W H M s3 s4 Fd (dct done.flatten ix) t7 t8 t9 s10 s11 s12 s13 ∧ (∃ rest, ds = enumD done.length (rest.map ptp) ∧ done ++ rest = F))
    (by
      rintro d ds ε ⟨done, t7, t8, t9, rfl, ⟨rest, hre, hdr⟩⟩
      cases rest with
      | nil => cases hre
      | cons l rest =>
        have hre : d :: ds = .tup [.int (done.length : Int), ptp l] :: enumD (done.length + 1) (rest.map ptp) := hre
        obtain ⟨rfl, rfl⟩ := List.cons.inj hre
        have hF : F.flatten = (done.flatten ++ l) ++ rest.flatten := by rw [← hdr]; simp
        have hl : ∀ p ∈ l, ix p = done.length := fun p hp => (c.at_ done.length l (by rw [← hdr]; simp) p hp).2
        rw [hF] at nd ln
        rw [List.length_append] at ln
        obtain ⟨u9, e1⟩ := num_in (W := W) (H := H) (M := M) (s3 := s3) (s4 := s4) (Fd := Fd) (k := done.length) (s9 := t9) (s10 := s10) (s11 := s11) (s12 := s12) (s13 := s13) (List.nodup_append.mp nd).1 (by omega) hl
        refine ⟨fE W H M s3 s4 Fd (dct done.flatten ix) (.vl 0 (.int (done.length : Int))) (.vl 0 (ptp l)) t9 s10 s11 s12 s13, _, ?_, .inl e1, done ++ [l], .vl 0 (.int (done.length : Int)), .vl 0 (ptp l), u9, by rw [List.flatten_append]; simp, ⟨rest, by simp, by rw [← hdr]; simp⟩⟩
        obtain ⟨D, hD⟩ : ∃ L, L = dct done.flatten ix := ⟨_, rfl⟩
        rw [← hD]
        simp [fE])
    (ds := enumD 0 (F.map ptp)) (ε := fE W H M s3 s4 Fd (dct ([] : List (List (Nat × Nat))).flatten ix) s7 s8 s9 s10 s11 s12 s13) ⟨[], _, _, _, rfl, ⟨F, rfl, rfl⟩⟩
  refine ⟨t7, t8, t9, ?_⟩
  have it : (mEnum (mCons (mVar 5) mNil)) (fE W H M s3 s4 Fd (dct [] ix) s7 s8 s9 s10 s11 s12 s13) = .ok (enumD 0 (F.map ptp)) (fE W H M s3 s4 Fd (dct [] ix) s7 s8 s9 s10 s11 s12 s13) := by
    rw [hFd]
    obtain ⟨D, hD⟩ : ∃ L, L = dct [] ix := ⟨_, rfl⟩
    rw [← hD]
    obtain ⟨m, hm⟩ : ∃ L, L = F.map ptp := ⟨_, rfl⟩
    rw [← hm]
    simp [fE]
  rw [← hFd, q_for, it, q_o1]
  rw [show dct ([] : List (List (Nat × Nat))).flatten ix = dct [] ix from rfl] at e
  rw [e]
  cases rest with
  | nil => rw [List.append_nil] at hdr; rw [hdr]
  | cons x y => cases hre
theorem class_numbers_ok (w : Wb n g tl) : ∃ F ix, m_class_numbers [wb n tl] = .ok (.tup [dct F.flatten ix, .lst (F.map ptp)]) [.non] ∧ ClF g n F ix := by
  have kl := w.bth_le
  obtain ⟨h, t3, t4, t9, e1, hh⟩ := begun w
  obtain ⟨h', ms, u3, u4, u8, u9, u10, u11, u12, u13, e2, I, hc⟩ := joined w hh t3 t4 .un t9 .un .un .un .un
  obtain ⟨v8, e3⟩ := comp_found (W := wb n tl) (H := dct (bth tl) h') (ms := ms) (s3 := u3) (s4 := u4) (s9 := u9) (s10 := u10) (s11 := u11) (s12 := u12) (s13 := u13) u8 (by rw [I.len]; exact kl)
  obtain ⟨F, e4, hF⟩ := sortedD_ok (C := (ms.filter fun l => !l.isEmpty).map srl) (fun l hl z => by
    obtain ⟨m, hm, rfl⟩ := List.mem_map.mp hl
    have h1 := (List.mem_filter.mp hm).2
    have h2 := (srl_perm m).length_eq
    rw [z] at h2
    rw [List.eq_nil_of_length_eq_zero h2.symm] at h1
    cases h1)
  have c := clf_of w I hc hF
  refine ⟨F, _, ?_, c⟩
  obtain ⟨ix, hix⟩ : ∃ ix, ix = fun p => F.findIdx fun l => decide (p ∈ l) := ⟨_, rfl⟩
  rw [← hix] at c ⊢
  obtain ⟨w7, w8, w9, e5⟩ := num_ok (W := wb n tl) (H := dct (bth tl) h') (M := mems ms) (s3 := u3) (s4 := u4) w c (s7 := .un) (s8 := v8) (s9 := u9) (s10 := u10) (s11 := u11) (s12 := u12) (s13 := u13)
  obtain ⟨V, hV⟩ : ∃ V, V = wb n tl := ⟨_, rfl⟩
  obtain ⟨C, hC⟩ : ∃ C, C = ((ms.filter fun l => !l.isEmpty).map srl).map ptp := ⟨_, rfl⟩
  obtain ⟨Fd, hFd⟩ : ∃ C, C = F.map ptp := ⟨_, rfl⟩
  obtain ⟨N, hN⟩ : ∃ C, C = dct F.flatten ix := ⟨_, rfl⟩
  obtain ⟨D, hD⟩ : ∃ C, C = dct (bth tl) h' := ⟨_, rfl⟩
  obtain ⟨M, hM⟩ : ∃ C, C = mems ms := ⟨_, rfl⟩
  rw [← hC] at e3 e4
  rw [← hFd] at e4 e5 ⊢
  rw [← hN] at e5 ⊢
  rw [← hV] at e1 e2 e3 e5 ⊢
  rw [← hD, ← hM] at e2 e3 e5
  have p0 : ∀ k : Ev → So, (sSeq (sAsg mNewT (gSet 1 1)) (sSeq (sAsg (mLst mNil) (gSet 2 1)) k)) (entry [0] 13 [V]) = k (cE V (dct [] fun _ => 0) (mems []) .un .un .un .un .un .un .un .un) := fun k => rfl
  have p1 : ∀ k : Ev → So, (sSeq (sAsg (mCB fSortedD (mCons (mComp [8] (mIter (mFrz 2)) (gSet 8 0) c_class_numbers_7 e_class_numbers_7) mNil)) (gSet 5 0)) (sSeq (sAsg mNewT (gSet 6 1)) k)) (cE V D M u3 u4 u8 u9 u10 u11 u12 u13) = k (fE V D M u3 u4 (.lst Fd) (dct [] ix) .un v8 u9 u10 u11 u12 u13) := fun k => by
    simp [e3, e4, fE]
    rfl
  have p2 : (sRet (mTup (mCons (mFrz 6) (mCons (mVar 5) mNil)))) (fE V D M u3 u4 (.lst Fd) N w7 w8 w9 u10 u11 u12 u13) = .rt (.tup [N, .lst Fd]) [.vl 0 V, .vl 1 D, .vl 0 M, u3, u4, .vl 0 (.lst Fd), .vl 0 N, w7, w8, w9, u10, u11, u12, u13] := by
    simp [fE]
  unfold m_class_numbers
  rw [q_fn]
  unfold b_class_numbers
  rw [p0, q_seq, e1, q_s1, q_seq, e2, q_s1, p1, q_seq, e5, q_s1, p2, q_finR]
  rfl
end
end Mir

set_option Elab.async false
set_option linter.all false
set_option maxRecDepth 100000
set_option maxHeartbeats 1600000
/-! What the program tells of classes. -/
namespace Mir
open PySem PySem.Spec PyProof.Rows L2 He PySem.W
/-- the classes of a web, as the program numbers them -/
structure Nums (n : Nat) (g : Nat → Nat → Int) (tl : List (Nat × Nat)) (F : List (List (Nat × Nat))) (ix : Nat × Nat → Nat) : Prop extends ClF g n F ix where
  w : Wb n g tl
  run : m_class_numbers [wb n tl] = .ok (.tup [dct F.flatten ix, .lst (F.map ptp)]) [.non]
theorem nums (n : Nat) (g : Nat → Nat → Int) (tl : List (Nat × Nat)) (w : Wb n g tl) : ∃ F ix, Nums n g tl F ix := by
  obtain ⟨F, ix, e, c⟩ := class_numbers_ok w
  exact ⟨F, ix, c, w, e⟩
section
variable {n : Nat} {g : Nat → Nat → Int} {tl : List (Nat × Nat)} {F : List (List (Nat × Nat))} {ix : Nat × Nat → Nat} {a b c e : Nat} {d d' : Dt}
theorem Nums.get (N : Nums n g tl F ix) {p : Nat × Nat} (hp : Tie g n p) : getD? (dct F.flatten ix) (tp p) = some (some (.int (ix p : Int))) := get_dct1 ((mem_fl N.toClF p).mpr hp)
theorem classes_ok (N : Nums n g tl F ix) : m_classes [wb n tl] = .ok (.tup (F.map ptp)) [.non] := by
  have e := N.run
  obtain ⟨V, hV⟩ : ∃ V, V = wb n tl := ⟨_, rfl⟩
  obtain ⟨D, hD⟩ : ∃ V, V = dct F.flatten ix := ⟨_, rfl⟩
  obtain ⟨L, hL⟩ : ∃ V, V = F.map ptp := ⟨_, rfl⟩
  rw [← hV, ← hD, ← hL] at e
  rw [← hV, ← hL]
  simp [m_classes, b_classes, e, ix_t1]
theorem ix_F {i : Nat} {l : List (Nat × Nat)} (h : F[i]? = some l) : fIx (.lst (F.map ptp)) (.int (i : Int)) = some (.el (ptp l)) := ix_lst (by rw [List.getElem?_map, h]; rfl)
theorem ix_FT {i : Nat} {l : List (Nat × Nat)} (h : F[i]? = some l) : fIx (.tup (F.map ptp)) (.int (i : Int)) = some (.el (ptp l)) := ix_tup (by rw [List.getElem?_map, h]; rfl)
theorem class_of_ok (N : Nums n g tl F ix) (h : Pr2 a b d) (ht : Tie g n (a, b)) {l : List (Nat × Nat)} (hl : F[ix (a, b)]? = some l) : m_class_of [wb n tl, d] = .ok (ptp l) [.non, .non] := by
  have e := N.run
  have e1 := arrow_yes N.w h ht.1 ht.2.1 ht.2.2
  have e2 := N.get ht
  have e3 := ix_F hl
  obtain ⟨V, hV⟩ : ∃ V, V = wb n tl := ⟨_, rfl⟩
  obtain ⟨D, hD⟩ : ∃ V, V = dct F.flatten ix := ⟨_, rfl⟩
  obtain ⟨L, hL⟩ : ∃ V, V = Dt.lst (F.map ptp) := ⟨_, rfl⟩
  obtain ⟨P, hP⟩ : ∃ V, V = tp (a, b) := ⟨_, rfl⟩
  obtain ⟨R, hR⟩ : ∃ V, V = ptp l := ⟨_, rfl⟩
  have e1' : m_arrow_in [wb n tl, d] = .ok (tp (a, b)) [.non, .non] := e1
  rw [← hV, ← hP] at e1'
  rw [← hV, ← hD, ← hL] at e
  rw [← hD, ← hP] at e2
  rw [← hL, ← hR] at e3
  rw [← hV, ← hR]
  simp [m_class_of, b_class_of, e, e1', e2, e3]
theorem same_ok (N : Nums n g tl F ix) (h : Pr2 a b d) (h' : Pr2 c e d') (ht : Tie g n (a, b)) (ht' : Tie g n (c, e)) : m_same_class [wb n tl, d, d'] = .ok (.bl (decide (ix (a, b) = ix (c, e)))) [.non, .non, .non] := by
  have e0 := N.run
  have e1 : m_two_arrows [wb n tl, d, d'] = .ok (.tup [tp (a, b), tp (c, e)]) [.non, .non, .non] := two_yes N.w h h' ht.1 ht.2.1 ht'.1 ht'.2.1 ht.2.2 ht'.2.2
  have e2 := N.get ht
  have e3 := N.get ht'
  obtain ⟨V, hV⟩ : ∃ V, V = wb n tl := ⟨_, rfl⟩
  obtain ⟨D, hD⟩ : ∃ V, V = dct F.flatten ix := ⟨_, rfl⟩
  obtain ⟨L, hL⟩ : ∃ V, V = Dt.lst (F.map ptp) := ⟨_, rfl⟩
  obtain ⟨P, hP⟩ : ∃ V, V = tp (a, b) := ⟨_, rfl⟩
  obtain ⟨Q, hQ⟩ : ∃ V, V = tp (c, e) := ⟨_, rfl⟩
  rw [← hV, ← hP, ← hQ] at e1
  rw [← hV, ← hD, ← hL] at e0
  rw [← hD, ← hP] at e2
  rw [← hD, ← hQ] at e3
  rw [← hV]
  obtain ⟨i, hi⟩ : ∃ V, V = ix (a, b) := ⟨_, rfl⟩
  obtain ⟨j, hj⟩ : ∃ V, V = ix (c, e) := ⟨_, rfl⟩
  rw [← hi] at e2 ⊢
  rw [← hj] at e3 ⊢
  have q : decide ((i : Int) = j) = decide (i = j) := decide_eq_decide.mpr (by omega)
  simp [m_same_class, b_same_class, e0, e1, e2, e3, ix_t0, q]
end
/-! the things of a class -/
def addN (x : Nat) (l : List Nat) : List Nat := if x ∈ l then l else l ++ [x]
def castI (l : List Nat) : List Int := l.map fun i : Nat => (i : Int)
theorem mem_cast {x : Nat} {l : List Nat} : (x : Int) ∈ castI l ↔ x ∈ l := by
  unfold castI
  rw [List.mem_map]
  constructor
  · rintro ⟨y, hy, e⟩
    have : y = x := by omega
    rw [← this]; exact hy
  · exact fun h => ⟨x, h, rfl⟩
theorem addI_cast (x : Nat) (l : List Nat) : addI (x : Int) (castI l) = castI (addN x l) := by
  unfold addI addN
  by_cases c : x ∈ l
  · rw [if_pos (mem_cast.mpr c), if_pos c]
  · rw [if_neg fun z => c (mem_cast.mp z), if_neg c]
    simp [castI]
theorem mem_addN {x y : Nat} {l : List Nat} : y ∈ addN x l ↔ y ∈ l ∨ y = x := by
  unfold addN
  split
  · rename_i h
    constructor
    · exact .inl
    · rintro (z | rfl)
      · exact z
      · exact h
  · simp
theorem nd_addN {x : Nat} {l : List Nat} (h : l.Nodup) : (addN x l).Nodup := by
  unfold addN
  split
  · exact h
  · rename_i hc
    exact List.nodup_append.mpr ⟨h, by simp, fun a ha b hb z => by
      subst z
      obtain rfl : a = x := by simpa using hb
      exact hc ha⟩
theorem len_lt {n : Nat} {l : List Nat} (h : l.Nodup) (hb : ∀ x ∈ l, x < n) : l.length ≤ n := by
  have := nodup_le h (m := List.range n) fun x hx => List.mem_range.mpr (hb x hx)
  simpa using this
theorem set1_ok {W D : Dt} {p : Nat × Nat} {n : Nat} (hn : n ≤ 40) {dn : List Nat} (hd : dn.Nodup) (hb : ∀ x ∈ dn, x < n) (hp : p.1 < n ∧ p.2 < n) {s2 : Sl} :
    setL1 [3] (gSet 3 0) (mVar 3) [.int (p.1 : Int), .int (p.2 : Int)] (castI dn) [.vl 0 W, .vl 0 D, s2, .un] = .ok (castI (addN p.2 (addN p.1 dn))) [.vl 0 W, .vl 0 D, s2, .un] := by
  have h1 := len_lt hd hb
  have hd2 := nd_addN (x := p.1) hd
  have hb2 : ∀ x ∈ addN p.1 dn, x < n := fun x hx => by
    rcases mem_addN.mp hx with h | h
    · exact hb x h
    · rw [h]; exact hp.1
  have h2 := len_lt hd2 hb2
  have l1 : (castI dn).length + 1 < scanBound := by unfold castI scanBound; rw [List.length_map]; omega
  have l2 : (castI (addN p.1 dn)).length + 1 < scanBound := by unfold castI scanBound; rw [List.length_map]; omega
  unfold setL1
  simp only [q_set, List.set_cons_succ, List.set_cons_zero, q_b1, q_var, List.getElem?_cons_succ, List.getElem?_cons_zero, q_vr, asI, q_opt1, if_pos l1, addI_cast, q_w1, q_w0]
  unfold setL1
  simp only [q_set, List.set_cons_succ, List.set_cons_zero, q_b1, q_var, List.getElem?_cons_succ, List.getElem?_cons_zero, q_vr, asI, q_opt1, if_pos l2, addI_cast, q_w1, q_w0]
  rfl
theorem set0_ok {W D : Dt} {n : Nat} (hn : n ≤ 40) : ∀ {l : List (Nat × Nat)} {dn : List Nat}, dn.Nodup → (∀ x ∈ dn, x < n) → (∀ p ∈ l, p.1 < n ∧ p.2 < n) →
    ∃ dn', setL0 [2, 3] [3] (gSet 2 0) (mIterA (mVar 2)) (gSet 3 0) (mVar 3) (l.map tp) (castI dn) [.vl 0 W, .vl 0 D, .un, .un] = .ok (castI dn') [.vl 0 W, .vl 0 D, .un, .un] ∧ dn'.Nodup ∧ (∀ x ∈ dn', x < n) ∧ ∀ x, x ∈ dn' ↔ x ∈ dn ∨ ∃ p ∈ l, x = p.1 ∨ x = p.2
  | [], dn, hd, hb, _ => ⟨dn, by unfold setL0; rfl, hd, hb, fun x => by simp⟩
  | p :: l, dn, hd, hb, hl => by
    have hp := hl p List.mem_cons_self
    have hb2 : ∀ x ∈ addN p.2 (addN p.1 dn), x < n := fun x hx => by
      rcases mem_addN.mp hx with h | h
      · rcases mem_addN.mp h with h | h
        · exact hb x h
        · rw [h]; exact hp.1
      · rw [h]; exact hp.2
    obtain ⟨dn', e, h1, h2, h3⟩ := set0_ok hn (W := W) (D := D) (l := l) (dn := addN p.2 (addN p.1 dn)) (nd_addN (nd_addN hd)) hb2 fun q hq => hl q (List.mem_cons_of_mem _ hq)
    refine ⟨dn', ?_, h1, h2, fun x => ?_⟩
    · rw [List.map_cons]
      unfold setL0
      have e1 := set1_ok (W := W) (D := D) (p := p) hn hd hb hp (s2 := .vl 0 (tp p))
      simp only [q_set, List.set_cons_succ, List.set_cons_zero, q_b1, q_iterA, q_var, List.getElem?_cons_succ, List.getElem?_cons_zero, q_vr]
      have it : itA (tp p) [.vl 0 W, .vl 0 D, .vl 0 (tp p), .un] = .ok [.int (p.1 : Int), .int (p.2 : Int)] [.vl 0 W, .vl 0 D, .vl 0 (tp p), .un] := rfl
      rw [it, q_b1, q_w1, q_w0]
      simp only [List.set_cons_succ, List.set_cons_zero]
      rw [e1, q_b1]
      simp only [q_w1, q_w0, List.set_cons_succ, List.set_cons_zero]
      exact e
    · rw [h3 x, mem_addN, mem_addN]
      constructor
      · rintro (((h | h) | h) | ⟨q, hq, h⟩)
        · exact .inl h
        · exact .inr ⟨p, List.mem_cons_self, .inl h⟩
        · exact .inr ⟨p, List.mem_cons_self, .inr h⟩
        · exact .inr ⟨q, List.mem_cons_of_mem _ hq, h⟩
      · rintro (h | ⟨q, hq, h⟩)
        · exact .inl (.inl (.inl h))
        · rcases List.mem_cons.mp hq with rfl | hq
          · rcases h with h | h
            · exact .inl (.inl (.inr h))
            · exact .inl (.inr h)
          · exact .inr ⟨q, hq, h⟩
theorem srtI_nat {dn : List Nat} (hd : dn.Nodup) : ∃ ts : List Nat, srtI (castI dn) = castI ts ∧ ts.Pairwise (· < ·) ∧ ∀ x, x ∈ ts ↔ x ∈ dn := by
  have hp := srtI_perm (castI dn)
  have hs := srtI_sorted (castI dn)
  have e : castI ((srtI (castI dn)).map Int.toNat) = srtI (castI dn) := by
    unfold castI
    rw [List.map_map]
    conv => rhs; rw [← List.map_id (srtI (dn.map fun i : Nat => (i : Int)))]
    refine List.map_congr_left fun x hx => ?_
    obtain ⟨y, _, rfl⟩ := List.mem_map.mp (hp.mem_iff.mp hx)
    simp [Function.comp]
  refine ⟨(srtI (castI dn)).map Int.toNat, e.symm, ?_, fun x => ?_⟩
  · have nd : (srtI (castI dn)).Nodup := by
      rw [hp.nodup_iff]
      unfold castI
      exact List.Pairwise.map _ (fun a b h z => h (by omega)) hd
    rw [← e] at nd hs
    unfold castI at nd hs
    have a1 := List.pairwise_map.mp hs
    have a2 : ((srtI (castI dn)).map Int.toNat).Pairwise fun (a b : Nat) => (a : Int) ≠ (b : Int) := List.pairwise_map.mp nd
    exact List.Pairwise.imp₂ (fun a b h1 h2 => by omega) a1 a2
  · rw [← mem_cast, e, hp.mem_iff, mem_cast]
section
variable {n : Nat} {g : Nat → Nat → Int} {tl : List (Nat × Nat)} {F : List (List (Nat × Nat))} {ix : Nat × Nat → Nat} {a b c e : Nat} {d d' : Dt}
theorem touched_ok (N : Nums n g tl F ix) (h : Pr2 a b d) (ht : Tie g n (a, b)) {l : List (Nat × Nat)} (hl : F[ix (a, b)]? = some l) :
    ∃ ts : List Nat, m_touched [wb n tl, d] = .ok (.tup (ts.map fun i : Nat => .int (i : Int))) [.non, .non] ∧ ts.Pairwise (· < ·) ∧ (∀ x ∈ ts, x < n) ∧ ∀ x, x ∈ ts ↔ ∃ p ∈ l, x = p.1 ∨ x = p.2 := by
  have hn := N.w.n2
  have ec := class_of_ok N h ht hl
  have hb : ∀ p ∈ l, p.1 < n ∧ p.2 < n := fun p hp => by
    have := (N.at_ _ l hl p hp).1
    exact ⟨this.1, this.2.1⟩
  obtain ⟨V, hV⟩ : ∃ V, V = wb n tl := ⟨_, rfl⟩
  rw [← hV] at ec ⊢
  obtain ⟨dn, e0, h1, h2, h3⟩ := set0_ok (W := V) (D := d) hn (l := l) (dn := []) List.nodup_nil (fun x hx => nomatch hx) hb
  obtain ⟨ts, e1, t1, t2⟩ := srtI_nat h1
  refine ⟨ts, ?_, t1, fun x hx => h2 x ((t2 x).mp hx), fun x => by rw [t2 x, h3 x]; simp⟩
  have hlen : (castI dn).length < 64 := by
    have := len_lt h1 h2
    unfold castI
    rw [List.length_map]
    omega
  have it : (mIterA (mCall [none, none] m_class_of (mCons (mVar 0) (mCons (mVar 1) mNil)))) [.vl 0 V, .vl 0 d, .un, .un] = .ok (l.map tp) [.vl 0 V, .vl 0 d, .un, .un] := by
    obtain ⟨m, hm⟩ : ∃ m, m = l.map tp := ⟨_, rfl⟩
    unfold ptp at ec
    rw [← hm] at ec ⊢
    simp [ec]
  have ms : (mSortSet2 [2, 3] [3] (mIterA (mCall [none, none] m_class_of (mCons (mVar 0) (mCons (mVar 1) mNil)))) (gSet 2 0) (mIterA (mVar 2)) (gSet 3 0) (mVar 3)) [.vl 0 V, .vl 0 d, .un, .un] = .ok (.lst ((castI ts).map Dt.int)) [.vl 0 V, .vl 0 d, .un, .un] := by
    unfold mSortSet2
    rw [it, q_b1]
    have w0 : wipeE [.vl 0 V, .vl 0 d, .un, .un] [2, 3] = [.vl 0 V, .vl 0 d, .un, .un] := rfl
    have c0 : ([] : List Int) = castI [] := rfl
    rw [w0, c0, e0]
    unfold sfin
    simp only []
    rw [if_pos hlen, e1]
    rfl
  have ct : (castI ts).map Dt.int = ts.map fun i : Nat => Dt.int (i : Int) := by unfold castI; rw [List.map_map]; rfl
  rw [ct] at ms
  unfold m_touched
  rw [q_fn]
  show finish [0, 0] (b_touched [.vl 0 V, .vl 0 d, .un, .un]) = _
  unfold b_touched
  rw [q_ret, q_un, ms, q_b1, f_tup, q_rz, q_z2, q_o1, q_finR]
  rfl
end
end Mir

set_option Elab.async false
set_option linter.all false
set_option maxRecDepth 100000
set_option maxHeartbeats 1600000
/-! The law's own class. -/
namespace Mir
open PySem PySem.Spec PyProof.Rows L2 He PySem.W
theorem lex_irr {p q : Nat × Nat} (h1 : lexT p q) (h2 : lexT q p) : False := by
  unfold lexT at h1 h2
  omega
theorem lex_uniq : ∀ {l m : List (Nat × Nat)}, l.Pairwise lexT → m.Pairwise lexT → (∀ p, p ∈ l ↔ p ∈ m) → l = m
  | [], [], _, _, _ => rfl
  | [], y :: m, _, _, h => nomatch (h y).mpr List.mem_cons_self
  | x :: l, [], _, _, h => nomatch (h x).mp List.mem_cons_self
  | x :: l, y :: m, h1, h2, h => by
    rw [List.pairwise_cons] at h1 h2
    have e : x = y := by
      rcases List.mem_cons.mp ((h x).mp List.mem_cons_self) with z | z
      · exact z
      · rcases List.mem_cons.mp ((h y).mpr List.mem_cons_self) with z2 | z2
        · exact z2.symm
        · exact (lex_irr (h2.1 x z) (h1.1 y z2)).elim
    subst e
    rw [lex_uniq h1.2 h2.2 fun p => ?_]
    constructor
    · intro hp
      rcases List.mem_cons.mp ((h p).mp (List.mem_cons_of_mem _ hp)) with z | z
      · rw [z] at hp; exact (lex_irr (h1.1 x hp) (h1.1 x hp)).elim
      · exact z
    · intro hp
      rcases List.mem_cons.mp ((h p).mpr (List.mem_cons_of_mem _ hp)) with z | z
      · rw [z] at hp; exact (lex_irr (h2.1 x hp) (h2.1 x hp)).elim
      · exact z
theorem lclass_ok {n : Nat} {g : Nat → Nat → Int} {tl : List (Nat × Nat)} (w : Wb n g tl) (hn : n ≤ 31) {s : Nat × Nat} (hs : Tie g n s) :
    ∃ cl : List (Nat × Nat), m__law_class [mat n g, tp s] = .ok (.lst (cl.map tp)) [.non, .non] ∧ cl.Pairwise lexT ∧ ∀ p, p ∈ cl ↔ Cls g n s p := by
  have small : ∀ (at_ : Nat) (Z : List ((Nat × Nat) × Nat)), QInv (rel g n) s at_ Z → Z.length ≤ n * n := fun at_ Z h => by
    have := pairs_le (n := n) h.nd fun p hp => by
      obtain ⟨x, hx, rfl⟩ := List.mem_map.mp hp
      have := wlk_tie w hs (h.wk x hx)
      exact ⟨this.1, this.2.1⟩
    simpa using this
  have hnn : n * n ≤ 961 := Nat.mul_le_mul hn hn
  obtain ⟨M, hM⟩ : ∃ M, M = mat n g := ⟨_, rfl⟩
  obtain ⟨S, hS⟩ : ∃ S, S = tp s := ⟨_, rfl⟩
  have lm : bLen M = some (.sc (.int n)) := by rw [hM]; exact len_mat
  obtain ⟨ε', e, at_, Z, s4, s5, rfl, hq, hat⟩ := loop_range (t := gSet 4 0) (body := l__law_class_1) (lo := 0) (n := n * n) (fun i ε => ∃ (at_ : Nat) (Z : List ((Nat × Nat) × Nat)) (s4 s5 : Sl), ε = [.vl 0 M, .vl 0 S, .vl 1 (prs (ky Z)), .vl 0 (.int (at_ : Int)), s4, s5] ∧ QInv (rel g n) s at_ Z ∧ (at_ = i ∨ Z.length ≤ at_))
    (by
      rintro i ε hi ⟨at_, Z, s4, s5, rfl, hq, hat⟩
      by_cases c : at_ < Z.length
      · have hx : Z[at_]? = some Z[at_] := List.getElem?_eq_getElem c
        have hxm : Z[at_] ∈ Z := List.getElem_mem _
        obtain ⟨x, hxe⟩ : ∃ x, x = Z[at_] := ⟨_, rfl⟩
        rw [← hxe] at hx hxm
        have hxt := wlk_tie w hs (hq.wk x hxm)
        have ls := lsteps_ok (a := x.1.1) (b := x.1.2) (show n ≤ 100 by omega) w.gr hxt.1 hxt.2.1
        obtain ⟨qs, hqs⟩ : ∃ qs, qs = o1 g x.1.1 x.1.2 n ++ o2 g x.1.1 x.1.2 n := ⟨_, rfl⟩
        rw [← hqs, ← hM] at ls
        obtain ⟨ε2, e2, Z2, done, rest, s52, rfl, hds, hin, hdone, _⟩ := loop_ind (t := gSet 5 0) (body := l__law_class_0) (fun ds ε => ∃ (Z : List ((Nat × Nat) × Nat)) (done rest : List (Nat × Nat)) (s5 : Sl), ε = [.vl 0 M, .vl 0 S, .vl 1 (prs (ky Z)), .vl 0 (.int (at_ : Int)), .vl 0 (.int (i : Int)), s5] ∧ ds = rest.map tp ∧ QIn (rel g n) s at_ Z x done ∧ done ++ rest = qs ∧ ∀ q ∈ rest, q ∈ qs)
          (by
            rintro d r ε ⟨Z, done, rest, s5, rfl, hds, hin, hdone, hr⟩
            cases rest with
            | nil => cases hds
            | cons q rest =>
              simp only [List.map_cons, List.cons.injEq] at hds
              obtain ⟨rfl, rfl⟩ := hds
              have hqr : rel g n x.1 q := by
                have := hr q (List.mem_cons_self ..)
                rw [hqs] at this
                exact mem_o.mp this
              have hlz := small _ _ hin.toQInv
              have ni := nin_prs q (ky Z)
              by_cases cq : q ∈ ky Z
              · rw [decide_eq_true cq] at ni
                obtain ⟨P, hP⟩ : ∃ P, P = prs (ky Z) := ⟨_, rfl⟩
                rw [← hP] at ni
                exact ⟨[.vl 0 M, .vl 0 S, .vl 1 P, .vl 0 (.int (at_ : Int)), .vl 0 (.int (i : Int)), .vl 0 (tp q)], [.vl 0 M, .vl 0 S, .vl 1 P, .vl 0 (.int (at_ : Int)), .vl 0 (.int (i : Int)), .vl 0 (tp q)], by rw [← hP]; simp, .inl (by simp [l__law_class_0, ni]), Z, done ++ [q], rest, _, by rw [hP], rfl, hin.have_ cq, by rw [← hdone]; simp, fun q hq => hr q (List.mem_cons_of_mem _ hq)⟩
              · rw [decide_eq_false cq] at ni
                have ea : fAppend ((ky Z).map tp) [tp q] = some (.non, (ky (Z ++ [(q, x.2 + 1)])).map tp) := by
                  have hl : ((ky Z).map tp).length < sizeLine := by rw [List.length_map]; exact small1000 (by simp; omega)
                  rw [append_ok hl]
                  simp [ky]
                have ni' : fIn true (tp q) (.lst ((ky Z).map tp)) = some (.bl (!false)) := ni
                have ep : ∀ l : List (Nat × Nat), prs l = .lst (l.map tp) := fun _ => rfl
                obtain ⟨P, hP⟩ : ∃ P, P = (ky Z).map tp := ⟨_, rfl⟩
                obtain ⟨P', hP'⟩ : ∃ P, P = (ky (Z ++ [(q, x.2 + 1)])).map tp := ⟨_, rfl⟩
                rw [← hP, ← hP'] at ea
                rw [← hP] at ni'
                refine ⟨[.vl 0 M, .vl 0 S, .vl 1 (.lst P), .vl 0 (.int (at_ : Int)), .vl 0 (.int (i : Int)), .vl 0 (tp q)], [.vl 0 M, .vl 0 S, .vl 1 (.lst P'), .vl 0 (.int (at_ : Int)), .vl 0 (.int (i : Int)), .vl 0 (tp q)], by rw [ep, ← hP]; simp, .inl (by simp [l__law_class_0, ni', ea]), Z ++ [(q, x.2 + 1)], done ++ [q], rest, _, by rw [ep, ← hP'], rfl, hin.add cq hqr, by rw [← hdone]; simp, fun q hq => hr q (List.mem_cons_of_mem _ hq)⟩)
          (ds := qs.map tp) (ε := [.vl 0 M, .vl 0 S, .vl 1 (prs (ky Z)), .vl 0 (.int (at_ : Int)), .vl 0 (.int (i : Int)), s5]) ⟨Z, [], qs, s5, rfl, rfl, hq.begin_ hx, rfl, fun q hq => hq⟩
        have hr : rest = [] := by
          cases rest with
          | nil => rfl
          | cons p r => cases hds
        rw [hr, List.append_nil] at hdone
        have hnx := hin.next fun q hq => by
          rw [hdone, hqs]
          exact mem_o.mpr hq
        have il : itL (prs qs) [.vl 0 M, .vl 0 S, .vl 1 (prs (ky Z)), .vl 0 (.int (at_ : Int)), .vl 0 (.int (i : Int)), s5] = .ok (qs.map tp) [.vl 0 M, .vl 0 S, .vl 1 (prs (ky Z)), .vl 0 (.int (at_ : Int)), .vl 0 (.int (i : Int)), s5] := rfl
        have ixk : fIx (prs (ky Z)) (.int (at_ : Int)) = some (.el (.tup [.int (x.1.1 : Int), .int (x.1.2 : Int)])) := by
          rw [ix_prt (by simpa using c)]
          simp [ky, hxe, tp]
        refine ⟨[.vl 0 M, .vl 0 S, .vl 1 (prs (ky Z)), .vl 0 (.int (at_ : Int)), .vl 0 (.int (i : Int)), s5], [.vl 0 M, .vl 0 S, .vl 1 (prs (ky Z2)), .vl 0 (.int (at_ + 1 : Nat)), .vl 0 (.int (i : Int)), s52], by simp, .inl ?_, at_ + 1, Z2, _, _, rfl, hnx, ?_⟩
        · simp [l__law_class_1, len_prs, c, ixk, ls, il, e2]
        · rcases hat with h | h
          · exact .inl (by omega)
          · exact absurd h (by omega)
      · refine ⟨[.vl 0 M, .vl 0 S, .vl 1 (prs (ky Z)), .vl 0 (.int (at_ : Int)), .vl 0 (.int (i : Int)), s5], [.vl 0 M, .vl 0 S, .vl 1 (prs (ky Z)), .vl 0 (.int (at_ : Int)), .vl 0 (.int (i : Int)), s5], by simp, .inl ?_, at_, Z, _, _, rfl, hq, .inr (by omega)⟩
        simp [l__law_class_1, len_prs, c])
    (ε := [.vl 0 M, .vl 0 S, .vl 1 (prs (ky [(s, 0)])), .vl 0 (.int (0 : Nat)), .un, .un]) ⟨0, [(s, 0)], _, _, rfl, QInv.start, .inl rfl⟩
  have hle := small _ _ hq
  refine ⟨srl (ky Z), ?_, srl_pw hq.nd, fun p => ?_⟩
  · have rgn : rg1 (some ((n : Int) * n)) = fun ε => .ok (rangeD 0 (n * n)) ε := by
      have := rgN (n := n * n) (by omega)
      rw [← this]
      simp
    have k0 : Dt.lst [S] = prs (ky [(s, 0)]) := by rw [hS]; rfl
    have so := sorted_srl (ky Z)
    simp at e
    rw [← hM, ← hS]
    obtain ⟨P, hP⟩ : ∃ P, P = prs (ky Z) := ⟨_, rfl⟩
    obtain ⟨R, hR⟩ : ∃ P, P = (srl (ky Z)).map tp := ⟨_, rfl⟩
    rw [← hP, ← hR] at so
    rw [← hP] at e
    rw [← hR]
    simp [m__law_class, b__law_class, lm, f_mulL (a := (n : Int)) (b := n) (by omega) (by omega), rgn, k0, e, so]
  · rw [(srl_perm (ky Z)).mem_iff]
    constructor
    · intro hp
      obtain ⟨x, hx, rfl⟩ := List.mem_map.mp hp
      exact ⟨x.2, hq.wk x hx⟩
    · rintro ⟨k, hw⟩
      obtain ⟨y, hy, rfl, _⟩ := hq.fin (by omega) hw
      exact List.mem_map.mpr ⟨y, hy, rfl⟩
section
variable {n : Nat} {g : Nat → Nat → Int} {tl : List (Nat × Nat)} {F : List (List (Nat × Nat))} {ix : Nat × Nat → Nat}
/-- members of a told class -/
theorem Nums.mem (N : Nums n g tl F ix) {s p : Nat × Nat} (hs : Tie g n s) {l : List (Nat × Nat)} (hl : F[ix s]? = some l) : p ∈ l ↔ Cls g n s p := by
  constructor
  · intro hp
    have := N.at_ _ l hl p hp
    exact (N.eq s p hs this.1).mp this.2.symm
  · intro hc
    have tp' := hc.tie N.w hs
    obtain ⟨m, e1, e2⟩ := N.all p tp'
    rw [← (N.eq s p hs tp').mpr hc, hl] at e1
    cases e1
    exact e2
theorem lclass_eq (N : Nums n g tl F ix) (hn : n ≤ 31) {s : Nat × Nat} (hs : Tie g n s) {l : List (Nat × Nat)} (hl : F[ix s]? = some l) : m__law_class [mat n g, tp s] = .ok (prs l) [.non, .non] := by
  obtain ⟨cl, e, h1, h2⟩ := lclass_ok N.w hn hs
  have : cl = l := lex_uniq h1 (N.pw l (List.mem_of_getElem? hl)) fun p => by rw [h2 p, N.mem hs hl]
  rw [e, this]
  rfl
end
end Mir

set_option Elab.async false
set_option linter.all false
set_option maxRecDepth 100000
set_option maxHeartbeats 1600000
/-! The law's homes, and a triangle. -/
namespace Mir
open PySem PySem.Spec PyProof.Rows L2 He PySem.W
section
variable {n : Nat} {g : Nat → Nat → Int} {tl : List (Nat × Nat)} {F : List (List (Nat × Nat))} {ix : Nat × Nat → Nat} {a b c : Nat}
def hE (T M : Dt) (n : Nat) (D : Dt) (s4 s5 s6 : Sl) : Ev := [.vl 0 T, .vl 0 M, .vl 0 (.int (n : Int)), .vl 1 D, s4, s5, s6]
theorem homes_in {T : Dt} {k : Nat} {ks l : List (Nat × Nat)} (ht : ∀ p ∈ l, Tie g n p) (hn : (ks ++ l).Nodup) (hl : (ks ++ l).length ≤ 1600) (hi : ∀ p ∈ l, ix p = k) {s5 s6 : Sl} :
    ∃ t5 t6, loopL (gUnp (gMore (gSet 5 0) (gMore (gSet 6 0) gNone))) l__law_homes_0 (l.map tp) (hE T (mat n g) n (dct ks ix) (.vl 0 (.int (k : Int))) s5 s6) = .nx (hE T (mat n g) n (dct (ks ++ l) ix) (.vl 0 (.int (k : Int))) t5 t6) := by
  obtain ⟨M, hM⟩ : ∃ M, M = mat n g := ⟨_, rfl⟩
  obtain ⟨ε', e, done, t5, t6, rfl, ⟨rest, hre, hdr⟩⟩ := loop_ind (t := gUnp (gMore (gSet 5 0) (gMore (gSet 6 0) gNone))) (body := l__law_homes_0) (fun ds ε => ∃ (done : List (Nat × Nat)) (t5 t6 : Sl), ε = hE T M n (dct (ks ++ done) ix) (.vl 0 (.int (k : Int))) t5 t6 ∧ (∃ rest, ds = rest.map tp ∧ done ++ rest = l))
    (by
      rintro d ds ε ⟨done, t5, t6, rfl, ⟨rest, hre, hdr⟩⟩
      cases rest with
      | nil => cases hre
      | cons p rest =>
        obtain ⟨rfl, rfl⟩ := List.cons.inj hre
        have np : p ∉ ks ++ done := fun z => by
          rw [← hdr, ← List.append_assoc] at hn
          exact (List.nodup_append.mp hn).2.2 p z p List.mem_cons_self rfl
        rw [← hdr] at hl
        simp only [List.length_append, List.length_cons] at hl
        have tie := ht p (by rw [← hdr]; simp)
        have pu := put_new (h := ix) (v := k) np (by simp only [List.length_append]; omega)
        have gd := get_dct (ks ++ done) ix p
        rw [if_neg np] at gd
        have ec : dct (ks ++ done ++ [p]) (updF ix p k) = dct (ks ++ (done ++ [p])) ix := by
          rw [← List.append_assoc]
          refine dct_congr fun q hq => ?_
          by_cases c : q = p
          · subst c; rw [updF_same, hi q (by rw [← hdr]; simp)]
          · rw [updF_ne c]
        rw [ec] at pu
        have x1 := ix_mat (g := g) tie.1
        have x2 := ix_row (f := g p.1) tie.2.1
        rw [tie.2.2] at x2
        obtain ⟨R, hR⟩ : ∃ R, R = row n (g p.1) := ⟨_, rfl⟩
        rw [← hM, ← hR] at x1
        rw [← hR] at x2
        obtain ⟨D, hD⟩ : ∃ L, L = dct (ks ++ done) ix := ⟨_, rfl⟩
        obtain ⟨D', hD'⟩ : ∃ L, L = dct (ks ++ (done ++ [p])) ix := ⟨_, rfl⟩
        rw [← hD, ← hD'] at pu
        rw [← hD] at gd
        unfold tp at pu gd
        refine ⟨hE T M n D (.vl 0 (.int (k : Int))) (.vl 0 (.int (p.1 : Int))) (.vl 0 (.int (p.2 : Int))), hE T M n D' (.vl 0 (.int (k : Int))) (.vl 0 (.int (p.1 : Int))) (.vl 0 (.int (p.2 : Int))), ?_, .inl ?_, done ++ [p], _, _, by rw [hD'], ⟨rest, rfl, by rw [← hdr]; simp⟩⟩
        · rw [← hD]; simp [hE, tp]
        · simp [l__law_homes_0, hE, x1, x2, gd, pu])
    (ds := l.map tp) (ε := hE T M n (dct (ks ++ []) ix) (.vl 0 (.int (k : Int))) s5 s6) ⟨[], _, _, rfl, ⟨l, rfl, rfl⟩⟩
  rw [List.append_nil] at e
  rw [← hM]
  refine ⟨t5, t6, ?_⟩
  rw [e]
  cases rest with
  | nil => rw [List.append_nil] at hdr; rw [hdr]
  | cons x y => cases hre
theorem lhomes_ok (N : Nums n g tl F ix) (ht : m__law_ties [mat n g] = .ok (prs tl) [.non]) : m__law_homes [.tup (F.map ptp), mat n g] = .ok (dct F.flatten ix) [.non, .non] := by
  have nd := flat_nd N.toClF
  have ln := flat_len N.w N.toClF
  have kl := N.w.bth_le
  have hn := N.w.n2
  have fl : F.length ≤ 1600 := by
    have h1 : F.length ≤ F.flatten.length := by
      have : ∀ G : List (List (Nat × Nat)), (∀ l ∈ G, l ≠ []) → G.length ≤ G.flatten.length := by
        intro G
        induction G with
        | nil => intro _; simp
        | cons l G ih =>
          intro h
          have := ih fun m hm => h m (List.mem_cons_of_mem _ hm)
          have hl : 0 < l.length := List.length_pos_iff.mpr (h l List.mem_cons_self)
          simp only [List.flatten_cons, List.length_cons, List.length_append]
          omega
      exact this F N.ne
    omega
  obtain ⟨T, hT⟩ : ∃ T, T = Dt.tup (F.map ptp) := ⟨_, rfl⟩
  obtain ⟨ε', e, done, t4, t5, t6, rfl, hdl, ⟨rest, hdr⟩⟩ := loop_range (t := gSet 4 0) (body := l__law_homes_1) (lo := 0) (n := F.length) (fun i ε => ∃ (done : List (List (Nat × Nat))) (t4 t5 t6 : Sl), ε = hE T (mat n g) n (dct done.flatten ix) t4 t5 t6 ∧ done.length = i ∧ ∃ rest, done ++ rest = F)
    (by
      rintro i ε hi ⟨done, t4, t5, t6, rfl, hdl, ⟨rest, hdr⟩⟩
      cases rest with
      | nil => rw [List.append_nil] at hdr; rw [hdr] at hdl; omega
      | cons l rest =>
        subst hdl
        have hF : F.flatten = (done.flatten ++ l) ++ rest.flatten := by rw [← hdr]; simp
        have el : F[done.length]? = some l := by rw [← hdr]; simp
        have hl := N.at_ _ l el
        rw [hF] at nd ln
        rw [List.length_append] at ln
        obtain ⟨u5, u6, e1⟩ := homes_in (T := T) (k := done.length) (s5 := t5) (s6 := t6) (fun p hp => (hl p hp).1) (List.nodup_append.mp nd).1 (by omega) fun p hp => (hl p hp).2
        have lp := lpairs_ok n l (N.pw l (List.mem_of_getElem? el)) fun p hp => by
          have t := (hl p hp).1
          exact ⟨t.1, t.2.1, t.ne N.w⟩
        have x1 := ix_FT el
        rw [← hT] at x1
        refine ⟨hE T (mat n g) n (dct done.flatten ix) (.vl 0 (.int (done.length : Int))) t5 t6, _, ?_, .inl ?_, done ++ [l], .vl 0 (.int (done.length : Int)), u5, u6, rfl, by simp, ⟨rest, by rw [← hdr]; simp⟩⟩
        · obtain ⟨D, hD⟩ : ∃ L, L = dct done.flatten ix := ⟨_, rfl⟩
          rw [← hD]; simp [hE]
        · obtain ⟨M, hM⟩ : ∃ L, L = mat n g := ⟨_, rfl⟩
          obtain ⟨D, hD⟩ : ∃ L, L = dct done.flatten ix := ⟨_, rfl⟩
          obtain ⟨D', hD'⟩ : ∃ L, L = dct (done.flatten ++ l) ix := ⟨_, rfl⟩
          have ef : (done ++ [l]).flatten = done.flatten ++ l := by simp
          rw [ef]
          rw [← hM, ← hD, ← hD'] at e1
          rw [← hM, ← hD, ← hD']
          obtain ⟨L, hL⟩ : ∃ L, L = ptp l := ⟨_, rfl⟩
          have it : itA L (hE T M n D (.vl 0 (.int (done.length : Int))) t5 t6) = .ok (l.map tp) (hE T M n D (.vl 0 (.int (done.length : Int))) t5 t6) := by rw [hL]; rfl
          unfold ptp at hL
          rw [← hL] at lp
          unfold ptp at x1
          rw [← hL] at x1
          have q1 : (sIf (mNot (mTru (mCall [none, none] m__law_pairs (mCons (mOp fIx (mVar 0) (mVar 4)) (mCons (mVar 2) mNil))))) (sRet (mSc .non)) sNx) (hE T M n D (.vl 0 (.int (done.length : Int))) t5 t6) = .nx (hE T M n D (.vl 0 (.int (done.length : Int))) t5 t6) := by
            simp [hE, x1, lp]
          have q2 : (mIterA (mOp fIx (mVar 0) (mVar 4))) (hE T M n D (.vl 0 (.int (done.length : Int))) t5 t6) = .ok (l.map tp) (hE T M n D (.vl 0 (.int (done.length : Int))) t5 t6) := by
            rw [← it]
            simp [hE, x1]
          unfold l__law_homes_1
          rw [q_seq, q1, q_s1, q_for, q2, q_o1, e1])
    (ε := hE T (mat n g) n (dct ([] : List (List (Nat × Nat))).flatten ix) .un .un .un) ⟨[], _, _, _, rfl, rfl, ⟨F, rfl⟩⟩
  have hdF : done = F := by
    have := congrArg List.length hdr
    rw [List.length_append, hdl] at this
    have : rest = [] := List.eq_nil_of_length_eq_zero (by omega)
    rw [this, List.append_nil] at hdr
    exact hdr
  rw [hdF] at e
  obtain ⟨M, hM⟩ : ∃ L, L = mat n g := ⟨_, rfl⟩
  have lm : bLen M = some (.sc (.int n)) := by rw [hM]; exact len_mat
  have lT : bLen T = some (.sc (.int (F.length : Int))) := by rw [hT, f_lenT, List.length_map]
  have lD := len_dct (ks := F.flatten) (h := ix)
  have lp := len_prs (l := tl)
  rw [ln, bth_len] at lD
  have iT : isiD [tbTy "tuple"] T = some true := by rw [hT]; rfl
  obtain ⟨D, hD⟩ : ∃ L, L = dct F.flatten ix := ⟨_, rfl⟩
  obtain ⟨P, hP⟩ : ∃ L, L = prs tl := ⟨_, rfl⟩
  rw [← hM, ← hD] at e
  rw [← hM, ← hP] at ht
  rw [← hD] at lD
  rw [← hP] at lp
  rw [← hT, ← hM, ← hD]
  have p0 : ∀ k : Ev → So, (sSeq (sAsg (mUn bLen (mVar 1)) (gSet 2 0)) (sSeq (sAsg mNewT (gSet 3 1)) (sSeq (sIf (mNot (mTru (mIsi [(tbTy "tuple")] (mVarD 0)))) (sRet (mSc .non)) sNx) k))) (entry [0, 0] 5 [T, M]) = k (hE T M n (dct ([] : List (List (Nat × Nat))).flatten ix) .un .un .un) := fun k => by
    simp [lm, iT, hE]
    rfl
  have it : (mRange1 (mCons (mUn bLen (mVar 0)) mNil)) (hE T M n (dct ([] : List (List (Nat × Nat))).flatten ix) .un .un .un) = .ok (rangeD 0 F.length) (hE T M n (dct ([] : List (List (Nat × Nat))).flatten ix) .un .un .un) := by
    obtain ⟨D, hD⟩ : ∃ L, L = dct ([] : List (List (Nat × Nat))).flatten ix := ⟨_, rfl⟩
    rw [← hD]
    have r : rg1 (some (F.length : Int)) (hE T M n D .un .un .un) = .ok (rangeD 0 F.length) (hE T M n D .un .un .un) := by
      have := rg1_ok (ε := hE T M n D .un .un .un) (smallR_nat (n := F.length) (by omega))
      simpa using this
    simp [hE, lT]
    exact r
  have ml : fMul (.int 2) (.int (tl.length : Int)) = some (.sc (.int (2 * (tl.length : Int)))) := f_mulL (by omega) (by omega)
  have p3 : ∀ k : Ev → So, (sSeq (sIf (mB (mOpD fNe (mUn bLenT (mVarB 3)) (mOp fMul (mSc (.int 2)) (mUn bLen (mCall [none] m__law_ties (mCons (mVar 1) mNil)))))) (sRet (mSc .non)) sNx) k) (hE T M n D t4 t5 t6) = k (hE T M n D t4 t5 t6) := fun k => by
    simp [hE, lD, ht, lp, ml]
  unfold m__law_homes
  rw [q_fn]
  unfold b__law_homes
  rw [p0, q_seq, q_for, it, q_o1, e, q_s1, p3]
  simp [hE]
/-- Gallai's triangle: arrows of a class, seen from a third thing -/
theorem triangle (w : Wb n g tl) (hab : Tie g n (a, b)) (hac : Tie g n (a, c)) (h1 : ¬ Cls g n (b, c) (a, c)) (h2 : ¬ Cls g n (b, c) (b, a)) {p : Nat × Nat} (hbc : Tie g n (b, c)) (h : Cls g n (b, c) p) :
    p.1 ≠ a ∧ p.2 ≠ a ∧ g a p.1 = 1 ∧ g a p.2 = 1 ∧ Cls g n (a, b) (a, p.1) ∧ Cls g n (a, c) (a, p.2) := by
  obtain ⟨k, h⟩ := h
  have ha := hab.1
  simp only [] at ha
  induction h with
  | zero => exact ⟨fun z => hab.ne w z.symm, fun z => hac.ne w z.symm, hab.2.2, hac.2.2, .refl _, .refl _⟩
  | @succ k u v hw hr ih =>
    obtain ⟨x, y⟩ := u
    obtain ⟨i1, i2, i3, i4, i5, i6⟩ := ih
    simp only [] at i1 i2 i3 i4 i5 i6
    have tu := wlk_tie w hbc hw
    simp only [] at tu
    have cu : Cls g n (b, c) v := ⟨_, .succ hw hr⟩
    have gs : ∀ i j, i < n → j < n → g i j = g j i := fun i j hi hj => (w.gr i j hi hj).2.1
    have tax : Tie g n (a, x) := ⟨ha, tu.1, i3⟩
    have no1 : ¬ Cls g n (b, c) (x, a) := fun z => h2 (z.trans ((i5.symm w hab).turn w tax))
    have no2 : ¬ Cls g n (b, c) (a, y) := fun z => h1 (z.trans (i6.symm w hac))
    obtain ⟨d, e⟩ := v
    rcases mem_fnd.mp hr with ⟨rfl, m1, m2, m3, m4⟩ | ⟨rfl, m1, m2, m3, m4⟩
    · have ne : e ≠ a := fun z => no1 (by rw [← z]; exact cu)
      have ga : g a e = 1 := by
        by_cases c0 : g a e = 1
        · exact c0
        · exfalso
          refine no1 (cu.trans (Cls.one (mem_fnd.mpr (.inl ⟨rfl, ha, fun z => ne z.symm, ?_, ?_⟩))))
          · rw [← gs a d ha tu.1]; exact i3
          · rw [← gs a e ha m1]; exact c0
      exact ⟨i1, ne, i3, ga, i5, i6.trans (Cls.one (mem_fnd.mpr (.inl ⟨rfl, m1, m2, ga, m4⟩)))⟩
    · have ne : d ≠ a := fun z => no2 (by rw [← z]; exact cu)
      have ga : g a d = 1 := by
        by_cases c0 : g a d = 1
        · exact c0
        · exfalso
          refine no2 (cu.trans (Cls.one (mem_fnd.mpr (.inr ⟨rfl, ha, fun z => ne z.symm, i4, ?_⟩))))
          rw [← gs a d ha m1]; exact c0
      exact ⟨ne, i2, ga, i4, i5.trans (Cls.one (mem_fnd.mpr (.inl ⟨rfl, m1, m2, ga, m4⟩))), i6⟩
end
end Mir

set_option Elab.async false
set_option linter.all false
set_option maxRecDepth 100000
set_option maxHeartbeats 1600000
/-! The law's triangles. -/
namespace Mir
open PySem PySem.Spec PyProof.Rows L2 He PySem.W
section
variable {n : Nat} {g : Nat → Nat → Int} {tl : List (Nat × Nat)} {F : List (List (Nat × Nat))} {ix : Nat × Nat → Nat} {a b c : Nat}
def tE (M T D : Dt) (a b c h : Nat) (s7 s8 : Sl) : Ev := [.vl 0 M, .vl 0 T, .vl 0 D, .vl 0 (.int (a : Int)), .vl 0 (.int (b : Int)), .vl 0 (.int (c : Int)), .vl 0 (.int (h : Int)), s7, s8]
theorem Nums.get2 (N : Nums n g tl F ix) {x y : Nat} (hp : Tie g n (x, y)) : getD? (dct F.flatten ix) (.tup [.int (x : Int), .int (y : Int)]) = some (some (.int (ix (x, y) : Int))) := N.get hp
theorem one_triangle_ok (N : Nums n g tl F ix) (hab : Tie g n (a, b)) (hac : Tie g n (a, c)) (hbc : Tie g n (b, c)) :
    m__law_one_triangle [mat n g, .tup (F.map ptp), dct F.flatten ix, .int (a : Int), .int (b : Int), .int (c : Int)] = .ok (.bl true) [.non, .non, .non, .non, .non, .non] := by
  have ga := N.get2 hab
  have gc := N.get2 hac
  have gb := N.get2 hbc
  have gba := N.get2 (hab.turn N.w)
  simp only [] at gba
  have gg : ∀ {x y : Nat}, Tie g n (x, y) → getD? (dct F.flatten ix) (.tup [.int (x : Int), .int (y : Int)]) = some (some (.int (ix (x, y) : Int))) := fun h => N.get2 h
  have w := N.w
  obtain ⟨M, hM⟩ : ∃ M, M = mat n g := ⟨_, rfl⟩
  obtain ⟨T, hT⟩ : ∃ M, M = Dt.tup (F.map ptp) := ⟨_, rfl⟩
  obtain ⟨D, hD⟩ : ∃ M, M = dct F.flatten ix := ⟨_, rfl⟩
  rw [← hD] at ga gc gb gba gg
  rw [← hM, ← hT, ← hD]
  have p0 : ∀ k : Ev → So, (sSeq (sAsg (mDGet (mVar 2) (mTup (mCons (mVar 4) (mCons (mVar 5) mNil)))) (gSet 6 0)) k) (entry [0, 0, 0, 0, 0, 0] 3 [M, T, D, .int (a : Int), .int (b : Int), .int (c : Int)]) = k (tE M T D a b c (ix (b, c)) .un .un) := fun k => by
    simp [gb, tE]
  unfold m__law_one_triangle
  rw [q_fn]
  unfold b__law_one_triangle
  rw [p0]
  obtain ⟨h, hh⟩ : ∃ h, h = ix (b, c) := ⟨_, rfl⟩
  rw [← hh]
  by_cases c1 : ix (a, c) = h
  · simp [tE, gc, c1]
  · by_cases c2 : ix (b, a) = h
    · simp [tE, gc, gba, c1, c2]
    · have h1 : ¬ Cls g n (b, c) (a, c) := fun z => c1 (by rw [hh]; exact ((N.eq _ _ hbc hac).mpr z).symm)
      have h2 : ¬ Cls g n (b, c) (b, a) := fun z => c2 (by rw [hh]; exact ((N.eq _ _ hbc (hab.turn w)).mpr z).symm)
      have p1 : ∀ k : Ev → So, (sSeq (sIf (mOr (mB (mOpD fEq (mDGet (mVar 2) (mTup (mCons (mVar 3) (mCons (mVar 5) mNil)))) (mVarD 6))) (mB (mOpD fEq (mDGet (mVar 2) (mTup (mCons (mVar 4) (mCons (mVar 3) mNil)))) (mVarD 6)))) (sRet (mSc (.bl true))) sNx) k) (tE M T D a b c h .un .un) = k (tE M T D a b c h .un .un) := fun k => by
        simp [tE, gc, gba, show ¬ ((ix (a, c) : Int) = h) by omega, show ¬ ((ix (b, a) : Int) = h) by omega]
      rw [p1]
      obtain ⟨l, hl, _⟩ := N.all (b, c) hbc
      rw [← hh] at hl
      obtain ⟨ε', e, s7, s8, rfl, _⟩ := loop_ind (t := gUnp (gMore (gSet 7 0) (gMore (gSet 8 0) gNone))) (body := l__law_one_triangle_0) (fun ds ε => ∃ s7 s8, ε = tE M T D a b c h s7 s8 ∧ ∃ rest : List (Nat × Nat), ds = rest.map tp ∧ ∀ p ∈ rest, p ∈ l)
        (by
          rintro d r ε ⟨s7, s8, rfl, rest, hds, hr⟩
          cases rest with
          | nil => cases hds
          | cons p rest =>
            obtain ⟨rfl, rfl⟩ := List.cons.inj hds
            obtain ⟨x, y⟩ := p
            have hp := hr (x, y) List.mem_cons_self
            have hc : Cls g n (b, c) (x, y) := (N.mem hbc (by rw [← hh]; exact hl)).mp hp
            have tie := hc.tie w hbc
            obtain ⟨t1, t2, t3, t4, t5, t6⟩ := triangle w hab hac h1 h2 hbc hc
            simp only [] at t1 t2 t3 t4 t5 t6
            have tx : Tie g n (a, x) := ⟨hab.1, tie.1, t3⟩
            have ty : Tie g n (a, y) := ⟨hab.1, tie.2.1, t4⟩
            have e5 : ix (a, x) = ix (a, b) := ((N.eq _ _ hab tx).mpr t5).symm
            have e6 : ix (a, y) = ix (a, c) := ((N.eq _ _ hac ty).mpr t6).symm
            have x1 := ix_mat (g := g) hab.1
            have x2 := ix_row (f := g a) tie.1
            have x3 := ix_row (f := g a) tie.2.1
            simp only [] at x1 x2 x3
            rw [t3] at x2
            rw [t4] at x3
            rw [← hM] at x1
            obtain ⟨R, hR⟩ : ∃ R, R = row n (g a) := ⟨_, rfl⟩
            rw [← hR] at x1 x2 x3
            refine ⟨tE M T D a b c h (.vl 0 (.int (x : Int))) (.vl 0 (.int (y : Int))), tE M T D a b c h (.vl 0 (.int (x : Int))) (.vl 0 (.int (y : Int))), by simp [tE, tp], .inl ?_, _, _, rfl, rest, rfl, fun p hp => hr p (List.mem_cons_of_mem _ hp)⟩
            simp [l__law_one_triangle_0, tE, show ¬ ((x : Int) = a) by omega, show ¬ ((y : Int) = a) by omega, x1, x2, x3, gg tx, gg ty, ga, gc, e5, e6])
        (ds := l.map tp) (ε := tE M T D a b c h .un .un) ⟨_, _, rfl, l, rfl, fun p hp => hp⟩
      have x1 := ix_FT hl
      rw [← hT] at x1
      have it : (mIterA (mOp fIx (mVar 1) (mVar 6))) (tE M T D a b c h .un .un) = .ok (l.map tp) (tE M T D a b c h .un .un) := by
        have il : itA (ptp l) (tE M T D a b c h .un .un) = .ok (l.map tp) (tE M T D a b c h .un .un) := rfl
        obtain ⟨L, hL⟩ : ∃ L, L = ptp l := ⟨_, rfl⟩
        rw [← hL] at il x1
        rw [← il]
        simp [tE, x1]
      rw [q_seq, q_for, it, q_o1, e, q_s1]
      simp [tE]
/-! a lot as told -/
theorem ints_ok (n : Nat) (l : List Nat) (h : ∀ x ∈ l, x < n) : m__law_ints [.tup (l.map fun i : Nat => .int (i : Int)), .int (n : Int)] = .ok (.bl true) [.non, .non] := by
  obtain ⟨L, hL⟩ : ∃ L, L = Dt.tup (l.map fun i : Nat => .int (i : Int)) := ⟨_, rfl⟩
  obtain ⟨ε', e, s2, rfl, _⟩ := loop_ind (t := gSet 2 0) (body := l__law_ints_0) (fun ds ε => ∃ s2, ε = [.vl 0 L, .vl 0 (.int (n : Int)), s2] ∧ ∃ rest : List Nat, ds = itd rest ∧ ∀ x ∈ rest, x < n)
    (by
      rintro d r ε ⟨s2, rfl, rest, hds, hr⟩
      cases rest with
      | nil => cases hds
      | cons x rest =>
        have hds : d :: r = Dt.int (x : Int) :: itd rest := hds
        obtain ⟨rfl, rfl⟩ := List.cons.inj hds
        have hx := hr x List.mem_cons_self
        refine ⟨[.vl 0 L, .vl 0 (.int (n : Int)), .vl 0 (.int (x : Int))], [.vl 0 L, .vl 0 (.int (n : Int)), .vl 0 (.int (x : Int))], by simp, .inl ?_, _, rfl, rest, rfl, fun p hp => hr p (List.mem_cons_of_mem _ hp)⟩
        simp [l__law_ints_0, lint_ok, show ¬ ((x : Int) < 0) by omega, show ¬ ((n : Int) ≤ x) by omega])
    (ds := itd l) (ε := [.vl 0 L, .vl 0 (.int (n : Int)), .un]) ⟨_, rfl, l, rfl, h⟩
  have iL : isiD [tbTy "tuple"] L = some true := by rw [hL]; rfl
  have it : itT L [.vl 0 L, .vl 0 (.int (n : Int)), .un] = .ok (itd l) [.vl 0 L, .vl 0 (.int (n : Int)), .un] := by rw [hL]; rfl
  rw [← hL]
  simp [m__law_ints, b__law_ints, iL, it, e]
theorem lot_ok (n : Nat) (l : List Nat) (h : ∀ x ∈ l, x < n) (hp : l.Pairwise (· < ·)) (hn : n ≤ 1000) : m__law_lot [.tup (l.map fun i : Nat => .int (i : Int)), .int (n : Int)] = .ok (.bl true) [.non, .non] := by
  have li := ints_ok n l h
  have len : l.length ≤ n := len_lt (hp.imp fun h => by omega) h
  have lx : ∀ i, i < l.length → ∃ x, l[i]? = some x ∧ fIx (.tup (l.map fun i : Nat => .int (i : Int))) (.int (i : Int)) = some (.el (.int (x : Int))) := fun i hi => ⟨l[i], List.getElem?_eq_getElem hi, ix_tup (by rw [List.getElem?_map, List.getElem?_eq_getElem hi]; rfl)⟩
  obtain ⟨L, hL⟩ : ∃ L, L = Dt.tup (l.map fun i : Nat => .int (i : Int)) := ⟨_, rfl⟩
  have lL : bLen L = some (.sc (.int (l.length : Int))) := by rw [hL, f_lenT, List.length_map]
  rw [← hL] at li lx ⊢
  obtain ⟨ε', e, s2, rfl⟩ := loop_range (t := gSet 2 0) (body := l__law_lot_0) (lo := ((0 : Nat) : Int) + 1) (n := l.length - (0 + 1)) (fun i ε => ∃ s2, ε = [.vl 0 L, .vl 0 (.int (n : Int)), s2])
    (by
      rintro i ε hi ⟨s2, rfl⟩
      obtain ⟨x, ex, fx⟩ := lx i (by omega)
      obtain ⟨y, ey, fy⟩ := lx (i + 1) (by omega)
      have hxy : x < y := by
        obtain ⟨hi1, rfl⟩ := List.getElem?_eq_some_iff.mp ex
        obtain ⟨hi2, rfl⟩ := List.getElem?_eq_some_iff.mp ey
        exact List.pairwise_iff_getElem.mp hp i (i + 1) hi1 hi2 (by omega)
      refine ⟨[.vl 0 L, .vl 0 (.int (n : Int)), .vl 0 (.int ((i + 1 : Nat) : Int))], [.vl 0 L, .vl 0 (.int (n : Int)), .vl 0 (.int ((i + 1 : Nat) : Int))], ?_, .inl ?_, _, rfl⟩
      · simp
        omega
      · have e1 : ((i + 1 : Nat) : Int) - 1 = (i : Int) := by omega
        obtain ⟨j, hj⟩ : ∃ j : Int, j = ((i + 1 : Nat) : Int) := ⟨_, rfl⟩
        rw [← hj] at e1 fy ⊢
        simp [l__law_lot_0, e1, fx, fy, show ¬ ((y : Int) ≤ x) by omega])
    (ε := [.vl 0 L, .vl 0 (.int (n : Int)), .un]) ⟨_, rfl⟩
  have r := fun ε => congrFun (rg2N (a := 0) (n := l.length) (by omega) (by omega)) ε
  have z1 : (((0 : Nat) : Int) + 1, (l.length : Int)) = (1, (l.length : Int)) := by simp
  rw [z1] at r
  simp [m__law_lot, b__law_lot, li, lL, r]
  simp at e
  rw [e]
  simp
end
end Mir

set_option Elab.async false
set_option linter.all false
set_option maxRecDepth 100000
set_option maxHeartbeats 1600000
/-! A drawn triangle; a thing tied to all. -/
namespace Mir
open PySem PySem.Spec PyProof.Rows L2 He PySem.W
theorem ne_bl2 (x y : Bool) : fNe (.lst [.bl x, .bl y]) (.lst [.bl x, .bl y]) = some (.bl false) := by
  have h : shp (.lst [.bl x, .bl y]) = some (.list [.bool x, .bool y]) := by
    refine shp_of rfl ?_
    simp [SeqAt.shaped, PyData.canLay0, PyData.canLayAll0, PyData.depth, PyData.depthAll]
  unfold fNe
  rw [h]
  simp [PyData.eqv, PyData.eqvAll]
theorem any_bl2 (x y : Bool) : bAny (.lst [.bl x, .bl y]) = some (.sc (.bl (x || y))) := by
  have : blsD ([x, y].map Dt.bl) = some [x, y] := blsD_map [x, y]
  have : blsD [.bl x, .bl y] = some [x, y] := this
  simp [bAny, fAny, this]
theorem all_bl2 (x y : Bool) : bAll (.lst [.bl x, .bl y]) = some (.sc (.bl (x && y))) := by
  have : blsD ([x, y].map Dt.bl) = some [x, y] := blsD_map [x, y]
  have : blsD [.bl x, .bl y] = some [x, y] := this
  simp [bAll, fAll, this]
def tr3 (t : Nat × Nat × Nat) : Dt := .tup [.int (t.1 : Int), .int (t.2.1 : Int), .int (t.2.2 : Int)]
def Tri (g : Nat → Nat → Int) (n : Nat) (t : Nat × Nat × Nat) : Prop := Tie g n (t.1, t.2.1) ∧ Tie g n (t.1, t.2.2) ∧ Tie g n (t.2.1, t.2.2)
section
variable {n : Nat} {g : Nat → Nat → Int} {tl : List (Nat × Nat)} {F : List (List (Nat × Nat))} {ix : Nat × Nat → Nat} {a b c : Nat}
theorem drawn_triangle_ok (N : Nums n g tl F ix) (hn : n ≤ 31) (R : List (Nat × Nat × Nat)) (hR : ∀ t ∈ R, Tri g n t) (h0 : 0 < R.length) (dl : List Int) :
    ∃ dl', m__law_drawn_triangle [dr dl, wb n tl, mat n g, dct F.flatten ix, .lst (R.map tr3)] = .ok (.bl true) [dr dl', .non, .non, .non, .non] := by
  obtain ⟨r, dl', t1, hr⟩ := takeN dl R.length h0
  refine ⟨dl', ?_⟩
  obtain ⟨t, ht⟩ : ∃ t, t = R[r] := ⟨_, rfl⟩
  have tri := hR t (by rw [ht]; exact List.getElem_mem _)
  obtain ⟨a, b, c⟩ := t
  obtain ⟨hab, hac, hbc⟩ := tri
  simp only [] at hab hac hbc
  have w := N.w
  have hba := hab.turn w
  simp only [] at hba
  obtain ⟨l, hl, hml⟩ := N.all (b, c) hbc
  have s1 := same_ok N (d := .tup [.int (b : Int), .int (c : Int)]) (d' := .tup [.int (a : Int), .int (c : Int)]) Pr2.t Pr2.t hbc hac
  have s2 := same_ok N (d := .tup [.int (b : Int), .int (c : Int)]) (d' := .lst [.int (b : Int), .int (a : Int)]) Pr2.t Pr2.l hbc hba
  have lc := lclass_eq N hn hbc hl
  have i1 := in_prs (a, c) l
  have i2 := in_prs (b, a) l
  have d1 : decide ((a, c) ∈ l) = decide (ix (b, c) = ix (a, c)) := decide_eq_decide.mpr (by rw [N.mem hbc hl, N.eq _ _ hbc hac])
  have d2 : decide ((b, a) ∈ l) = decide (ix (b, c) = ix (b, a)) := decide_eq_decide.mpr (by rw [N.mem hbc hl, N.eq _ _ hbc hba])
  rw [d1] at i1
  rw [d2] at i2
  obtain ⟨ts, tt, tp1, tp2, tp3⟩ := touched_ok N (d := .tup [.int (b : Int), .int (c : Int)]) Pr2.t hbc hl
  have lo := lot_ok n ts tp2 tp1 (by omega)
  have ia := in_ntt true a ts
  have g1 := N.get2 hab
  have g2 := N.get2 hbc
  obtain ⟨x, hx⟩ : ∃ x, x = decide (ix (b, c) = ix (a, c)) := ⟨_, rfl⟩
  obtain ⟨y, hy⟩ : ∃ x, x = decide (ix (b, c) = ix (b, a)) := ⟨_, rfl⟩
  rw [← hx] at s1 i1
  rw [← hy] at s2 i2
  -- no due: the class does not touch a
  have far : x = false → y = false → a ∉ ts ∧ ix (a, b) ≠ ix (b, c) := fun hx0 hy0 => by
    rw [hx0] at hx
    rw [hy0] at hy
    have n1 : ¬ Cls g n (b, c) (a, c) := fun z => of_decide_eq_false hx.symm ((N.eq _ _ hbc hac).mpr z)
    have n2 : ¬ Cls g n (b, c) (b, a) := fun z => of_decide_eq_false hy.symm ((N.eq _ _ hbc hba).mpr z)
    refine ⟨fun z => ?_, fun z => ?_⟩
    · obtain ⟨p, hp, hpa⟩ := (tp3 a).mp z
      have tr := triangle w hab hac n1 n2 hbc ((N.mem hbc hl).mp hp)
      rcases hpa with hpa | hpa
      · exact tr.1 hpa.symm
      · exact tr.2.1 hpa.symm
    · have tr := triangle w hab hac n1 n2 hbc ((N.eq _ _ hbc hab).mp z.symm)
      exact tr.1 rfl
  clear hx hy d1 d2
  obtain ⟨W, hW⟩ : ∃ W, W = wb n tl := ⟨_, rfl⟩
  obtain ⟨M, hM⟩ : ∃ W, W = mat n g := ⟨_, rfl⟩
  obtain ⟨D, hD⟩ : ∃ W, W = dct F.flatten ix := ⟨_, rfl⟩
  obtain ⟨Q, hQ⟩ : ∃ W, W = Dt.lst (R.map tr3) := ⟨_, rfl⟩
  obtain ⟨P, hP⟩ : ∃ W, W = prs l := ⟨_, rfl⟩
  obtain ⟨S, hS⟩ : ∃ W, W = Dt.tup (ts.map fun i : Nat => .int (i : Int)) := ⟨_, rfl⟩
  have lm : bLen M = some (.sc (.int n)) := by rw [hM]; exact len_mat
  have lQ : bLen Q = some (.sc (.int (R.length : Int))) := by rw [hQ, f_lenL, List.length_map]
  have iQ : fIx Q (.int (r : Int)) = some (.el (.tup [.int (a : Int), .int (b : Int), .int (c : Int)])) := by
    rw [hQ]
    refine ix_lst ?_
    rw [List.getElem?_map, List.getElem?_eq_getElem hr, ← ht]
    rfl
  unfold tp at lc i1 i2
  simp only [] at lc i1 i2
  rw [← hW] at s1 s2 tt
  rw [← hM, ← hP] at lc
  rw [← hP] at i1 i2
  rw [← hS] at tt lo ia
  rw [← hD] at g1 g2
  rw [← hW, ← hM, ← hD, ← hQ]
  have p1 : ∀ k : Ev → So, (sSeq (sAsg (mOp fIx (mVar 4) (mCall [some (0, 1), none] m__law_take (mCons (mOwn 0) (mCons (mUn bLen (mVar 4)) mNil)))) (gUnp (gMore (gSet 5 0) (gMore (gSet 6 0) (gMore (gSet 7 0) gNone))))) k) (entry [1, 0, 0, 0, 0] 7 [dr dl, W, M, D, Q]) = k [.vl 1 (dr dl'), .vl 0 W, .vl 0 M, .vl 0 D, .vl 0 Q, .vl 0 (.int (a : Int)), .vl 0 (.int (b : Int)), .vl 0 (.int (c : Int)), .un, .un, .un, .un] := fun k => by
    simp [lQ, t1, iQ]
  have nb := ne_bl2 x y
  have ab := any_bl2 x y
  have al := all_bl2 true true
  obtain ⟨E, hE⟩ : ∃ E : Ev, E = [.vl 1 (dr dl'), .vl 0 W, .vl 0 M, .vl 0 D, .vl 0 Q, .vl 0 (.int (a : Int)), .vl 0 (.int (b : Int)), .vl 0 (.int (c : Int)), .vl 0 (.lst [.bl x, .bl y]), .vl 0 (.lst [.bl x, .bl y]), .un, .un] := ⟨_, rfl⟩
  have cb : (mComp [11] (mIter (mVar 8)) (gSet 11 0) mYes e__law_drawn_triangle_0) E = .ok (.lst [.bl true, .bl true]) E := by
    rw [hE, q_comp]
    have e0 : (mIter (mVar 8)) [.vl 1 (dr dl'), .vl 0 W, .vl 0 M, .vl 0 D, .vl 0 Q, .vl 0 (.int (a : Int)), .vl 0 (.int (b : Int)), .vl 0 (.int (c : Int)), .vl 0 (.lst [.bl x, .bl y]), .vl 0 (.lst [.bl x, .bl y]), .un, .un] = .ok ([x, y].map Dt.bl) [.vl 1 (dr dl'), .vl 0 W, .vl 0 M, .vl 0 D, .vl 0 Q, .vl 0 (.int (a : Int)), .vl 0 (.int (b : Int)), .vl 0 (.int (c : Int)), .vl 0 (.lst [.bl x, .bl y]), .vl 0 (.lst [.bl x, .bl y]), .un, .un] := rfl
    rw [e0, q_b1]
    have hc : compL [11] (gSet 11 0) mYes e__law_drawn_triangle_0 ([x, y].map Dt.bl) [] [.vl 1 (dr dl'), .vl 0 W, .vl 0 M, .vl 0 D, .vl 0 Q, .vl 0 (.int (a : Int)), .vl 0 (.int (b : Int)), .vl 0 (.int (c : Int)), .vl 0 (.lst [.bl x, .bl y]), .vl 0 (.lst [.bl x, .bl y]), .un, .un] = .ok ([] ++ [x, y].map fun _ => Dt.bl true) [.vl 1 (dr dl'), .vl 0 W, .vl 0 M, .vl 0 D, .vl 0 Q, .vl 0 (.int (a : Int)), .vl 0 (.int (b : Int)), .vl 0 (.int (c : Int)), .vl 0 (.lst [.bl x, .bl y]), .vl 0 (.lst [.bl x, .bl y]), .un, .un] :=
      compL_mapf Dt.bl (fun _ => Dt.bl true) (fun z _ => by
        have ib : isiD [tbTy "bool"] (.bl z) = some true := isi_bb
        exact ⟨[.vl 1 (dr dl'), .vl 0 W, .vl 0 M, .vl 0 D, .vl 0 Q, .vl 0 (.int (a : Int)), .vl 0 (.int (b : Int)), .vl 0 (.int (c : Int)), .vl 0 (.lst [.bl x, .bl y]), .vl 0 (.lst [.bl x, .bl y]), .un, .vl 0 (.bl z)], [.vl 1 (dr dl'), .vl 0 W, .vl 0 M, .vl 0 D, .vl 0 Q, .vl 0 (.int (a : Int)), .vl 0 (.int (b : Int)), .vl 0 (.int (c : Int)), .vl 0 (.lst [.bl x, .bl y]), .vl 0 (.lst [.bl x, .bl y]), .un, .vl 0 (.bl z)], by simp, by simp [e__law_drawn_triangle_0, ib], by simp⟩) (by show 2 ≤ sizeLine; exact szN (by omega))
    simp at hc
    simp [hc]
  have fin : ∀ v : Bool, (v = true ∨ (a ∉ ts ∧ ix (a, b) ≠ ix (b, c))) → v = (x || y) → (sRet (mOrV (mUn bAny (mVar 9)) (mAndV (mOpD (fIn true) (mVarD 5) (mVarD 10)) (mOpD fNe (mDGet (mVar 3) (mTup (mCons (mVar 5) (mCons (mVar 6) mNil)))) (mDGet (mVar 3) (mTup (mCons (mVar 6) (mCons (mVar 7) mNil)))))))) (E.set 10 (.vl 0 S)) = .rt (.bl true) (E.set 10 (.vl 0 S)) := fun v hv hve => by
    rw [hE]
    rcases hv with hv | ⟨hv1, hv2⟩
    · rw [hv] at hve
      rw [← hve] at ab
      simp [ab]
    · cases hxy : (x || y) with
      | true =>
        rw [hxy] at ab
        simp [ab]
      | false =>
        rw [hxy] at ab
        have hne : ¬ ((ix (a, b) : Int) = ix (b, c)) := by omega
        rw [decide_eq_false hv1] at ia
        simp [ab, ia, g1, g2, hne]
  have hfin : (x || y) = true ∨ (a ∉ ts ∧ ix (a, b) ≠ ix (b, c)) := by
    cases hx : x with
    | true => exact .inl rfl
    | false => cases hy : y with
      | true => exact .inl rfl
      | false => exact .inr (far hx hy)
  have ef := fin _ hfin rfl
  unfold m__law_drawn_triangle
  rw [q_fn]
  unfold b__law_drawn_triangle
  rw [p1]
  have p2 : ∀ k : Ev → So, (sSeq (sAsg (mLst (mCons (mCall [none, none, none] m_same_class (mCons (mVar 1) (mCons (mTup (mCons (mVar 6) (mCons (mVar 7) mNil))) (mCons (mTup (mCons (mVar 5) (mCons (mVar 7) mNil))) mNil)))) (mCons (mCall [none, none, none] m_same_class (mCons (mVar 1) (mCons (mTup (mCons (mVar 6) (mCons (mVar 7) mNil))) (mCons (mLst (mCons (mVar 6) (mCons (mVar 5) mNil))) mNil)))) mNil))) (gSet 8 0)) (sSeq (sAsg (mLst (mCons (mOpD (fIn false) (mTup (mCons (mVar 5) (mCons (mVar 7) mNil))) (mCall [none, none] m__law_class (mCons (mVar 2) (mCons (mTup (mCons (mVar 6) (mCons (mVar 7) mNil))) mNil)))) (mCons (mOpD (fIn false) (mTup (mCons (mVar 6) (mCons (mVar 5) mNil))) (mCall [none, none] m__law_class (mCons (mVar 2) (mCons (mTup (mCons (mVar 6) (mCons (mVar 7) mNil))) mNil)))) mNil))) (gSet 9 0)) k)) [.vl 1 (dr dl'), .vl 0 W, .vl 0 M, .vl 0 D, .vl 0 Q, .vl 0 (.int (a : Int)), .vl 0 (.int (b : Int)), .vl 0 (.int (c : Int)), .un, .un, .un, .un] = k E := fun k => by
    rw [hE]
    simp [s1, s2, lc, i1, i2]
  rw [p2]
  have p3 : ∀ k : Ev → So, (sSeq (sIf (mOr (mB (mOpD fNe (mVarD 8) (mVarD 9))) (mNot (mTru (mUn bAll (mComp [11] (mIter (mVar 8)) (gSet 11 0) mYes e__law_drawn_triangle_0))))) (sRet (mSc (.bl false))) sNx) k) E = k E := fun k => by
    have c1 : (mB (mOpD fNe (mVarD 8) (mVarD 9))) E = .ok false E := by rw [hE]; simp [nb]
    have c2 : (mNot (mTru (mUn bAll (mComp [11] (mIter (mVar 8)) (gSet 11 0) mYes e__law_drawn_triangle_0)))) E = .ok false E := by simp [cb, al]
    rw [q_seq, q_if, q_or, c1]
    simp only [q_b1, Bool.false_eq_true, if_false, c2, q_o1, q_nx, q_s1]
  rw [p3]
  have p4 : ∀ k : Ev → So, (sSeq (sAsg (mCall [none, none] m_touched (mCons (mVar 1) (mCons (mTup (mCons (mVar 6) (mCons (mVar 7) mNil))) mNil))) (gSet 10 0)) (sSeq (sIf (mNot (mTru (mCall [none, none] m__law_lot (mCons (mVar 10) (mCons (mUn bLen (mVar 2)) mNil))))) (sRet (mSc (.bl false))) sNx) k)) E = k (E.set 10 (.vl 0 S)) := fun k => by
    rw [hE]
    simp [tt, lm, lo]
  rw [p4, ef, hE]
  simp
theorem with_all_g {d : Dt} (hd : isG n d) (hn : n ≤ 90) : ∃ d', m__law_with_all [d] = .ok d' [.non] ∧ isG (n + 1) d' := by
  obtain ⟨g, rfl, hg⟩ := hd
  obtain ⟨tl, et, hm, _, hlen⟩ := ties_spec n (by omega) g
  obtain ⟨M, hM⟩ : ∃ M, M = mat n g := ⟨_, rfl⟩
  have lm : bLen M = some (.sc (.int n)) := by rw [hM]; exact len_mat
  obtain ⟨L, hL⟩ : ∃ L : List (Nat × Nat), L = tl ++ (List.range n).map fun a => (a, n) := ⟨_, rfl⟩
  obtain ⟨d', ed, hd'⟩ := near_g (n + 1) (by omega) L (fun p hp => by
    rw [hL] at hp
    rcases List.mem_append.mp hp with hp | hp
    · obtain ⟨a, b⟩ := p
      have := (hm a b).mp hp
      simp only []
      omega
    · obtain ⟨a, ha, rfl⟩ := List.mem_map.mp hp
      have := List.mem_range.mp ha
      simp only []
      omega)
  refine ⟨d', ?_, hd'⟩
  rw [← hM] at et ⊢
  have hc : compL [2] (gSet 2 0) mYes e__law_with_all_0 ((List.range n).map fun i : Nat => Dt.int (i : Int)) [] [.vl 0 M, .vl 0 (.int (n : Int)), .un] = .ok ([] ++ (List.range n).map fun a => tp (a, n)) [.vl 0 M, .vl 0 (.int (n : Int)), .un] :=
    compL_mapf (fun i : Nat => Dt.int (i : Int)) (fun a => tp (a, n)) (fun x _ => ⟨[.vl 0 M, .vl 0 (.int (n : Int)), .vl 0 (.int (x : Int))], [.vl 0 M, .vl 0 (.int (n : Int)), .vl 0 (.int (x : Int))], by simp, by simp [e__law_with_all_0, tp], by simp⟩) (by simp; exact szN (by omega))
  rw [List.nil_append] at hc
  have ea : fAdd (prs tl) (.lst ((List.range n).map fun a => tp (a, n))) = some (.lst (L.map tp)) := by
    have e1 : prs tl = .lst (tl.map tp) := rfl
    rw [e1, add_lst (by simp; exact Nat.le_trans (Nat.add_le_add hlen (show n ≤ 1000 by omega)) (by decide)), hL, List.map_append, List.map_map]
    rfl
  have eL : Dt.lst (L.map tp) = prs L := rfl
  rw [show ((n + 1 : Nat) : Int) = (n : Int) + 1 by omega] at ed
  have cm : (mComp [2] (mRange1 (mCons (mVar 1) mNil)) (gSet 2 0) mYes e__law_with_all_0) [.vl 0 M, .vl 0 (.int (n : Int)), .un] = .ok (.lst ((List.range n).map fun a => tp (a, n))) [.vl 0 M, .vl 0 (.int (n : Int)), .un] := by
    rw [q_comp]
    have e0 : (mRange1 (mCons (mVar 1) mNil)) [.vl 0 M, .vl 0 (.int (n : Int)), .un] = .ok ((List.range n).map fun i : Nat => Dt.int (i : Int)) [.vl 0 M, .vl 0 (.int (n : Int)), .un] := by
      simp [rgN (show n ≤ 1000 by omega), rangeD_nts]
    rw [e0, q_b1]
    have w0 : wipeE [.vl 0 M, .vl 0 (.int (n : Int)), .un] [2] = [.vl 0 M, .vl 0 (.int (n : Int)), .un] := rfl
    rw [w0, hc]
    rfl
  obtain ⟨A, hA⟩ : ∃ A, A = Dt.lst ((List.range n).map fun a => tp (a, n)) := ⟨_, rfl⟩
  obtain ⟨P, hP⟩ : ∃ A, A = prs tl := ⟨_, rfl⟩
  obtain ⟨Q, hQ⟩ : ∃ A, A = L.map tp := ⟨_, rfl⟩
  rw [← hA] at ea cm
  rw [← hP] at ea et
  rw [← eL] at ed
  rw [← hQ] at ea ed
  simp [m__law_with_all, b__law_with_all, lm, et, cm, ea, ed]
end
end Mir

set_option Elab.async false
set_option linter.all false
set_option maxRecDepth 100000
set_option maxHeartbeats 3200000
/-! k10: the law is true. -/
namespace Mir
open PySem PySem.Spec PyProof.Rows L2 He PySem.W
def mk1 (ε : Ev) (r : Fo) : Rs Dt := match r with
  | .ok d (o :: _) => (match d with
    | .non => .ok o ε
    | _ => .no)
  | .ok _ [] => .no
  | .er x _ => .er x ε
  | .no => .no
theorem q_make {c : Str} {F : List Dt → Fo} {fa : Ev → Rs (List Dt)} {ε : Ev} : mMake c F fa ε = (fa ε).bind fun ds ε1 => mk1 ε1 (F (.ins c [] [] :: ds)) := by
  unfold mMake mk1
  rfl
@[simp] theorem q_mk1 {o : Dt} {r : List Dt} {ε : Ev} : mk1 ε (.ok .non (o :: r)) = .ok o ε := id rfl
/-- the law's names: script, draws, square, size, ties, web, told, homes, rows, .. -/
def wE (S U M : Dt) (n : Nat) (P W T D Q : Dt) (k : Nat) (s9 s10 s11 s12 s13 : Sl) : Ev := [.vl 0 S, .vl 1 U, .vl 0 M, .vl 0 (.int (n : Int)), .vl 0 P, .vl 0 W, .vl 0 T, .vl 0 D, .vl k Q, s9, s10, s11, s12, s13]
abbrev rws (R : List (Nat × Nat × Nat)) : Dt := .lst (R.map tr3)
section
variable {n : Nat} {g : Nat → Nat → Int} {tl : List (Nat × Nat)} {F : List (List (Nat × Nat))} {ix : Nat × Nat → Nat} {a b c : Nat} {S U W : Dt}
theorem row_in (N : Nums n g tl F ix) (hbc : Tie g n (b, c)) (ha : a < n) (R : List (Nat × Nat × Nat)) (hR : ∀ t ∈ R, Tri g n t) (hl : R.length ≤ 200000) {s11 s13 : Sl} :
    ∃ R', l_law_1 (wE S U (mat n g) n (prs tl) W (.tup (F.map ptp)) (dct F.flatten ix) (rws R) 1 (.vl 0 (.int (b : Int))) (.vl 0 (.int (c : Int))) s11 (.vl 0 (.int (a : Int))) s13) = .nx (wE S U (mat n g) n (prs tl) W (.tup (F.map ptp)) (dct F.flatten ix) (rws R') 1 (.vl 0 (.int (b : Int))) (.vl 0 (.int (c : Int))) s11 (.vl 0 (.int (a : Int))) s13) ∧
      (∀ t ∈ R', Tri g n t) ∧ R'.length ≤ R.length + 1 := by
  have x1 := ix_mat (g := g) ha
  have x2 := ix_row (f := g a) hbc.1
  have x3 := ix_row (f := g a) hbc.2.1
  simp only [] at x2 x3
  have ap : fAppend (R.map tr3) [.tup [.int (a : Int), .int (b : Int), .int (c : Int)]] = some (.non, (R ++ [(a, b, c)]).map tr3) := by
    rw [append_ok (by rw [List.length_map]; exact Nat.lt_of_le_of_lt hl (by decide)), List.map_append]
    rfl
  by_cases c1 : g a b = 1
  · by_cases c2 : g a c = 1
    · have hab : Tie g n (a, b) := ⟨ha, hbc.1, c1⟩
      have hac : Tie g n (a, c) := ⟨ha, hbc.2.1, c2⟩
      have ot := one_triangle_ok N hab hac hbc
      refine ⟨R ++ [(a, b, c)], ?_, fun t ht => ?_, by simp⟩
      · rw [c1] at x2
        rw [c2] at x3
        obtain ⟨M, hM⟩ : ∃ M, M = mat n g := ⟨_, rfl⟩
        obtain ⟨P, hP⟩ : ∃ M, M = prs tl := ⟨_, rfl⟩
        obtain ⟨T, hT⟩ : ∃ M, M = Dt.tup (F.map ptp) := ⟨_, rfl⟩
        obtain ⟨D, hD⟩ : ∃ M, M = dct F.flatten ix := ⟨_, rfl⟩
        obtain ⟨Q, hQ⟩ : ∃ M, M = R.map tr3 := ⟨_, rfl⟩
        obtain ⟨Q', hQ'⟩ : ∃ M, M = (R ++ [(a, b, c)]).map tr3 := ⟨_, rfl⟩
        obtain ⟨Z, hZ⟩ : ∃ M, M = row n (g a) := ⟨_, rfl⟩
        rw [← hM, ← hZ] at x1
        rw [← hZ] at x2 x3
        rw [← hM, ← hT, ← hD] at ot
        rw [← hQ, ← hQ'] at ap
        unfold rws
        rw [← hM, ← hP, ← hT, ← hD, ← hQ, ← hQ']
        simp [l_law_1, wE, x1, x2, x3, ap, ot]
      · rcases List.mem_append.mp ht with ht | ht
        · exact hR t ht
        · rw [List.mem_singleton.mp ht]; exact ⟨hab, hac, hbc⟩
    · refine ⟨R, ?_, hR, by omega⟩
      obtain ⟨M, hM⟩ : ∃ M, M = mat n g := ⟨_, rfl⟩
      obtain ⟨P, hP⟩ : ∃ M, M = prs tl := ⟨_, rfl⟩
      obtain ⟨T, hT⟩ : ∃ M, M = Dt.tup (F.map ptp) := ⟨_, rfl⟩
      obtain ⟨D, hD⟩ : ∃ M, M = dct F.flatten ix := ⟨_, rfl⟩
      obtain ⟨Q, hQ⟩ : ∃ M, M = R.map tr3 := ⟨_, rfl⟩
      obtain ⟨Z, hZ⟩ : ∃ M, M = row n (g a) := ⟨_, rfl⟩
      rw [← hM, ← hZ] at x1
      rw [← hZ] at x2 x3
      unfold rws
      rw [← hM, ← hP, ← hT, ← hD, ← hQ]
      simp [l_law_1, wE, x1, x2, x3, c1, c2]
  · refine ⟨R, ?_, hR, by omega⟩
    obtain ⟨M, hM⟩ : ∃ M, M = mat n g := ⟨_, rfl⟩
    obtain ⟨P, hP⟩ : ∃ M, M = prs tl := ⟨_, rfl⟩
    obtain ⟨T, hT⟩ : ∃ M, M = Dt.tup (F.map ptp) := ⟨_, rfl⟩
    obtain ⟨D, hD⟩ : ∃ M, M = dct F.flatten ix := ⟨_, rfl⟩
    obtain ⟨Q, hQ⟩ : ∃ M, M = R.map tr3 := ⟨_, rfl⟩
    obtain ⟨Z, hZ⟩ : ∃ M, M = row n (g a) := ⟨_, rfl⟩
    rw [← hM, ← hZ] at x1
    rw [← hZ] at x2 x3
    unfold rws
    rw [← hM, ← hP, ← hT, ← hD, ← hQ]
    simp [l_law_1, wE, x1, x2, c1]
theorem row_pair (N : Nums n g tl F ix) (hbc : Tie g n (b, c)) (R : List (Nat × Nat × Nat)) (hR : ∀ t ∈ R, Tri g n t) (hl : R.length ≤ 150000) {s11 s12 s13 : Sl} :
    ∃ R' t12, l_law_2 (wE S U (mat n g) n (prs tl) W (.tup (F.map ptp)) (dct F.flatten ix) (rws R) 1 (.vl 0 (.int (b : Int))) (.vl 0 (.int (c : Int))) s11 s12 s13) = .nx (wE S U (mat n g) n (prs tl) W (.tup (F.map ptp)) (dct F.flatten ix) (rws R') 1 (.vl 0 (.int (b : Int))) (.vl 0 (.int (c : Int))) s11 t12 s13) ∧
      (∀ t ∈ R', Tri g n t) ∧ R'.length ≤ R.length + 40 := by
  have hn := N.w.n2
  obtain ⟨ε', e, R', t12, rfl, hR', hl'⟩ := loop_range (t := gSet 12 0) (body := l_law_1) (lo := 0) (n := n) (fun i ε => ∃ (R' : List (Nat × Nat × Nat)) (t12 : Sl), ε = wE S U (mat n g) n (prs tl) W (.tup (F.map ptp)) (dct F.flatten ix) (rws R') 1 (.vl 0 (.int (b : Int))) (.vl 0 (.int (c : Int))) s11 t12 s13 ∧ (∀ t ∈ R', Tri g n t) ∧ R'.length ≤ R.length + i)
    (by
      rintro i ε hi ⟨R', t12, rfl, hR', hl'⟩
      obtain ⟨R2, e2, h2, l2⟩ := row_in N hbc hi R' hR' (by omega) (S := S) (U := U) (W := W) (s11 := s11) (s13 := s13)
      refine ⟨wE S U (mat n g) n (prs tl) W (.tup (F.map ptp)) (dct F.flatten ix) (rws R') 1 (.vl 0 (.int (b : Int))) (.vl 0 (.int (c : Int))) s11 (.vl 0 (.int (i : Int))) s13, _, ?_, .inl e2, R2, _, rfl, h2, by omega⟩
      obtain ⟨M, hM⟩ : ∃ M, M = mat n g := ⟨_, rfl⟩
      obtain ⟨P, hP⟩ : ∃ M, M = prs tl := ⟨_, rfl⟩
      obtain ⟨T, hT⟩ : ∃ M, M = Dt.tup (F.map ptp) := ⟨_, rfl⟩
      obtain ⟨D, hD⟩ : ∃ M, M = dct F.flatten ix := ⟨_, rfl⟩
      obtain ⟨Q, hQ⟩ : ∃ M, M = R'.map tr3 := ⟨_, rfl⟩
      unfold rws
      rw [← hM, ← hP, ← hT, ← hD, ← hQ]
      simp [wE])
    (ε := wE S U (mat n g) n (prs tl) W (.tup (F.map ptp)) (dct F.flatten ix) (rws R) 1 (.vl 0 (.int (b : Int))) (.vl 0 (.int (c : Int))) s11 s12 s13) ⟨R, _, rfl, hR, by omega⟩
  refine ⟨R', t12, ?_, hR', by omega⟩
  have it : (mRange1 (mCons (mVar 3) mNil)) (wE S U (mat n g) n (prs tl) W (.tup (F.map ptp)) (dct F.flatten ix) (rws R) 1 (.vl 0 (.int (b : Int))) (.vl 0 (.int (c : Int))) s11 s12 s13) = .ok (rangeD 0 n) (wE S U (mat n g) n (prs tl) W (.tup (F.map ptp)) (dct F.flatten ix) (rws R) 1 (.vl 0 (.int (b : Int))) (.vl 0 (.int (c : Int))) s11 s12 s13) := by
    obtain ⟨M, hM⟩ : ∃ M, M = mat n g := ⟨_, rfl⟩
    obtain ⟨P, hP⟩ : ∃ M, M = prs tl := ⟨_, rfl⟩
    obtain ⟨T, hT⟩ : ∃ M, M = Dt.tup (F.map ptp) := ⟨_, rfl⟩
    obtain ⟨D, hD⟩ : ∃ M, M = dct F.flatten ix := ⟨_, rfl⟩
    obtain ⟨Q, hQ⟩ : ∃ M, M = R.map tr3 := ⟨_, rfl⟩
    unfold rws
    rw [← hM, ← hP, ← hT, ← hD, ← hQ]
    simp [wE, rgN (show n ≤ 1000 by omega)]
  unfold l_law_2
  rw [q_for, it, q_o1, e]
theorem rows_all (N : Nums n g tl F ix) (al : List (Nat × Nat)) (hal : ∀ p ∈ al, Tie g n p) (hl : al.length ≤ 3200) {s11 s13 : Sl} :
    ∃ R t9 t10 t12, loopL (gUnp (gMore (gSet 9 0) (gMore (gSet 10 0) gNone))) l_law_2 (al.map tp) (wE S U (mat n g) n (prs tl) W (.tup (F.map ptp)) (dct F.flatten ix) (rws []) 1 .un .un s11 .un s13) = .nx (wE S U (mat n g) n (prs tl) W (.tup (F.map ptp)) (dct F.flatten ix) (rws R) 1 t9 t10 s11 t12 s13) ∧ (∀ t ∈ R, Tri g n t) ∧ R.length ≤ 150000 := by
  obtain ⟨ε', e, R, t9, t10, t12, k, rfl, hR, hlen, hk, _⟩ := loop_ind (t := gUnp (gMore (gSet 9 0) (gMore (gSet 10 0) gNone))) (body := l_law_2) (fun ds ε => ∃ (R : List (Nat × Nat × Nat)) (t9 t10 t12 : Sl) (k : Nat), ε = wE S U (mat n g) n (prs tl) W (.tup (F.map ptp)) (dct F.flatten ix) (rws R) 1 t9 t10 s11 t12 s13 ∧ (∀ t ∈ R, Tri g n t) ∧ R.length ≤ k * 40 ∧ k + ds.length = al.length ∧ ∃ rest : List (Nat × Nat), ds = rest.map tp ∧ ∀ p ∈ rest, Tie g n p)
    (by
      rintro d r ε ⟨R, t9, t10, t12, k, rfl, hR, hlen, hk, rest, hds, hr⟩
      cases rest with
      | nil => cases hds
      | cons p rest =>
        obtain ⟨rfl, rfl⟩ := List.cons.inj hds
        obtain ⟨x, y⟩ := p
        rw [List.length_cons] at hk
        obtain ⟨R2, u12, e2, h2, l2⟩ := row_pair N (hr (x, y) List.mem_cons_self) R hR (by omega) (S := S) (U := U) (W := W) (s11 := s11) (s12 := t12) (s13 := s13)
        refine ⟨wE S U (mat n g) n (prs tl) W (.tup (F.map ptp)) (dct F.flatten ix) (rws R) 1 (.vl 0 (.int (x : Int))) (.vl 0 (.int (y : Int))) s11 t12 s13, _, ?_, .inl e2, R2, _, _, _, k + 1, rfl, h2, by omega, by omega, rest, rfl, fun p hp => hr p (List.mem_cons_of_mem _ hp)⟩
        obtain ⟨M, hM⟩ : ∃ M, M = mat n g := ⟨_, rfl⟩
        obtain ⟨P, hP⟩ : ∃ M, M = prs tl := ⟨_, rfl⟩
        obtain ⟨T, hT⟩ : ∃ M, M = Dt.tup (F.map ptp) := ⟨_, rfl⟩
        obtain ⟨D, hD⟩ : ∃ M, M = dct F.flatten ix := ⟨_, rfl⟩
        obtain ⟨Q, hQ⟩ : ∃ M, M = R.map tr3 := ⟨_, rfl⟩
        unfold rws
        rw [← hM, ← hP, ← hT, ← hD, ← hQ]
        simp [wE, tp])
    (ds := al.map tp) (ε := wE S U (mat n g) n (prs tl) W (.tup (F.map ptp)) (dct F.flatten ix) (rws []) 1 .un .un s11 .un s13) ⟨[], _, _, _, 0, rfl, fun t ht => (nomatch ht), by simp, by simp, al, rfl, hal⟩
  exact ⟨R, t9, t10, t12, e, hR, by simp at hk; omega⟩
theorem asked (N : Nums n g tl F ix) (hn : n ≤ 31) (R : List (Nat × Nat × Nat)) (hR : ∀ t ∈ R, Tri g n t) {kq : Nat} (hkq : kq ≤ 1) {s9 s10 s11 s12 s13 : Sl} (dl : List Int) :
    ∃ dl' kq' t13, kq' ≤ 1 ∧ l_law_3 (wE S (dr dl) (mat n g) n (prs tl) (wb n tl) (.tup (F.map ptp)) (dct F.flatten ix) (rws R) kq s9 s10 s11 s12 s13) = .nx (wE S (dr dl') (mat n g) n (prs tl) (wb n tl) (.tup (F.map ptp)) (dct F.flatten ix) (rws R) kq' s9 s10 s11 s12 t13) := by
  have lR : bLen (rws R) = some (.sc (.int (R.length : Int))) := by rw [f_lenL, List.length_map]
  have lP := len_prs (l := tl)
  have first : ∃ dl' kq', kq' ≤ 1 ∧ ∀ k : Ev → So, (sSeq (sIf (mAnd (mB (mOpD fGt (mUn bLen (mVarB 8)) (mSc (.int 0)))) (mNot (mTru (mCall [some (1, 1), none, none, none, none] m__law_drawn_triangle (mCons (mOwn 1) (mCons (mVar 5) (mCons (mVar 2) (mCons (mVar 7) (mCons (mFrz 8) mNil))))))))) (sRet (mSc (.bl false))) sNx) k) (wE S (dr dl) (mat n g) n (prs tl) (wb n tl) (.tup (F.map ptp)) (dct F.flatten ix) (rws R) kq s9 s10 s11 s12 s13) = k (wE S (dr dl') (mat n g) n (prs tl) (wb n tl) (.tup (F.map ptp)) (dct F.flatten ix) (rws R) kq' s9 s10 s11 s12 s13) := by
    obtain ⟨M, hM⟩ : ∃ M, M = mat n g := ⟨_, rfl⟩
    obtain ⟨P, hP⟩ : ∃ M, M = prs tl := ⟨_, rfl⟩
    obtain ⟨V, hV⟩ : ∃ M, M = wb n tl := ⟨_, rfl⟩
    obtain ⟨T, hT⟩ : ∃ M, M = Dt.tup (F.map ptp) := ⟨_, rfl⟩
    obtain ⟨D, hD⟩ : ∃ M, M = dct F.flatten ix := ⟨_, rfl⟩
    by_cases c0 : 0 < R.length
    · obtain ⟨dl', ed⟩ := drawn_triangle_ok N hn R hR c0 dl
      refine ⟨dl', 0, by omega, fun k => ?_⟩
      obtain ⟨Q, hQ⟩ : ∃ M, M = rws R := ⟨_, rfl⟩
      rw [← hQ] at lR
      have ed' : m__law_drawn_triangle [dr dl, V, M, D, Q] = .ok (.bl true) [dr dl', .non, .non, .non, .non] := by rw [hV, hM, hD, hQ]; exact ed
      rw [← hM, ← hP, ← hV, ← hT, ← hD, ← hQ]
      have hkk : kq = 0 ∨ kq = 1 := by omega
      rcases hkk with rfl | rfl
      · simp [wE, lR, c0, ed']
      · simp [wE, lR, c0, ed']
    · refine ⟨dl, kq, hkq, fun k => ?_⟩
      obtain ⟨Q, hQ⟩ : ∃ M, M = rws R := ⟨_, rfl⟩
      rw [← hQ] at lR
      rw [← hM, ← hP, ← hV, ← hT, ← hD, ← hQ]
      have hkk : kq = 0 ∨ kq = 1 := by omega
      rcases hkk with rfl | rfl
      · simp [wE, lR, c0]
      · simp [wE, lR, c0]
  obtain ⟨d1, k1, hk1, e1⟩ := first
  unfold l_law_3
  rw [e1]
  by_cases c0 : 0 < tl.length
  · obtain ⟨r, d2, t1, hr⟩ := takeN d1 tl.length c0
    obtain ⟨p, hp⟩ : ∃ p, p = tl[r] := ⟨_, rfl⟩
    have tie : Tie g n p := (N.w.tie_bth p).mp (mem_bth.mpr (.inl (by rw [hp]; exact List.getElem_mem _)))
    obtain ⟨l, hl, _⟩ := N.all p tie
    have ip := ix_prt hr
    rw [← hp] at ip
    have ec : m_class_of [wb n tl, tp p] = .ok (ptp l) [.non, .non] := class_of_ok N (a := p.1) (b := p.2) Pr2.t tie hl
    have el := lclass_eq N hn tie hl
    have eg := N.get tie
    have ef := ix_FT hl
    have n1 := ne_prs l l
    rw [decide_eq_true rfl] at n1
    have n2 : fNe (ptp l) (ptp l) = some (.bl (!true)) := by
      have := ne_tupN l l
      rw [decide_eq_true rfl] at this
      exact this
    have bl : bList (ptp l) = some (.lst (l.map tp)) := rfl
    have epl : Dt.lst (l.map tp) = prs l := rfl
    refine ⟨d2, k1, .vl 0 (tp p), hk1, ?_⟩
    obtain ⟨M, hM⟩ : ∃ M, M = mat n g := ⟨_, rfl⟩
    obtain ⟨P, hP⟩ : ∃ M, M = prs tl := ⟨_, rfl⟩
    obtain ⟨V, hV⟩ : ∃ M, M = wb n tl := ⟨_, rfl⟩
    obtain ⟨T, hT⟩ : ∃ M, M = Dt.tup (F.map ptp) := ⟨_, rfl⟩
    obtain ⟨D, hD⟩ : ∃ M, M = dct F.flatten ix := ⟨_, rfl⟩
    obtain ⟨Q, hQ⟩ : ∃ M, M = rws R := ⟨_, rfl⟩
    obtain ⟨A, hA⟩ : ∃ M, M = tp p := ⟨_, rfl⟩
    obtain ⟨L, hL⟩ : ∃ M, M = ptp l := ⟨_, rfl⟩
    obtain ⟨Z, hZ⟩ : ∃ M, M = prs l := ⟨_, rfl⟩
    obtain ⟨Y, hY⟩ : ∃ M, M = l.map tp := ⟨_, rfl⟩
    rw [← hP] at lP ip
    rw [← hV, ← hA, ← hL] at ec
    rw [← hM, ← hA, ← hZ] at el
    rw [← hD, ← hA] at eg
    rw [← hT, ← hL] at ef
    rw [← hZ] at n1 epl
    rw [← hL] at n2 bl
    rw [← hY] at bl epl
    rw [← hA] at ip
    rw [← hM, ← hP, ← hV, ← hT, ← hD, ← hQ, ← hA]
    simp [wE, lP, c0, t1, ip, ec, el, eg, ef, n1, n2, bl, epl]
  · refine ⟨d1, k1, s13, hk1, ?_⟩
    obtain ⟨M, hM⟩ : ∃ M, M = mat n g := ⟨_, rfl⟩
    obtain ⟨P, hP⟩ : ∃ M, M = prs tl := ⟨_, rfl⟩
    obtain ⟨V, hV⟩ : ∃ M, M = wb n tl := ⟨_, rfl⟩
    obtain ⟨T, hT⟩ : ∃ M, M = Dt.tup (F.map ptp) := ⟨_, rfl⟩
    obtain ⟨D, hD⟩ : ∃ M, M = dct F.flatten ix := ⟨_, rfl⟩
    obtain ⟨Q, hQ⟩ : ∃ M, M = rws R := ⟨_, rfl⟩
    rw [← hP] at lP
    rw [← hM, ← hP, ← hV, ← hT, ← hD, ← hQ]
    simp [wE, lP, c0]
theorem asked3 (N : Nums n g tl F ix) (hn : n ≤ 31) (R : List (Nat × Nat × Nat)) (hR : ∀ t ∈ R, Tri g n t) {s9 s10 s11 s12 s13 : Sl} (dl : List Int) :
    ∃ dl' kq' t11 t13, loopL (gSet 11 0) l_law_3 (rangeD 0 3) (wE S (dr dl) (mat n g) n (prs tl) (wb n tl) (.tup (F.map ptp)) (dct F.flatten ix) (rws R) 1 s9 s10 s11 s12 s13) = .nx (wE S (dr dl') (mat n g) n (prs tl) (wb n tl) (.tup (F.map ptp)) (dct F.flatten ix) (rws R) kq' s9 s10 t11 s12 t13) := by
  obtain ⟨ε', e, dl', kq', t11, t13, _, rfl⟩ := loop_range (t := gSet 11 0) (body := l_law_3) (lo := 0) (n := 3) (fun i ε => ∃ (dl' : List Int) (kq' : Nat) (t11 t13 : Sl), kq' ≤ 1 ∧ ε = wE S (dr dl') (mat n g) n (prs tl) (wb n tl) (.tup (F.map ptp)) (dct F.flatten ix) (rws R) kq' s9 s10 t11 s12 t13)
    (by
      rintro i ε hi ⟨dl', kq', t11, t13, hk, rfl⟩
      obtain ⟨d2, k2, u13, hk2, e2⟩ := asked N hn R hR hk (S := S) (s9 := s9) (s10 := s10) (s11 := .vl 0 (.int (i : Int))) (s12 := s12) (s13 := t13) dl'
      refine ⟨wE S (dr dl') (mat n g) n (prs tl) (wb n tl) (.tup (F.map ptp)) (dct F.flatten ix) (rws R) kq' s9 s10 (.vl 0 (.int (i : Int))) s12 t13, _, ?_, .inl e2, d2, k2, _, _, hk2, rfl⟩
      obtain ⟨M, hM⟩ : ∃ M, M = mat n g := ⟨_, rfl⟩
      obtain ⟨P, hP⟩ : ∃ M, M = prs tl := ⟨_, rfl⟩
      obtain ⟨V, hV⟩ : ∃ M, M = wb n tl := ⟨_, rfl⟩
      obtain ⟨T, hT⟩ : ∃ M, M = Dt.tup (F.map ptp) := ⟨_, rfl⟩
      obtain ⟨D, hD⟩ : ∃ M, M = dct F.flatten ix := ⟨_, rfl⟩
      obtain ⟨Q, hQ⟩ : ∃ M, M = rws R := ⟨_, rfl⟩
      rw [← hM, ← hP, ← hV, ← hT, ← hD, ← hQ]
      simp [wE])
    (ε := wE S (dr dl) (mat n g) n (prs tl) (wb n tl) (.tup (F.map ptp)) (dct F.flatten ix) (rws R) 1 s9 s10 s11 s12 s13) ⟨dl, 1, _, _, by omega, rfl⟩
  exact ⟨dl', kq', t11, t13, e⟩
end
end Mir

set_option Elab.async false
set_option linter.all false
set_option maxRecDepth 100000
set_option maxHeartbeats 3200000
/-! k10: the law is true. -/
namespace Mir
open PySem PySem.Spec PyProof.Rows L2 He PySem.W
theorem law_true (ns : List Int) (h : ns.length ≤ 63) : ∃ os, m_law [.scr ns] = .ok (.bl true) os := by
  obtain ⟨l, e0⟩ := draws_spec ns h
  obtain ⟨d0, l1, n0, e1, hd0, hn1, hn2⟩ := drawn_g l 7 (by omega) (by omega)
  simp only [Int.cast_ofNat_Int] at e1
  obtain ⟨r1, l2, t1, _⟩ := takeN l1 2 (by omega)
  obtain ⟨r2, l3, t2, _⟩ := takeN l2 3 (by omega)
  have hc : ∃ d1, isG n0 d1 ∧ ∀ (k : Ev → So) (S : Dt), (sSeq (sIf (mB (mOpD fEq (mCall [some (1, 1), none] m__law_take (mCons (mOwn 1) (mCons (mSc (.int 2)) mNil))) (mSc (.int 1)))) (sAsg (mCall [none] m__law_contrary (mCons (mVar 2) mNil)) (gSet 2 0)) sNx) k) [.vl 0 S, .vl 1 (dr l1), .vl 0 d0, .un, .un, .un, .un, .un, .un, .un, .un, .un, .un, .un] = k [.vl 0 S, .vl 1 (dr l2), .vl 0 d1, .un, .un, .un, .un, .un, .un, .un, .un, .un, .un, .un] := by
    simp only [Int.cast_ofNat_Int] at t1
    by_cases c : (r1 : Int) = 1
    · obtain ⟨d1, ec, hd1⟩ := contrary_g n0 (by omega) hd0
      exact ⟨d1, hd1, fun k S => by simp [t1, c, ec]⟩
    · exact ⟨d0, hd0, fun k S => by simp [t1, c]⟩
  obtain ⟨d1, hd1, p1⟩ := hc
  have hw : ∃ d2 n, isG n d2 ∧ 1 ≤ n ∧ n ≤ 8 ∧ ∀ (k : Ev → So) (S : Dt), (sSeq (sIf (mB (mOpD fEq (mCall [some (1, 1), none] m__law_take (mCons (mOwn 1) (mCons (mSc (.int 3)) mNil))) (mSc (.int 2)))) (sAsg (mCall [none] m__law_with_all (mCons (mVar 2) mNil)) (gSet 2 0)) sNx) k) [.vl 0 S, .vl 1 (dr l2), .vl 0 d1, .un, .un, .un, .un, .un, .un, .un, .un, .un, .un, .un] = k [.vl 0 S, .vl 1 (dr l3), .vl 0 d2, .un, .un, .un, .un, .un, .un, .un, .un, .un, .un, .un] := by
    simp only [Int.cast_ofNat_Int] at t2
    by_cases c : (r2 : Int) = 2
    · obtain ⟨d2, ec, hd2⟩ := with_all_g hd1 (by omega)
      exact ⟨d2, n0 + 1, hd2, by omega, by omega, fun k S => by simp [t2, c, ec]⟩
    · exact ⟨d1, n0, hd1, hn1, by omega, fun k S => by simp [t2, c]⟩
  obtain ⟨d2, n, ⟨g, rfl, hg⟩, m1, m2, p2⟩ := hw
  obtain ⟨tl, e2, hm, hpw, hl⟩ := ties_spec n (by omega) g
  have T : Tl n tl := ⟨fun p hp => by
    obtain ⟨a, b⟩ := p
    obtain ⟨h1, h2, h3⟩ := (hm a b).mp hp
    exact ⟨h1, h2⟩, hpw, hl⟩
  have w : Wb n g tl := ⟨hg, hm, T, m1, by omega⟩
  have e3 := web_ok n tl T m1 (by omega)
  have e3' : m_Web_init [.ins "Web" [] [], .int (n : Int), prs tl] = .ok .non [wb n tl, .non, .non] := e3
  obtain ⟨F, ix, N⟩ := nums n g tl w
  have e4 := classes_ok N
  have e5 := lhomes_ok N e2
  obtain ⟨sw, hsw⟩ : ∃ sw, sw = tl.map fun p => (p.2, p.1) := ⟨_, rfl⟩
  obtain ⟨al, hal0⟩ : ∃ al, al = tl ++ sw := ⟨_, rfl⟩
  have hal : ∀ p ∈ al, Tie g n p := fun p hp => by
    rw [hal0] at hp
    rcases List.mem_append.mp hp with hp | hp
    · exact (w.tie_bth p).mp (mem_bth.mpr (.inl hp))
    · rw [hsw] at hp
      obtain ⟨q, hq, rfl⟩ := List.mem_map.mp hp
      exact ((w.tie_bth q).mp (mem_bth.mpr (.inl hq))).turn w
  have tlen : tl.length ≤ 800 := by
    have := w.bth_le
    rw [bth_len] at this
    omega
  have alen : al.length ≤ 3200 := by
    rw [hal0, hsw]
    simp
    omega
  obtain ⟨S, hS⟩ : ∃ S, S = Dt.scr ns := ⟨_, rfl⟩
  obtain ⟨R, t9, t10, t12, e6, hR, _⟩ := rows_all N al hal alen (S := S) (U := dr l3) (W := wb n tl) (s11 := .un) (s13 := .un)
  obtain ⟨l4, kq, t11, t13, e7⟩ := asked3 N (by omega) R hR (S := S) (s9 := t9) (s10 := t10) (s11 := .un) (s12 := t12) (s13 := .un) l3
  have lm : bLen (mat n g) = some (.sc (.int n)) := len_mat
  obtain ⟨M, hM⟩ : ∃ M, M = mat n g := ⟨_, rfl⟩
  obtain ⟨P, hP⟩ : ∃ M, M = prs tl := ⟨_, rfl⟩
  obtain ⟨V, hV⟩ : ∃ M, M = wb n tl := ⟨_, rfl⟩
  obtain ⟨C, hC⟩ : ∃ M, M = Dt.tup (F.map ptp) := ⟨_, rfl⟩
  obtain ⟨D, hD⟩ : ∃ M, M = dct F.flatten ix := ⟨_, rfl⟩
  have isn : fIsN false D .non = some (.bl false) := by rw [hD]; rfl
  -- all pairs
  have it : (mIter (mOp fAdd (mVar 4) (mComp [9, 10] (mIter (mVar 4)) (gUnp (gMore (gSet 9 0) (gMore (gSet 10 0) gNone))) mYes e_law_0))) (wE S (dr l3) M n P V C D (rws []) 1 .un .un .un .un .un) = .ok (al.map tp) (wE S (dr l3) M n P V C D (rws []) 1 .un .un .un .un .un) := by
    obtain ⟨Q, hQ⟩ : ∃ M, M = rws [] := ⟨_, rfl⟩
    rw [← hQ]
    have cm : (mComp [9, 10] (mIter (mVar 4)) (gUnp (gMore (gSet 9 0) (gMore (gSet 10 0) gNone))) mYes e_law_0) (wE S (dr l3) M n P V C D Q 1 .un .un .un .un .un) = .ok (.lst (sw.map tp)) (wE S (dr l3) M n P V C D Q 1 .un .un .un .un .un) := by
      rw [q_comp]
      have f0 : (mIter (mVar 4)) (wE S (dr l3) M n P V C D Q 1 .un .un .un .un .un) = .ok (tl.map tp) (wE S (dr l3) M n P V C D Q 1 .un .un .un .un .un) := by rw [hP]; rfl
      rw [f0, q_b1]
      have w0 : wipeE (wE S (dr l3) M n P V C D Q 1 .un .un .un .un .un) [9, 10] = wE S (dr l3) M n P V C D Q 1 .un .un .un .un .un := rfl
      rw [w0]
      have hc : compL [9, 10] (gUnp (gMore (gSet 9 0) (gMore (gSet 10 0) gNone))) mYes e_law_0 (tl.map tp) [] (wE S (dr l3) M n P V C D Q 1 .un .un .un .un .un) = .ok ([] ++ tl.map fun p => tp (p.2, p.1)) (wE S (dr l3) M n P V C D Q 1 .un .un .un .un .un) :=
        compL_mapf tp (fun p => tp (p.2, p.1)) (fun p hp => ⟨wE S (dr l3) M n P V C D Q 1 (.vl 0 (.int (p.1 : Int))) (.vl 0 (.int (p.2 : Int))) .un .un .un, wE S (dr l3) M n P V C D Q 1 (.vl 0 (.int (p.1 : Int))) (.vl 0 (.int (p.2 : Int))) .un .un .un, by simp [wE, tp], by simp [wE, e_law_0, tp], by simp [wE]⟩) (by simp; exact szN (by omega))
      rw [hc, q_cpK, List.nil_append, hsw, List.map_map]
      rfl
    have ea : fAdd P (.lst (sw.map tp)) = some (.lst (al.map tp)) := by
      rw [hP, hal0]
      exact add_prs (l := tl) (m := sw) (by rw [hsw]; simp; omega)
    obtain ⟨X, hX⟩ : ∃ M, M = al.map tp := ⟨_, rfl⟩
    obtain ⟨Y, hY⟩ : ∃ M, M = sw.map tp := ⟨_, rfl⟩
    rw [← hX, ← hY] at ea
    rw [← hY] at cm
    rw [← hX]
    have v4 : (mVar 4) (wE S (dr l3) M n P V C D Q 1 .un .un .un .un .un) = .ok P (wE S (dr l3) M n P V C D Q 1 .un .un .un .un .un) := rfl
    rw [q_iter, q_op, v4, q_b1, cm, q_b1, ea]
    rfl
  rw [← hM] at p2 e2 e5 lm
  rw [← hP] at e2 e3'
  rw [← hV] at e3' e4
  rw [← hC] at e4 e5
  rw [← hD] at e5
  rw [← hM, ← hP, ← hV, ← hC, ← hD] at e6 e7
  have p0 : ∀ k : Ev → So, (sSeq (sAsg (mCall [none] m__law_draws (mCons (mVar 0) mNil)) (gSet 1 1)) (sSeq (sAsg (mCall [some (1, 1), none] m__law_drawn (mCons (mOwn 1) (mCons (mSc (.int 7)) mNil))) (gSet 2 0)) k)) (entry [0] 13 [.scr ns]) = k [.vl 0 S, .vl 1 (dr l1), .vl 0 d0, .un, .un, .un, .un, .un, .un, .un, .un, .un, .un, .un] := fun k => by
    rw [hS]
    simp [e0, e1]
  have p3 : ∀ k : Ev → So, (sSeq (sAsg (mUn bLen (mVar 2)) (gSet 3 0)) (sSeq (sAsg (mCall [none] m__law_ties (mCons (mVar 2) mNil)) (gSet 4 0)) (sSeq (sAsg (mMake "Web" m_Web_init (mCons (mVar 3) (mCons (mVar 4) mNil))) (gSet 5 0)) (sSeq (sAsg (mCall [none] m_classes (mCons (mVar 5) mNil)) (gSet 6 0)) (sSeq (sAsg (mCall [none, none] m__law_homes (mCons (mVar 6) (mCons (mVar 2) mNil))) (gSet 7 0)) (sSeq (sIf (mB (mOpD (fIsN false) (mVarD 7) (mSc .non))) (sRet (mSc (.bl false))) sNx) (sSeq (sAsg (mLst mNil) (gSet 8 1)) k))))))) [.vl 0 S, .vl 1 (dr l3), .vl 0 M, .un, .un, .un, .un, .un, .un, .un, .un, .un, .un, .un] = k (wE S (dr l3) M n P V C D (rws []) 1 .un .un .un .un .un) := fun k => by
    have q0 : rws [] = .lst [] := rfl
    rw [q0]
    simp [wE, lm, e2, q_make, e3', e4, e5, isn]
  have r3 : ∀ ε : Ev, rg1 (some (3 : Int)) ε = .ok (rangeD 0 3) ε := fun ε => by
    have := congrFun (rgN (n := 3) (by omega)) ε
    simpa using this
  have it2 : (mRange1 (mCons (mSc (.int 3)) mNil)) (wE S (dr l3) M n P V C D (rws R) 1 t9 t10 .un t12 .un) = .ok (rangeD 0 3) (wE S (dr l3) M n P V C D (rws R) 1 t9 t10 .un t12 .un) := by
    simp [r3]
  refine ⟨[.non], ?_⟩
  unfold m_law
  rw [q_fn]
  unfold b_law
  rw [p0, p1, p2, p3, q_seq, q_for, it, q_o1, e6, q_s1, q_seq, q_for, it2, q_o1, e7, q_s1]
  simp [wE]
end Mir

set_option Elab.async false
set_option linter.all false
set_option maxRecDepth 100000
set_option maxHeartbeats 1000000
namespace Mir
open PySem PySem.Spec PyProof.Rows L2 He
abbrev PW : PySem.Program := PySem.Challenge.pw_ordersbehind_k10_whole_triangle_step
abbrev RW : PySem.W.OpenLaw := PySem.Challenge.rw_ordersbehind_k10_whole_triangle_step
def d_BadNumber_init : He.DefD := ⟨("BadNumber", some "__init__"), "__init__", "BadNumber.__init__", defArgs s_BadNumber_init, defBody s_BadNumber_init, defScope s_BadNumber_init, [], []⟩
def d_BadThing_init : He.DefD := ⟨("BadThing", some "__init__"), "__init__", "BadThing.__init__", defArgs s_BadThing_init, defBody s_BadThing_init, defScope s_BadThing_init, [], []⟩
def d_BadPair_init : He.DefD := ⟨("BadPair", some "__init__"), "__init__", "BadPair.__init__", defArgs s_BadPair_init, defBody s_BadPair_init, defScope s_BadPair_init, [], []⟩
def d_NotTied_init : He.DefD := ⟨("NotTied", some "__init__"), "__init__", "NotTied.__init__", defArgs s_NotTied_init, defBody s_NotTied_init, defScope s_NotTied_init, [], []⟩
def d_is_integer : He.DefD := ⟨("is_integer", none), "is_integer", "is_integer", defArgs s_is_integer, defBody s_is_integer, defScope s_is_integer, [], []⟩
def d_is_thing : He.DefD := ⟨("is_thing", none), "is_thing", "is_thing", defArgs s_is_thing, defBody s_is_thing, defScope s_is_thing, [], []⟩
def d_is_pair : He.DefD := ⟨("is_pair", none), "is_pair", "is_pair", defArgs s_is_pair, defBody s_is_pair, defScope s_is_pair, [], []⟩
def d_thing_of : He.DefD := ⟨("thing_of", none), "thing_of", "thing_of", defArgs s_thing_of, defBody s_thing_of, defScope s_thing_of, [.str "thing"], []⟩
def d_number_of_kind : He.DefD := ⟨("number_of_kind", none), "number_of_kind", "number_of_kind", defArgs s_number_of_kind, defBody s_number_of_kind, defScope s_number_of_kind, [], []⟩
def d_pair_of : He.DefD := ⟨("pair_of", none), "pair_of", "pair_of", defArgs s_pair_of, defBody s_pair_of, defScope s_pair_of, [], []⟩
def d_several_pairs : He.DefD := ⟨("several_pairs", none), "several_pairs", "several_pairs", defArgs s_several_pairs, defBody s_several_pairs, defScope s_several_pairs, [], []⟩
def d_ties_of : He.DefD := ⟨("ties_of", none), "ties_of", "ties_of", defArgs s_ties_of, defBody s_ties_of, defScope s_ties_of, [], []⟩
def d_arrow_in : He.DefD := ⟨("arrow_in", none), "arrow_in", "arrow_in", defArgs s_arrow_in, defBody s_arrow_in, defScope s_arrow_in, [], []⟩
def d_two_arrows : He.DefD := ⟨("two_arrows", none), "two_arrows", "two_arrows", defArgs s_two_arrows, defBody s_two_arrows, defScope s_two_arrows, [], []⟩
def d_Web_init : He.DefD := ⟨("Web", some "__init__"), "__init__", "Web.__init__", defArgs s_Web_init, defBody s_Web_init, defScope s_Web_init, [.adr (He.dflAt ("Web", some "__init__") 0)], []⟩
def d_Web_tied : He.DefD := ⟨("Web", some "tied"), "tied", "Web.tied", defArgs s_Web_tied, defBody s_Web_tied, defScope s_Web_tied, [], []⟩
def d_Web_invert : He.DefD := ⟨("Web", some "__invert__"), "__invert__", "Web.__invert__", defArgs s_Web_invert, defBody s_Web_invert, defScope s_Web_invert, [], []⟩
def d_Web_eq : He.DefD := ⟨("Web", some "__eq__"), "__eq__", "Web.__eq__", defArgs s_Web_eq, defBody s_Web_eq, defScope s_Web_eq, [], []⟩
def d_Web_len : He.DefD := ⟨("Web", some "__len__"), "__len__", "Web.__len__", defArgs s_Web_len, defBody s_Web_len, defScope s_Web_len, [], []⟩
def d_Web_contains : He.DefD := ⟨("Web", some "__contains__"), "__contains__", "Web.__contains__", defArgs s_Web_contains, defBody s_Web_contains, defScope s_Web_contains, [], []⟩
def d_Web_iter : He.DefD := ⟨("Web", some "__iter__"), "__iter__", "Web.__iter__", defArgs s_Web_iter, defBody s_Web_iter, defScope s_Web_iter, [], []⟩
def d_Web_or : He.DefD := ⟨("Web", some "__or__"), "__or__", "Web.__or__", defArgs s_Web_or, defBody s_Web_or, defScope s_Web_or, [], []⟩
def d_Web_and : He.DefD := ⟨("Web", some "__and__"), "__and__", "Web.__and__", defArgs s_Web_and, defBody s_Web_and, defScope s_Web_and, [], []⟩
def d_moved_by : He.DefD := ⟨("moved_by", none), "moved_by", "moved_by", defArgs s_moved_by, defBody s_moved_by, defScope s_moved_by, [], []⟩
def d_reach_from : He.DefD := ⟨("reach_from", none), "reach_from", "reach_from", defArgs s_reach_from, defBody s_reach_from, defScope s_reach_from, [], []⟩
def d_alike_at : He.DefD := ⟨("alike_at", none), "alike_at", "alike_at", defArgs s_alike_at, defBody s_alike_at, defScope s_alike_at, [], []⟩
def d_class_numbers : He.DefD := ⟨("class_numbers", none), "class_numbers", "class_numbers", defArgs s_class_numbers, defBody s_class_numbers, defScope s_class_numbers, [], []⟩
def d_class_of : He.DefD := ⟨("class_of", none), "class_of", "class_of", defArgs s_class_of, defBody s_class_of, defScope s_class_of, [], []⟩
def d_classes : He.DefD := ⟨("classes", none), "classes", "classes", defArgs s_classes, defBody s_classes, defScope s_classes, [], []⟩
def d_touched : He.DefD := ⟨("touched", none), "touched", "touched", defArgs s_touched, defBody s_touched, defScope s_touched, [], []⟩
def d_same_class : He.DefD := ⟨("same_class", none), "same_class", "same_class", defArgs s_same_class, defBody s_same_class, defScope s_same_class, [], []⟩
def d__law_draws : He.DefD := ⟨("_law_draws", none), "_law_draws", "_law_draws", defArgs s__law_draws, defBody s__law_draws, defScope s__law_draws, [], []⟩
def d__law_take : He.DefD := ⟨("_law_take", none), "_law_take", "_law_take", defArgs s__law_take, defBody s__law_take, defScope s__law_take, [], []⟩
def d__law_row : He.DefD := ⟨("_law_row", none), "_law_row", "_law_row", defArgs s__law_row, defBody s__law_row, defScope s__law_row, [], []⟩
def d__law_blank : He.DefD := ⟨("_law_blank", none), "_law_blank", "_law_blank", defArgs s__law_blank, defBody s__law_blank, defScope s__law_blank, [], []⟩
def d__law_near : He.DefD := ⟨("_law_near", none), "_law_near", "_law_near", defArgs s__law_near, defBody s__law_near, defScope s__law_near, [], []⟩
def d__law_ties : He.DefD := ⟨("_law_ties", none), "_law_ties", "_law_ties", defArgs s__law_ties, defBody s__law_ties, defScope s__law_ties, [], []⟩
def d__law_contrary : He.DefD := ⟨("_law_contrary", none), "_law_contrary", "_law_contrary", defArgs s__law_contrary, defBody s__law_contrary, defScope s__law_contrary, [], []⟩
def d__law_renamed : He.DefD := ⟨("_law_renamed", none), "_law_renamed", "_law_renamed", defArgs s__law_renamed, defBody s__law_renamed, defScope s__law_renamed, [], []⟩
def d__law_graft : He.DefD := ⟨("_law_graft", none), "_law_graft", "_law_graft", defArgs s__law_graft, defBody s__law_graft, defScope s__law_graft, [], []⟩
def d__law_path : He.DefD := ⟨("_law_path", none), "_law_path", "_law_path", defArgs s__law_path, defBody s__law_path, defScope s__law_path, [], []⟩
def d__law_round : He.DefD := ⟨("_law_round", none), "_law_round", "_law_round", defArgs s__law_round, defBody s__law_round, defScope s__law_round, [], []⟩
def d__law_agree : He.DefD := ⟨("_law_agree", none), "_law_agree", "_law_agree", defArgs s__law_agree, defBody s__law_agree, defScope s__law_agree, [], []⟩
def d__law_any_ties : He.DefD := ⟨("_law_any_ties", none), "_law_any_ties", "_law_any_ties", defArgs s__law_any_ties, defBody s__law_any_ties, defScope s__law_any_ties, [], []⟩
def d__law_int : He.DefD := ⟨("_law_int", none), "_law_int", "_law_int", defArgs s__law_int, defBody s__law_int, defScope s__law_int, [], []⟩
def d__law_ints : He.DefD := ⟨("_law_ints", none), "_law_ints", "_law_ints", defArgs s__law_ints, defBody s__law_ints, defScope s__law_ints, [], []⟩
def d__law_lot : He.DefD := ⟨("_law_lot", none), "_law_lot", "_law_lot", defArgs s__law_lot, defBody s__law_lot, defScope s__law_lot, [], []⟩
def d__law_pairs : He.DefD := ⟨("_law_pairs", none), "_law_pairs", "_law_pairs", defArgs s__law_pairs, defBody s__law_pairs, defScope s__law_pairs, [], []⟩
def d__law_steps : He.DefD := ⟨("_law_steps", none), "_law_steps", "_law_steps", defArgs s__law_steps, defBody s__law_steps, defScope s__law_steps, [], []⟩
def d__law_class : He.DefD := ⟨("_law_class", none), "_law_class", "_law_class", defArgs s__law_class, defBody s__law_class, defScope s__law_class, [], []⟩
def d__law_drawn : He.DefD := ⟨("_law_drawn", none), "_law_drawn", "_law_drawn", defArgs s__law_drawn, defBody s__law_drawn, defScope s__law_drawn, [], []⟩
def d__law_with_all : He.DefD := ⟨("_law_with_all", none), "_law_with_all", "_law_with_all", defArgs s__law_with_all, defBody s__law_with_all, defScope s__law_with_all, [], []⟩
def d__law_homes : He.DefD := ⟨("_law_homes", none), "_law_homes", "_law_homes", defArgs s__law_homes, defBody s__law_homes, defScope s__law_homes, [], []⟩
def d__law_one_triangle : He.DefD := ⟨("_law_one_triangle", none), "_law_one_triangle", "_law_one_triangle", defArgs s__law_one_triangle, defBody s__law_one_triangle, defScope s__law_one_triangle, [], []⟩
def d__law_drawn_triangle : He.DefD := ⟨("_law_drawn_triangle", none), "_law_drawn_triangle", "_law_drawn_triangle", defArgs s__law_drawn_triangle, defBody s__law_drawn_triangle, defScope s__law_drawn_triangle, [], []⟩
def d_law : He.DefD := ⟨("law", none), "law", "law", defArgs s_law, defBody s_law, defScope s_law, [], []⟩
def fn : List He.DefD := [d_BadNumber_init, d_BadThing_init, d_BadPair_init, d_NotTied_init, d_is_integer, d_is_thing, d_is_pair, d_thing_of, d_number_of_kind, d_pair_of, d_several_pairs, d_ties_of, d_arrow_in, d_two_arrows, d_Web_init, d_Web_tied, d_Web_invert, d_Web_eq, d_Web_len, d_Web_contains, d_Web_iter, d_Web_or, d_Web_and, d_moved_by, d_reach_from, d_alike_at, d_class_numbers, d_class_of, d_classes, d_touched, d_same_class, d__law_draws, d__law_take, d__law_row, d__law_blank, d__law_near, d__law_ties, d__law_contrary, d__law_renamed, d__law_graft, d__law_path, d__law_round, d__law_agree, d__law_any_ties, d__law_int, d__law_ints, d__law_lot, d__law_pairs, d__law_steps, d__law_class, d__law_drawn, d__law_with_all, d__law_homes, d__law_one_triangle, d__law_drawn_triangle, d_law]
def fa0 : List He.Fa := [.glo "is_integer", .glo "is_thing", .glo "is_pair", .glo "thing_of", .glo "number_of_kind", .glo "pair_of", .glo "several_pairs", .glo "ties_of", .glo "arrow_in", .glo "two_arrows", .glo "moved_by", .glo "reach_from", .glo "alike_at", .glo "class_numbers", .glo "class_of", .glo "classes", .glo "touched", .glo "same_class", .glo "_law_draws", .glo "_law_take", .glo "_law_row", .glo "_law_blank", .glo "_law_near", .glo "_law_ties"]
def fa1 : List He.Fa := [.glo "_law_contrary", .glo "_law_renamed", .glo "_law_graft", .glo "_law_path", .glo "_law_round", .glo "_law_agree", .glo "_law_any_ties", .glo "_law_int", .glo "_law_ints", .glo "_law_lot", .glo "_law_pairs", .glo "_law_steps", .glo "_law_class", .glo "_law_drawn", .glo "_law_with_all", .glo "_law_homes", .glo "_law_one_triangle", .glo "_law_drawn_triangle", .glo "law", .free "ValueError", .free "all", .free "any", .free "bool", .free "enumerate"]
def fa2 : List He.Fa := [.free "int", .free "isinstance", .free "iter", .free "len", .free "list", .free "max", .free "min", .free "range", .free "sorted", .free "str", .free "tuple", .int "MOST" 40, .glo "BehindError", .keep "BehindError", .glo "BadNumber", .keep "BadNumber", .glo "BadThing", .keep "BadThing", .glo "BadPair", .keep "BadPair", .glo "NotTied", .keep "NotTied", .glo "Web", .cls "Web"]
def fa3 : List He.Fa := [.mkr "Web", .meth "Web" "tied", .meth "Web" "near", .meth "Web" "on", .meth "Web" "without", .meth "Web" "renamed", .meth "Web" "pieces", .meth "Web" "__invert__", .meth "Web" "__eq__", .meth "Web" "__len__", .meth "Web" "__contains__", .meth "Web" "__iter__", .meth "Web" "__or__", .meth "Web" "__and__", .noat "BadNumber" "name", .noat "BadThing" "name", .noat "BadPair" "place", .noat "NotTied" "first", .noat "NotTied" "second", .noat "Web" "size", .noat "Web" "ties", .noat "Web" "table"]
def fa : List He.Fa := fa0 ++ fa1 ++ fa2 ++ fa3
def loose0 : List PySem.Str := ["_wall", "BehindError", "BadNumber", "BadThing", "BadPair", "NotTied", "is_integer", "is_thing", "is_pair", "thing_of", "number_of_kind", "pair_of", "several_pairs", "ties_of", "arrow_in", "two_arrows", "MOST", "Web", "moved_by", "reach_from", "alike_at", "class_numbers", "class_of", "classes"]
def loose1 : List PySem.Str := ["touched", "same_class", "_law_draws", "_law_take", "_law_row", "_law_blank", "_law_near", "_law_ties", "_law_contrary", "_law_renamed", "_law_graft", "_law_path", "_law_round", "_law_agree", "_law_any_ties", "_law_int", "_law_ints", "_law_lot", "_law_pairs", "_law_steps", "_law_class", "_law_drawn", "_law_with_all", "_law_homes"]
def loose2 : List PySem.Str := ["_law_one_triangle", "_law_drawn_triangle"]
def loose : List PySem.Str := loose0 ++ loose1 ++ loose2
def lawI : Nat := 56
def exT : List (Str × List Str) := [("BadNumber", ["name"]), ("BadPair", ["place"]), ("BadThing", ["name"]), ("NotTied", ["first", "second"])]
abbrev Rr : PySem.W.OpenRow := PySem.W.OpenLaw.row RW
def hk : PySem.W.Hook := He.hookX 6 fa fn [] [] (exL exT)
def ob (s : PySem.W.SharedT) : He.AlX := He.obsX 6 fa fn [] [] (exL exT) (HandSHeadRun.getT s)
theorem ob_eq (s : PySem.W.SharedT) : ob s = hk.obs s.abs := He.obsX_eq (HandSHeadRun.getT_eq s)
set_option maxHeartbeats 0 in
theorem run (w : World) : HandSHeadRun.RunEq Rr (PySem.W.view Rr.prog [lawI]) hk ob 4000 loose w := by
  intro os
  kernel_rfl
theorem facts {w : World} {K : PySem.W.Frag} {h : Heap} {mg : Str → Option Value} {f : Addr} (X : K.In h) (G : h.Ns mainGlobals mg) (hfa : mg ("law" : Str) = some (.ref f)) (c : He.SaysX fa fn [] [] (exL exT) w h K) :
    ∃ fd : FuncData, (∀ (s : Shared) (v : Value), BindsTo s fd ⟨[v], []⟩ [("_law_script", v)]) ∧ ∀ base : Heap, K.In base → base.Ns mainGlobals mg → FnOk RW.prog w K mg base (L2.CX RW.prog w) 9 f fd ["_law_script"] (spD K [0] 0 m_law) := by
  have e := hfa.symm.trans (He.glo_ok X G (c.t.d.fact 42 (f := .glo "law") rfl))
  cases e
  have B : Bs mg := ⟨He.free_ok X G (c.t.d.fact 51 (f := .free "len") rfl), He.free_ok X G (c.t.d.fact 52 (f := .free "list") rfl), He.free_ok X G (c.t.d.fact 58 (f := .free "tuple") rfl), He.free_ok X G (c.t.d.fact 55 (f := .free "range") rfl), He.free_ok X G (c.t.d.fact 48 (f := .free "int") rfl), He.free_ok X G (c.t.d.fact 46 (f := .free "bool") rfl), He.free_ok X G (c.t.d.fact 57 (f := .free "str") rfl), He.free_ok X G (c.t.d.fact 49 (f := .free "isinstance") rfl), He.free_ok X G (c.t.d.fact 56 (f := .free "sorted") rfl), He.free_ok X G (c.t.d.fact 44 (f := .free "all") rfl), He.free_ok X G (c.t.d.fact 45 (f := .free "any") rfl), He.free_ok X G (c.t.d.fact 54 (f := .free "min") rfl), He.free_ok X G (c.t.d.fact 53 (f := .free "max") rfl), He.free_ok X G (c.t.d.fact 47 (f := .free "enumerate") rfl)⟩
  have x_BadNumber : ∀ base : Heap, Xf RW.prog w K mg base "BadNumber" 1 ["name"] := fun base => Mir.x_BadNumber (exL_ec c.more (by simp [exT]) (He.glo_ok X G (c.t.d.fact 62 (f := .glo "BadNumber") rfl))) (c.t.d.def_ 0 (d := d_BadNumber_init) rfl)
  have x_BadPair : ∀ base : Heap, Xf RW.prog w K mg base "BadPair" 1 ["place"] := fun base => Mir.x_BadPair (exL_ec c.more (by simp [exT]) (He.glo_ok X G (c.t.d.fact 66 (f := .glo "BadPair") rfl))) (c.t.d.def_ 2 (d := d_BadPair_init) rfl)
  have g_MOST : ∃ t, mg "MOST" = some (.int 40 t) := He.int_ok X G (c.t.d.fact 59 (f := .int "MOST" 40) rfl)
  have cf_size : ClsF K "size" ["Web"] := fun q hq => by
    simp only [List.mem_cons, List.not_mem_nil, or_false] at hq
    rcases hq with rfl
    · exact ⟨He.cls_ok (c.t.d.fact 71 (f := .cls "Web") rfl), He.noat_ok (c.t.d.fact 91 (f := .noat "Web" "size") rfl)⟩
  have cf_ties : ClsF K "ties" ["Web"] := fun q hq => by
    simp only [List.mem_cons, List.not_mem_nil, or_false] at hq
    rcases hq with rfl
    · exact ⟨He.cls_ok (c.t.d.fact 71 (f := .cls "Web") rfl), He.noat_ok (c.t.d.fact 92 (f := .noat "Web" "ties") rfl)⟩
  have cf_table : ClsF K "table" ["Web"] := fun q hq => by
    simp only [List.mem_cons, List.not_mem_nil, or_false] at hq
    rcases hq with rfl
    · exact ⟨He.cls_ok (c.t.d.fact 71 (f := .cls "Web") rfl), He.noat_ok (c.t.d.fact 93 (f := .noat "Web" "table") rfl)⟩
  have x_NotTied : ∀ base : Heap, Xf RW.prog w K mg base "NotTied" 1 ["first", "second"] := fun base => Mir.x_NotTied (exL_ec c.more (by simp [exT]) (He.glo_ok X G (c.t.d.fact 68 (f := .glo "NotTied") rfl))) (c.t.d.def_ 3 (d := d_NotTied_init) rfl)
  have t__law_draws := fun base : Heap => Mir.t__law_draws (P := RW.prog) (w := w) (base := base) B  ⟨c.t.d.def_ 31 (d := d__law_draws) rfl, (He.glo_ok X G (c.t.d.fact 18 (f := .glo "_law_draws") rfl))⟩
  have t__law_take := fun base : Heap => Mir.t__law_take (P := RW.prog) (w := w) (base := base) B  ⟨c.t.d.def_ 32 (d := d__law_take) rfl, (He.glo_ok X G (c.t.d.fact 19 (f := .glo "_law_take") rfl))⟩
  have t__law_blank := fun base : Heap => Mir.t__law_blank (P := RW.prog) (w := w) (base := base) B  ⟨c.t.d.def_ 34 (d := d__law_blank) rfl, (He.glo_ok X G (c.t.d.fact 21 (f := .glo "_law_blank") rfl))⟩
  have t__law_renamed := fun base : Heap => Mir.t__law_renamed (P := RW.prog) (w := w) (base := base) B (t__law_blank base) ⟨c.t.d.def_ 38 (d := d__law_renamed) rfl, (He.glo_ok X G (c.t.d.fact 25 (f := .glo "_law_renamed") rfl))⟩
  have t__law_near := fun base : Heap => Mir.t__law_near (P := RW.prog) (w := w) (base := base) B (t__law_blank base) ⟨c.t.d.def_ 35 (d := d__law_near) rfl, (He.glo_ok X G (c.t.d.fact 22 (f := .glo "_law_near") rfl))⟩
  have t__law_path := fun base : Heap => Mir.t__law_path (P := RW.prog) (w := w) (base := base) B (t__law_near base) ⟨c.t.d.def_ 40 (d := d__law_path) rfl, (He.glo_ok X G (c.t.d.fact 27 (f := .glo "_law_path") rfl))⟩
  have t__law_row := fun base : Heap => Mir.t__law_row (P := RW.prog) (w := w) (base := base) B (t__law_take base) ⟨c.t.d.def_ 33 (d := d__law_row) rfl, (He.glo_ok X G (c.t.d.fact 20 (f := .glo "_law_row") rfl))⟩
  have t__law_round := fun base : Heap => Mir.t__law_round (P := RW.prog) (w := w) (base := base) B (t__law_near base) ⟨c.t.d.def_ 41 (d := d__law_round) rfl, (He.glo_ok X G (c.t.d.fact 28 (f := .glo "_law_round") rfl))⟩
  have t__law_any_ties := fun base : Heap => Mir.t__law_any_ties (P := RW.prog) (w := w) (base := base) B (t__law_take base) (t__law_near base) ⟨c.t.d.def_ 43 (d := d__law_any_ties) rfl, (He.glo_ok X G (c.t.d.fact 30 (f := .glo "_law_any_ties") rfl))⟩
  have t__law_agree := fun base : Heap => Mir.t__law_agree (P := RW.prog) (w := w) (base := base) B (t__law_blank base) ⟨c.t.d.def_ 42 (d := d__law_agree) rfl, (He.glo_ok X G (c.t.d.fact 29 (f := .glo "_law_agree") rfl))⟩
  have t__law_graft := fun base : Heap => Mir.t__law_graft (P := RW.prog) (w := w) (base := base) B (t__law_blank base) ⟨c.t.d.def_ 39 (d := d__law_graft) rfl, (He.glo_ok X G (c.t.d.fact 26 (f := .glo "_law_graft") rfl))⟩
  have t__law_drawn := fun base : Heap => Mir.t__law_drawn (P := RW.prog) (w := w) (base := base) B (t__law_take base) (t__law_path base) (t__law_round base) (t__law_any_ties base) (t__law_row base) (t__law_agree base) (t__law_graft base) (t__law_renamed base) ⟨c.t.d.def_ 50 (d := d__law_drawn) rfl, (He.glo_ok X G (c.t.d.fact 37 (f := .glo "_law_drawn") rfl))⟩
  have t__law_ties := fun base : Heap => Mir.t__law_ties (P := RW.prog) (w := w) (base := base) B  ⟨c.t.d.def_ 36 (d := d__law_ties) rfl, (He.glo_ok X G (c.t.d.fact 23 (f := .glo "_law_ties") rfl))⟩
  have t_is_integer := fun base : Heap => Mir.t_is_integer (P := RW.prog) (w := w) (base := base) B  ⟨c.t.d.def_ 4 (d := d_is_integer) rfl, (He.glo_ok X G (c.t.d.fact 0 (f := .glo "is_integer") rfl))⟩
  have t_number_of_kind := fun base : Heap => Mir.t_number_of_kind (P := RW.prog) (w := w) (base := base) B (t_is_integer base) (x_BadNumber base) ⟨c.t.d.def_ 8 (d := d_number_of_kind) rfl, (He.glo_ok X G (c.t.d.fact 4 (f := .glo "number_of_kind") rfl))⟩
  have t_is_thing := fun base : Heap => Mir.t_is_thing (P := RW.prog) (w := w) (base := base) B (t_is_integer base) ⟨c.t.d.def_ 5 (d := d_is_thing) rfl, (He.glo_ok X G (c.t.d.fact 1 (f := .glo "is_thing") rfl))⟩
  have t_is_pair := fun base : Heap => Mir.t_is_pair (P := RW.prog) (w := w) (base := base) B (t_is_thing base) ⟨c.t.d.def_ 6 (d := d_is_pair) rfl, (He.glo_ok X G (c.t.d.fact 2 (f := .glo "is_pair") rfl))⟩
  have t_several_pairs := fun base : Heap => Mir.t_several_pairs (P := RW.prog) (w := w) (base := base) B (x_BadPair base) (t_is_pair base) ⟨c.t.d.def_ 10 (d := d_several_pairs) rfl, (He.glo_ok X G (c.t.d.fact 6 (f := .glo "several_pairs") rfl))⟩
  have t_ties_of := fun base : Heap => Mir.t_ties_of (P := RW.prog) (w := w) (base := base) B (t_several_pairs base) ⟨c.t.d.def_ 11 (d := d_ties_of) rfl, (He.glo_ok X G (c.t.d.fact 7 (f := .glo "ties_of") rfl))⟩
  have t_Web_init := fun base : Heap => Mir.t_Web_init (P := RW.prog) (w := w) (base := base) B g_MOST (t_number_of_kind base) cf_size (t_ties_of base) cf_ties cf_table (c.t.d.def_ 14 (d := d_Web_init) rfl) (He.mkr_ok (c.t.d.fact 72 (f := .mkr "Web") rfl)) (He.glo_ok X G (c.t.d.fact 70 (f := .glo "Web") rfl))
  have t_reach_from := fun base : Heap => Mir.t_reach_from (P := RW.prog) (w := w) (base := base) B  ⟨c.t.d.def_ 24 (d := d_reach_from) rfl, (He.glo_ok X G (c.t.d.fact 11 (f := .glo "reach_from") rfl))⟩
  have t_alike_at := fun base : Heap => Mir.t_alike_at (P := RW.prog) (w := w) (base := base) B cf_size cf_table (t_reach_from base) ⟨c.t.d.def_ 25 (d := d_alike_at) rfl, (He.glo_ok X G (c.t.d.fact 12 (f := .glo "alike_at") rfl))⟩
  have t_class_numbers := fun base : Heap => Mir.t_class_numbers (P := RW.prog) (w := w) (base := base) B cf_ties cf_size (t_alike_at base) ⟨c.t.d.def_ 26 (d := d_class_numbers) rfl, (He.glo_ok X G (c.t.d.fact 13 (f := .glo "class_numbers") rfl))⟩
  have t_classes := fun base : Heap => Mir.t_classes (P := RW.prog) (w := w) (base := base) B (t_class_numbers base) ⟨c.t.d.def_ 28 (d := d_classes) rfl, (He.glo_ok X G (c.t.d.fact 15 (f := .glo "classes") rfl))⟩
  have t__law_int := fun base : Heap => Mir.t__law_int (P := RW.prog) (w := w) (base := base) B  ⟨c.t.d.def_ 44 (d := d__law_int) rfl, (He.glo_ok X G (c.t.d.fact 31 (f := .glo "_law_int") rfl))⟩
  have t__law_ints := fun base : Heap => Mir.t__law_ints (P := RW.prog) (w := w) (base := base) B (t__law_int base) ⟨c.t.d.def_ 45 (d := d__law_ints) rfl, (He.glo_ok X G (c.t.d.fact 32 (f := .glo "_law_ints") rfl))⟩
  have t__law_pairs := fun base : Heap => Mir.t__law_pairs (P := RW.prog) (w := w) (base := base) B (t__law_ints base) ⟨c.t.d.def_ 47 (d := d__law_pairs) rfl, (He.glo_ok X G (c.t.d.fact 34 (f := .glo "_law_pairs") rfl))⟩
  have t__law_homes := fun base : Heap => Mir.t__law_homes (P := RW.prog) (w := w) (base := base) B (t__law_pairs base) (t__law_ties base) ⟨c.t.d.def_ 52 (d := d__law_homes) rfl, (He.glo_ok X G (c.t.d.fact 39 (f := .glo "_law_homes") rfl))⟩
  have t__law_contrary := fun base : Heap => Mir.t__law_contrary (P := RW.prog) (w := w) (base := base) B (t__law_blank base) ⟨c.t.d.def_ 37 (d := d__law_contrary) rfl, (He.glo_ok X G (c.t.d.fact 24 (f := .glo "_law_contrary") rfl))⟩
  have t__law_with_all := fun base : Heap => Mir.t__law_with_all (P := RW.prog) (w := w) (base := base) B (t__law_ties base) (t__law_near base) ⟨c.t.d.def_ 51 (d := d__law_with_all) rfl, (He.glo_ok X G (c.t.d.fact 38 (f := .glo "_law_with_all") rfl))⟩
  have t_pair_of := fun base : Heap => Mir.t_pair_of (P := RW.prog) (w := w) (base := base) B (t_is_pair base) (x_BadPair base) ⟨c.t.d.def_ 9 (d := d_pair_of) rfl, (He.glo_ok X G (c.t.d.fact 5 (f := .glo "pair_of") rfl))⟩
  have t_arrow_in := fun base : Heap => Mir.t_arrow_in (P := RW.prog) (w := w) (base := base) B cf_size (t_pair_of base) cf_table (x_NotTied base) ⟨c.t.d.def_ 12 (d := d_arrow_in) rfl, (He.glo_ok X G (c.t.d.fact 8 (f := .glo "arrow_in") rfl))⟩
  have t_class_of := fun base : Heap => Mir.t_class_of (P := RW.prog) (w := w) (base := base) B (t_arrow_in base) (t_class_numbers base) ⟨c.t.d.def_ 27 (d := d_class_of) rfl, (He.glo_ok X G (c.t.d.fact 14 (f := .glo "class_of") rfl))⟩
  have t_touched := fun base : Heap => Mir.t_touched (P := RW.prog) (w := w) (base := base) B (t_class_of base) ⟨c.t.d.def_ 29 (d := d_touched) rfl, (He.glo_ok X G (c.t.d.fact 16 (f := .glo "touched") rfl))⟩
  have t_two_arrows := fun base : Heap => Mir.t_two_arrows (P := RW.prog) (w := w) (base := base) B cf_size (t_pair_of base) (t_arrow_in base) ⟨c.t.d.def_ 13 (d := d_two_arrows) rfl, (He.glo_ok X G (c.t.d.fact 9 (f := .glo "two_arrows") rfl))⟩
  have t_same_class := fun base : Heap => Mir.t_same_class (P := RW.prog) (w := w) (base := base) B (t_two_arrows base) (t_class_numbers base) ⟨c.t.d.def_ 30 (d := d_same_class) rfl, (He.glo_ok X G (c.t.d.fact 17 (f := .glo "same_class") rfl))⟩
  have t__law_lot := fun base : Heap => Mir.t__law_lot (P := RW.prog) (w := w) (base := base) B (t__law_ints base) ⟨c.t.d.def_ 46 (d := d__law_lot) rfl, (He.glo_ok X G (c.t.d.fact 33 (f := .glo "_law_lot") rfl))⟩
  have t__law_steps := fun base : Heap => Mir.t__law_steps (P := RW.prog) (w := w) (base := base) B  ⟨c.t.d.def_ 48 (d := d__law_steps) rfl, (He.glo_ok X G (c.t.d.fact 35 (f := .glo "_law_steps") rfl))⟩
  have t__law_class := fun base : Heap => Mir.t__law_class (P := RW.prog) (w := w) (base := base) B (t__law_steps base) ⟨c.t.d.def_ 49 (d := d__law_class) rfl, (He.glo_ok X G (c.t.d.fact 36 (f := .glo "_law_class") rfl))⟩
  have t__law_drawn_triangle := fun base : Heap => Mir.t__law_drawn_triangle (P := RW.prog) (w := w) (base := base) B (t__law_take base) (t_same_class base) (t__law_class base) (t_touched base) (t__law_lot base) ⟨c.t.d.def_ 54 (d := d__law_drawn_triangle) rfl, (He.glo_ok X G (c.t.d.fact 41 (f := .glo "_law_drawn_triangle") rfl))⟩
  have t__law_one_triangle := fun base : Heap => Mir.t__law_one_triangle (P := RW.prog) (w := w) (base := base) B  ⟨c.t.d.def_ 53 (d := d__law_one_triangle) rfl, (He.glo_ok X G (c.t.d.fact 40 (f := .glo "_law_one_triangle") rfl))⟩
  obtain ⟨fd, F⟩ := c.t.d.def_ 55 (d := d_law) rfl
  exact ⟨fd, fun s v => (FunD.bindsA (ps := ["_law_script"]) F fun _ _ _ _ _ _ us hl => match us, hl with | [_], _ => rfl) s [v] rfl, fun base _ _ => Mir.t_law B (t__law_draws base) (t__law_drawn base) (t__law_take base) (t__law_contrary base) (t__law_with_all base) (t__law_ties base) (t_Web_init base) (t_classes base) (t__law_homes base) (t__law_one_triangle base) (t__law_drawn_triangle base) (t_class_of base) (t__law_class base) F⟩
end Mir
open PySem PySem.W PySem.Calls PyProof.Rows
set_option maxHeartbeats 0 in
theorem PySem.Challenge.cw_ordersbehind_k10_whole_triangle_step_holds : PySem.Challenge.rw_ordersbehind_k10_whole_triangle_step.Holds := by
  w_on; o_law
  refine HandSHeadRun.head_any (r := OpenLaw.row PySem.Challenge.rw_ordersbehind_k10_whole_triangle_step) (q := view (OpenLaw.row PySem.Challenge.rw_ordersbehind_k10_whole_triangle_step).prog [Mir.lawI]) (H := Mir.hk) (ob := Mir.ob) (M := 4000) (loose := Mir.loose)
    (d := HandSHeadRun.topDef (OpenLaw.row PySem.Challenge.rw_ordersbehind_k10_whole_triangle_step).prog Mir.lawI) (kwd := []) Mir.ob_eq
    (by kernel_rfl) (fun s => by kernel_rfl) Mir.run (by kernel_rfl) (by kernel_rfl) (by kernel_rfl)
    (by rfl) (by first | assumption | decide +kernel) (by decide +kernel) ⟨rfl, rfl, rfl, rfl, rfl, by decide +kernel⟩ ?hw ?hc
  case hw => w_witness2
  case hc =>
    refine Mir.walkW (l := PySem.Challenge.rw_ordersbehind_k10_whole_triangle_step) (n := 63) (k := 9) (x := "_law_script") (F := Mir.m_law) rfl (by decide) (by kernel_rfl) ⟨rfl, by decide, by decide⟩ ?F Mir.law_true
    intro w mg fa h Y G hmg0
    obtain ⟨K, KX, c⟩ := Y
    have hmg : mg ("law" : PySem.Str) = some (.ref fa) := by
      have e : (HandSHeadRun.topDef (OpenLaw.row PySem.Challenge.rw_ordersbehind_k10_whole_triangle_step).prog Mir.lawI).name = ("law" : PySem.Str) := by kernel_rfl
      rw [← e]
      exact hmg0
    obtain ⟨fd, hb, hF⟩ := Mir.facts KX G hmg c
    exact ⟨K, fd, KX, hb, hF⟩
