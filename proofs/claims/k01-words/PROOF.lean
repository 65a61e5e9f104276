import PyProof.Rows.All
import Wide.All
import OpenK.AllK
import Wide.FinOn
import HandS.ForMost
import HandS.Wide
import HandS.WideBits
import HandS.IsInst
import HandS.Deep
import HandS.Defaults
import HandS.StrMore
import HandS.More
import HandS.Codes
import HandS.Head0
import HandS.Head1
import HandS.Head2
import HandS.HeadEnd
import HandS.HeadHook1
import HandS.HeadHook2
import KE.KStateDown
import PySem.Challenge.RW_faultwhy_k01_words
set_option Elab.async false
set_option linter.all false
set_option maxRecDepth 100000
set_option maxHeartbeats 2000000
/-! Data without a heap: D, what a value stands for; the frozen part F of the heap H; slots. -/
namespace Py
open PySem PySem.Spec PyProof.Rows L2

/-- data -/
inductive D where
  | non | bl (b : Bool) | int (i : Int) | str (x : Str) | ty (n : String) | ref (a : Addr)
  | lst (xs : List D) | rol (xs : List D) | tup (xs : List D)
  | dK (ks : List Key) (ds : List D) | dT (ks : List (List Key)) (ds : List D) | ins (C : Addr) (ns : List Str) (ds : List D)

def Ex (H H' : Hp) : Prop := ∀ a o, H a = some o → H' a = some o
theorem Ex.refl (H : Hp) : Ex H H := fun _ _ h => h
theorem Ex.trans {H H1 H2 : Hp} (a : Ex H H1) (b : Ex H1 H2) : Ex H H2 := fun x o h => b x o (a x o h)
theorem Ex.new {H : Hp} {p : Addr} {o : HO} (h : H p = none) : Ex H (upd H p o) := fun a u e => by
  rw [upd_ne (ne_of_none e h)]
  exact e
theorem Ex.mut {H H' : Hp} {p : Addr} {o : HO} (e : Ex H H') (h : H p = none) : Ex H (upd H' p o) := fun a u ha => by
  rw [upd_ne (ne_of_none ha h)]
  exact e a u ha
theorem Ex.none {H H' : Hp} (e : Ex H H') {a : Addr} (h : H' a = .none) : H a = .none := by
  cases q : H a with
  | none => rfl
  | some o =>
    rw [e a o q] at h
    cases h
theorem Ex.up {H H' : Hp} (e : Ex H H') {p : Addr} {o : HO} : Ex (upd H p o) (upd H' p o) := fun a u h => by
  by_cases q : a = p
  · subst q
    rw [upd_same] at h ⊢
    exact h
  · rw [upd_ne q] at h ⊢
    exact e a u h
theorem Ex.in {H H' : Hp} (e : Ex H H') {p : Addr} {o : HO} (h : H' p = some o) : Ex (upd H p o) H' := fun a u ha => by
  by_cases q : a = p
  · subst q
    rw [upd_same] at ha
    cases ha
    exact h
  · rw [upd_ne q] at ha
    exact e a u ha

section
variable (K : PySem.W.Frag) (F : Hp)
mutual
def Dat : D → V → Prop
  | .non, v => v = .non
  | .bl b, v => v = .bl b
  | .int i, v => v = .int i
  | .str x, v => v = .str x
  | .ty n, v => v = .ty n
  | .ref a, v => v = .ref a
  | .lst ds, v => ∃ a vs, v = .ref a ∧ F a = some (.lst vs) ∧ Dats ds vs
  | .rol ds, v => ∃ a vs, v = .ref a ∧ SqL K F a vs ∧ Dats ds vs
  | .tup ds, v => ∃ a vs, v = .ref a ∧ F a = some (.tup vs) ∧ Dats ds vs
  | .dK ks ds, v => ∃ a kvs, v = .ref a ∧ F a = some (.dK kvs) ∧ kvs.map (·.1) = ks ∧ Dats ds (kvs.map (·.2))
  | .dT ks ds, v => ∃ a kvs, v = .ref a ∧ F a = some (.dT kvs) ∧ kvs.map (·.1) = ks ∧ Dats ds (kvs.map (·.2))
  | .ins C ns ds, v => ∃ a dx kvs, v = .ref a ∧ F a = some (.ins C dx kvs) ∧ kvs.map (·.1) = ns ∧ Dats ds (kvs.map (·.2))
def Dats : List D → List V → Prop
  | [], vs => vs = []
  | d :: ds, vs => ∃ v r, vs = v :: r ∧ Dat d v ∧ Dats ds r
end
end

theorem exSqL {K : PySem.W.Frag} {H H' : Hp} {a : Addr} {xs : List V} (e : Ex H H') (h : SqL K H a xs) : SqL K H' a xs := by
  rcases h with (h | ⟨o, h⟩) | h
  · exact Or.inl (Or.inl (e a _ h))
  · exact Or.inl (Or.inr ⟨o, e a _ h⟩)
  · exact Or.inr h

section
variable {K : PySem.W.Frag} {F F' : Hp}
mutual
theorem Dat.mono (e : Ex F F') : ∀ {d : D} {v : V}, Dat K F d v → Dat K F' d v
  | .non, _, h => h
  | .bl _, _, h => h
  | .int _, _, h => h
  | .str _, _, h => h
  | .ty _, _, h => h
  | .ref _, _, h => h
  | .lst _, _, h => by
    obtain ⟨a, vs, r, h1, h2⟩ := h
    exact ⟨a, vs, r, e _ _ h1, Dats.mono e h2⟩
  | .rol _, _, h => by
    obtain ⟨a, vs, r, h1, h2⟩ := h
    exact ⟨a, vs, r, exSqL e h1, Dats.mono e h2⟩
  | .tup _, _, h => by
    obtain ⟨a, vs, r, h1, h2⟩ := h
    exact ⟨a, vs, r, e _ _ h1, Dats.mono e h2⟩
  | .dK _ _, _, h => by
    obtain ⟨a, vs, r, h1, h2, h3⟩ := h
    exact ⟨a, vs, r, e _ _ h1, h2, Dats.mono e h3⟩
  | .dT _ _, _, h => by
    obtain ⟨a, vs, r, h1, h2, h3⟩ := h
    exact ⟨a, vs, r, e _ _ h1, h2, Dats.mono e h3⟩
  | .ins _ _ _, _, h => by
    obtain ⟨a, dx, vs, r, h1, h2, h3⟩ := h
    exact ⟨a, dx, vs, r, e _ _ h1, h2, Dats.mono e h3⟩
theorem Dats.mono (e : Ex F F') : ∀ {ds : List D} {vs : List V}, Dats K F ds vs → Dats K F' ds vs
  | [], _, h => h
  | _ :: _, _, h => by
    obtain ⟨v, r, e1, h1, h2⟩ := h
    exact ⟨v, r, e1, Dat.mono e h1, Dats.mono e h2⟩
end
theorem Dats.nil : Dats K F [] [] := rfl
theorem Dats.cons {d : D} {ds : List D} {v : V} {vs : List V} (h : Dat K F d v) (hs : Dats K F ds vs) : Dats K F (d :: ds) (v :: vs) := ⟨v, vs, rfl, h, hs⟩
theorem Dats.length : ∀ {ds : List D} {vs : List V}, Dats K F ds vs → vs.length = ds.length
  | [], _, h => by
    cases (show _ = _ from h)
    rfl
  | _ :: _, _, h => by
    obtain ⟨v, r, e1, h1, h2⟩ := h
    subst e1
    show r.length + 1 = _ + 1
    rw [Dats.length h2]
theorem Dats.get : ∀ {ds : List D} {vs : List V} {i : Nat} {d : D}, Dats K F ds vs → ds[i]? = some d → ∃ v, vs[i]? = some v ∧ Dat K F d v
  | [], _, _, _, _, e => by simp at e
  | d0 :: ds, _, 0, d, h, e => by
    obtain ⟨v, r, e1, h1, h2⟩ := h
    subst e1
    have e : d0 = d := Option.some.inj e
    subst e
    exact ⟨v, rfl, h1⟩
  | _ :: ds, _, i + 1, d, h, e => by
    obtain ⟨v, r, e1, h1, h2⟩ := h
    subst e1
    exact Dats.get (i := i) h2 e
theorem Dats.getV : ∀ {ds : List D} {vs : List V} {i : Nat} {v : V}, Dats K F ds vs → vs[i]? = some v → ∃ d, ds[i]? = some d ∧ Dat K F d v
  | [], _, _, _, h, e => by
    cases (show _ = _ from h)
    simp at e
  | d0 :: ds, _, 0, v', h, e => by
    obtain ⟨v, r, e1, h1, h2⟩ := h
    subst e1
    have e : v = v' := Option.some.inj e
    subst e
    exact ⟨d0, rfl, h1⟩
  | _ :: ds, _, i + 1, v', h, e => by
    obtain ⟨v, r, e1, h1, h2⟩ := h
    subst e1
    exact Dats.getV (i := i) h2 e
theorem Dats.append : ∀ {ds es : List D} {vs ws : List V}, Dats K F ds vs → Dats K F es ws → Dats K F (ds ++ es) (vs ++ ws)
  | [], _, _, _, h, h' => by
    cases (show _ = _ from h)
    exact h'
  | _ :: ds, _, _, _, h, h' => by
    obtain ⟨v, r, e1, h1, h2⟩ := h
    subst e1
    exact ⟨v, _, rfl, h1, Dats.append h2 h'⟩
theorem Dats.snoc {ds : List D} {vs : List V} {d : D} {v : V} (h : Dats K F ds vs) (h' : Dat K F d v) : Dats K F (ds ++ [d]) (vs ++ [v]) := h.append (.cons h' .nil)
theorem Dats.take : ∀ {ds : List D} {vs : List V} (n : Nat), Dats K F ds vs → Dats K F (ds.take n) (vs.take n)
  | [], _, n, h => by
    cases (show _ = _ from h)
    rw [List.take_nil, List.take_nil]
    rfl
  | _ :: _, _, 0, h => rfl
  | _ :: ds, _, n + 1, h => by
    obtain ⟨v, r, e1, h1, h2⟩ := h
    subst e1
    exact ⟨v, _, rfl, h1, Dats.take n h2⟩
theorem Dats.drop : ∀ {ds : List D} {vs : List V} (n : Nat), Dats K F ds vs → Dats K F (ds.drop n) (vs.drop n)
  | [], _, n, h => by
    cases (show _ = _ from h)
    rw [List.drop_nil, List.drop_nil]
    rfl
  | _ :: _, _, 0, h => h
  | _ :: ds, _, n + 1, h => by
    obtain ⟨v, r, e1, h1, h2⟩ := h
    subst e1
    exact Dats.drop n h2
theorem Dats.set : ∀ {ds : List D} {vs : List V} (n : Nat) {d : D} {v : V}, Dats K F ds vs → Dat K F d v → Dats K F (ds.set n d) (vs.set n v)
  | [], _, n, _, _, h, _ => by
    cases (show _ = _ from h)
    rfl
  | _ :: _, _, 0, _, _, h, h' => by
    obtain ⟨v, r, e1, h1, h2⟩ := h
    subst e1
    exact ⟨_, _, rfl, h', h2⟩
  | _ :: ds, _, n + 1, _, _, h, h' => by
    obtain ⟨v, r, e1, h1, h2⟩ := h
    subst e1
    exact ⟨v, _, rfl, h1, Dats.set n h2 h'⟩
theorem Dats.reverse {ds : List D} {vs : List V} (h : Dats K F ds vs) : Dats K F ds.reverse vs.reverse := by
  induction ds generalizing vs with
  | nil =>
    cases (show _ = _ from h)
    rfl
  | cons d ds ih =>
    obtain ⟨v, r, e1, h1, h2⟩ := h
    subst e1
    rw [List.reverse_cons, List.reverse_cons]
    exact (ih h2).snoc h1
theorem Dats.of_get : ∀ {ds : List D} {vs : List V}, vs.length = ds.length → (∀ (i : Nat) v d, vs[i]? = some v → ds[i]? = some d → Dat K F d v) → Dats K F ds vs
  | [], [], _, _ => rfl
  | [], _ :: _, e, _ => by cases e
  | _ :: _, [], e, _ => by cases e
  | d :: ds, v :: vs, e, h => ⟨v, vs, rfl, h 0 v d rfl rfl, Dats.of_get (Nat.succ.inj e) fun i v d => h (i + 1) v d⟩

/-! scalars -/
/-- data that leans on no heap -/
def scD : D → Bool
  | .non | .bl _ | .int _ | .str _ | .ty _ | .ref _ => true
  | _ => false
theorem Dat.sc {d : D} {v : V} (h : Dat K F d v) (hd : scD d = true) : Dat K F' d v := by
  cases d <;> first
    | exact h
    | exact nomatch hd
theorem Dats.ints : ∀ {ns : List Int} {vs : List V}, Dats K F (ns.map D.int) vs → vs = ns.map V.int
  | [], _, h => h
  | n :: ns, _, h => by
    obtain ⟨v, r, e1, h1, h2⟩ := h
    subst e1
    rw [Dats.ints h2, (show v = V.int n from h1)]
    rfl
theorem Dats.of_ints : ∀ {ns : List Int}, Dats K F (ns.map D.int) (ns.map V.int)
  | [] => rfl
  | n :: ns => ⟨_, _, rfl, rfl, Dats.of_ints⟩
theorem Dats.strs : ∀ {ns : List Str} {vs : List V}, Dats K F (ns.map D.str) vs → vs = ns.map V.str
  | [], _, h => h
  | n :: ns, _, h => by
    obtain ⟨v, r, e1, h1, h2⟩ := h
    subst e1
    rw [Dats.strs h2, (show v = V.str n from h1)]
    rfl
theorem Dats.of_strs : ∀ {ns : List Str}, Dats K F (ns.map D.str) (ns.map V.str)
  | [] => rfl
  | n :: ns => ⟨_, _, rfl, rfl, Dats.of_strs⟩
theorem Dats.bls : ∀ {ns : List Bool} {vs : List V}, Dats K F (ns.map D.bl) vs → vs = ns.map V.bl
  | [], _, h => h
  | n :: ns, _, h => by
    obtain ⟨v, r, e1, h1, h2⟩ := h
    subst e1
    rw [Dats.bls h2, (show v = V.bl n from h1)]
    rfl
end

/-! ### objects of one's own, slots -/
/-- what an object holds, its parts frozen -/
def Sh (K : PySem.W.Frag) (F : Hp) : HO → D → Prop
  | .lst vs, .lst ds => Dats K F ds vs
  | .tup vs, .tup ds => Dats K F ds vs
  | .dK kvs, .dK ks ds => kvs.map (·.1) = ks ∧ Dats K F ds (kvs.map (·.2))
  | .dT kvs, .dT ks ds => kvs.map (·.1) = ks ∧ Dats K F ds (kvs.map (·.2))
  | .ins C _ kvs, .ins C' ns ds => C = C' ∧ kvs.map (·.1) = ns ∧ Dats K F ds (kvs.map (·.2))
  | _, _ => False
theorem Sh.mono {K : PySem.W.Frag} {F F' : Hp} (e : Ex F F') {o : HO} {d : D} (h : Sh K F o d) : Sh K F' o d := by
  cases o <;> cases d <;> first
    | exact False.elim h
    | exact Dats.mono e h
    | exact ⟨h.1, Dats.mono e h.2⟩
    | exact ⟨h.1, h.2.1, Dats.mono e h.2.2⟩
/-- frozen: data -/
theorem Sh.dat {K : PySem.W.Frag} {F : Hp} {a : Addr} {o : HO} {d : D} (h : Sh K F o d) (e : F a = some o) : Dat K F d (.ref a) := by
  cases o <;> cases d <;> first
    | exact False.elim h
    | exact ⟨a, _, rfl, e, h⟩
    | exact ⟨a, _, rfl, e, h.1, h.2⟩
    | (obtain ⟨rfl, h1, h2⟩ := h; exact ⟨a, _, _, rfl, e, h1, h2⟩)

/-- from (F, H) to (F', H'): all kept, what is new in F' was not there in H -/
structure Stp (F H F' H' : Hp) : Prop where
  f : Ex F F'
  h : Ex H H'
  s : Ex F' H'
  n : ∀ a, F a = none → H a ≠ none → F' a = none
theorem Stp.refl {F H : Hp} (e : Ex F H) : Stp F H F H := ⟨.refl F, .refl H, e, fun _ h _ => h⟩
theorem Stp.trans {F H F1 H1 F2 H2 : Hp} (a : Stp F H F1 H1) (b : Stp F1 H1 F2 H2) : Stp F H F2 H2 :=
  ⟨a.f.trans b.f, a.h.trans b.h, b.s, fun x h1 h2 => b.n x (a.n x h1 h2) fun z => h2 (a.h.none z)⟩
/-- a new object that is frozen at once -/
theorem Stp.new {F H : Hp} (e : Ex F H) {p : Addr} {o : HO} (h : H p = none) : Stp F H (upd F p o) (upd H p o) :=
  ⟨.new (e.none h), .new h, e.up, fun a h1 h2 => by
    have q : a ≠ p := fun z => h2 (by rw [z]; exact h)
    rw [upd_ne q]
    exact h1⟩
/-- a new object that is not -/
theorem Stp.own {F H : Hp} (e : Ex F H) {p : Addr} {o : HO} (h : H p = none) : Stp F H F (upd H p o) :=
  ⟨.refl F, .new h, e.trans (.new h), fun _ h1 _ => h1⟩
/-- an object that came on the way is frozen -/
theorem Stp.frz {F H F1 H1 : Hp} (a : Stp F H F1 H1) {p : Addr} {o : HO} (h : H p = none) (h1 : F1 p = none) (h2 : H1 p = some o) : Stp F H (upd F1 p o) H1 :=
  ⟨a.f.trans (.new h1), a.h, a.s.in h2, fun x e1 e2 => by
    have q : x ≠ p := fun z => e2 (by rw [z]; exact h)
    rw [upd_ne q]
    exact a.n x e1 e2⟩

/-- a slot: unset (or forgotten), frozen data, an object of one's own -/
inductive Slot where
  | un | fz (d : D) | ow (d : D)

/-- slots and heaps: F0, B: frozen part and heap at the entry; F: frozen now; H: the heap now -/
structure Env (K : PySem.W.Frag) (F0 B F H : Hp) (σ : L2.St) (env : List Slot) : Prop where
  s : Ex F H
  f0 : Ex F0 F
  b : Ex B H
  n : ∀ a, F0 a = none → B a ≠ none → F a = none
  len : σ.length = env.length
  fz : ∀ (i : Nat) (d : D), env[i]? = some (.fz d) → ∃ v, σ[i]? = some (some v) ∧ Dat K F d v
  ow : ∀ (i : Nat) (d : D), env[i]? = some (.ow d) → ∃ a o, σ[i]? = some (some (.ref a)) ∧ F a = none ∧ B a = none ∧ H a = some o ∧ Sh K F o d
  inj : ∀ (i j : Nat) (di dj : D) (a : Addr), env[i]? = some (.ow di) → env[j]? = some (.ow dj) → σ[i]? = some (some (.ref a)) → σ[j]? = some (some (.ref a)) → i = j

section
variable {K : PySem.W.Frag} {F0 B F H F' H' : Hp} {σ : L2.St} {env : List Slot}
theorem Env.step (E : Env K F0 B F H σ env) (t : Stp F H F' H') : Env K F0 B F' H' σ env where
  s := t.s
  f0 := E.f0.trans t.f
  b := E.b.trans t.h
  n := fun a h1 h2 => t.n a (E.n a h1 h2) fun z => h2 (E.b.none z)
  len := E.len
  fz := fun i d e => by
    obtain ⟨v, h1, h2⟩ := E.fz i d e
    exact ⟨v, h1, h2.mono t.f⟩
  ow := fun i d e => by
    obtain ⟨a, o, h1, h2, h3, h4, h5⟩ := E.ow i d e
    exact ⟨a, o, h1, t.n a h2 (by rw [h4]; exact fun z => nomatch z), h3, t.h _ _ h4, h5.mono t.f⟩
  inj := E.inj
/-- a slot set to frozen data -/
theorem Env.setF (E : Env K F0 B F H σ env) {j : Nat} {d : D} {v : V} (h : Dat K F d v) : Env K F0 B F H (σ.set j (some v)) (env.set j (.fz d)) where
  s := E.s
  f0 := E.f0
  b := E.b
  n := E.n
  len := by rw [List.length_set, List.length_set, E.len]
  fz := fun i d' e => by
    by_cases q : j = i
    · subst q
      by_cases hl : j < env.length
      · rw [List.getElem?_set_self hl] at e
        cases e
        exact ⟨v, List.getElem?_set_self (by rw [E.len]; exact hl), h⟩
      · rw [List.getElem?_eq_none (by rw [List.length_set]; omega)] at e
        cases e
    · rw [List.getElem?_set_ne q] at e
      rw [List.getElem?_set_ne q]
      exact E.fz i d' e
  ow := fun i d' e => by
    by_cases q : j = i
    · subst q
      by_cases hl : j < env.length
      · rw [List.getElem?_set_self hl] at e
        cases e
      · rw [List.getElem?_eq_none (by rw [List.length_set]; omega)] at e
        cases e
    · rw [List.getElem?_set_ne q] at e
      rw [List.getElem?_set_ne q]
      exact E.ow i d' e
  inj := fun i k di dk a e1 e2 => by
    have ne : ∀ {i : Nat} {di : D}, (env.set j (.fz d))[i]? = some (.ow di) → j ≠ i := fun {i di} e q => by
      subst q
      by_cases hl : j < env.length
      · rw [List.getElem?_set_self hl] at e
        cases e
      · rw [List.getElem?_eq_none (by rw [List.length_set]; omega)] at e
        cases e
    have n1 := ne e1
    have n2 := ne e2
    rw [List.getElem?_set_ne n1] at e1 ⊢
    rw [List.getElem?_set_ne n2] at e2 ⊢
    exact E.inj i k di dk a e1 e2
/-- a slot set to a new object of one's own -/
theorem Env.setO (E : Env K F0 B F H σ env) {j : Nat} {d : D} {a : Addr} {o : HO} (hF : F a = none) (hB : B a = none) (hH : H a = some o) (h : Sh K F o d)
    (hn : ∀ (i : Nat) (di : D), env[i]? = some (.ow di) → σ[i]? ≠ some (some (.ref a))) : Env K F0 B F H (σ.set j (some (.ref a))) (env.set j (.ow d)) where
  s := E.s
  f0 := E.f0
  b := E.b
  n := E.n
  len := by rw [List.length_set, List.length_set, E.len]
  fz := fun i d' e => by
    by_cases q : j = i
    · subst q
      by_cases hl : j < env.length
      · rw [List.getElem?_set_self hl] at e
        cases e
      · rw [List.getElem?_eq_none (by rw [List.length_set]; omega)] at e
        cases e
    · rw [List.getElem?_set_ne q] at e
      rw [List.getElem?_set_ne q]
      exact E.fz i d' e
  ow := fun i d' e => by
    by_cases q : j = i
    · subst q
      by_cases hl : j < env.length
      · rw [List.getElem?_set_self hl] at e
        cases e
        exact ⟨a, o, List.getElem?_set_self (by rw [E.len]; exact hl), hF, hB, hH, h⟩
      · rw [List.getElem?_eq_none (by rw [List.length_set]; omega)] at e
        cases e
    · rw [List.getElem?_set_ne q] at e
      rw [List.getElem?_set_ne q]
      exact E.ow i d' e
  inj := fun i k di dk b e1 e2 s1 s2 => by
    by_cases q1 : j = i
    · by_cases q2 : j = k
      · exact q1.symm.trans q2
      · subst q1
        by_cases hl : j < env.length
        · rw [List.getElem?_set_self (by rw [E.len]; exact hl)] at s1
          cases s1
          rw [List.getElem?_set_ne q2] at e2 s2
          exact absurd s2 (hn k dk e2)
        · rw [List.getElem?_eq_none (by rw [List.length_set]; omega)] at e1
          cases e1
    · by_cases q2 : j = k
      · subst q2
        by_cases hl : j < env.length
        · rw [List.getElem?_set_self (by rw [E.len]; exact hl)] at s2
          cases s2
          rw [List.getElem?_set_ne q1] at e1 s1
          exact absurd s1 (hn i di e1)
        · rw [List.getElem?_eq_none (by rw [List.length_set]; omega)] at e2
          cases e2
      · rw [List.getElem?_set_ne q1] at e1 s1
        rw [List.getElem?_set_ne q2] at e2 s2
        exact E.inj i k di dk b e1 e2 s1 s2
/-- a slot forgotten -/
theorem Env.setU (E : Env K F0 B F H σ env) {j : Nat} {v : Option V} : Env K F0 B F H (σ.set j v) (env.set j .un) where
  s := E.s
  f0 := E.f0
  b := E.b
  n := E.n
  len := by rw [List.length_set, List.length_set, E.len]
  fz := fun i d' e => by
    by_cases q : j = i
    · subst q
      by_cases hl : j < env.length
      · rw [List.getElem?_set_self hl] at e
        cases e
      · rw [List.getElem?_eq_none (by rw [List.length_set]; omega)] at e
        cases e
    · rw [List.getElem?_set_ne q] at e
      rw [List.getElem?_set_ne q]
      exact E.fz i d' e
  ow := fun i d' e => by
    by_cases q : j = i
    · subst q
      by_cases hl : j < env.length
      · rw [List.getElem?_set_self hl] at e
        cases e
      · rw [List.getElem?_eq_none (by rw [List.length_set]; omega)] at e
        cases e
    · rw [List.getElem?_set_ne q] at e
      rw [List.getElem?_set_ne q]
      exact E.ow i d' e
  inj := fun i k di dk a e1 e2 => by
    have ne : ∀ {i : Nat} {di : D}, (env.set j .un)[i]? = some (.ow di) → j ≠ i := fun {i di} e q => by
      subst q
      by_cases hl : j < env.length
      · rw [List.getElem?_set_self hl] at e
        cases e
      · rw [List.getElem?_eq_none (by rw [List.length_set]; omega)] at e
        cases e
    have n1 := ne e1
    have n2 := ne e2
    rw [List.getElem?_set_ne n1] at e1 ⊢
    rw [List.getElem?_set_ne n2] at e2 ⊢
    exact E.inj i k di dk a e1 e2
/-- the object of one's own in slot j is changed -/
theorem Env.write (E : Env K F0 B F H σ env) {j : Nat} {d d' : D} {a : Addr} {o' : HO} (hj : env[j]? = some (.ow d)) (hs : σ[j]? = some (some (.ref a))) (h : Sh K F o' d') :
    Env K F0 B F (upd H a o') σ (env.set j (.ow d')) := by
  obtain ⟨a', o, h1, h2, h3, h4, h5⟩ := E.ow j d hj
  have ea : a' = a := by
    rw [hs] at h1
    cases h1
    rfl
  subst ea
  have hl : j < env.length := (List.getElem?_eq_some_iff.mp hj).1
  refine ⟨E.s.mut h2, E.f0, E.b.mut h3, E.n, by rw [List.length_set, E.len], fun i d'' e => ?_, fun i d'' e => ?_, fun i k di dk b e1 e2 => ?_⟩
  · by_cases q : j = i
    · subst q
      rw [List.getElem?_set_self hl] at e
      cases e
    · rw [List.getElem?_set_ne q] at e
      exact E.fz i d'' e
  · by_cases q : j = i
    · subst q
      rw [List.getElem?_set_self hl] at e
      cases e
      exact ⟨a', o', hs, h2, h3, upd_same, h⟩
    · rw [List.getElem?_set_ne q] at e
      obtain ⟨b, u, k1, k2, k3, k4, k5⟩ := E.ow i d'' e
      refine ⟨b, u, k1, k2, k3, ?_, k5⟩
      have ne : b ≠ a' := fun z => by
        subst z
        exact q (E.inj j i d d'' b hj e hs k1)
      rw [upd_ne ne]
      exact k4
  · have back : ∀ {i : Nat} {di : D}, (env.set j (.ow d'))[i]? = some (.ow di) → ∃ d2, env[i]? = some (.ow d2) := fun {i di} e => by
      by_cases q : j = i
      · subst q
        exact ⟨d, hj⟩
      · rw [List.getElem?_set_ne q] at e
        exact ⟨di, e⟩
    obtain ⟨d1, e1'⟩ := back e1
    obtain ⟨d2, e2'⟩ := back e2
    exact E.inj i k d1 d2 b e1' e2'
/-- .. is frozen -/
theorem Env.freeze (E : Env K F0 B F H σ env) {j : Nat} {d : D} (hj : env[j]? = some (.ow d)) : ∃ F', Ex F F' ∧ Env K F0 B F' H σ (env.set j (.fz d)) := by
  obtain ⟨a, o, h1, h2, h3, h4, h5⟩ := E.ow j d hj
  have hl : j < env.length := (List.getElem?_eq_some_iff.mp hj).1
  have eF : Ex F (upd F a o) := .new h2
  refine ⟨upd F a o, eF, E.s.in h4, E.f0.trans eF, E.b, fun b e1 e2 => ?_, by rw [List.length_set, E.len], fun i d' e => ?_, fun i d' e => ?_, fun i k di dk b e1 e2 => ?_⟩
  · have q : b ≠ a := fun z => e2 (by rw [z]; exact h3)
    rw [upd_ne q]
    exact E.n b e1 e2
  · by_cases q : j = i
    · subst q
      rw [List.getElem?_set_self hl] at e
      cases e
      exact ⟨.ref a, h1, (h5.mono eF).dat upd_same⟩
    · rw [List.getElem?_set_ne q] at e
      obtain ⟨v, k1, k2⟩ := E.fz i d' e
      exact ⟨v, k1, k2.mono eF⟩
  · by_cases q : j = i
    · subst q
      rw [List.getElem?_set_self hl] at e
      cases e
    · rw [List.getElem?_set_ne q] at e
      obtain ⟨b, u, k1, k2, k3, k4, k5⟩ := E.ow i d' e
      have ne : b ≠ a := fun z => by
        subst z
        exact q (E.inj j i d d' b hj e h1 k1)
      exact ⟨b, u, k1, by rw [upd_ne ne]; exact k2, k3, k4, k5.mono eF⟩
  · have back : ∀ {i : Nat} {di : D}, (env.set j (.fz d))[i]? = some (.ow di) → env[i]? = some (.ow di) := fun {i di} e => by
      by_cases q : j = i
      · subst q
        rw [List.getElem?_set_self hl] at e
        cases e
      · rw [List.getElem?_set_ne q] at e
        exact e
    exact E.inj i k di dk b (back e1) (back e2)
/-- .. back from a loan: the same slots over the older frozen part -/
theorem Env.loan (E : Env K F0 B F H σ env) (h : Ex H H') (hs : True) : Env K F0 B F H' σ env := E.step ⟨.refl F, h, E.s.trans h, fun _ e _ => e⟩
end
end Py

/-! Weakest preconditions over data, and how the hand layer's readings keep them. -/
namespace Py
open PySem PySem.Spec PyProof.Rows L2

/-- how a value is held: frozen, a new object that is nobody's yet, the object of slot i -/
inductive Kd where
  | fz | nw | ow (i : Nat)
/-- may be frozen -/
def Kd.ok : Kd → Prop
  | .ow _ => False
  | _ => True

/-- an exception as data: its class, its fields (none: no dict of its own) -/
structure ExD where
  cls : Addr
  fl : Option (List Str × List D)
def ExR (K : PySem.W.Frag) (F : Hp) (c : Value) (dc : Option Addr) (x : ExD) : Prop :=
  c = .ref x.cls ∧ match x.fl with
    | none => dc = none
    | some p => ∃ a kvs, dc = some a ∧ F a = some (.xd kvs) ∧ kvs.map (·.1) = p.1 ∧ Dats K F p.2 (kvs.map (·.2))

abbrev WE := (ExD → Prop) → List Slot → (Kd → D → Prop) → Prop
abbrev WT := (ExD → Prop) → List Slot → (Bool → Prop) → Prop
abbrev WA := (ExD → Prop) → List Slot → (List D → Prop) → Prop

def Res (K : PySem.W.Frag) (H0 F H : Hp) (σ : L2.St) (env : List Slot) : Kd → V → D → Prop
  | .fz, v, d => Dat K F d v
  | .nw, v, d => ∃ a o, v = .ref a ∧ H0 a = none ∧ F a = none ∧ H a = some o ∧ Sh K F o d
  | .ow i, v, d => env[i]? = some (.ow d) ∧ σ[i]? = some (some v)
/-- a result that is no slot's -/
def ResN (K : PySem.W.Frag) (H0 F H : Hp) : Kd → V → D → Prop
  | .fz, v, d => Dat K F d v
  | .nw, v, d => ∃ a o, v = .ref a ∧ H0 a = none ∧ F a = none ∧ H a = some o ∧ Sh K F o d
  | .ow _, _, _ => False
/-- to be read -/
def Rdb (K : PySem.W.Frag) (F H : Hp) (d : D) (v : V) : Prop := Dat K F d v ∨ ∃ a o, v = .ref a ∧ H a = some o ∧ Sh K F o d
theorem ResN.res {K : PySem.W.Frag} {H0 F H : Hp} {σ : L2.St} {env : List Slot} {k : Kd} {v : V} {d : D} (h : ResN K H0 F H k v d) : Res K H0 F H σ env k v d := by
  cases k with
  | fz => exact h
  | nw => exact h
  | ow i => exact False.elim h

section
variable {K : PySem.W.Frag} {F0 B F H F' H' F1 H1 F2 H2 : Hp} {σ : L2.St} {env : List Slot} {kd : Kd} {v : V} {d : D}
theorem Res.rd (r : Res K H F1 H1 σ env kd v d) (E : Env K F0 B F1 H1 σ env) (t : Stp F1 H1 F2 H2) : Rdb K F2 H2 d v := by
  cases kd with
  | fz => exact .inl (Dat.mono t.f r)
  | nw =>
    obtain ⟨a, o, rfl, h0, h1, h2, h3⟩ := r
    exact .inr ⟨a, o, rfl, t.h _ _ h2, h3.mono t.f⟩
  | ow i =>
    obtain ⟨h1, h2⟩ := r
    obtain ⟨a, o, k1, k2, k3, k4, k5⟩ := E.ow i d h1
    rw [h2] at k1
    cases k1
    exact .inr ⟨a, o, rfl, t.h _ _ k4, k5.mono t.f⟩
/-- frozen -/
theorem Res.frz (r : Res K H F1 H1 σ env kd v d) (t : Stp F H F1 H1) (ok : kd.ok) : ∃ F2, Stp F H F2 H1 ∧ Dat K F2 d v := by
  cases kd with
  | fz => exact ⟨F1, t, r⟩
  | nw =>
    obtain ⟨a, o, rfl, h0, h1, h2, h3⟩ := r
    exact ⟨upd F1 a o, t.frz h0 h1 h2, (h3.mono (.new h1)).dat upd_same⟩
  | ow i => exact False.elim ok
theorem Res.step0 {H0 : Hp} (r : Res K H1 F2 H2 σ env kd v d) (h : Ex H H1) : Res K H F2 H2 σ env kd v d := by
  cases kd with
  | fz => exact r
  | nw =>
    obtain ⟨a, o, e, h0, h1, h2, h3⟩ := r
    exact ⟨a, o, e, h.none h0, h1, h2, h3⟩
  | ow i => exact r
theorem ResN.step0 (r : ResN K H1 F2 H2 kd v d) (h : Ex H H1) : ResN K H F2 H2 kd v d := by
  cases kd with
  | fz => exact r
  | nw =>
    obtain ⟨a, o, e, h0, h1, h2, h3⟩ := r
    exact ⟨a, o, e, h.none h0, h1, h2, h3⟩
  | ow i => exact r
theorem Rdb.of (h : Dat K F d v) : Rdb K F H d v := .inl h
/-- a new object that is not frozen -/
theorem ResN.own {o : HO} {p : Addr} (e : Ex F H) (h : H p = none) (s : Sh K F o d) : ResN K H F (upd H p o) .nw (.ref p) d := ⟨p, o, rfl, h, e.none h, upd_same, s⟩
theorem Rdb.lst {ds : List D} (r : Rdb K F H (.lst ds) v) (e : Ex F H) : ∃ a vs, v = .ref a ∧ H a = some (.lst vs) ∧ Dats K F ds vs := by
  rcases r with ⟨a, vs, h1, h2, h3⟩ | ⟨a, o, h1, h2, h3⟩
  · exact ⟨a, vs, h1, e _ _ h2, h3⟩
  · cases o <;> first
      | exact ⟨a, _, h1, h2, h3⟩
      | exact False.elim h3
theorem Rdb.rol {ds : List D} (r : Rdb K F H (.rol ds) v) (e : Ex F H) : ∃ a vs, v = .ref a ∧ SqL K H a vs ∧ Dats K F ds vs := by
  rcases r with ⟨a, vs, h1, h2, h3⟩ | ⟨a, o, h1, h2, h3⟩
  · exact ⟨a, vs, h1, exSqL e h2, h3⟩
  · cases o <;> exact False.elim h3
theorem Rdb.tup {ds : List D} (r : Rdb K F H (.tup ds) v) (e : Ex F H) : ∃ a vs, v = .ref a ∧ H a = some (.tup vs) ∧ Dats K F ds vs := by
  rcases r with ⟨a, vs, h1, h2, h3⟩ | ⟨a, o, h1, h2, h3⟩
  · exact ⟨a, vs, h1, e _ _ h2, h3⟩
  · cases o <;> first
      | exact ⟨a, _, h1, h2, h3⟩
      | exact False.elim h3
theorem Rdb.dK {ks : List Key} {ds : List D} (r : Rdb K F H (.dK ks ds) v) (e : Ex F H) : ∃ a kvs, v = .ref a ∧ H a = some (.dK kvs) ∧ kvs.map (·.1) = ks ∧ Dats K F ds (kvs.map (·.2)) := by
  rcases r with ⟨a, vs, h1, h2, h3, h4⟩ | ⟨a, o, h1, h2, h3⟩
  · exact ⟨a, vs, h1, e _ _ h2, h3, h4⟩
  · cases o <;> first
      | exact ⟨a, _, h1, h2, h3.1, h3.2⟩
      | exact False.elim h3
theorem Rdb.dT {ks : List (List Key)} {ds : List D} (r : Rdb K F H (.dT ks ds) v) (e : Ex F H) : ∃ a kvs, v = .ref a ∧ H a = some (.dT kvs) ∧ kvs.map (·.1) = ks ∧ Dats K F ds (kvs.map (·.2)) := by
  rcases r with ⟨a, vs, h1, h2, h3, h4⟩ | ⟨a, o, h1, h2, h3⟩
  · exact ⟨a, vs, h1, e _ _ h2, h3, h4⟩
  · cases o <;> first
      | exact ⟨a, _, h1, h2, h3.1, h3.2⟩
      | exact False.elim h3
theorem Rdb.ins {C : Addr} {ns : List Str} {ds : List D} (r : Rdb K F H (.ins C ns ds) v) (e : Ex F H) : ∃ a dx kvs, v = .ref a ∧ H a = some (.ins C dx kvs) ∧ kvs.map (·.1) = ns ∧ Dats K F ds (kvs.map (·.2)) := by
  rcases r with ⟨a, dx, vs, h1, h2, h3, h4⟩ | ⟨a, o, h1, h2, h3⟩
  · exact ⟨a, dx, vs, h1, e _ _ h2, h3, h4⟩
  · cases o <;> first
      | (obtain ⟨rfl, h4, h5⟩ := h3; exact ⟨a, _, _, h1, h2, h4, h5⟩)
      | exact False.elim h3
theorem Rdb.non (r : Rdb K F H .non v) : v = .non := by
  rcases r with h | ⟨a, o, _, _, h⟩
  · exact h
  · cases o <;> exact False.elim h
theorem Rdb.int {i : Int} (r : Rdb K F H (.int i) v) : v = .int i := by
  rcases r with h | ⟨a, o, _, _, h⟩
  · exact h
  · cases o <;> exact False.elim h
theorem Rdb.bl {i : Bool} (r : Rdb K F H (.bl i) v) : v = .bl i := by
  rcases r with h | ⟨a, o, _, _, h⟩
  · exact h
  · cases o <;> exact False.elim h
theorem Rdb.str {i : Str} (r : Rdb K F H (.str i) v) : v = .str i := by
  rcases r with h | ⟨a, o, _, _, h⟩
  · exact h
  · cases o <;> exact False.elim h
theorem Rdb.ty {i : String} (r : Rdb K F H (.ty i) v) : v = .ty i := by
  rcases r with h | ⟨a, o, _, _, h⟩
  · exact h
  · cases o <;> exact False.elim h
theorem Rdb.ref {i : Addr} (r : Rdb K F H (.ref i) v) : v = .ref i := by
  rcases r with h | ⟨a, o, _, _, h⟩
  · exact h
  · cases o <;> exact False.elim h
theorem Rdb.sc (r : Rdb K F H d v) (h : scD d = true) : Dat K F d v := by
  rcases r with h | ⟨a, o, _, _, h1⟩
  · exact h
  · cases d <;> cases o <;> first
      | exact False.elim h1
      | exact nomatch h
end

/-- what an exception that leaves must meet -/
structure EOk (K : PySem.W.Frag) (E : XK) (Pe : ExD → Prop) (F H : Hp) : Prop where
  run : ∀ x c dc F' H', Stp F H F' H' → ExR K F' c dc x → Pe x → E c dc H'
theorem EOk.step {K : PySem.W.Frag} {E : XK} {Pe : ExD → Prop} {F H F1 H1 : Hp} (h : EOk K E Pe F H) (t : Stp F H F1 H1) : EOk K E Pe F1 H1 :=
  ⟨fun x c dc F' H' t' r p => h.run x c dc F' H' (t.trans t') r p⟩

def RelE (K : PySem.W.Frag) (E : XK) (t : TE) (w : WE) : Prop := ∀ {F0 B F H : Hp} {σ : L2.St} {env : List Slot} {Pe : ExD → Prop} {Q : Kd → D → Prop} {Q' : VK}, Py.Env K F0 B F H σ env → EOk K E Pe F H → w Pe env Q →
  (∀ kd v d F' H', Stp F H F' H' → Res K H F' H' σ env kd v d → Q kd d → Q' v H') → t σ H Q'
def RelT (K : PySem.W.Frag) (E : XK) (t : TT) (w : WT) : Prop := ∀ {F0 B F H : Hp} {σ : L2.St} {env : List Slot} {Pe : ExD → Prop} {Q : Bool → Prop} {Q' : Bool → Hp → Prop}, Py.Env K F0 B F H σ env → EOk K E Pe F H → w Pe env Q →
  (∀ b F' H', Stp F H F' H' → Q b → Q' b H') → t σ H Q'
def RelA (K : PySem.W.Frag) (E : XK) (t : TA) (w : WA) : Prop := ∀ {F0 B F H : Hp} {σ : L2.St} {env : List Slot} {Pe : ExD → Prop} {Q : List D → Prop} {Q' : List V → Hp → Prop}, Py.Env K F0 B F H σ env → EOk K E Pe F H → w Pe env Q →
  (∀ vs ds F' H', Stp F H F' H' → Dats K F' ds vs → Q ds → Q' vs H') → t σ H Q'
/-- an operation of two values -/
def RelR2 (K : PySem.W.Frag) (r : R2) (f : D → D → (Kd → D → Prop) → Prop) : Prop := ∀ {F H : Hp} {x y : V} {a b : D} {Q : Kd → D → Prop} {Q' : VK}, Ex F H → Rdb K F H a x → Rdb K F H b y → f a b Q →
  (∀ kd v d F' H', Stp F H F' H' → ResN K H F' H' kd v d → Q kd d → Q' v H') → r x y H Q'
def RelR1 (K : PySem.W.Frag) (r : V → Hp → VK → Prop) (f : D → (Kd → D → Prop) → Prop) : Prop := ∀ {F H : Hp} {x : V} {a : D} {Q : Kd → D → Prop} {Q' : VK}, Ex F H → Rdb K F H a x → f a Q →
  (∀ kd v d F' H', Stp F H F' H' → ResN K H F' H' kd v d → Q kd d → Q' v H') → r x H Q'
/-- a call of values, all frozen -/
def RelC (K : PySem.W.Frag) (r : List V → Hp → VK → Prop) (f : List D → (Kd → D → Prop) → Prop) : Prop := ∀ {F H : Hp} {xs : List V} {as : List D} {Q : Kd → D → Prop} {Q' : VK}, Ex F H → Dats K F as xs → f as Q →
  (∀ kd v d F' H', Stp F H F' H' → ResN K H F' H' kd v d → Q kd d → Q' v H') → r xs H Q'

section
variable {K : PySem.W.Frag} {E : XK} {F0 B F H : Hp} {σ : L2.St} {env : List Slot} {Pe : ExD → Prop}
theorem RelE.rd {t : TE} {w : WE} {Q : D → Prop} {Q' : VK} (r : RelE K E t w) (e : Py.Env K F0 B F H σ env) (x : EOk K E Pe F H) (h : w Pe env fun _ d => Q d)
    (q : ∀ v d F' H', Stp F H F' H' → Rdb K F' H' d v → Q d → Q' v H') : t σ H Q' :=
  r e x h fun kd v d F' H' t' rs hq => q v d F' H' t' (rs.rd (e.step t') (.refl t'.s)) hq
theorem RelE.fz {t : TE} {w : WE} {Q : D → Prop} {Q' : VK} (r : RelE K E t w) (e : Py.Env K F0 B F H σ env) (x : EOk K E Pe F H) (h : w Pe env fun k d => k.ok ∧ Q d)
    (q : ∀ v d F' H', Stp F H F' H' → Dat K F' d v → Q d → Q' v H') : t σ H Q' :=
  r e x h fun kd v d F' H' t' rs hq => by
    obtain ⟨F2, t2, h2⟩ := rs.frz t' hq.1
    exact q v d F2 H' t2 h2 hq.2
end

/-! ### expressions -/
def slotAt : List Slot → Nat → Slot
  | [], _ => .un
  | s :: _, 0 => s
  | _ :: r, n + 1 => slotAt r n
theorem slotAt_get : ∀ {env : List Slot} {i : Nat} {s : Slot}, slotAt env i = s → s ≠ .un → env[i]? = some s
  | [], _, _, h, n => absurd h.symm n
  | s :: _, 0, _, h, _ => by
    subst h
    rfl
  | _ :: r, i + 1, _, h, n => slotAt_get (env := r) (i := i) h n
def onSlot (i : Nat) (Q : Kd → D → Prop) : Slot → Prop
  | .un => False
  | .fz d => Q .fz d
  | .ow d => Q (.ow i) d
def wVar (i : Nat) : WE := fun _ env Q => onSlot i Q (slotAt env i)
def wC (d : D) : WE := fun _ _ Q => Q .fz d
def wOp (f : D → D → (Kd → D → Prop) → Prop) (wa wb : WE) : WE := fun Pe env Q => wa Pe env fun _ a => wb Pe env fun _ b => f a b Q
def wUn (f : D → (Kd → D → Prop) → Prop) (wa : WE) : WE := fun Pe env Q => wa Pe env fun _ a => f a Q
def wNil : WA := fun _ _ Q => Q []
def wCons (we : WE) (wr : WA) : WA := fun Pe env Q => we Pe env fun k d => k.ok ∧ wr Pe env fun ds => Q (d :: ds)
/-- a bool as a test -/
def onB (Q : Bool → Prop) : D → Prop
  | .bl b => Q b
  | _ => False
def wTest (we : WE) : WT := fun Pe env Q => we Pe env fun _ d => onB Q d
structure Br (c : Bool) (A B : Prop) : Prop where
  t : c = true → A
  f : c = false → B
theorem br_eq {c : Bool} {A B : Prop} : Br c A B = (if c = true then A else B) := by
  cases c
  · exact propext ⟨fun h => h.f rfl, fun h => ⟨fun z => (nomatch z), fun _ => h⟩⟩
  · exact propext ⟨fun h => h.t rfl, fun h => ⟨fun _ => h, fun z => (nomatch z)⟩⟩
def wAnd (wa wb : WT) : WT := fun Pe env Q => wa Pe env fun b => Br b (wb Pe env Q) (Q false)
def wOr (wa wb : WT) : WT := fun Pe env Q => wa Pe env fun b => Br b (Q true) (wb Pe env Q)
def wNot (wa : WT) : WT := fun Pe env Q => wa Pe env fun b => Q (!b)
def wAndV (wa wb : WE) : WE := fun Pe env Q => wa Pe env fun _ d => onB (fun b => Br b (wb Pe env Q) (Q .fz (.bl false))) d
def wOrV (wa wb : WE) : WE := fun Pe env Q => wa Pe env fun _ d => onB (fun b => Br b (Q .fz (.bl true)) (wb Pe env Q)) d
def wNotV (wa : WE) : WE := fun Pe env Q => wa Pe env fun _ d => onB (fun b => Q .fz (.bl (!b))) d
def wIfE (wt : WT) (wa wb : WE) : WE := fun Pe env Q => wt Pe env fun b => Br b (wa Pe env Q) (wb Pe env Q)
def wTup (wa : WA) : WE := fun Pe env Q => wa Pe env fun ds => ds.length ≤ 100000 ∧ Q .fz (.tup ds)
def wLst (wa : WA) : WE := fun Pe env Q => wa Pe env fun ds => ds.length ≤ 100000 ∧ Q .nw (.lst ds)
def wChain (f f' : D → D → (Kd → D → Prop) → Prop) (wa wb wc : WE) : WE := fun Pe env Q => wa Pe env fun _ a => wb Pe env fun _ b => f a b fun _ k => onB (fun k => Br k (wc Pe env fun _ c => f' b c Q) (Q .fz (.bl false))) k
/-- a call of a built-in by values -/
def wCB (f : List D → (Kd → D → Prop) → Prop) (wa : WA) : WE := fun Pe env Q => wa Pe env fun ds => f ds Q
/-- .. of one value that is only read -/
def wC1 (f : D → (Kd → D → Prop) → Prop) (we : WE) : WE := fun Pe env Q => we Pe env fun _ d => f d Q

theorem sz_of {n : Nat} (h : n ≤ 100000) : n ≤ sizeLine := Nat.le_trans h (by decide)
theorem sz_lt {n : Nat} (h : n < 100000) : n < sizeLine := Nat.lt_of_lt_of_le h (by decide)

section
variable {K : PySem.W.Frag} {E : XK} {t ta tb tc : TE} {wa wb wc w : WE} {tt tu : TT} {wt wu : WT} {tr : TA} {wr : WA}
theorem rel_var {i : Nat} : RelE K E (tVar i) (wVar i) := by
  intro F0 B F H σ env Pe Q Q' e x h q
  have h : onSlot i Q (slotAt env i) := h
  cases hs : slotAt env i with
  | un =>
    rw [hs] at h
    exact False.elim h
  | fz d =>
    rw [hs] at h
    have hi := slotAt_get hs (fun z => nomatch z)
    obtain ⟨v, h1, h2⟩ := e.fz i d hi
    exact ⟨v, h1, q .fz v d F H (.refl e.s) h2 h⟩
  | ow d =>
    rw [hs] at h
    have hi := slotAt_get hs (fun z => nomatch z)
    obtain ⟨a, o, h1, h2, h3, h4, h5⟩ := e.ow i d hi
    exact ⟨_, h1, q (.ow i) _ d F H (.refl e.s) ⟨hi, h1⟩ h⟩
theorem rel_c {v : V} {d : D} (hd : ∀ F, Dat K F d v) : RelE K E (tC v) (wC d) := by
  intro F0 B F H σ env Pe Q Q' e x h q
  exact q .fz v d F H (.refl e.s) (hd F) h
theorem rel_op {r : R2} {f : D → D → (Kd → D → Prop) → Prop} (hr : RelR2 K r f) (ha : RelE K E ta wa) (hb : RelE K E tb wb) : RelE K E (tOp r ta tb) (wOp f wa wb) := by
  intro F0 B F H σ env Pe Q Q' e x h q
  refine ha e x h fun ka v a F1 H1 t1 ra h1 => ?_
  refine hb (e.step t1) (x.step t1) h1 fun kb u b F2 H2 t2 rb h2 => ?_
  refine hr t2.s (ra.rd (e.step t1) t2) (rb.rd ((e.step t1).step t2) (.refl t2.s)) h2 fun kd z d F3 H3 t3 rz hq => ?_
  exact q kd z d F3 H3 ((t1.trans t2).trans t3) (rz.step0 (t1.trans t2).h).res hq
theorem rel_un {r : V → Hp → VK → Prop} {f : D → (Kd → D → Prop) → Prop} (hr : RelR1 K r f) (ha : RelE K E ta wa) : RelE K E (tUn r ta) (wUn f wa) := by
  intro F0 B F H σ env Pe Q Q' e x h q
  refine ha e x h fun ka v a F1 H1 t1 ra h1 => ?_
  refine hr t1.s (ra.rd (e.step t1) (.refl t1.s)) h1 fun kd z d F3 H3 t3 rz hq => ?_
  exact q kd z d F3 H3 (t1.trans t3) (rz.step0 t1.h).res hq
theorem rel_nil : RelA K E tNil wNil := by
  intro F0 B F H σ env Pe Q Q' e x h q
  exact q [] [] F H (.refl e.s) .nil h
theorem rel_cons (ha : RelE K E ta wa) (hr : RelA K E tr wr) : RelA K E (tCons ta tr) (wCons wa wr) := by
  intro F0 B F H σ env Pe Q Q' e x h q
  refine ha.fz e x h fun v d F1 H1 t1 hd h1 => ?_
  refine hr (e.step t1) (x.step t1) h1 fun vs ds F2 H2 t2 hds hq => ?_
  exact q _ _ F2 H2 (t1.trans t2) (.cons (hd.mono t2.f) hds) hq
theorem rel_test (ha : RelE K E ta wa) : RelT K E (tTest ta) (wTest wa) := by
  intro F0 B F H σ env Pe Q Q' e x h q
  refine ha.rd e x h fun v d F1 H1 t1 hd h1 => ?_
  cases d <;> first
    | exact ⟨_, hd.bl, q _ F1 H1 t1 h1⟩
    | exact False.elim h1
theorem rel_tB (ha : RelE K E ta wa) : RelT K E (tB ta) (wTest wa) := by
  intro F0 B F H σ env Pe Q Q' e x h q
  refine ha.rd e x h fun v d F1 H1 t1 hd h1 => ?_
  cases d <;> first
    | exact ⟨_, hd.bl, q _ F1 H1 t1 h1⟩
    | exact False.elim h1
theorem rel_and (ha : RelT K E tt wt) (hb : RelT K E tu wu) : RelT K E (tAnd tt tu) (wAnd wt wu) := by
  intro F0 B F H σ env Pe Q Q' e x h q
  refine ha e x h fun b F1 H1 t1 h1 => ?_
  cases b with
  | true => exact hb (e.step t1) (x.step t1) (h1.t rfl) fun b F2 H2 t2 h2 => q b F2 H2 (t1.trans t2) h2
  | false => exact q false F1 H1 t1 (h1.f rfl)
theorem rel_or (ha : RelT K E tt wt) (hb : RelT K E tu wu) : RelT K E (tOr tt tu) (wOr wt wu) := by
  intro F0 B F H σ env Pe Q Q' e x h q
  refine ha e x h fun b F1 H1 t1 h1 => ?_
  cases b with
  | true => exact q true F1 H1 t1 (h1.t rfl)
  | false => exact hb (e.step t1) (x.step t1) (h1.f rfl) fun b F2 H2 t2 h2 => q b F2 H2 (t1.trans t2) h2
theorem rel_not (ha : RelT K E tt wt) : RelT K E (tNot tt) (wNot wt) := by
  intro F0 B F H σ env Pe Q Q' e x h q
  exact ha e x h fun b F1 H1 t1 h1 => q (!b) F1 H1 t1 h1
theorem rel_andV (ha : RelE K E ta wa) (hb : RelE K E tb wb) : RelE K E (tAndV ta tb) (wAndV wa wb) := by
  intro F0 B F H σ env Pe Q Q' e x h q
  refine ha.rd e x h fun v d F1 H1 t1 hd h1 => ?_
  cases d <;> try exact False.elim h1
  rename_i b
  refine ⟨b, hd.bl, ?_⟩
  cases b with
  | true => exact hb (e.step t1) (x.step t1) (Br.t h1 rfl) fun k v d F2 H2 t2 r h2 => q k v d F2 H2 (t1.trans t2) (r.step0 (H0 := H) t1.h) h2
  | false => exact q .fz _ (.bl false) F1 H1 t1 rfl (Br.f h1 rfl)
theorem rel_orV (ha : RelE K E ta wa) (hb : RelE K E tb wb) : RelE K E (tOrV ta tb) (wOrV wa wb) := by
  intro F0 B F H σ env Pe Q Q' e x h q
  refine ha.rd e x h fun v d F1 H1 t1 hd h1 => ?_
  cases d <;> try exact False.elim h1
  rename_i b
  refine ⟨b, hd.bl, ?_⟩
  cases b with
  | true => exact q .fz _ (.bl true) F1 H1 t1 rfl (Br.t h1 rfl)
  | false => exact hb (e.step t1) (x.step t1) (Br.f h1 rfl) fun k v d F2 H2 t2 r h2 => q k v d F2 H2 (t1.trans t2) (r.step0 (H0 := H) t1.h) h2
theorem rel_notV (ha : RelE K E ta wa) : RelE K E (tNotV ta) (wNotV wa) := by
  intro F0 B F H σ env Pe Q Q' e x h q
  refine ha.rd e x h fun v d F1 H1 t1 hd h1 => ?_
  cases d <;> try exact False.elim h1
  exact ⟨_, hd.bl, q .fz _ (.bl _) F1 H1 t1 rfl h1⟩
theorem rel_ifE (ht : RelT K E tt wt) (ha : RelE K E ta wa) (hb : RelE K E tb wb) : RelE K E (tIf tt ta tb) (wIfE wt wa wb) := by
  intro F0 B F H σ env Pe Q Q' e x h q
  refine ht e x h fun b F1 H1 t1 h1 => ?_
  cases b with
  | true => exact ha (e.step t1) (x.step t1) (h1.t rfl) fun k v d F2 H2 t2 r h2 => q k v d F2 H2 (t1.trans t2) (r.step0 (H0 := H) t1.h) h2
  | false => exact hb (e.step t1) (x.step t1) (h1.f rfl) fun k v d F2 H2 t2 r h2 => q k v d F2 H2 (t1.trans t2) (r.step0 (H0 := H) t1.h) h2
theorem rel_tup (hr : RelA K E tr wr) : RelE K E (tTup tr) (wTup wr) := by
  intro F0 B F H σ env Pe Q Q' e x h q
  refine hr e x h fun vs ds F1 H1 t1 hd h1 => ?_
  refine ⟨sz_of (by rw [hd.length]; exact h1.1), fun p hp => ?_⟩
  have t2 : Stp F1 H1 (upd F1 p (.tup vs)) (upd H1 p (.tup vs)) := .new t1.s hp
  exact q .fz _ (.tup ds) _ _ (t1.trans t2) ⟨p, vs, rfl, upd_same, hd.mono t2.f⟩ h1.2
theorem rel_lst (hr : RelA K E tr wr) : RelE K E (tLst tr) (wLst wr) := by
  intro F0 B F H σ env Pe Q Q' e x h q
  refine hr e x h fun vs ds F1 H1 t1 hd h1 => ?_
  refine ⟨sz_of (by rw [hd.length]; exact h1.1), fun p hp => ?_⟩
  have t2 : Stp F1 H1 F1 (upd H1 p (.lst vs)) := .own t1.s hp
  exact q .nw _ (.lst ds) _ _ (t1.trans t2) ⟨p, .lst vs, rfl, t1.h.none hp, t1.s.none hp, upd_same, hd⟩ h1.2
theorem rel_chain {r r' : R2} {f f' : D → D → (Kd → D → Prop) → Prop} (hr : RelR2 K r f) (hr' : RelR2 K r' f') (ha : RelE K E ta wa) (hb : RelE K E tb wb) (hc : RelE K E tc wc) : RelE K E (tChain r r' ta tb tc) (wChain f f' wa wb wc) := by
  intro F0 B F H σ env Pe Q Q' e x h q
  refine ha e x h fun ka v a F1 H1 t1 ra h1 => ?_
  refine hb (e.step t1) (x.step t1) h1 fun kb u b F2 H2 t2 rb h2 => ?_
  have e2 := (e.step t1).step t2
  have x2 := (x.step t1).step t2
  refine hr t2.s (ra.rd (e.step t1) t2) (rb.rd e2 (.refl t2.s)) h2 fun kd z d F3 H3 t3 rz hq => ?_
  cases d <;> try exact False.elim hq
  rename_i k
  have hz : Rdb K F3 H3 (.bl k) z := Res.rd (rz.res (σ := σ) (env := env)) (e2.step t3) (.refl t3.s)
  refine ⟨k, hz.bl, ?_⟩
  cases k with
  | true =>
    refine hc (e2.step t3) (x2.step t3) (Br.t hq rfl) fun kc w' c F4 H4 t4 rc h4 => ?_
    refine hr' t4.s (rb.rd e2 (t3.trans t4)) (rc.rd ((e2.step t3).step t4) (.refl t4.s)) h4 fun kd z d F5 H5 t5 rz hq => ?_
    exact q kd z d F5 H5 ((((t1.trans t2).trans t3).trans t4).trans t5) (rz.step0 (((t1.trans t2).trans t3).trans t4).h).res hq
  | false => exact q .fz _ (.bl false) F3 H3 ((t1.trans t2).trans t3) rfl (Br.f hq rfl)
theorem rel_cb {r : List V → Hp → VK → Prop} {f : List D → (Kd → D → Prop) → Prop} (hf : RelC K r f) (hr : RelA K E tr wr) : RelE K E (tCB r tr) (wCB f wr) := by
  intro F0 B F H σ env Pe Q Q' e x h q
  refine hr e x h fun vs ds F1 H1 t1 hd h1 => ?_
  exact hf t1.s hd h1 fun kd z d F3 H3 t3 rz hq => q kd z d F3 H3 (t1.trans t3) (rz.step0 t1.h).res hq
theorem rel_c1 {r : List V → Hp → VK → Prop} {f : D → (Kd → D → Prop) → Prop} (hf : RelR1 K (fun v H Q => r [v] H Q) f) (ha : RelE K E ta wa) : RelE K E (tCB r (tCons ta tNil)) (wC1 f wa) := by
  intro F0 B F H σ env Pe Q Q' e x h q
  refine ha.rd e x h fun v d F1 H1 t1 hd h1 => ?_
  exact hf t1.s hd h1 fun kd z d F3 H3 t3 rz hq => q kd z d F3 H3 (t1.trans t3) (rz.step0 t1.h).res hq
/-- the slot i lent for a value that leans on no heap -/
def wLoan (i : Nat) (w : WE) : WE := fun Pe env Q => ∃ d, slotAt env i = .ow d ∧ w Pe (env.set i (.fz d)) fun k d => scD d = true ∧ Q .fz d
def wLoanT (i : Nat) (w : WT) : WT := fun Pe env Q => ∃ d, slotAt env i = .ow d ∧ w Pe (env.set i (.fz d)) Q
end
end Py

/-! Statements, loops, comprehensions over data. -/
namespace Py
open PySem PySem.Spec PyProof.Rows L2

structure Post where
  nx : List Slot → Prop
  rt : Kd → D → Prop
  bk : List Slot → Prop := fun _ => False
  ct : List Slot → Prop := fun _ => False
  ex : ExD → Prop := fun _ => False
abbrev WS := List Slot → Post → Prop
abbrev WG := D → List Slot → (List Slot → Prop) → Prop
abbrev WI := (ExD → Prop) → List Slot → (List D → Prop) → Prop

structure EndOk (K : PySem.W.Frag) (F0 B : Hp) (P : Post) (D : Ends) : Prop where
  nx : ∀ {σ env F H}, Py.Env K F0 B F H σ env → P.nx env → D.nx σ H
  rt : ∀ {kd v d F H}, Stp F0 B F H → ResN K B F H kd v d → P.rt kd d → D.rt v H
  bk : ∀ {σ env F H}, Py.Env K F0 B F H σ env → P.bk env → D.bk σ H
  ct : ∀ {σ env F H}, Py.Env K F0 B F H σ env → P.ct env → D.ct σ H
theorem Env.t {K : PySem.W.Frag} {F0 B F H : Hp} {σ : L2.St} {env : List Slot} (E : Py.Env K F0 B F H σ env) : Stp F0 B F H := ⟨E.f0, E.b, E.s, E.n⟩

def RelS (K : PySem.W.Frag) (E : XK) (t : TS) (w : WS) : Prop := ∀ {F0 B F H : Hp} {σ : L2.St} {env : List Slot} {P : Post} {D : Ends}, Py.Env K F0 B F H σ env → EOk K E P.ex F0 B → EndOk K F0 B P D → w env P → t D σ H
def RelG (K : PySem.W.Frag) (g : TG) (w : WG) : Prop := ∀ {F0 B F H : Hp} {σ : L2.St} {env : List Slot} {d : D} {v : V} {Q : List Slot → Prop} {Q' : L2.St → Hp → Prop}, Py.Env K F0 B F H σ env → Dat K F d v → w d env Q →
  (∀ {σ' env'}, Py.Env K F0 B F H σ' env' → Q env' → Q' σ' H) → g v σ H Q'
abbrev WGs := List D → List Slot → (List Slot → Prop) → Prop
def RelGs (K : PySem.W.Frag) (g : TGs) (w : WGs) : Prop := ∀ {F0 B F H : Hp} {σ : L2.St} {env : List Slot} {ds : List D} {vs : List V} {Q : List Slot → Prop} {Q' : L2.St → Hp → Prop}, Py.Env K F0 B F H σ env → Dats K F ds vs → w ds env Q →
  (∀ {σ' env'}, Py.Env K F0 B F H σ' env' → Q env' → Q' σ' H) → g vs σ H Q'
/-- an iterator that gives these data, whatever else happens -/
structure Yl (K : PySem.W.Frag) (J : It) (F1 : Hp) (ds : List D) : Prop where
  go : ∀ {i F H}, Ex F1 F → Ex F H → i < ds.length → J.go i H
  yl : ∀ {i F H x H'}, Ex F1 F → Ex F H → i < ds.length → J.yld i H x H' → ∃ d F', ds[i]? = some d ∧ Stp F H F' H' ∧ Dat K F' d x
  st : ∀ {F H}, Ex F1 F → Ex F H → J.stop ds.length H
def RelI (K : PySem.W.Frag) (E : XK) (t : TI) (w : WI) : Prop := ∀ {F0 B F H : Hp} {σ : L2.St} {env : List Slot} {Pe : ExD → Prop} {Q : List D → Prop} {Q' : It → Hp → Prop}, Py.Env K F0 B F H σ env → EOk K E Pe F H → w Pe env Q →
  (∀ {J ds F' H'}, Stp F H F' H' → Yl K J F' ds → Q ds → Q' J H') → t σ H Q'

/-! ### combinators -/
def setAt : List Slot → Nat → Slot → List Slot
  | [], _, _ => []
  | _ :: r, 0, s => s :: r
  | a :: r, n + 1, s => a :: setAt r n s
theorem setAt_eq : ∀ (env : List Slot) (n : Nat) (s : Slot), setAt env n s = env.set n s
  | [], _, _ => rfl
  | _ :: _, 0, _ => rfl
  | a :: r, n + 1, s => congrArg (a :: ·) (setAt_eq r n s)
def wNext : WS := fun env P => P.nx env
def wNever : WS := fun _ _ => False
def wSeq (a b : WS) : WS := fun env P => a env { P with nx := fun e => b e P }
def wAsg (we : WE) (g : WG) : WS := fun env P => we P.ex env fun k d => k.ok ∧ g d env P.nx
def wAsgO (i : Nat) (we : WE) : WS := fun env P => we P.ex env fun k d => k = .nw ∧ P.nx (setAt env i (.ow d))
def wDrop (we : WE) : WS := fun env P => we P.ex env fun _ _ => P.nx env
def wIf (wt : WT) (a b : WS) : WS := fun env P => wt P.ex env fun c => Br c (a env P) (b env P)
def Kd.out : Kd → Kd
  | .fz => .fz
  | _ => .nw
def wRet (we : WE) : WS := fun env P => we P.ex env fun k d => P.rt k.out d
/-- what is handed back is frozen -/
def wRetF (we : WE) : WS := fun env P => we P.ex env fun _ d => P.rt .fz d
def wRetN : WS := fun _ P => P.rt .fz .non
def wBreak : WS := fun env P => P.bk env
def wCont : WS := fun env P => P.ct env
def wAug (i : Nat) (f : D → D → (Kd → D → Prop) → Prop) (we : WE) : WS := fun env P => onSlot i (fun k a => k = .fz ∧ we P.ex env fun _ b => f a b fun k d => k.ok ∧ P.nx (setAt env i (.fz d))) (slotAt env i)
/-- the slot i is frozen first -/
def wFrz (i : Nat) (w : WS) : WS := fun env P => ∃ d, slotAt env i = .ow d ∧ w (setAt env i (.fz d)) P
/-- the slot i is forgotten first -/
def wForget (i : Nat) (w : WS) : WS := fun env P => w (setAt env i .un) P
def gN (i : Nat) : WG := fun d env Q => Q (setAt env i (.fz d))
def gNil' : WGs := fun ds env Q => ds = [] ∧ Q env
def gCons' (g : WG) (r : WGs) : WGs := fun ds env Q => match ds with
  | [] => False
  | d :: ds => g d env fun e => r ds e Q
def gT (n : Nat) (r : WGs) : WG := fun d env Q => match d with
  | .tup ds => ds.length = n ∧ r ds env Q
  | _ => False
/-- the turns of a loop -/
def forGo (g : WG) (wb : WS) (P : Post) : List D → List Slot → Prop
  | [], env => P.nx env
  | d :: ds, env => g d env fun e => wb e { P with nx := forGo g wb P ds, ct := forGo g wb P ds, bk := P.nx }
def wFor (wi : WI) (g : WG) (wb : WS) : WS := fun env P => wi P.ex env fun ds => forGo g wb P ds env
def wWhile (wt : WT) (wb : WS) : WS := fun env P => ∃ I : Nat → List Slot → Prop, (∃ m, I m env) ∧ ∀ m env, I m env →
  wt P.ex env fun b => Br b (wb env { P with nx := fun e => ∃ m', m' < m ∧ I m' e, ct := fun e => ∃ m', m' < m ∧ I m' e, bk := P.nx }) (P.nx env)
/-- what a loop walks -/
def onL (Q : List D → Prop) : D → Prop
  | .lst ds => Q ds
  | .rol ds => Q ds
  | _ => False
def onT (Q : List D → Prop) : D → Prop
  | .tup ds => Q ds
  | _ => False
def onS (Q : List D → Prop) : D → Prop
  | .str x => Q (x.cps.toList.map fun c => .str ⟨#[c]⟩)
  | _ => False
def iL (we : WE) : WI := fun Pe env Q => we Pe env fun k d => k.ok ∧ onL Q d
def iT (we : WE) : WI := fun Pe env Q => we Pe env fun k d => k.ok ∧ onT Q d
def iS (we : WE) : WI := fun Pe env Q => we Pe env fun _ d => onS Q d
def on1 (Q : D → Prop) : List D → Prop
  | [] => False
  | d :: r => r = [] ∧ Q d
def on2 (Q : D → D → Prop) : List D → Prop
  | [] => False
  | d :: r => on1 (Q d) r
def onI (Q : Int → Prop) : D → Prop
  | .int n => Q n
  | _ => False
def iR1 (wa : WA) : WI := fun Pe env Q => wa Pe env (on1 (onI fun n => n ≤ 1000000 ∧ -1000000 ≤ n ∧ Q ((List.range n.toNat).map fun (i : Nat) => .int i)))
def iR2 (wa : WA) : WI := fun Pe env Q => wa Pe env (on2 fun a b => onI (fun l => onI (fun n => (l ≤ 1000000 ∧ -1000000 ≤ l) ∧ n ≤ 1000000 ∧ -1000000 ≤ n ∧ Q ((List.range (n - l).toNat).map fun (i : Nat) => .int (l + i))) b) a)
def enumD (ds : List D) : List D := ds.zipIdx.map fun p => .tup [.int (p.2 : Nat), p.1]
def iEn (wa : WA) : WI := fun Pe env Q => wa Pe env (on1 (onL fun xs => Q (enumD xs)))
def zipD (xs ys : List D) : List D := (xs.zip ys).map fun p => .tup [p.1, p.2]
def iZ (wa : WA) : WI := fun Pe env Q => wa Pe env (on2 fun a b => onL (fun xs => onL (fun ys => Q (zipD xs ys)) b) a)
def iRv (wa : WA) : WI := fun Pe env Q => wa Pe env (on1 (onL fun xs => Q xs.reverse))
def noX : ExD → Prop := fun _ => False
def lcGo (g : WG) (wt : WT) (we : WE) (env : List Slot) (Q : List D → Prop) : List D → List D → Prop
  | [], acc => Q acc
  | d :: ds, acc => g d env fun e => wt noX e fun b => Br b (we noX e fun k r => k.ok ∧ lcGo g wt we env Q ds (acc ++ [r])) (lcGo g wt we env Q ds acc)
def wipeE (env : List Slot) : List Nat → List Slot
  | [] => env
  | v :: vs => setAt (wipeE env vs) v .un
def wYes : WT := fun _ _ Q => Q true
def wLc (wi : WI) (g : WG) (wt : WT) (we : WE) (vs : List Nat) : WE := fun Pe env Q => wi Pe env fun ds => ds.length ≤ 100000 ∧ lcGo g wt we (wipeE env vs) (fun rs => Q .nw (.lst rs)) ds []

/-! ### they are kept -/
section
variable {K : PySem.W.Frag} {E : XK} {t ta tb tc te : TE} {wa wb wc we : WE} {tt tu : TT} {wt wu : WT} {tr : TA} {wr : WA} {ts tz : TS} {ws wz : WS} {g : TG} {wg : WG} {gs : TGs} {wgs : WGs} {ti : TI} {wi : WI}
theorem rel_next : RelS K E tNext wNext := fun e _ o h => o.nx e h
theorem rel_break : RelS K E tBreak wBreak := fun e _ o h => o.bk e h
theorem rel_cont : RelS K E tCont wCont := fun e _ o h => o.ct e h
theorem rel_never : RelS K E tNever wNever := fun _ _ _ h => h
theorem rel_seq (h1 : RelS K E ts ws) (h2 : RelS K E tz wz) : RelS K E (tSeq ts tz) (wSeq ws wz) := by
  intro F0 B F H σ env P D e x o h
  exact h1 (P := { P with nx := fun e => wz e P }) e x ⟨fun e' h' => h2 e' x o h', o.rt, o.bk, o.ct⟩ h
theorem rel_asg (he : RelE K E te we) (hg : RelG K g wg) : RelS K E (tAsg te g) (wAsg we wg) := by
  intro F0 B F H σ env P D e x o h
  refine he.fz e (x.step e.t) h fun v d F1 H1 t1 hd h1 => ?_
  exact hg (e.step t1) hd h1 fun e' h' => o.nx e' h'
theorem rel_asgO {i : Nat} (he : RelE K E te we) : RelS K E (tAsg te (gName i)) (wAsgO i we) := by
  intro F0 B F H σ env P D e x o h
  refine he e (x.step e.t) h fun kd v d F1 H1 t1 r h1 => ?_
  obtain ⟨rfl, h1⟩ := h1
  obtain ⟨a, ob, rfl, k0, k1, k2, k3⟩ := r
  rw [setAt_eq] at h1
  refine o.nx ((e.step t1).setO k1 (e.b.none k0) k2 k3 fun i di hi hs => ?_) h1
  obtain ⟨a', o', q1, q2, q3, q4, q5⟩ := e.ow i di hi
  rw [hs] at q1
  cases q1
  rw [k0] at q4
  cases q4
theorem rel_drop (he : RelE K E te we) : RelS K E (tDrop te) (wDrop we) := by
  intro F0 B F H σ env P D e x o h
  exact he e (x.step e.t) h fun kd v d F1 H1 t1 r h1 => o.nx (e.step t1) h1
theorem rel_if (ht : RelT K E tt wt) (h1 : RelS K E ts ws) (h2 : RelS K E tz wz) : RelS K E (tIfS tt ts tz) (wIf wt ws wz) := by
  intro F0 B F H σ env P D e x o h
  refine ht e (x.step e.t) h fun b F1 H1 t1 h => ?_
  cases b with
  | true => exact h1 (e.step t1) x o (h.t rfl)
  | false => exact h2 (e.step t1) x o (h.f rfl)
theorem rel_ret (he : RelE K E te we) : RelS K E (tRet te) (wRet we) := by
  intro F0 B F H σ env P D e x o h
  refine he e (x.step e.t) h fun kd v d F1 H1 t1 r h1 => ?_
  have e1 := e.step t1
  cases kd with
  | fz => exact o.rt e1.t (kd := .fz) r h1
  | nw =>
    obtain ⟨a, ob, rfl, k0, k1, k2, k3⟩ := r
    exact o.rt e1.t (kd := .nw) (d := d) ⟨a, ob, rfl, e.b.none k0, k1, k2, k3⟩ h1
  | ow i =>
    obtain ⟨r1, r2⟩ := r
    obtain ⟨a, ob, q1, q2, q3, q4, q5⟩ := e1.ow i d r1
    rw [r2] at q1
    cases q1
    exact o.rt e1.t (kd := .nw) (d := d) ⟨a, ob, rfl, q3, q2, q4, q5⟩ h1
theorem rel_retF (he : RelE K E te we) : RelS K E (tRet te) (wRetF we) := by
  intro F0 B F H σ env P D e x o h
  refine he e (x.step e.t) h fun kd v d F1 H1 t1 r h1 => ?_
  have e1 := e.step t1
  cases kd with
  | fz => exact o.rt e1.t (kd := .fz) r h1
  | nw =>
    obtain ⟨a, ob, rfl, k0, k1, k2, k3⟩ := r
    exact o.rt (e.t.trans (t1.frz k0 k1 k2)) (kd := .fz) (d := d) ((k3.mono (.new k1)).dat upd_same) h1
  | ow i =>
    obtain ⟨r1, r2⟩ := r
    obtain ⟨a, ob, q1, q2, q3, q4, q5⟩ := e1.ow i d r1
    rw [r2] at q1
    cases q1
    exact o.rt (e1.t.frz q3 q2 q4) (kd := .fz) (d := d) ((q5.mono (.new q2)).dat upd_same) h1
theorem rel_retN : RelS K E tRetN wRetN := fun e _ o h => o.rt e.t (kd := .fz) (d := .non) rfl h
theorem rel_frz {i : Nat} (h1 : RelS K E ts ws) : RelS K E ts (wFrz i ws) := by
  intro F0 B F H σ env P D e x o h
  obtain ⟨d, hd, h⟩ := h
  obtain ⟨F', eF, e'⟩ := e.freeze (slotAt_get hd fun z => nomatch z)
  rw [setAt_eq] at h
  exact h1 e' x o h
theorem rel_aug {i : Nat} {tip : TIp} {f : D → D → (Kd → D → Prop) → Prop} (hr : RelR2 K tip f) (he : RelE K E te we) : RelS K E (tAug i te tip) (wAug i f we) := by
  intro F0 B F H σ env P D e x o h
  have h : onSlot i _ (slotAt env i) := h
  cases hs : slotAt env i with
  | un =>
    rw [hs] at h
    exact False.elim h
  | ow d =>
    rw [hs] at h
    exact nomatch h.1
  | fz d =>
    rw [hs] at h
    have hi := slotAt_get hs (fun z => nomatch z)
    obtain ⟨v, h1, h2⟩ := e.fz i d hi
    refine ⟨v, h1, ?_⟩
    refine he.rd e (x.step e.t) h.2 fun y b F1 H1 t1 hb hf => ?_
    refine hr t1.s (.inl (h2.mono t1.f)) hb hf fun kd z d' F2 H2 t2 r hq => ?_
    obtain ⟨F3, t3, hd⟩ := Res.frz (σ := σ) (env := env) (r.res) t2 hq.1
    have hn := hq.2
    rw [setAt_eq] at hn
    exact o.nx (((e.step t1).step t3).setF hd) hn
theorem rel_gN {i : Nat} : RelG K (gName i) (gN i) := by
  intro F0 B F H σ env d v Q Q' e hd h q
  have h : Q (setAt env i (.fz d)) := h
  rw [setAt_eq] at h
  exact q (e.setF hd) h
theorem rel_gNil : RelGs K gNil gNil' := by
  intro F0 B F H σ env ds vs Q Q' e hd h q
  obtain ⟨rfl, h⟩ := h
  exact ⟨hd, q e h⟩
theorem rel_gCons (h1 : RelG K g wg) (h2 : RelGs K gs wgs) : RelGs K (gCons g gs) (gCons' wg wgs) := by
  intro F0 B F H σ env ds vs Q Q' e hd h q
  cases ds with
  | nil => exact False.elim h
  | cons d ds =>
    obtain ⟨v, r, rfl, d1, d2⟩ := hd
    exact ⟨v, r, rfl, h1 e d1 h fun e' h' => h2 e' d2 h' q⟩
theorem rel_gT {n : Nat} (h1 : RelGs K gs wgs) : RelG K (gTup K n gs) (gT n wgs) := by
  intro F0 B F H σ env d v Q Q' e hd h q
  cases d <;> try exact False.elim h
  obtain ⟨a, vs, rfl, k1, k2⟩ := hd
  exact ⟨a, vs, rfl, SqT.of (e.s _ _ k1), by rw [k2.length]; exact h.1, h1 e k2 h.2 q⟩
theorem getElem?_drop_cons {α : Type} {l : List α} {i : Nat} {x : α} (h : l[i]? = some x) : l.drop i = x :: l.drop (i + 1) := by
  obtain ⟨h1, h2⟩ := List.getElem?_eq_some_iff.mp h
  rw [List.drop_eq_getElem_cons h1, h2]
theorem Env.base {F0 B F H : Hp} {σ : L2.St} {env : List Slot} (e : Py.Env K F0 B F H σ env) : Py.Env K F B F H σ env := ⟨e.s, .refl _, e.b, fun _ h _ => h, e.len, e.fz, e.ow, e.inj⟩
theorem Stp.over {F0 B F2 H2 F H : Hp} (t : Stp F0 B F2 H2) (s : Stp F2 B F H) : Stp F0 B F H := ⟨t.f.trans s.f, s.h, s.s, fun a k1 k2 => s.n a (t.n a k1 k2) k2⟩
theorem Env.over {F0 B F2 H2 F H : Hp} {σ : L2.St} {env : List Slot} (t : Stp F0 B F2 H2) (e : Py.Env K F2 B F H σ env) : Py.Env K F0 B F H σ env :=
  ⟨e.s, t.f.trans e.f0, e.b, (t.over e.t).n, e.len, e.fz, e.ow, e.inj⟩
theorem EOk.over {Pe : ExD → Prop} {F0 B F2 H2 : Hp} (t : Stp F0 B F2 H2) (x : EOk K E Pe F0 B) : EOk K E Pe F2 B := ⟨fun y c dc F' H' s r p => x.run y c dc F' H' (t.over s) r p⟩
theorem rel_for (hi : RelI K E ti wi) (hg : RelG K g wg) (hb : RelS K E tz wz) : RelS K E (tFor ti g tz) (wFor wi wg wz) := by
  intro F0 B F H σ env P D e x o h
  refine hi e (x.step e.t) h fun {J ds F1 H1} t1 y hq => ?_
  refine ⟨fun i m σ' H' => m = ds.length - i ∧ i ≤ ds.length ∧ ∃ F' env', Ex F1 F' ∧ Py.Env K F0 B F' H' σ' env' ∧ forGo wg wz P (ds.drop i) env', ⟨_, rfl, Nat.zero_le _, F1, env, .refl _, e.step t1, hq⟩, ?_⟩
  rintro i m σ' H' ⟨rfl, hil, F', env', eF, e', hf⟩
  by_cases hlt : i < ds.length
  · refine .inr ⟨y.go eF e'.s hlt, fun σ2 H2 => ∃ F2 env2, Ex F1 F2 ∧ Py.Env K F0 B F2 H2 σ2 env2 ∧ forGo wg wz P (ds.drop (i + 1)) env2, fun σ2 H2 ⟨F2, env2, q1, q2, q3⟩ => ⟨ds.length - (i + 1), by omega, rfl, hlt, F2, env2, q1, q2, q3⟩, fun v H'' hy => ?_⟩
    obtain ⟨d, F2, hd, t2, hdat⟩ := y.yl eF e'.s hlt hy
    rw [getElem?_drop_cons hd] at hf
    have eF2 : Ex F1 F2 := eF.trans t2.f
    have e2 := e'.step t2
    -- all later frozen parts lie over F2
    refine hg e2.base hdat hf fun {σ3 env3} e3 h3 => ?_
    refine hb (P := { P with nx := forGo wg wz P (ds.drop (i + 1)), ct := forGo wg wz P (ds.drop (i + 1)), bk := P.nx }) e3 (x.over e2.t) ⟨fun {σ4 env4 F4 H4} e4 h4 => ?_, fun {kd v d F4 H4} s4 r h4 => o.rt (e2.t.over s4) r h4, fun {σ4 env4 F4 H4} e4 h4 => o.nx (Env.over e2.t e4) h4, fun {σ4 env4 F4 H4} e4 h4 => ?_⟩ h3
    · exact ⟨F4, env4, eF2.trans e4.f0, Env.over e2.t e4, h4⟩
    · exact ⟨F4, env4, eF2.trans e4.f0, Env.over e2.t e4, h4⟩
  · have e1 : i = ds.length := by omega
    subst e1
    rw [List.drop_length] at hf
    exact .inl ⟨y.st eF e'.s, o.nx e' hf⟩
theorem rel_while (ht : RelT K E tt wt) (hb : RelS K E tz wz) : RelS K E (tWhile tt tz) (wWhile wt wz) := by
  intro F0 B F H σ env P D e x o h
  obtain ⟨I, ⟨m0, i0⟩, hs⟩ := h
  refine ⟨fun m σ' H' => ∃ F' env', Py.Env K F0 B F' H' σ' env' ∧ I m env', ⟨m0, F, env, e, i0⟩, ?_⟩
  rintro m σ' H' ⟨F', env', e', im⟩
  refine ht e' (x.step e'.t) (hs m env' im) fun b F1 H1 t1 h1 => ?_
  cases b with
  | false => exact o.nx (e'.step t1) (h1.f rfl)
  | true =>
    refine ⟨fun σ2 H2 => ∃ F2 env2, Py.Env K F0 B F2 H2 σ2 env2 ∧ ∃ m', m' < m ∧ I m' env2, fun σ2 H2 ⟨F2, env2, q1, m', q2, q3⟩ => ⟨m', q2, F2, env2, q1, q3⟩, ?_⟩
    exact hb (P := { P with nx := fun e => ∃ m', m' < m ∧ I m' e, ct := fun e => ∃ m', m' < m ∧ I m' e, bk := P.nx }) (e'.step t1) x
      ⟨fun {σ4 env4 F4 H4} e4 h4 => ⟨F4, env4, e4, h4⟩, o.rt, o.nx, fun {σ4 env4 F4 H4} e4 h4 => ⟨F4, env4, e4, h4⟩⟩ (h1.t rfl)

/-! ### what is walked -/
theorem Env.sq {F1 F H : Hp} {a : Addr} {vs : List V} (h : SqL K F1 a vs) (e : Ex F1 F) (e2 : Ex F H) : SqL K H a vs := exSqL (e.trans e2) h
/-- a frozen list is one list -/
theorem sql_frozen {F1 H : Hp} {a : Addr} {d : D} {Q : List D → Prop} {v : V} {ds : List D} (hd : Dat K F1 d v) (h : onL Q d) : ∃ a vs ds, v = .ref a ∧ SqL K F1 a vs ∧ Dats K F1 ds vs ∧ Q ds := by
  cases d <;> try exact False.elim h
  · obtain ⟨a, vs, r, k1, k2⟩ := hd
    exact ⟨a, vs, _, r, SqL.of k1, k2, h⟩
  · obtain ⟨a, vs, r, k1, k2⟩ := hd
    exact ⟨a, vs, _, r, k1, k2, h⟩
theorem yl_list {F1 : Hp} {a : Addr} {vs : List V} {ds : List D} (h : SqL K F1 a vs) (hd : Dats K F1 ds vs) : Yl K (Itl K a) F1 ds where
  go := fun {i F H} e1 e2 hi => by
    obtain ⟨d, hg⟩ : ∃ d, ds[i]? = some d := ⟨_, List.getElem?_eq_getElem hi⟩
    obtain ⟨v, hv, _⟩ := hd.get hg
    exact ⟨vs, v, exSqL (e1.trans e2) h, hv⟩
  yl := fun {i F H x H'} e1 e2 hi hy => by
    obtain ⟨rfl, hx⟩ := hy
    have hx := hx vs (exSqL (e1.trans e2) h)
    obtain ⟨d, hg, hdat⟩ := hd.getV hx
    exact ⟨d, F, hg, .refl e2, hdat.mono e1⟩
  st := fun {F H} e1 e2 => ⟨vs, exSqL (e1.trans e2) h, by rw [hd.length]; exact Nat.le_refl _⟩
theorem exSqT {H H' : Hp} {a : Addr} {xs : List V} (e : Ex H H') (h : SqT K H a xs) : SqT K H' a xs := by
  rcases h with (h | ⟨o, h⟩) | h
  · exact Or.inl (Or.inl (e a _ h))
  · exact Or.inl (Or.inr ⟨o, e a _ h⟩)
  · exact Or.inr h
theorem yl_tup {F1 : Hp} {a : Addr} {vs : List V} {ds : List D} (h : SqT K F1 a vs) (hd : Dats K F1 ds vs) : Yl K (Itt K a) F1 ds where
  go := fun {i F H} e1 e2 hi => by
    obtain ⟨d, hg⟩ : ∃ d, ds[i]? = some d := ⟨_, List.getElem?_eq_getElem hi⟩
    obtain ⟨v, hv, _⟩ := hd.get hg
    exact ⟨vs, v, exSqT (e1.trans e2) h, hv⟩
  yl := fun {i F H x H'} e1 e2 hi hy => by
    obtain ⟨rfl, hx⟩ := hy
    have hx := hx vs (exSqT (e1.trans e2) h)
    obtain ⟨d, hg, hdat⟩ := hd.getV hx
    exact ⟨d, F, hg, .refl e2, hdat.mono e1⟩
  st := fun {F H} e1 e2 => ⟨vs, exSqT (e1.trans e2) h, by rw [hd.length]; exact Nat.le_refl _⟩
theorem rel_iL (he : RelE K E te we) : RelI K E (iList K te) (iL we) := by
  intro F0 B F H σ env Pe Q Q' e x h q
  refine he.fz e x h fun v d F1 H1 t1 hd h1 => ?_
  obtain ⟨a, vs, ds, rfl, k1, k2, hq⟩ := sql_frozen (H := H1) (a := 0) (ds := []) hd h1
  exact ⟨a, rfl, ⟨vs, exSqL t1.s k1⟩, q t1 (yl_list k1 k2) hq⟩
theorem rel_iT (he : RelE K E te we) : RelI K E (iTup K te) (iT we) := by
  intro F0 B F H σ env Pe Q Q' e x h q
  refine he.fz e x h fun v d F1 H1 t1 hd h1 => ?_
  cases d <;> try exact False.elim h1
  obtain ⟨a, vs, rfl, k1, k2⟩ := hd
  exact ⟨a, rfl, ⟨vs, SqT.of (t1.s _ _ k1)⟩, q t1 (yl_tup (SqT.of k1) k2) h1⟩
theorem rel_iS (he : RelE K E te we) : RelI K E (iStr te) (iS we) := by
  intro F0 B F H σ env Pe Q Q' e x h q
  refine he.rd e x h fun v d F1 H1 t1 hd h1 => ?_
  cases d <;> try exact False.elim h1
  rename_i z
  have hv := hd.str
  refine ⟨z, hv, q (ds := z.cps.toList.map fun c => .str ⟨#[c]⟩) t1 ⟨fun {i F H} e1 e2 hi => ?_, fun {i F H x H'} e1 e2 hi hy => ?_, fun {F H} e1 e2 => ?_⟩ h1⟩
  · rw [List.length_map, Array.length_toList] at hi
    exact hi
  · obtain ⟨rfl, c, hc, rfl⟩ := hy
    refine ⟨.str ⟨#[c]⟩, F, ?_, .refl e2, rfl⟩
    rw [List.getElem?_map, Array.getElem?_toList, hc]
    rfl
  · show z.cps.size ≤ _
    rw [List.length_map, Array.length_toList]
    exact Nat.le_refl _
theorem yl_range {F1 : Hp} {lo : Int} {n : Nat} : Yl K (Itr lo n) F1 ((List.range n).map fun (i : Nat) => D.int (lo + i)) where
  go := fun {i F H} e1 e2 hi => by
    rw [List.length_map, List.length_range] at hi
    exact hi
  yl := fun {i F H x H'} e1 e2 hi hy => by
    rw [List.length_map, List.length_range] at hi
    obtain ⟨rfl, rfl⟩ := hy
    refine ⟨.int (lo + i), F, ?_, .refl e2, rfl⟩
    rw [List.getElem?_map, List.getElem?_range hi]
    rfl
  st := fun {F H} e1 e2 => by
    rw [List.length_map, List.length_range]
    exact Nat.le_refl _
theorem Dats.on1 {F : Hp} {ds : List D} {vs : List V} {Q : D → Prop} (hd : Dats K F ds vs) (h : on1 Q ds) : ∃ d v, vs = [v] ∧ Dat K F d v ∧ Q d := by
  cases ds with
  | nil => exact False.elim h
  | cons d r =>
    obtain ⟨rfl, h⟩ := h
    obtain ⟨v, r, rfl, h1, h2⟩ := hd
    cases (show r = [] from h2)
    exact ⟨d, v, rfl, h1, h⟩
theorem Dats.on2 {F : Hp} {ds : List D} {vs : List V} {Q : D → D → Prop} (hd : Dats K F ds vs) (h : on2 Q ds) : ∃ d e v u, vs = [v, u] ∧ Dat K F d v ∧ Dat K F e u ∧ Q d e := by
  cases ds with
  | nil => exact False.elim h
  | cons d r =>
    obtain ⟨v, r, rfl, h1, h2⟩ := hd
    obtain ⟨e, u, rfl, h3, h4⟩ := Dats.on1 h2 h
    exact ⟨d, e, v, u, rfl, h1, h3, h4⟩
theorem Dat.onI {F : Hp} {d : D} {v : V} {Q : Int → Prop} (hd : Dat K F d v) (h : onI Q d) : ∃ n, v = .int n ∧ Q n := by
  cases d <;> first
    | exact False.elim h
    | exact ⟨_, hd, h⟩
theorem rel_iR1 (hr : RelA K E tr wr) : RelI K E (iRng1 tr) (iR1 wr) := by
  intro F0 B F H σ env Pe Q Q' e x h q
  refine hr e x h fun vs ds F1 H1 t1 hd h1 => ?_
  obtain ⟨d, v, rfl, hdv, h1⟩ := hd.on1 h1
  obtain ⟨n, rfl, h2, h3, hq⟩ := hdv.onI h1
  refine ⟨n, rfl, Int.le_trans (by decide) h3, Int.lt_of_le_of_lt h2 (by decide), q t1 ?_ hq⟩
  have y := yl_range (K := K) (F1 := F1) (lo := 0) (n := n.toNat)
  have e0 : ((List.range n.toNat).map fun (i : Nat) => D.int (0 + i)) = (List.range n.toNat).map fun (i : Nat) => D.int i := by
    apply List.map_congr_left
    intro i _
    rw [Int.zero_add]
  rw [e0] at y
  exact y
theorem rel_iR2 (hr : RelA K E tr wr) : RelI K E (iRng2 tr) (iR2 wr) := by
  intro F0 B F H σ env Pe Q Q' e x h q
  refine hr e x h fun vs ds F1 H1 t1 hd h1 => ?_
  obtain ⟨d, d', v, u, rfl, hdv, hdu, h1⟩ := hd.on2 h1
  obtain ⟨l, rfl, h1⟩ := hdv.onI h1
  obtain ⟨n, rfl, ⟨h2, h3⟩, h4, h5, hq⟩ := hdu.onI h1
  exact ⟨l, n, rfl, ⟨Int.le_trans (by decide) h3, Int.lt_of_le_of_lt h2 (by decide), Int.le_trans (by decide) h5, Int.lt_of_le_of_lt h4 (by decide)⟩, q t1 yl_range hq⟩
theorem rel_iEn (hr : RelA K E tr wr) : RelI K E (iEnum K tr) (iEn wr) := by
  intro F0 B F H σ env Pe Q Q' e x h q
  refine hr e x h fun vs ds F1 H1 t1 hd h1 => ?_
  · obtain ⟨d, v, rfl, hdv, h1⟩ := hd.on1 h1
    obtain ⟨a, vs, ds, rfl, k1, k2, hq⟩ := sql_frozen (H := H1) (a := 0) (ds := []) hdv h1
    have hl : (enumD ds).length = ds.length := by rw [enumD, List.length_map, List.length_zipIdx]
    have hg : ∀ {i : Nat} {d : D}, ds[i]? = some d → (enumD ds)[i]? = some (.tup [.int (i : Nat), d]) := fun {i d} hi => by
      rw [enumD, List.getElem?_map, List.getElem?_zipIdx, hi]
      simp
    refine ⟨a, vs, rfl, exSqL t1.s k1, q t1 ⟨fun {i F H} e1 e2 hi => ?_, fun {i F H x H'} e1 e2 hi hy => ?_, fun {F H} e1 e2 => ?_⟩ hq⟩
    · rw [hl] at hi
      obtain ⟨v, hv, _⟩ := k2.get (List.getElem?_eq_getElem hi)
      exact ⟨vs, v, exSqL (e1.trans e2) k1, hv⟩
    · rw [hl] at hi
      obtain ⟨T, y, rfl, hT, rfl, hx⟩ := hy
      have hx := hx vs (exSqL (e1.trans e2) k1)
      obtain ⟨d, hgd, hdat⟩ := k2.getV hx
      have t2 : Stp F H (upd F T (.tup [.int (i : Nat), y])) (upd H T (.tup [.int (i : Nat), y])) := .new e2 hT
      exact ⟨_, _, hg hgd, t2, T, _, rfl, upd_same, .cons rfl (.cons (hdat.mono (e1.trans t2.f)) .nil)⟩
    · rw [hl]
      exact ⟨vs, exSqL (e1.trans e2) k1, by rw [k2.length]; exact Nat.le_refl _⟩
theorem rel_iZ (hr : RelA K E tr wr) : RelI K E (iZip K tr) (iZ wr) := by
  intro F0 B F H σ env Pe Q Q' e x h q
  refine hr e x h fun vs ds F1 H1 t1 hd h1 => ?_
  · obtain ⟨da, db, v, v2, rfl, hdv, hdv2, h1⟩ := hd.on2 h1
    obtain ⟨a, vs, ds, rfl, k1, k2, hq⟩ := sql_frozen (H := H1) (a := 0) (ds := []) hdv h1
    obtain ⟨b, ws, es, rfl, k3, k4, hq⟩ := sql_frozen (H := H1) (a := 0) (ds := []) hdv2 hq
    have hl : (zipD ds es).length = min ds.length es.length := by rw [zipD, List.length_map, List.length_zip]
    refine ⟨a, b, vs, ws, rfl, exSqL t1.s k1, exSqL t1.s k3, q t1 ⟨fun {i F H} e1 e2 hi => ?_, fun {i F H x H'} e1 e2 hi hy => ?_, fun {F H} e1 e2 => ?_⟩ hq⟩
    · rw [hl] at hi
      obtain ⟨v, hv, _⟩ := k2.get (List.getElem?_eq_getElem (show i < ds.length by omega))
      obtain ⟨u, hu, _⟩ := k4.get (List.getElem?_eq_getElem (show i < es.length by omega))
      exact ⟨vs, ws, v, u, exSqL (e1.trans e2) k1, exSqL (e1.trans e2) k3, hv, hu⟩
    · rw [hl] at hi
      obtain ⟨T, y, z, rfl, hT, rfl, hx, hz⟩ := hy
      have hx := hx vs (exSqL (e1.trans e2) k1)
      have hz := hz ws (exSqL (e1.trans e2) k3)
      obtain ⟨d, hgd, hdat⟩ := k2.getV hx
      obtain ⟨d', hgd', hdat'⟩ := k4.getV hz
      have t2 : Stp F H (upd F T (.tup [y, z])) (upd H T (.tup [y, z])) := .new e2 hT
      refine ⟨.tup [d, d'], _, ?_, t2, T, _, rfl, upd_same, .cons (hdat.mono (e1.trans t2.f)) (.cons (hdat'.mono (e1.trans t2.f)) .nil)⟩
      rw [zipD, List.getElem?_map]
      unfold List.zip
      rw [List.getElem?_zipWith, hgd, hgd']
      rfl
    · refine ⟨vs, ws, exSqL (e1.trans e2) k1, exSqL (e1.trans e2) k3, ?_⟩
      rw [k2.length, k4.length, hl]
      omega
theorem rel_iRv (hr : RelA K E tr wr) : RelI K E (iRev K tr) (iRv wr) := by
  intro F0 B F H σ env Pe Q Q' e x h q
  refine hr e x h fun vs ds F1 H1 t1 hd h1 => ?_
  · obtain ⟨d, v, rfl, hdv, h1⟩ := hd.on1 h1
    obtain ⟨a, vs, ds, rfl, k1, k2, hq⟩ := sql_frozen (H := H1) (a := 0) (ds := []) hdv h1
    have hlen := k2.length
    refine ⟨a, vs, rfl, exSqL t1.s k1, q t1 ⟨fun {i F H} e1 e2 hi => ?_, fun {i F H x H'} e1 e2 hi hy => ?_, fun {F H} e1 e2 => ?_⟩ hq⟩
    · rw [List.length_reverse] at hi
      exact ⟨by omega, vs, _, exSqL (e1.trans e2) k1, List.getElem?_eq_getElem (show vs.length - 1 - i < vs.length by omega)⟩
    · rw [List.length_reverse] at hi
      obtain ⟨rfl, hx⟩ := hy
      have hx := hx vs (exSqL (e1.trans e2) k1)
      obtain ⟨d, hg, hdat⟩ := k2.getV hx
      refine ⟨d, F, ?_, .refl e2, hdat.mono e1⟩
      rw [List.getElem?_reverse hi, ← hlen]
      exact hg
    · show vs.length ≤ _
      rw [List.length_reverse, hlen]
      exact Nat.le_refl _

/-! ### comprehensions -/
theorem Env.wipe {F0 B F H : Hp} {σ : L2.St} {env : List Slot} (e : Py.Env K F0 B F H σ env) : ∀ vs : List Nat, Py.Env K F0 B F H (wipe σ vs) (wipeE env vs)
  | [] => e
  | v :: vs => by
    show Py.Env K F0 B F H ((L2.wipe σ vs).set v none) (setAt (wipeE env vs) v .un)
    rw [setAt_eq]
    exact (Env.wipe e vs).setU
/-- a target that stores into some slots alone -/
def KeepsW (g : TG) (vs : List Nat) : Prop := ∀ {v : V} {σ : L2.St} {H : Hp} {Q Q' : L2.St → Hp → Prop}, g v σ H Q → (∀ σ' H', L2.wipe σ' vs = L2.wipe σ vs → Q σ' H' → Q' σ' H') → g v σ H Q'
theorem wipe_set {σ : L2.St} {x : Option V} {j : Nat} : ∀ {vs : List Nat}, j ∈ vs → L2.wipe (σ.set j x) vs = L2.wipe σ vs := by
  intro vs hj
  apply List.ext_getElem?
  intro i
  by_cases hi : i ∈ vs
  · have key : ∀ (τ : L2.St) (ws : List Nat), i ∈ ws → (L2.wipe τ ws)[i]? = if i < τ.length then some none else none := by
      intro τ ws
      induction ws with
      | nil => intro h; cases h
      | cons w ws ih =>
        intro h
        show ((L2.wipe τ ws).set w none)[i]? = _
        by_cases q : w = i
        · subst q
          by_cases hl : w < τ.length
          · rw [List.getElem?_set_self (by rw [wipe_length]; exact hl), if_pos hl]
          · rw [List.getElem?_eq_none (by rw [List.length_set, wipe_length]; omega), if_neg hl]
        · rw [List.getElem?_set_ne q]
          exact ih ((List.mem_cons.mp h).resolve_left fun z => q z.symm)
    rw [key _ _ hi, key _ _ hi, List.length_set]
  · have key : ∀ (τ : L2.St) (ws : List Nat), i ∉ ws → (L2.wipe τ ws)[i]? = τ[i]? := fun τ ws h => wipe_out h
    rw [key _ _ hi, key _ _ hi, List.getElem?_set_ne (fun (z : j = i) => hi (z ▸ hj))]
theorem wipe_wipe {σ : L2.St} : ∀ {vs : List Nat}, L2.wipe (L2.wipe σ vs) vs = L2.wipe σ vs := by
  intro vs
  have gen : ∀ (ws : List Nat), (∀ w ∈ ws, w ∈ vs) → L2.wipe (L2.wipe σ ws) vs = L2.wipe σ vs := by
    intro ws
    induction ws with
    | nil => intro _; rfl
    | cons w ws ih =>
      intro h
      show L2.wipe ((L2.wipe σ ws).set w none) vs = _
      rw [wipe_set (h w List.mem_cons_self)]
      exact ih fun z hz => h z (List.mem_cons_of_mem _ hz)
  exact gen vs fun _ h => h
theorem kw_name {j : Nat} {vs : List Nat} (h : j ∈ vs) : KeepsW (gName j) vs := fun {v σ H Q Q'} hq k => k _ _ (wipe_set h) hq
def KeepsWs (g : TGs) (vs : List Nat) : Prop := ∀ {ws : List V} {σ : L2.St} {H : Hp} {Q Q' : L2.St → Hp → Prop}, g ws σ H Q → (∀ σ' H', L2.wipe σ' vs = L2.wipe σ vs → Q σ' H' → Q' σ' H') → g ws σ H Q'
theorem kw_nil {vs : List Nat} : KeepsWs gNil vs := fun {ws σ H Q Q'} hq k => ⟨hq.1, k _ _ rfl hq.2⟩
theorem kw_cons {g : TG} {gs : TGs} {vs : List Nat} (h1 : KeepsW g vs) (h2 : KeepsWs gs vs) : KeepsWs (gCons g gs) vs := fun {ws σ H Q Q'} hq k => by
  obtain ⟨v, r, rfl, hq⟩ := hq
  exact ⟨v, r, rfl, h1 hq fun σ' H' e1 q1 => h2 q1 fun σ2 H2 e2 q2 => k σ2 H2 (e2.trans e1) q2⟩
theorem kw_tup {gs : TGs} {n : Nat} {vs : List Nat} (h : KeepsWs gs vs) : KeepsW (gTup K n gs) vs := fun {v σ H Q Q'} hq k => by
  obtain ⟨a, xs, rfl, h1, h2, hq⟩ := hq
  exact ⟨a, xs, rfl, h1, h2, h hq k⟩
theorem rel_lc {vs : List Nat} {E0 : XK} (hi : RelI K E ti wi) (hg : RelG K g wg) (kw : KeepsW g vs) (ht : RelT K E0 tt wt) (he : RelE K E0 te we) : RelE K E (tLc ti g tt te vs) (wLc wi wg wt we vs) := by
  intro F0 B F H σ env Pe Q Q' e x h q
  refine hi e x h fun {J ds F1 H1} t1 y hq => ?_
  intro L hL
  obtain ⟨hz, hq⟩ := hq
  have x0 : ∀ {F H : Hp}, EOk K E0 noX F H := fun {F H} => ⟨fun _ _ _ _ _ _ _ p => False.elim p⟩
  refine ⟨fun i m H' => m = ds.length - i ∧ i ≤ ds.length ∧ ∃ F' acc dacc, Stp F1 H1 F' H' ∧ F' L = none ∧ H' L = some (.lst acc) ∧ Dats K F' dacc acc ∧ dacc.length ≤ i ∧ lcGo wg wt we (wipeE env vs) (fun rs => Q .nw (.lst rs)) (ds.drop i) dacc,
    ⟨_, rfl, Nat.zero_le _, F1, [], [], .own t1.s hL, t1.s.none hL, upd_same, .nil, Nat.le_refl _, hq⟩, ?_⟩
  rintro i m H' ⟨rfl, hil, F', acc, dacc, t2, fL, hLa, hda, hdl, hf⟩
  by_cases hlt : i < ds.length
  · refine .inr ⟨y.go t2.f t2.s hlt, fun H2 => ∃ F2 acc dacc, Stp F1 H1 F2 H2 ∧ F2 L = none ∧ H2 L = some (.lst acc) ∧ Dats K F2 dacc acc ∧ dacc.length ≤ i + 1 ∧ lcGo wg wt we (wipeE env vs) (fun rs => Q .nw (.lst rs)) (ds.drop (i + 1)) dacc,
      fun H2 ⟨F2, a2, d2, q1, q2, q3, q4, q5, q6⟩ => ⟨ds.length - (i + 1), by omega, rfl, hlt, F2, a2, d2, q1, q2, q3, q4, q5, q6⟩, fun v H'' hy => ?_⟩
    obtain ⟨d, F2, hd, t3, hdat⟩ := y.yl t2.f t2.s hlt hy
    rw [getElem?_drop_cons hd] at hf
    have e3 := ((e.step t1).step (t2.trans t3)).wipe vs
    have hg' := hg (Q' := fun σ2 H2 => ∃ env2, H2 = H'' ∧ Py.Env K F0 B F2 H'' σ2 env2 ∧ wt noX env2 fun b => Br b (we noX env2 fun k r => k.ok ∧ lcGo wg wt we (wipeE env vs) (fun rs => Q .nw (.lst rs)) (ds.drop (i + 1)) (dacc ++ [r])) (lcGo wg wt we (wipeE env vs) (fun rs => Q .nw (.lst rs)) (ds.drop (i + 1)) dacc)) e3 hdat hf (fun {σ' env'} e' h' => ⟨env', rfl, e', h'⟩)
    refine kw hg' ?_
    rintro σ2 H2 hw ⟨env2, rfl, e2, h2⟩
    refine ⟨by rw [hw, wipe_wipe], ?_⟩
    refine ht e2 x0 h2 fun b F3 H3 t4 h3 => ?_
    have tt3 := (t2.trans t3).trans t4
    have fL3 : F3 L = none := t4.n L (t3.n L fL (by rw [hLa]; exact fun z => nomatch z)) (by rw [t3.h _ _ hLa]; exact fun z => nomatch z)
    have hL3 : H3 L = some (.lst acc) := t4.h _ _ (t3.h _ _ hLa)
    cases b with
    | false => exact ⟨F3, acc, dacc, tt3, fL3, hL3, hda.mono (t3.f.trans t4.f), by omega, h3.f rfl⟩
    | true =>
      refine (he.fz (e2.step t4) x0 (h3.t rfl) fun y2 r F4 H4 t5 hr h4 => ?_ : te σ2 H3 _)
      have hL4 : H4 L = some (.lst acc) := t5.h _ _ hL3
      have fL4 : F4 L = none := t5.n L fL3 (by rw [hL3]; exact fun z => nomatch z)
      have hda4 := hda.mono ((t3.f.trans t4.f).trans t5.f)
      refine ⟨acc, hL4, sz_lt (by rw [hda4.length]; omega), F4, acc ++ [y2], dacc ++ [r], ?_, fL4, upd_same, hda4.snoc hr, by rw [List.length_append]; exact Nat.succ_le_succ hdl, h4⟩
      have t6 := tt3.trans t5
      exact ⟨t6.f, t6.h.mut hL, t6.s.mut fL4, t6.n⟩
  · have e1 : i = ds.length := by omega
    subst e1
    rw [List.drop_length] at hf
    refine .inl ⟨y.st t2.f t2.s, q .nw _ (.lst dacc) F' H' (t1.trans t2) ⟨L, .lst acc, rfl, t1.h.none hL, fL, hLa, hda⟩ hf⟩
theorem rel_yes : RelT K E tYes wYes := fun e _ h q => q true _ _ (.refl e.s) h
end
end Py

/-! Operations on data, by the hand layer's rules. -/
namespace Py
open PySem PySem.Spec PyProof.Rows L2

abbrev F2 := D → D → (Kd → D → Prop) → Prop
abbrev F1 := D → (Kd → D → Prop) → Prop
def mulC (i j : Int) : Prop := CMul i j ∨ CMulW i j
def onStr (Q : Str → Prop) : D → Prop
  | .str x => Q x
  | _ => False
def onLst (Q : List D → Prop) : D → Prop
  | .lst x => Q x
  | _ => False
def fAdd : F2 := fun a b Q => match a with
  | .int i => onI (fun j => Q .fz (.int (i + j))) b
  | .str x => onStr (fun y => x.length + y.length ≤ 100000 ∧ Q .fz (.str (x ++ y))) b
  | .lst xs => onLst (fun ys => xs.length + ys.length ≤ 100000 ∧ Q .nw (.lst (xs ++ ys))) b
  | _ => False
def fI2 (g : Int → Int → Int) : F2 := fun a b Q => onI (fun i => onI (fun j => Q .fz (.int (g i j))) b) a
def fI2C (C : Int → Int → Prop) (g : Int → Int → Int) : F2 := fun a b Q => onI (fun i => onI (fun j => C i j ∧ Q .fz (.int (g i j))) b) a
def fIB (g : Int → Int → Bool) : F2 := fun a b Q => onI (fun i => onI (fun j => Q .fz (.bl (g i j))) b) a
def fSub : F2 := fI2 fun i j => i - j
def fMul : F2 := fI2C mulC fun i j => i * j
def fDiv : F2 := fI2C CDivW fun i j => i / j
def fMod : F2 := fI2C (fun _ j => 0 < j) fun i j => i % j
def fPow : F2 := fI2C CPow fun i j => i ^ j.toNat
def fShl : F2 := fI2C CPow fun i j => i * 2 ^ j.toNat
def fShr : F2 := fI2C (fun _ j => 0 ≤ j) fun i j => i / 2 ^ j.toNat
def fAnd : F2 := fI2 Builtin.bitAnd
def fOr : F2 := fI2 Builtin.bitOr
def fXor : F2 := fI2 Builtin.bitXor
def fNeg : F1 := fun a Q => onI (fun i => Q .fz (.int (-i))) a
/-- i < j of ints, of texts -/
def fLt : F2 := fun a b Q => match a with
  | .int i => onI (fun j => Q .fz (.bl (decide (i < j)))) b
  | .str x => onStr (fun y => Q .fz (.bl (decide (x.cps.toList < y.cps.toList)))) b
  | _ => False
def fLe : F2 := fun a b Q => match a with
  | .int i => onI (fun j => Q .fz (.bl (decide (i ≤ j)))) b
  | .str x => onStr (fun y => Q .fz (.bl (!decide (y.cps.toList < x.cps.toList)))) b
  | _ => False
def fGt : F2 := fIB fun i j => decide (j < i)
def fGe : F2 := fIB fun i j => decide (j ≤ i)

/-! == of data -/
mutual
def eqv : D → D → Bool
  | .non, b => match b with
    | .non => true
    | _ => false
  | .bl a, b => match b with
    | .bl b => a == b
    | .int j => (if a then 1 else 0) == j
    | _ => false
  | .int a, b => match b with
    | .bl b => a == (if b then 1 else 0)
    | .int j => a == j
    | _ => false
  | .str a, b => match b with
    | .str b => a == b
    | _ => false
  | .lst xs, b => match b with
    | .lst ys => eqvs xs ys
    | .rol ys => eqvs xs ys
    | _ => false
  | .rol xs, b => match b with
    | .lst ys => eqvs xs ys
    | .rol ys => eqvs xs ys
    | _ => false
  | .tup xs, b => match b with
    | .tup ys => eqvs xs ys
    | _ => false
  | _, _ => false
def eqvs : List D → List D → Bool
  | [], ys => match ys with
    | [] => true
    | _ :: _ => false
  | x :: xs, ys => match ys with
    | [] => false
    | y :: ys => eqv x y && eqvs xs ys
end
mutual
/-- data that == tells apart, at most so deep -/
def shp : Nat → D → Bool
  | _, .non => true
  | _, .bl _ => true
  | _, .int _ => true
  | _, .str _ => true
  | 0, _ => false
  | n + 1, .lst xs => shps n xs
  | n + 1, .rol xs => shps n xs
  | n + 1, .tup xs => shps n xs
  | _ + 1, _ => false
termination_by structural _ d => d
def shps : Nat → List D → Bool
  | _, [] => true
  | n, d :: ds => shp n d && shps n ds
termination_by structural _ ds => ds
end

theorem Rdb.dat {K : PySem.W.Frag} {F H : Hp} {d : D} {v : V} (r : Rdb K F H d v) (e : Ex F H) : Dat K H d v := by
  rcases r with h | ⟨a, o, rfl, h1, h2⟩
  · exact h.mono e
  · exact (h2.mono e).dat h1
theorem shps_get {n : Nat} : ∀ {ds : List D} {i : Nat} {d : D}, shps n ds = true → ds[i]? = some d → shp n d = true
  | [], _, _, _, e => by simp at e
  | d0 :: ds, 0, d, h, e => by
    have e : d0 = d := Option.some.inj e
    subst e
    have h : (shp n d0 && shps n ds) = true := h
    exact (Bool.and_eq_true_iff.mp h).1
  | d0 :: ds, i + 1, d, h, e => by
    have h : (shp n d0 && shps n ds) = true := h
    exact shps_get (ds := ds) (i := i) (Bool.and_eq_true_iff.mp h).2 e
theorem eqvs_cons (x y : D) (xs ys : List D) : eqvs (x :: xs) (y :: ys) = (eqv x y && eqvs xs ys) := rfl
/-- the items' answers -/
def eqAtI (xs ys : List D) (j : Nat) : Bool := match xs[j]?, ys[j]? with
  | some x, some y => eqv x y
  | _, _ => false
theorem eqvs_len : ∀ {xs ys : List D}, xs.length ≠ ys.length → eqvs xs ys = false
  | [], [], h => absurd rfl h
  | [], _ :: _, _ => rfl
  | _ :: _, [], _ => rfl
  | x :: xs, y :: ys, h => by
    rw [eqvs_cons, eqvs_len (xs := xs) (ys := ys) fun z => h (congrArg (· + 1) z), Bool.and_false]
theorem eqvs_all : ∀ {xs ys : List D}, xs.length = ys.length → (List.range xs.length).all (eqAtI xs ys) = eqvs xs ys
  | [], [], _ => rfl
  | [], _ :: _, h => nomatch h
  | _ :: _, [], h => nomatch h
  | x :: xs, y :: ys, h => by
    rw [List.length_cons, List.range_succ_eq_map, List.all_cons, List.all_map, eqvs_cons, ← eqvs_all (xs := xs) (ys := ys) (Nat.succ.inj h)]
    rfl
section
variable {X : Cx} {pins : List (Addr × Obj)} {σ : L2.St} {H : Hp} {s : Shared}
theorem lst_at (I : Inv X pins σ H s) {d : D} {x : V} {xs : List D} (hd : d = .lst xs ∨ d = .rol xs) (h : Dat X.K H d x) : ∃ a vs its, x = .ref a ∧ Dats X.K H xs vs ∧ Vals vs its ∧ s.heap.IsList a its.toArray := by
  rcases hd with rfl | rfl
  · obtain ⟨a, vs, rfl, h1, h2⟩ := h
    obtain ⟨its, r, pl, _⟩ := I.list (SqL.of h1)
    exact ⟨a, vs, its, rfl, h2, r, pl.isList⟩
  · obtain ⟨a, vs, rfl, h1, h2⟩ := h
    obtain ⟨its, r, pl, _⟩ := I.list h1
    exact ⟨a, vs, its, rfl, h2, r, pl.isList⟩
theorem tup_at (I : Inv X pins σ H s) {x : V} {xs : List D} (h : Dat X.K H (.tup xs) x) : ∃ a vs its, x = .ref a ∧ Dats X.K H xs vs ∧ Vals vs its ∧ s.heap.IsTuple a its.toArray := by
  obtain ⟨a, vs, rfl, h1, h2⟩ := h
  obtain ⟨its, r, pl, _⟩ := I.tuple (SqT.of h1)
  exact ⟨a, vs, its, rfl, h2, r, pl⟩
/-- two answers at once: EqAt, RcAt, RcNeAt -/
structure Three (A : Around) (s : Shared) (u v : Value) (b : Bool) : Prop where
  eq : SeqAt.EqAt A s u v b
  rc : SeqAt.RcAt A s u v b
  ne : SeqAt.RcNeAt A s u v (!b)
/-- data that == tells apart, by kinds; x its value -/
inductive ShK (K : PySem.W.Frag) (H : Hp) : Nat → D → V → Prop where
  | non {n} : ShK K H n .non .non
  | bl {n} (b : Bool) : ShK K H n (.bl b) (.bl b)
  | int {n} (i : Int) : ShK K H n (.int i) (.int i)
  | str {n} (x : Str) : ShK K H n (.str x) (.str x)
  | lst {n} {d : D} {xs : List D} {a : Addr} {vs : List V} (e : d = .lst xs ∨ d = .rol xs) (h : SqL K H a vs) (hd : Dats K H xs vs) (k : shps n xs = true) : ShK K H (n + 1) d (.ref a)
  | tup {n} {xs : List D} {a : Addr} {vs : List V} (h : H a = some (.tup vs)) (hd : Dats K H xs vs) (k : shps n xs = true) : ShK K H (n + 1) (.tup xs) (.ref a)
theorem shk {K : PySem.W.Frag} {H : Hp} {n : Nat} {d : D} {x : V} (h : shp n d = true) (hd : Dat K H d x) : ShK K H n d x := by
  cases d with
  | non => cases (show x = _ from hd); exact .non
  | bl b => cases (show x = _ from hd); exact .bl b
  | int b => cases (show x = _ from hd); exact .int b
  | str b => cases (show x = _ from hd); exact .str b
  | lst xs =>
    obtain ⟨a, vs, rfl, h1, h2⟩ := hd
    cases n with
    | zero => exact absurd (show false = true from h) (by decide)
    | succ n => exact .lst (.inl rfl) (SqL.of h1) h2 h
  | rol xs =>
    obtain ⟨a, vs, rfl, h1, h2⟩ := hd
    cases n with
    | zero => exact absurd (show false = true from h) (by decide)
    | succ n => exact .lst (.inr rfl) h1 h2 h
  | tup xs =>
    obtain ⟨a, vs, rfl, h1, h2⟩ := hd
    cases n with
    | zero => exact absurd (show false = true from h) (by decide)
    | succ n => exact .tup h1 h2 h
  | _ => cases n <;> exact absurd (show false = true from h) (by decide)
theorem eqv_ll {a b : D} {xs ys : List D} (ea : a = .lst xs ∨ a = .rol xs) (eb : b = .lst ys ∨ b = .rol ys) : eqv a b = eqvs xs ys := by
  rcases ea with rfl | rfl <;> rcases eb with rfl | rfl <;> rfl
theorem eqv_self : ∀ (n : Nat) {a b : D} {x : V}, ShK X.K H n a x → ShK X.K H n b x → Inv X pins σ H s → eqv a b = true := by
  intro n
  induction n with
  | zero =>
    intro a b x ha hb I
    cases ha <;> cases hb <;> first
      | rfl
      | exact beq_self_eq_true _
  | succ n ih =>
    have lists : ∀ (xs ys : List D) (vs : List V), shps n xs = true → shps n ys = true → Dats X.K H xs vs → Dats X.K H ys vs → Inv X pins σ H s → eqvs xs ys = true := by
      intro xs
      induction xs with
      | nil =>
        intro ys vs h1 h2 d1 d2 I
        cases (show vs = [] from d1)
        cases ys with
        | nil => rfl
        | cons y ys =>
          obtain ⟨_, _, e, _⟩ := d2
          cases e
      | cons x xs ihx =>
        intro ys vs h1 h2 d1 d2 I
        obtain ⟨v, r, rfl, k1, k2⟩ := d1
        cases ys with
        | nil => cases (show v :: r = [] from d2)
        | cons y ys =>
          obtain ⟨v', r', e, k3, k4⟩ := d2
          cases e
          have h1 : (shp n x && shps n xs) = true := h1
          have h2 : (shp n y && shps n ys) = true := h2
          obtain ⟨a1, a2⟩ := Bool.and_eq_true_iff.mp h1
          obtain ⟨b1, b2⟩ := Bool.and_eq_true_iff.mp h2
          rw [eqvs_cons, ih (shk a1 k1) (shk b1 k3) I, ihx ys r a2 b2 k2 k4 I] <;> rfl
    intro a b x ha hb I
    cases ha with
    | non => cases hb; rfl
    | bl b => cases hb; exact beq_self_eq_true _
    | int b => cases hb; exact beq_self_eq_true _
    | str b => cases hb; exact beq_self_eq_true _
    | lst e h hd k =>
      cases hb with
      | lst e' h' hd' k' =>
        cases I.list_inj h h'
        rw [eqv_ll e e']
        exact lists _ _ _ k k' hd hd' I
      | tup h' hd' k' =>
        obtain ⟨its, r, pl, _⟩ := I.list h
        obtain ⟨its', r', pl', _⟩ := I.tuple (SqT.of h')
        obtain ⟨o, h1, h2, _⟩ := pl.isList
        obtain ⟨o', h3, h4, _⟩ := pl'
        rw [h1] at h3
        cases h3
        rw [h2] at h4
        exact absurd h4 (by decide)
    | tup h hd k =>
      cases hb with
      | tup h' hd' k' =>
        cases h.symm.trans h'
        exact lists _ _ _ k k' hd hd' I
      | lst e' h' hd' k' =>
        obtain ⟨its, r, pl, _⟩ := I.list h'
        obtain ⟨its', r', pl', _⟩ := I.tuple (SqT.of h)
        obtain ⟨o, h1, h2, _⟩ := pl.isList
        obtain ⟨o', h3, h4, _⟩ := pl'
        rw [h1] at h3
        cases h3
        rw [h2] at h4
        exact absurd h4 (by decide)
theorem three_sc {A : Around} {u v : Value} {b : Bool} (h1 : SeqAt.EqAt A s u v b) (h2 : SeqAt.RcAt A s u v b) (h3 : SeqAt.RcNeAt A s u v (!b)) : Three A s u v b := ⟨h1, h2, h3⟩
theorem eqAtI_get {xs ys : List D} {j : Nat} {x y : D} (h1 : xs[j]? = some x) (h2 : ys[j]? = some y) : eqAtI xs ys j = eqv x y := by
  unfold eqAtI
  rw [h1, h2]
theorem three_of (I : Inv X pins σ H s) : ∀ (n : Nat) {a b : D} {x y : V} {u v : Value} {A : Around}, ShK X.K H n a x → ShK X.K H n b y → RelV x u → RelV y v → A.units + n < cLine → Three A s u v (eqv a b) := by
  intro n
  induction n with
  | zero =>
    intro a b x y u v A ha hb rx ry hu
    cases ha with
    | non =>
      cases rx
      cases hb with
      | non =>
        cases ry
        exact ⟨SeqAt.EqAt.same _, SeqAt.RcAt.none_none , SeqAt.RcNeAt.none_none ⟩
      | bl q =>
        cases ry
        exact ⟨SeqAt.EqAt.none_bool q, SeqAt.RcAt.none_bool q, SeqAt.RcNeAt.none_bool q⟩
      | int q =>
        obtain ⟨t2, rfl⟩ := ry
        exact ⟨SeqAt.EqAt.none_int q t2, SeqAt.RcAt.none_int q t2, SeqAt.RcNeAt.none_int q t2⟩
      | str q =>
        obtain ⟨t2, rfl⟩ := ry
        exact ⟨SeqAt.EqAt.none_str q t2, SeqAt.RcAt.none_str q t2, SeqAt.RcNeAt.none_str q t2⟩
    | bl p =>
      cases rx
      cases hb with
      | non =>
        cases ry
        exact ⟨SeqAt.EqAt.bool_none p, SeqAt.RcAt.bool_none p, SeqAt.RcNeAt.bool_none p⟩
      | bl q =>
        cases ry
        exact ⟨SeqAt.EqAt.bool_bool p q, SeqAt.RcAt.bool_bool p q, SeqAt.RcNeAt.bool_bool p q⟩
      | int q =>
        obtain ⟨t2, rfl⟩ := ry
        exact ⟨SeqAt.EqAt.bool_int p q t2, SeqAt.RcAt.bool_int p q t2, SeqAt.RcNeAt.bool_int p q t2⟩
      | str q =>
        obtain ⟨t2, rfl⟩ := ry
        exact ⟨SeqAt.EqAt.bool_str p q t2, SeqAt.RcAt.bool_str p q t2, SeqAt.RcNeAt.bool_str p q t2⟩
    | int p =>
      obtain ⟨t, rfl⟩ := rx
      cases hb with
      | non =>
        cases ry
        exact ⟨SeqAt.EqAt.int_none p t, SeqAt.RcAt.int_none p t, SeqAt.RcNeAt.int_none p t⟩
      | bl q =>
        cases ry
        exact ⟨SeqAt.EqAt.int_bool p t q, SeqAt.RcAt.int_bool p t q, SeqAt.RcNeAt.int_bool p t q⟩
      | int q =>
        obtain ⟨t2, rfl⟩ := ry
        exact ⟨SeqAt.EqAt.int_int p t q t2, SeqAt.RcAt.int_int p t q t2, SeqAt.RcNeAt.int_int p t q t2⟩
      | str q =>
        obtain ⟨t2, rfl⟩ := ry
        exact ⟨SeqAt.EqAt.int_str p t q t2, SeqAt.RcAt.int_str p t q t2, SeqAt.RcNeAt.int_str p t q t2⟩
    | str p =>
      obtain ⟨t, rfl⟩ := rx
      cases hb with
      | non =>
        cases ry
        exact ⟨SeqAt.EqAt.str_none p t, SeqAt.RcAt.str_none p t, SeqAt.RcNeAt.str_none p t⟩
      | bl q =>
        cases ry
        exact ⟨SeqAt.EqAt.str_bool p t q, SeqAt.RcAt.str_bool p t q, SeqAt.RcNeAt.str_bool p t q⟩
      | int q =>
        obtain ⟨t2, rfl⟩ := ry
        exact ⟨SeqAt.EqAt.str_int p t q t2, SeqAt.RcAt.str_int p t q t2, SeqAt.RcNeAt.str_int p t q t2⟩
      | str q =>
        obtain ⟨t2, rfl⟩ := ry
        exact ⟨SeqAt.EqAt.str_str p t q t2, SeqAt.RcAt.str_str p t q t2, SeqAt.RcNeAt.str_str p t q t2⟩
  | succ n ih =>
    intro a b x y u v A ha hb rx ry hu
    have hu0 : A.units < cLine := by omega
    have self : ∀ {b : D}, ShK X.K H (n + 1) b x → Inv X pins σ H s → eqv a b = true := fun hb I => eqv_self (n + 1) ha hb I
    have items : ∀ {xs ys : List D} {vs ws : List V} {its its' : List Value}, Vals vs its → Vals ws its' → Dats X.K H xs vs → Dats X.K H ys ws → shps n xs = true → shps n ys = true →
        ∀ j (h1 : j < its.toArray.size) (h2 : j < its'.toArray.size), SeqAt.EqAt A.in1 s its.toArray[j] its'.toArray[j] (eqAtI xs ys j) := by
      intro xs ys vs ws its its' r r' hd hd' k k' j h1 h2
      have l1 := r.length
      have l2 := r'.length
      have g1 : j < vs.length := by simpa [l1] using h1
      have g2 : j < ws.length := by simpa [l2] using h2
      obtain ⟨d, e1, d1⟩ := hd.getV (List.getElem?_eq_getElem g1)
      obtain ⟨d', e2, d2⟩ := hd'.getV (List.getElem?_eq_getElem g2)
      obtain ⟨u1, f1, r1⟩ := r.get (List.getElem?_eq_getElem g1)
      obtain ⟨u2, f2, r2⟩ := r'.get (List.getElem?_eq_getElem g2)
      have q1 : its.toArray[j] = u1 := by
        have := (List.getElem?_eq_some_iff.mp f1).2
        simpa using this
      have q2 : its'.toArray[j] = u2 := by
        have := (List.getElem?_eq_some_iff.mp f2).2
        simpa using this
      rw [q1, q2, eqAtI_get e1 e2]
      exact (ih (shk (shps_get k e1) d1) (shk (shps_get k' e2) d2) r1 r2 (by show A.units + 1 + n < cLine; omega)).eq
    have lists : ∀ {a b : D} {p q : Addr} {xs ys : List D} {vs ws : List V} {its its' : List Value}, (a = .lst xs ∨ a = .rol xs) → (b = .lst ys ∨ b = .rol ys) → s.heap.IsList p its.toArray → s.heap.IsList q its'.toArray → Vals vs its → Vals ws its' → Dats X.K H xs vs → Dats X.K H ys ws → shps n xs = true → shps n ys = true →
        (p = q → eqv a b = true) → Three A s (.ref p) (.ref q) (eqv a b) := by
      intro a b p q xs ys vs ws its its' e e' hl hl' r r' hd hd' k k' hs
      have l1 := r.length
      have l2 := r'.length
      have m1 := hd.length
      have m2 := hd'.length
      have it := items r r' hd hd' k k'
      rw [eqv_ll e e'] at hs ⊢
      by_cases hz : its.toArray.size = its'.toArray.size
      · have hz' : xs.length = ys.length := by
          simp at hz
          omega
        have en : its.toArray.size = xs.length := by
          simp
          omega
        have rc := SeqAt.RcAt.lists hl hl' hz hu0 it
        have rn := SeqAt.RcNeAt.lists hl hl' hz hu0 it
        rw [en, eqvs_all hz'] at rc rn
        refine ⟨?_, rc, rn⟩
        by_cases pq : p = q
        · subst pq
          rw [hs rfl]
          exact SeqAt.EqAt.same _
        · exact SeqAt.EqAt.of_refs pq rc
      · have hz' : xs.length ≠ ys.length := by
          simp at hz
          omega
        have hb : (its.toArray.size != its'.toArray.size) = true := by simpa using hz
        have rc := SeqAt.RcAt.lists_lengths hl hl' hb hu0
        have rn := SeqAt.RcNeAt.lists_lengths hl hl' hb hu0
        rw [eqvs_len hz'] at hs ⊢
        refine ⟨?_, rc, rn⟩
        by_cases pq : p = q
        · exact absurd (hs pq) (by decide)
        · exact SeqAt.EqAt.of_refs pq rc
    have tuples : ∀ {p q : Addr} {xs ys : List D} {vs ws : List V} {its its' : List Value}, s.heap.IsTuple p its.toArray → s.heap.IsTuple q its'.toArray → Vals vs its → Vals ws its' → Dats X.K H xs vs → Dats X.K H ys ws → shps n xs = true → shps n ys = true →
        (p = q → eqvs xs ys = true) → Three A s (.ref p) (.ref q) (eqvs xs ys) := by
      intro p q xs ys vs ws its its' hl hl' r r' hd hd' k k' hs
      have l1 := r.length
      have l2 := r'.length
      have m1 := hd.length
      have m2 := hd'.length
      have it := items r r' hd hd' k k'
      have rc := SeqAt.RcAt.tuples hl hl' hu0 it
      have rn := SeqAt.RcNeAt.tuples hl hl' hu0 it
      have ev : ((List.range (min its.toArray.size its'.toArray.size)).all (eqAtI xs ys) && its.toArray.size == its'.toArray.size) = eqvs xs ys := by
        by_cases hz : its.toArray.size = its'.toArray.size
        · have hz' : xs.length = ys.length := by
            simp at hz
            omega
          have en : its'.toArray.size = xs.length := by
            simp at hz ⊢
            omega
          rw [hz, Nat.min_self, en, eqvs_all hz', beq_self_eq_true, Bool.and_true]
        · have hz' : xs.length ≠ ys.length := by
            simp at hz
            omega
          rw [eqvs_len hz', beq_eq_false_iff_ne.mpr hz, Bool.and_false]
      rw [ev] at rc rn
      refine ⟨?_, rc, rn⟩
      by_cases pq : p = q
      · subst pq
        rw [hs rfl]
        exact SeqAt.EqAt.same _
      · exact SeqAt.EqAt.of_refs pq rc
    have hb0 := hb
    cases ha with
    | non =>
      cases rx
      cases hb with
      | non =>
        cases ry
        exact ⟨SeqAt.EqAt.same _, SeqAt.RcAt.none_none , SeqAt.RcNeAt.none_none ⟩
      | bl q =>
        cases ry
        exact ⟨SeqAt.EqAt.none_bool q, SeqAt.RcAt.none_bool q, SeqAt.RcNeAt.none_bool q⟩
      | int q =>
        obtain ⟨t2, rfl⟩ := ry
        exact ⟨SeqAt.EqAt.none_int q t2, SeqAt.RcAt.none_int q t2, SeqAt.RcNeAt.none_int q t2⟩
      | str q =>
        obtain ⟨t2, rfl⟩ := ry
        exact ⟨SeqAt.EqAt.none_str q t2, SeqAt.RcAt.none_str q t2, SeqAt.RcNeAt.none_str q t2⟩
      | lst e h hd k =>
        cases ry
        obtain ⟨its, r, pl, _⟩ := I.list h
        have hl := pl.isList
        rcases e with rfl | rfl
        · exact ⟨SeqAt.EqAt.none_list  hl hu0, SeqAt.RcAt.none_list  hl hu0, SeqAt.RcNeAt.none_list  hl hu0⟩
        · exact ⟨SeqAt.EqAt.none_list  hl hu0, SeqAt.RcAt.none_list  hl hu0, SeqAt.RcNeAt.none_list  hl hu0⟩
      | tup h hd k =>
        cases ry
        obtain ⟨its, r, hl, _⟩ := I.tuple (SqT.of h)
        exact ⟨SeqAt.EqAt.none_tuple  hl hu0, SeqAt.RcAt.none_tuple  hl hu0, SeqAt.RcNeAt.none_tuple  hl hu0⟩
    | bl p =>
      cases rx
      cases hb with
      | non =>
        cases ry
        exact ⟨SeqAt.EqAt.bool_none p, SeqAt.RcAt.bool_none p, SeqAt.RcNeAt.bool_none p⟩
      | bl q =>
        cases ry
        exact ⟨SeqAt.EqAt.bool_bool p q, SeqAt.RcAt.bool_bool p q, SeqAt.RcNeAt.bool_bool p q⟩
      | int q =>
        obtain ⟨t2, rfl⟩ := ry
        exact ⟨SeqAt.EqAt.bool_int p q t2, SeqAt.RcAt.bool_int p q t2, SeqAt.RcNeAt.bool_int p q t2⟩
      | str q =>
        obtain ⟨t2, rfl⟩ := ry
        exact ⟨SeqAt.EqAt.bool_str p q t2, SeqAt.RcAt.bool_str p q t2, SeqAt.RcNeAt.bool_str p q t2⟩
      | lst e h hd k =>
        cases ry
        obtain ⟨its, r, pl, _⟩ := I.list h
        have hl := pl.isList
        rcases e with rfl | rfl
        · exact ⟨SeqAt.EqAt.bool_list p hl hu0, SeqAt.RcAt.bool_list p hl hu0, SeqAt.RcNeAt.bool_list p hl hu0⟩
        · exact ⟨SeqAt.EqAt.bool_list p hl hu0, SeqAt.RcAt.bool_list p hl hu0, SeqAt.RcNeAt.bool_list p hl hu0⟩
      | tup h hd k =>
        cases ry
        obtain ⟨its, r, hl, _⟩ := I.tuple (SqT.of h)
        exact ⟨SeqAt.EqAt.bool_tuple p hl hu0, SeqAt.RcAt.bool_tuple p hl hu0, SeqAt.RcNeAt.bool_tuple p hl hu0⟩
    | int p =>
      obtain ⟨t, rfl⟩ := rx
      cases hb with
      | non =>
        cases ry
        exact ⟨SeqAt.EqAt.int_none p t, SeqAt.RcAt.int_none p t, SeqAt.RcNeAt.int_none p t⟩
      | bl q =>
        cases ry
        exact ⟨SeqAt.EqAt.int_bool p t q, SeqAt.RcAt.int_bool p t q, SeqAt.RcNeAt.int_bool p t q⟩
      | int q =>
        obtain ⟨t2, rfl⟩ := ry
        exact ⟨SeqAt.EqAt.int_int p t q t2, SeqAt.RcAt.int_int p t q t2, SeqAt.RcNeAt.int_int p t q t2⟩
      | str q =>
        obtain ⟨t2, rfl⟩ := ry
        exact ⟨SeqAt.EqAt.int_str p t q t2, SeqAt.RcAt.int_str p t q t2, SeqAt.RcNeAt.int_str p t q t2⟩
      | lst e h hd k =>
        cases ry
        obtain ⟨its, r, pl, _⟩ := I.list h
        have hl := pl.isList
        rcases e with rfl | rfl
        · exact ⟨SeqAt.EqAt.int_list p t hl hu0, SeqAt.RcAt.int_list p t hl hu0, SeqAt.RcNeAt.int_list p t hl hu0⟩
        · exact ⟨SeqAt.EqAt.int_list p t hl hu0, SeqAt.RcAt.int_list p t hl hu0, SeqAt.RcNeAt.int_list p t hl hu0⟩
      | tup h hd k =>
        cases ry
        obtain ⟨its, r, hl, _⟩ := I.tuple (SqT.of h)
        exact ⟨SeqAt.EqAt.int_tuple p t hl hu0, SeqAt.RcAt.int_tuple p t hl hu0, SeqAt.RcNeAt.int_tuple p t hl hu0⟩
    | str p =>
      obtain ⟨t, rfl⟩ := rx
      cases hb with
      | non =>
        cases ry
        exact ⟨SeqAt.EqAt.str_none p t, SeqAt.RcAt.str_none p t, SeqAt.RcNeAt.str_none p t⟩
      | bl q =>
        cases ry
        exact ⟨SeqAt.EqAt.str_bool p t q, SeqAt.RcAt.str_bool p t q, SeqAt.RcNeAt.str_bool p t q⟩
      | int q =>
        obtain ⟨t2, rfl⟩ := ry
        exact ⟨SeqAt.EqAt.str_int p t q t2, SeqAt.RcAt.str_int p t q t2, SeqAt.RcNeAt.str_int p t q t2⟩
      | str q =>
        obtain ⟨t2, rfl⟩ := ry
        exact ⟨SeqAt.EqAt.str_str p t q t2, SeqAt.RcAt.str_str p t q t2, SeqAt.RcNeAt.str_str p t q t2⟩
      | lst e h hd k =>
        cases ry
        obtain ⟨its, r, pl, _⟩ := I.list h
        have hl := pl.isList
        rcases e with rfl | rfl
        · exact ⟨SeqAt.EqAt.str_list p t hl hu0, SeqAt.RcAt.str_list p t hl hu0, SeqAt.RcNeAt.str_list p t hl hu0⟩
        · exact ⟨SeqAt.EqAt.str_list p t hl hu0, SeqAt.RcAt.str_list p t hl hu0, SeqAt.RcNeAt.str_list p t hl hu0⟩
      | tup h hd k =>
        cases ry
        obtain ⟨its, r, hl, _⟩ := I.tuple (SqT.of h)
        exact ⟨SeqAt.EqAt.str_tuple p t hl hu0, SeqAt.RcAt.str_tuple p t hl hu0, SeqAt.RcNeAt.str_tuple p t hl hu0⟩
    | lst e h hd k =>
      cases rx
      obtain ⟨its, r, pl, _⟩ := I.list h
      have hl := pl.isList
      cases hb with
      | non =>
        cases ry
        rcases e with rfl | rfl
        · exact ⟨SeqAt.EqAt.list_none  hl hu0, SeqAt.RcAt.list_none  hl hu0, SeqAt.RcNeAt.list_none  hl hu0⟩
        · exact ⟨SeqAt.EqAt.list_none  hl hu0, SeqAt.RcAt.list_none  hl hu0, SeqAt.RcNeAt.list_none  hl hu0⟩
      | bl q =>
        cases ry
        rcases e with rfl | rfl
        · exact ⟨SeqAt.EqAt.list_bool q hl hu0, SeqAt.RcAt.list_bool q hl hu0, SeqAt.RcNeAt.list_bool q hl hu0⟩
        · exact ⟨SeqAt.EqAt.list_bool q hl hu0, SeqAt.RcAt.list_bool q hl hu0, SeqAt.RcNeAt.list_bool q hl hu0⟩
      | int q =>
        obtain ⟨t2, rfl⟩ := ry
        rcases e with rfl | rfl
        · exact ⟨SeqAt.EqAt.list_int q t2 hl hu0, SeqAt.RcAt.list_int q t2 hl hu0, SeqAt.RcNeAt.list_int q t2 hl hu0⟩
        · exact ⟨SeqAt.EqAt.list_int q t2 hl hu0, SeqAt.RcAt.list_int q t2 hl hu0, SeqAt.RcNeAt.list_int q t2 hl hu0⟩
      | str q =>
        obtain ⟨t2, rfl⟩ := ry
        rcases e with rfl | rfl
        · exact ⟨SeqAt.EqAt.list_str q t2 hl hu0, SeqAt.RcAt.list_str q t2 hl hu0, SeqAt.RcNeAt.list_str q t2 hl hu0⟩
        · exact ⟨SeqAt.EqAt.list_str q t2 hl hu0, SeqAt.RcAt.list_str q t2 hl hu0, SeqAt.RcNeAt.list_str q t2 hl hu0⟩
      | lst e' h' hd' k' =>
        cases ry
        obtain ⟨its', r', pl', _⟩ := I.list h'
        have hl' := pl'.isList
        exact lists e e' hl hl' r r' hd hd' k k' (fun z => by subst z; exact self hb0 I)
      | tup h' hd' k' =>
        cases ry
        obtain ⟨its', r', hl', _⟩ := I.tuple (SqT.of h')
        rcases e with rfl | rfl
        · exact ⟨SeqAt.EqAt.list_tuple hl hl' hu0, SeqAt.RcAt.list_tuple hl hl' hu0, SeqAt.RcNeAt.list_tuple hl hl' hu0⟩
        · exact ⟨SeqAt.EqAt.list_tuple hl hl' hu0, SeqAt.RcAt.list_tuple hl hl' hu0, SeqAt.RcNeAt.list_tuple hl hl' hu0⟩
    | tup h hd k =>
      cases rx
      obtain ⟨its, r, hl, _⟩ := I.tuple (SqT.of h)
      cases hb with
      | non =>
        cases ry
        exact ⟨SeqAt.EqAt.tuple_none  hl hu0, SeqAt.RcAt.tuple_none  hl hu0, SeqAt.RcNeAt.tuple_none  hl hu0⟩
      | bl q =>
        cases ry
        exact ⟨SeqAt.EqAt.tuple_bool q hl hu0, SeqAt.RcAt.tuple_bool q hl hu0, SeqAt.RcNeAt.tuple_bool q hl hu0⟩
      | int q =>
        obtain ⟨t2, rfl⟩ := ry
        exact ⟨SeqAt.EqAt.tuple_int q t2 hl hu0, SeqAt.RcAt.tuple_int q t2 hl hu0, SeqAt.RcNeAt.tuple_int q t2 hl hu0⟩
      | str q =>
        obtain ⟨t2, rfl⟩ := ry
        exact ⟨SeqAt.EqAt.tuple_str q t2 hl hu0, SeqAt.RcAt.tuple_str q t2 hl hu0, SeqAt.RcNeAt.tuple_str q t2 hl hu0⟩
      | lst e' h' hd' k' =>
        cases ry
        obtain ⟨its', r', pl', _⟩ := I.list h'
        have hl' := pl'.isList
        rcases e' with rfl | rfl
        · exact ⟨SeqAt.EqAt.tuple_list hl hl' hu0, SeqAt.RcAt.tuple_list hl hl' hu0, SeqAt.RcNeAt.tuple_list hl hl' hu0⟩
        · exact ⟨SeqAt.EqAt.tuple_list hl hl' hu0, SeqAt.RcAt.tuple_list hl hl' hu0, SeqAt.RcNeAt.tuple_list hl hl' hu0⟩
      | tup h' hd' k' =>
        cases ry
        obtain ⟨its', r', hl', _⟩ := I.tuple (SqT.of h')
        exact tuples hl hl' r r' hd hd' k k' (fun z => by subst z; exact self hb0 I)
def fEq : F2 := fun a b Q => (shp 8 a = true ∧ shp 8 b = true) ∧ Q .fz (.bl (eqv a b))
def fNe : F2 := fun a b Q => (shp 8 a = true ∧ shp 8 b = true) ∧ Q .fz (.bl (!eqv a b))
end
end Py

/-! The operations' rules; what a piece of syntax keeps. -/
namespace Py
open PySem PySem.Spec PyProof.Rows L2

def DOp (X : Cx) (op : Value → Value → Sem Value) (f : F2) : Prop := ∃ r, OpR X op r ∧ RelR2 X.K r f
section
variable {X : Cx} {K : PySem.W.Frag}
theorem r_int {g : Int → Int → V} {gd : Int → Int → D} (hg : ∀ {F : Hp} i j, Dat K F (gd i j) (g i j)) : RelR2 K (rI0 g) (fun a b Q => onI (fun i => onI (fun j => Q .fz (gd i j)) b) a) := by
  intro F H x y a b Q Q' e ra rb h q
  cases a <;> try exact False.elim h
  cases b <;> try exact False.elim h
  exact ⟨_, _, ra.int, rb.int, q .fz _ _ F H (.refl e) (hg _ _) h⟩
theorem r_intC {C : Int → Int → Prop} {g : Int → Int → V} {gd : Int → Int → D} (hg : ∀ {F : Hp} i j, Dat K F (gd i j) (g i j)) : RelR2 K (rI C g) (fun a b Q => onI (fun i => onI (fun j => C i j ∧ Q .fz (gd i j)) b) a) := by
  intro F H x y a b Q Q' e ra rb h q
  cases a <;> try exact False.elim h
  cases b <;> try exact False.elim h
  exact ⟨_, _, ra.int, rb.int, h.1, q .fz _ _ F H (.refl e) (hg _ _) h.2⟩
theorem mul_ok {i j : Int} (h : mulC i j) : IntMulOk i j := h.elim CMul.ok CMulW.ok
theorem op_mulA : OpR X (binaryOp .Mult) (rI mulC fun i j => .int (i * j)) := opI fun _ _ _ _ _ _ _ hc q => mul_int q (mul_ok hc)
theorem dop_add : DOp X (binaryOp .Add) fAdd := by
  refine ⟨_, op_add.or (op_add_str.or op_cat), ?_⟩
  intro F H x y a b Q Q' e ra rb h q
  cases a <;> try exact False.elim h
  · cases b <;> try exact False.elim h
    exact .inl ⟨_, _, ra.int, rb.int, q .fz _ (.int _) F H (.refl e) rfl h⟩
  · cases b <;> try exact False.elim h
    exact .inr (.inl ⟨_, _, ra.str, rb.str, sz_of h.1, q .fz _ (.str _) F H (.refl e) rfl h.2⟩)
  · cases b <;> try exact False.elim h
    rename_i xs ys
    obtain ⟨l, vs, rfl, h1, h2⟩ := ra.lst e
    obtain ⟨l', ws, rfl, h3, h4⟩ := rb.lst e
    refine .inr (.inr ⟨l, l', vs, ws, rfl, rfl, h1, h3, sz_of (by rw [h2.length, h4.length]; exact h.1), fun p hp => ?_⟩)
    exact q .nw _ (.lst (xs ++ ys)) F _ (.own e hp) (ResN.own e hp (h2.append h4)) h.2
theorem dop_sub : DOp X (binaryOp .Sub) fSub := ⟨_, op_sub, r_int (gd := fun i j => .int (i - j)) fun _ _ => rfl⟩
theorem dop_mul : DOp X (binaryOp .Mult) fMul := ⟨_, op_mulA, r_intC (gd := fun i j => .int (i * j)) fun _ _ => rfl⟩
theorem dop_div : DOp X (binaryOp .FloorDiv) fDiv := ⟨_, op_fdivW, r_intC (gd := fun i j => .int (i / j)) fun _ _ => rfl⟩
theorem dop_mod : DOp X (binaryOp .Mod) fMod := ⟨_, op_mod, r_intC (gd := fun i j => .int (i % j)) fun _ _ => rfl⟩
theorem dop_pow : DOp X (binaryOp .Pow) fPow := ⟨_, op_pow, r_intC (gd := fun i j => .int (i ^ j.toNat)) fun _ _ => rfl⟩
theorem dop_shl : DOp X (binaryOp .LShift) fShl := ⟨_, op_shl, r_intC (gd := fun i j => .int (i * 2 ^ j.toNat)) fun _ _ => rfl⟩
theorem dop_shr : DOp X (binaryOp .RShift) fShr := ⟨_, op_shr, r_intC (gd := fun i j => .int (i / 2 ^ j.toNat)) fun _ _ => rfl⟩
theorem dop_and : DOp X (binaryOp .BitAnd) fAnd := ⟨_, op_and, r_int (gd := fun i j => .int (Builtin.bitAnd i j)) fun _ _ => rfl⟩
theorem dop_or : DOp X (binaryOp .BitOr) fOr := ⟨_, op_or, r_int (gd := fun i j => .int (Builtin.bitOr i j)) fun _ _ => rfl⟩
theorem dop_xor : DOp X (binaryOp .BitXor) fXor := ⟨_, op_xor, r_int (gd := fun i j => .int (Builtin.bitXor i j)) fun _ _ => rfl⟩
def fAddS : F2 := fun a b Q => match a with
  | .int i => onI (fun j => Q .fz (.int (i + j))) b
  | .str x => onStr (fun y => x.length + y.length ≤ 100000 ∧ Q .fz (.str (x ++ y))) b
  | _ => False
theorem dip_add : DOp X (inplaceOp .Add) fAddS := by
  refine ⟨_, iop_add.or iop_add_str, ?_⟩
  intro F H x y a b Q Q' e ra rb h q
  cases a <;> try exact False.elim h
  · cases b <;> try exact False.elim h
    exact .inl ⟨_, _, ra.int, rb.int, q .fz _ (.int _) F H (.refl e) rfl h⟩
  · cases b <;> try exact False.elim h
    exact .inr ⟨_, _, ra.str, rb.str, sz_of h.1, q .fz _ (.str _) F H (.refl e) rfl h.2⟩
theorem dip_sub : DOp X (inplaceOp .Sub) fSub := ⟨_, iop_sub, r_int (gd := fun i j => .int (i - j)) fun _ _ => rfl⟩
theorem dip_or : DOp X (inplaceOp .BitOr) fOr := ⟨_, iop_or, r_int (gd := fun i j => .int (Builtin.bitOr i j)) fun _ _ => rfl⟩
theorem dop_lt : DOp X (compareOp .Lt) fLt := by
  refine ⟨_, op_lt.or op_lt_str, ?_⟩
  intro F H x y a b Q Q' e ra rb h q
  cases a <;> try exact False.elim h
  · cases b <;> try exact False.elim h
    exact .inl ⟨_, _, ra.int, rb.int, q .fz _ (.bl _) F H (.refl e) rfl h⟩
  · cases b <;> try exact False.elim h
    exact .inr ⟨_, _, ra.str, rb.str, q .fz _ (.bl _) F H (.refl e) rfl h⟩
theorem dop_le : DOp X (compareOp .LtE) fLe := by
  refine ⟨_, op_le.or op_le_str, ?_⟩
  intro F H x y a b Q Q' e ra rb h q
  cases a <;> try exact False.elim h
  · cases b <;> try exact False.elim h
    exact .inl ⟨_, _, ra.int, rb.int, q .fz _ (.bl _) F H (.refl e) rfl h⟩
  · cases b <;> try exact False.elim h
    exact .inr ⟨_, _, ra.str, rb.str, q .fz _ (.bl _) F H (.refl e) rfl h⟩
theorem dop_gt : DOp X (compareOp .Gt) fGt := ⟨_, op_gt, r_int (gd := fun i j => .bl (decide (j < i))) fun _ _ => rfl⟩
theorem dop_ge : DOp X (compareOp .GtE) fGe := ⟨_, op_ge, r_int (gd := fun i j => .bl (decide (j ≤ i))) fun _ _ => rfl⟩
def fIsN : F2 := fun a b Q => b = .non ∧ match a with
  | .non => Q .fz (.bl true)
  | _ => Q .fz (.bl false)
def fNotN : F2 := fun a b Q => b = .non ∧ match a with
  | .non => Q .fz (.bl false)
  | _ => Q .fz (.bl true)
theorem not_non {F H : Hp} {a : D} {x : V} (r : Rdb K F H a x) (e : Ex F H) (h : a ≠ .non) : decide (x = .non) = false := by
  have r := r.dat e
  apply decide_eq_false
  intro z
  subst z
  cases a <;> first
    | exact absurd rfl h
    | (have q : V.non = _ := r; cases q)
    | (obtain ⟨_, _, q, _⟩ := r; exact absurd q (fun z => by cases z))
    | (obtain ⟨_, _, _, q, _⟩ := r; exact absurd q (fun z => by cases z))
theorem dop_isN : DOp X (compareOp .Is) fIsN := by
  refine ⟨_, op_isN, ?_⟩
  intro F H x y a b Q Q' e ra rb h q
  obtain ⟨rfl, h⟩ := h
  refine ⟨rb.non, ?_⟩
  by_cases ha : a = .non
  · subst ha
    rw [ra.non]
    exact q .fz _ (.bl true) F H (.refl e) rfl h
  · rw [not_non ra e ha]
    cases a <;> first
      | exact absurd rfl ha
      | exact q .fz _ (.bl false) F H (.refl e) rfl h
theorem dop_notN : DOp X (compareOp .IsNot) fNotN := by
  refine ⟨_, op_notN, ?_⟩
  intro F H x y a b Q Q' e ra rb h q
  obtain ⟨rfl, h⟩ := h
  refine ⟨rb.non, ?_⟩
  by_cases ha : a = .non
  · subst ha
    rw [ra.non]
    exact q .fz _ (.bl false) F H (.refl e) rfl h
  · rw [not_non ra e ha]
    cases a <;> first
      | exact absurd rfl ha
      | exact q .fz _ (.bl true) F H (.refl e) rfl h
/-! == -/
def rEqA (K : PySem.W.Frag) (neg : Bool) : R2 := fun x y H Q => ∃ a b, shp 8 a = true ∧ shp 8 b = true ∧ Dat K H a x ∧ Dat K H b y ∧ Q (.bl (if neg then !eqv a b else eqv a b)) H
theorem op_eqA (hu : X.A.units + 64 < cLine) : OpR X (compareOp .Eq) (rEqA X.K false) := by
  intro pins s σ H x y v u Q I rx ry h
  obtain ⟨a, b, sa, sb, da, db, q⟩ := h
  exact (three_of I 8 (shk sa da) (shk sb db) rx ry (by omega)).rc X.prog X.w X.xe _ ⟨.bl _, H, I, rfl, q⟩
theorem op_neA (hu : X.A.units + 64 < cLine) : OpR X (compareOp .NotEq) (rEqA X.K true) := by
  intro pins s σ H x y v u Q I rx ry h
  obtain ⟨a, b, sa, sb, da, db, q⟩ := h
  exact (three_of I 8 (shk sa da) (shk sb db) rx ry (by omega)).ne X.prog X.w X.xe _ ⟨.bl _, H, I, rfl, q⟩
theorem dop_eq (hu : X.A.units + 64 < cLine) : DOp X (compareOp .Eq) fEq := by
  refine ⟨_, op_eqA hu, ?_⟩
  intro F H x y a b Q Q' e ra rb h q
  exact ⟨a, b, h.1.1, h.1.2, ra.dat e, rb.dat e, q .fz _ (.bl (eqv a b)) F H (.refl e) rfl h.2⟩
theorem dop_ne (hu : X.A.units + 64 < cLine) : DOp X (compareOp .NotEq) fNe := by
  refine ⟨_, op_neA hu, ?_⟩
  intro F H x y a b Q Q' e ra rb h q
  exact ⟨a, b, h.1.1, h.1.2, ra.dat e, rb.dat e, q .fz _ (.bl (!eqv a b)) F H (.refl e) rfl h.2⟩
/-! in -/
theorem eqv_congr {H : Hp} {pins : List (Addr × Obj)} {σ : L2.St} {s : Shared} (I : Inv X pins σ H s) : ∀ (n : Nat) {a b : D} {v : V}, ShK X.K H n a v → ShK X.K H n b v → ∀ z, eqv a z = eqv b z := by
  intro n
  induction n with
  | zero =>
    intro a b v ha hb z
    cases ha <;> cases hb <;> rfl
  | succ n ih =>
    have lists : ∀ (xs ys : List D) (vs : List V), shps n xs = true → shps n ys = true → Dats X.K H xs vs → Dats X.K H ys vs → ∀ zs, eqvs xs zs = eqvs ys zs := by
      intro xs
      induction xs with
      | nil =>
        intro ys vs h1 h2 d1 d2 zs
        cases (show vs = [] from d1)
        cases ys with
        | nil => rfl
        | cons y ys =>
          obtain ⟨_, _, e, _⟩ := d2
          cases e
      | cons x xs ihx =>
        intro ys vs h1 h2 d1 d2 zs
        obtain ⟨v, r, rfl, k1, k2⟩ := d1
        cases ys with
        | nil => cases (show v :: r = [] from d2)
        | cons y ys =>
          obtain ⟨v', r', e, k3, k4⟩ := d2
          cases e
          have h1 : (shp n x && shps n xs) = true := h1
          have h2 : (shp n y && shps n ys) = true := h2
          obtain ⟨a1, a2⟩ := Bool.and_eq_true_iff.mp h1
          obtain ⟨b1, b2⟩ := Bool.and_eq_true_iff.mp h2
          cases zs with
          | nil => rfl
          | cons z zs => rw [eqvs_cons, eqvs_cons, ih (shk a1 k1) (shk b1 k3) z, ihx ys r a2 b2 k2 k4 zs]
    intro a b v ha hb z
    cases ha with
    | non => cases hb; rfl
    | bl _ => cases hb; rfl
    | int _ => cases hb; rfl
    | str _ => cases hb; rfl
    | lst e h hd k =>
      cases hb with
      | lst e' h' hd' k' =>
        cases I.list_inj h h'
        have q := lists _ _ _ k k' hd hd'
        rcases e with rfl | rfl <;> rcases e' with rfl | rfl <;> cases z <;> first
          | rfl
          | exact q _
      | tup h' hd' k' =>
        obtain ⟨its, r, pl, _⟩ := I.list h
        obtain ⟨its', r', pl', _⟩ := I.tuple (SqT.of h')
        obtain ⟨o, h1, h2, _⟩ := pl.isList
        obtain ⟨o', h3, h4, _⟩ := pl'
        rw [h1] at h3
        cases h3
        rw [h2] at h4
        exact absurd h4 (by decide)
    | tup h hd k =>
      cases hb with
      | tup h' hd' k' =>
        cases h.symm.trans h'
        have q := lists _ _ _ k k' hd hd'
        cases z <;> first
          | rfl
          | exact q _
      | lst e' h' hd' k' =>
        obtain ⟨its, r, pl, _⟩ := I.list h'
        obtain ⟨its', r', pl', _⟩ := I.tuple (SqT.of h)
        obtain ⟨o, h1, h2, _⟩ := pl.isList
        obtain ⟨o', h3, h4, _⟩ := pl'
        rw [h1] at h3
        cases h3
        rw [h2] at h4
        exact absurd h4 (by decide)
/-- x in xs -/
def inD (x : D) (xs : List D) : Bool := xs.any fun y => eqv y x
def rInA (K : PySem.W.Frag) (neg : Bool) : R2 := fun x y H Q => ∃ d ds p vs, shp 8 d = true ∧ shps 8 ds = true ∧ Dat K H d x ∧ y = .ref p ∧ (SqL K H p vs ∨ H p = some (.tup vs)) ∧ Dats K H ds vs ∧ Q (.bl (if neg then !inD d ds else inD d ds)) H
theorem in_core {pins : List (Addr × Obj)} {σ : L2.St} {H : Hp} {s : Shared} (I : Inv X pins σ H s) (hu : X.A.units + 64 < cLine) {d : D} {x : V} {u : Value} {ds : List D} {vs : List V} {its : List Value} (hd : Dat X.K H d x) (hs : shp 8 d = true) (hds : Dats X.K H ds vs) (hss : shps 8 ds = true) (rx : RelV x u) (rv : Vals vs its) :
    ∃ e : Value → Bool, (∀ y, y ∈ its.toArray → SeqAt.EqAt X.A.in1 s y u (e y)) ∧ its.toArray.any e = inD d ds := by
  have pick : ∀ {y : Value} {j : Nat}, its[j]? = some y → ∃ v dy, RelV v y ∧ ds[j]? = some dy ∧ ShK X.K H 8 dy v := fun {y j} hj => by
    have hjl : j < vs.length := by rw [rv.length]; exact (List.getElem?_eq_some_iff.mp hj).1
    obtain ⟨u1, f1, r1⟩ := rv.get (List.getElem?_eq_getElem hjl)
    rw [hj] at f1
    cases f1
    obtain ⟨dy, e1, d1⟩ := hds.getV (List.getElem?_eq_getElem hjl)
    exact ⟨_, dy, r1, e1, shk (shps_get hss e1) d1⟩
  have ex : ∀ y : Value, ∃ b : Bool, ∀ j, its[j]? = some y → ∃ dy, ds[j]? = some dy ∧ eqv dy d = b ∧ SeqAt.EqAt X.A.in1 s y u b := fun y => by
    by_cases h : ∃ j : Nat, its[j]? = some y
    · obtain ⟨j0, h0⟩ := h
      obtain ⟨v0, d0, r0, e0, k0⟩ := pick h0
      refine ⟨eqv d0 d, fun j hj => ?_⟩
      obtain ⟨v1, d1, r1, e1, k1⟩ := pick hj
      cases r0.inj r1
      exact ⟨d1, e1, (eqv_congr I 8 k0 k1 d).symm, (three_of I 8 k0 (shk hs hd) r0 rx (by show X.A.units + 1 + 8 < cLine; omega)).eq⟩
    · exact ⟨false, fun j hj => absurd ⟨j, hj⟩ h⟩
  refine ⟨fun y => (Classical.choose (ex y)), fun y hy => ?_, ?_⟩
  · obtain ⟨j, hj⟩ := List.getElem?_of_mem (show y ∈ its by simpa using hy)
    obtain ⟨dy, _, _, q⟩ := Classical.choose_spec (ex y) j hj
    exact q
  · rw [List.any_toArray]
    have l1 := rv.length
    have l2 := hds.length
    unfold inD
    rw [Bool.eq_iff_iff, List.any_eq_true, List.any_eq_true]
    constructor
    · rintro ⟨y, hy, hb⟩
      obtain ⟨j, hj⟩ := List.getElem?_of_mem hy
      obtain ⟨dy, e1, e2, _⟩ := Classical.choose_spec (ex y) j hj
      exact ⟨dy, List.mem_of_getElem? e1, by rw [e2]; exact hb⟩
    · rintro ⟨dy, hy, hb⟩
      obtain ⟨j, hj⟩ := List.getElem?_of_mem hy
      have hjl : j < its.length := by have := (List.getElem?_eq_some_iff.mp hj).1; omega
      refine ⟨its[j], List.getElem_mem hjl, ?_⟩
      obtain ⟨dy', e1, e2, _⟩ := Classical.choose_spec (ex its[j]) j (List.getElem?_eq_getElem hjl)
      rw [hj] at e1
      cases e1
      rw [← e2]
      exact hb
theorem op_inA (hu : X.A.units + 64 < cLine) : OpR X (compareOp .In) (rInA X.K false) := by
  intro pins s σ H x y v u Q I rx ry h
  obtain ⟨d, ds, p, vs, hs, hss, hd, rfl, hv, hds, q⟩ := h
  cases ry
  rcases hv with hv | hv
  · obtain ⟨its, r, pl, _⟩ := I.list hv
    obtain ⟨e, h1, h2⟩ := in_core I hu hd hs hds hss rx r
    exact SeqAt.in_listAt e pl.isList h1 ⟨.bl _, H, I, by rw [h2]; rfl, q⟩
  · obtain ⟨its, r, pl, _⟩ := I.tuple (SqT.of hv)
    obtain ⟨e, h1, h2⟩ := in_core I hu hd hs hds hss rx r
    exact SeqAt.in_tupleAt e pl h1 ⟨.bl _, H, I, by rw [h2]; rfl, q⟩
theorem op_notInA (hu : X.A.units + 64 < cLine) : OpR X (compareOp .NotIn) (rInA X.K true) := by
  intro pins s σ H x y v u Q I rx ry h
  obtain ⟨d, ds, p, vs, hs, hss, hd, rfl, hv, hds, q⟩ := h
  cases ry
  rcases hv with hv | hv
  · obtain ⟨its, r, pl, _⟩ := I.list hv
    obtain ⟨e, h1, h2⟩ := in_core I hu hd hs hds hss rx r
    exact SeqAt.notIn_listAt e pl.isList h1 ⟨.bl _, H, I, by rw [h2]; rfl, q⟩
  · obtain ⟨its, r, pl, _⟩ := I.tuple (SqT.of hv)
    obtain ⟨e, h1, h2⟩ := in_core I hu hd hs hds hss rx r
    exact SeqAt.notIn_tupleAt e pl h1 ⟨.bl _, H, I, by rw [h2]; rfl, q⟩
/-- one sign of a text -/
def onSign (Q : Nat → Prop) : List Nat → Prop
  | [] => False
  | c :: r => r = [] ∧ Q c
def fIn : F2 := fun a b Q => match b with
  | .lst ds => (shp 8 a = true ∧ shps 8 ds = true) ∧ Q .fz (.bl (inD a ds))
  | .rol ds => (shp 8 a = true ∧ shps 8 ds = true) ∧ Q .fz (.bl (inD a ds))
  | .tup ds => (shp 8 a = true ∧ shps 8 ds = true) ∧ Q .fz (.bl (inD a ds))
  | .str z => onStr (fun x => onSign (fun c => Q .fz (.bl (decide (c ∈ z.cps.toList)))) x.cps.toList) a
  | _ => False
def fNotIn : F2 := fun a b Q => fIn a b fun _ d => onB (fun k => Q .fz (.bl (!k))) d
theorem sign_eq {x : Str} {c : Nat} (h : x.cps.toList = [c]) : x = ⟨#[c]⟩ := by
  cases x with
  | mk a =>
    have : a = #[c] := by
      apply Array.ext'
      exact h
    rw [this]
theorem dop_in (hu : X.A.units + 64 < cLine) : DOp X (compareOp .In) fIn := by
  refine ⟨_, (op_inA hu).or op_in_sign, ?_⟩
  intro F H x y a b Q Q' e ra rb h q
  cases b <;> try exact False.elim h
  · rename_i z
    cases a <;> try exact False.elim h
    rename_i w
    have h : onSign _ w.cps.toList := h
    cases hw : w.cps.toList with
    | nil =>
      rw [hw] at h
      exact False.elim h
    | cons c r =>
      rw [hw] at h
      obtain ⟨rfl, h⟩ := h
      exact .inr ⟨c, z, by rw [ra.str, sign_eq hw], rb.str, q .fz _ (.bl _) F H (.refl e) rfl h⟩
  · rename_i ds
    obtain ⟨l, vs, rfl, h1, h2⟩ := rb.lst e
    exact .inl ⟨a, ds, l, vs, h.1.1, h.1.2, ra.dat e, rfl, .inl (SqL.of h1), h2.mono e, q .fz _ (.bl (inD a ds)) F H (.refl e) rfl h.2⟩
  · rename_i ds
    obtain ⟨l, vs, rfl, h1, h2⟩ := rb.rol e
    exact .inl ⟨a, ds, l, vs, h.1.1, h.1.2, ra.dat e, rfl, .inl h1, h2.mono e, q .fz _ (.bl (inD a ds)) F H (.refl e) rfl h.2⟩
  · rename_i ds
    obtain ⟨l, vs, rfl, h1, h2⟩ := rb.tup e
    exact .inl ⟨a, ds, l, vs, h.1.1, h.1.2, ra.dat e, rfl, .inr h1, h2.mono e, q .fz _ (.bl (inD a ds)) F H (.refl e) rfl h.2⟩
theorem dop_notIn (hu : X.A.units + 64 < cLine) : DOp X (compareOp .NotIn) fNotIn := by
  refine ⟨_, (op_notInA hu).or op_notIn_sign, ?_⟩
  intro F H x y a b Q Q' e ra rb h q
  cases b <;> try exact False.elim h
  · rename_i z
    cases a <;> try exact False.elim h
    rename_i w
    have h : onSign _ w.cps.toList := h
    cases hw : w.cps.toList with
    | nil =>
      rw [hw] at h
      exact False.elim h
    | cons c r =>
      rw [hw] at h
      obtain ⟨rfl, h⟩ := h
      exact .inr ⟨c, z, by rw [ra.str, sign_eq hw], rb.str, q .fz _ (.bl _) F H (.refl e) rfl h⟩
  · rename_i ds
    obtain ⟨l, vs, rfl, h1, h2⟩ := rb.lst e
    exact .inl ⟨a, ds, l, vs, h.1.1, h.1.2, ra.dat e, rfl, .inl (SqL.of h1), h2.mono e, q .fz _ (.bl (!inD a ds)) F H (.refl e) rfl h.2⟩
  · rename_i ds
    obtain ⟨l, vs, rfl, h1, h2⟩ := rb.rol e
    exact .inl ⟨a, ds, l, vs, h.1.1, h.1.2, ra.dat e, rfl, .inl h1, h2.mono e, q .fz _ (.bl (!inD a ds)) F H (.refl e) rfl h.2⟩
  · rename_i ds
    obtain ⟨l, vs, rfl, h1, h2⟩ := rb.tup e
    exact .inl ⟨a, ds, l, vs, h.1.1, h.1.2, ra.dat e, rfl, .inr h1, h2.mono e, q .fz _ (.bl (!inD a ds)) F H (.refl e) rfl h.2⟩
end
end Py

/-! What a piece of syntax keeps; calls, defs. -/
namespace Py
open PySem PySem.Spec PyProof.Rows L2

def DE (X : Cx) (E : XK) (e : Expr) (w : WE) : Prop := ∃ t, PE X e t ∧ RelE X.K E t w
def DT (X : Cx) (E : XK) (e : Expr) (w : WT) : Prop := ∃ t, PT X e t ∧ RelT X.K E t w
def DW (X : Cx) (E : XK) (e : Expr) (w : WT) : Prop := ∃ t, PW X e t ∧ RelT X.K E t w
def DA (X : Cx) (E : XK) (es : List Expr) (w : WA) : Prop := ∃ t, PA X es t ∧ RelA X.K E t w
def DS (X : Cx) (E : XK) (st : Stmt) (w : WS) : Prop := ∃ t, PS X st t ∧ RelS X.K E t w
def DSs (X : Cx) (E : XK) (st : List Stmt) (w : WS) : Prop := ∃ t, PSs X st t ∧ RelS X.K E t w
def DG (X : Cx) (e : Expr) (w : WG) : Prop := ∃ t, PG X e t ∧ RelG X.K t w
def DGs (X : Cx) (e : List Expr) (w : WGs) : Prop := ∃ t, PGs X e t ∧ RelGs X.K t w
def DI (X : Cx) (E : XK) (tg e : Expr) (w : WI) : Prop := ∃ t, PI X tg e t ∧ RelI X.K E t w

section
variable {X : Cx} {E : XK} {a b c e o : Expr} {wa wb wc we : WE} {wt wu : WT} {pos : Pos}
theorem de_var {i : Nat} {x : Str} (hN : X.N[i]? = some x) (hv : Vis X.env.scope x) (hd : (x == ("__debug__" : Str)) = false := by decide) (hcd : (x == ("__classdict__" : Str)) = false := by decide) : DE X E (.Name x pos) (wVar i) := ⟨_, pe_var hN hv hd hcd, rel_var⟩
theorem de_int {i j} : DE X E (.Constant (.int i) j pos) (wC (.int i)) := ⟨_, pe_int, rel_c (d := .int i) fun _ => rfl⟩
theorem de_bl {i j} : DE X E (.Constant (.bool i) j pos) (wC (.bl i)) := ⟨_, pe_bl, rel_c (d := .bl i) fun _ => rfl⟩
theorem de_non {j} : DE X E (.Constant .none j pos) (wC .non) := ⟨_, pe_non, rel_c (d := .non) fun _ => rfl⟩
theorem de_str {i j} : DE X E (.Constant (.str i) j pos) (wC (.str i)) := ⟨_, pe_str, rel_c (d := .str i) fun _ => rfl⟩
theorem de_glob {x : Str} {d : D} {v : V} {u : Value} (hg : Gl X x) (hm : X.mg x = some u) (r : RelV v u) (hd : ∀ F, Dat X.K F d v) (hdb : (x == ("__debug__" : Str)) = false := by decide) : DE X E (.Name x pos) (wC d) := ⟨_, pe_glob hg hm r hdb, rel_c hd⟩
theorem de_op {op : Operator} {f : F2} (ho : DOp X (binaryOp op) f) (ha : DE X E a wa) (hb : DE X E b wb) : DE X E (.BinOp a op b pos) (wOp f wa wb) := by
  obtain ⟨r, h1, h2⟩ := ho
  obtain ⟨_, h3, h4⟩ := ha
  obtain ⟨_, h5, h6⟩ := hb
  exact ⟨_, pe_op h1 h3 h5, rel_op h2 h4 h6⟩
theorem de_neg (ha : DE X E a wa) : DE X E (.UnaryOp .USub a pos) (wUn fNeg wa) := by
  obtain ⟨_, h3, h4⟩ := ha
  refine ⟨_, pe_un un_neg h3, rel_un ?_ h4⟩
  intro F H x d Q Q' e ra h q
  cases d <;> try exact False.elim h
  exact ⟨_, ra.int, q .fz _ (.int _) F H (.refl e) rfl h⟩
theorem de_cmp {op : CmpOp} {f : F2} (ho : DOp X (compareOp op) f) (ha : DE X E a wa) (hb : DE X E b wb) (hm : behindInMarks op b = false) : DE X E (.Compare a [op] [b] pos) (wOp f wa wb) := by
  obtain ⟨r, h1, h2⟩ := ho
  obtain ⟨_, h3, h4⟩ := ha
  obtain ⟨_, h5, h6⟩ := hb
  exact ⟨_, pe_cmpR h1 h3 h5 hm, rel_op h2 h4 h6⟩
theorem dt_cmp {op : CmpOp} {f : F2} (ho : DOp X (compareOp op) f) (ha : DE X E a wa) (hb : DE X E b wb) (hm : behindInMarks op b = false) : DT X E (.Compare a [op] [b] pos) (wTest (wOp f wa wb)) := by
  obtain ⟨r, h1, h2⟩ := ho
  obtain ⟨_, h3, h4⟩ := ha
  obtain ⟨_, h5, h6⟩ := hb
  exact ⟨_, pt_cmpR h1 h3 h5 hm, rel_test (rel_op h2 h4 h6)⟩
theorem de_chain {op op' : CmpOp} {f f' : F2} (ho : DOp X (compareOp op) f) (ho' : DOp X (compareOp op') f') (ha : DE X E a wa) (hb : DE X E b wb) (hc : DE X E c wc) (hm : lastMarks [op, op'] [b, c] = false := by with_unfolding_all rfl) :
    DE X E (.Compare a [op, op'] [b, c] pos) (wChain f f' wa wb wc) := by
  obtain ⟨r, h1, h2⟩ := ho
  obtain ⟨r', h1', h2'⟩ := ho'
  obtain ⟨_, h3, h4⟩ := ha
  obtain ⟨_, h5, h6⟩ := hb
  obtain ⟨_, h7, h8⟩ := hc
  exact ⟨_, pe_chain h1 h1' h3 h5 h7 hm, rel_chain h2 h2' h4 h6 h8⟩
theorem dt_chain {op op' : CmpOp} {f f' : F2} (ho : DOp X (compareOp op) f) (ho' : DOp X (compareOp op') f') (ha : DE X E a wa) (hb : DE X E b wb) (hc : DE X E c wc) (hm : lastMarks [op, op'] [b, c] = false := by with_unfolding_all rfl) :
    DT X E (.Compare a [op, op'] [b, c] pos) (wTest (wChain f f' wa wb wc)) := by
  obtain ⟨r, h1, h2⟩ := ho
  obtain ⟨r', h1', h2'⟩ := ho'
  obtain ⟨_, h3, h4⟩ := ha
  obtain ⟨_, h5, h6⟩ := hb
  obtain ⟨_, h7, h8⟩ := hc
  exact ⟨_, pt_chain h1 h1' h3 h5 h7 hm, rel_test (rel_chain h2 h2' h4 h6 h8)⟩
/-- a value that is a bool, as a test -/
theorem dt_val (h : DE X E e we) (he : ∀ whole, isTrue e X.env whole = (do let v ← whole; standAt e.pos; holding [v] (truthy v)) := by intro _; rfl) : DT X E e (wTest we) := by
  obtain ⟨_, h1, h2⟩ := h
  exact ⟨_, pt_val h1 he, rel_tB h2⟩
theorem dw_and1 (h : DT X E a wt) : DW X E (.BoolOp .And [a] pos) wt := by
  obtain ⟨_, h1, h2⟩ := h
  exact ⟨_, pw_and1 h1, h2⟩
theorem dw_or1 (h : DT X E a wt) : DW X E (.BoolOp .Or [a] pos) wt := by
  obtain ⟨_, h1, h2⟩ := h
  exact ⟨_, pw_or1 h1, h2⟩
theorem dw_and {rest : List Expr} (h : DT X E a wt) (hr : DW X E (.BoolOp .And (b :: rest) pos) wu) : DW X E (.BoolOp .And (a :: b :: rest) pos) (wAnd wt wu) := by
  obtain ⟨_, h1, h2⟩ := h
  obtain ⟨_, h3, h4⟩ := hr
  exact ⟨_, pw_and h1 h3, rel_and h2 h4⟩
theorem dw_or {rest : List Expr} (h : DT X E a wt) (hr : DW X E (.BoolOp .Or (b :: rest) pos) wu) : DW X E (.BoolOp .Or (a :: b :: rest) pos) (wOr wt wu) := by
  obtain ⟨_, h1, h2⟩ := h
  obtain ⟨_, h3, h4⟩ := hr
  exact ⟨_, pw_or h1 h3, rel_or h2 h4⟩
theorem dt_w (h : DW X E e wt) : DT X E e wt := by
  obtain ⟨_, h1, h2⟩ := h
  exact ⟨_, h1.pt, h2⟩
theorem dt_not (h : DT X E a wt) : DT X E (.UnaryOp .Not a pos) (wNot wt) := by
  obtain ⟨_, h1, h2⟩ := h
  exact ⟨_, pt_not h1, rel_not h2⟩
theorem de_one {op} (h : DE X E a wa) : DE X E (.BoolOp op [a] pos) wa := by
  obtain ⟨_, h1, h2⟩ := h
  exact ⟨_, pe_one h1, h2⟩
theorem de_and {rest : List Expr} (h : DE X E a wa) (hr : DE X E (.BoolOp .And (b :: rest) pos) wb) : DE X E (.BoolOp .And (a :: b :: rest) pos) (wAndV wa wb) := by
  obtain ⟨_, h1, h2⟩ := h
  obtain ⟨_, h3, h4⟩ := hr
  exact ⟨_, pe_and h1 h3, rel_andV h2 h4⟩
theorem de_or {rest : List Expr} (h : DE X E a wa) (hr : DE X E (.BoolOp .Or (b :: rest) pos) wb) : DE X E (.BoolOp .Or (a :: b :: rest) pos) (wOrV wa wb) := by
  obtain ⟨_, h1, h2⟩ := h
  obtain ⟨_, h3, h4⟩ := hr
  exact ⟨_, pe_or h1 h3, rel_orV h2 h4⟩
theorem de_not (h : DE X E a wa) : DE X E (.UnaryOp .Not a pos) (wNotV wa) := by
  obtain ⟨_, h1, h2⟩ := h
  exact ⟨_, pe_not h1, rel_notV h2⟩
theorem de_ifE (ht : DT X E c wt) (ha : DE X E a wa) (hb : DE X E b wb) : DE X E (.IfExp c a b pos) (wIfE wt wa wb) := by
  obtain ⟨_, h1, h2⟩ := ht
  obtain ⟨_, h3, h4⟩ := ha
  obtain ⟨_, h5, h6⟩ := hb
  exact ⟨_, pe_ifExp h1 h3 h5, rel_ifE h2 h4 h6⟩
theorem da_nil : DA X E [] wNil := ⟨_, pa_nil, rel_nil⟩
theorem da_cons {es : List Expr} {wr : WA} (ha : DE X E e we) (hr : DA X E es wr) (hs : starEach (e :: es) X.env = (false, eval e X.env) :: starEach es X.env := by rfl) : DA X E (e :: es) (wCons we wr) := by
  obtain ⟨_, h1, h2⟩ := ha
  obtain ⟨_, h3, h4⟩ := hr
  exact ⟨_, pa_cons h1 h3 hs, rel_cons h2 h4⟩
theorem de_tup {es : List Expr} {wr : WA} {k} (hr : DA X E es wr) : DE X E (.Tuple es k pos) (wTup wr) := by
  obtain ⟨_, h3, h4⟩ := hr
  exact ⟨_, pe_tup h3, rel_tup h4⟩
theorem de_lst {es : List Expr} {wr : WA} (hr : DA X E es wr) : DE X E (.List es pos) (wLst wr) := by
  obtain ⟨_, h3, h4⟩ := hr
  exact ⟨_, pe_lst h3, rel_lst h4⟩
/-! items, slices -/
def onO (Q : D → Prop) : Option D → Prop
  | some d => Q d
  | none => False
def onOc (Q : Nat → Prop) : Option Nat → Prop
  | some d => Q d
  | none => False
def fIx1 (i : Int) (Q : Kd → D → Prop) : D → Prop
  | .lst ds => onO (fun d => Q .fz d) (atI ds i)
  | .rol ds => onO (fun d => Q .fz d) (atI ds i)
  | .tup ds => onO (fun d => Q .fz d) (atI ds i)
  | .str z => z.length ≤ 100000 ∧ onOc (fun c => Q .fz (.str ⟨#[c]⟩)) (atI z.cps.toList i)
  | _ => False
def fIx : F2 := fun a b Q => onI (fun i => fIx1 i Q a) b
theorem onO_some {Q : D → Prop} {o : Option D} (h : onO Q o) : ∃ d, o = some d ∧ Q d := by
  cases o with
  | none => exact False.elim h
  | some d => exact ⟨d, rfl, h⟩
theorem onOc_some {Q : Nat → Prop} {o : Option Nat} (h : onOc Q o) : ∃ d, o = some d ∧ Q d := by
  cases o with
  | none => exact False.elim h
  | some d => exact ⟨d, rfl, h⟩
theorem atI_dats {K : PySem.W.Frag} {F : Hp} {ds : List D} {vs : List V} {i : Int} {d : D} (h : Dats K F ds vs) (hi : atI ds i = some d) : ∃ v, atI vs i = some v ∧ Dat K F d v := by
  unfold atI at hi ⊢
  rw [h.length]
  cases q : ixN ds.length i with
  | none =>
    rw [q] at hi
    cases hi
  | some j =>
    rw [q] at hi
    obtain ⟨v, h1, h2⟩ := h.get (show ds[j]? = some d from hi)
    exact ⟨v, h1, h2⟩
theorem de_ix (ha : DE X E a wa) (hb : DE X E b wb) (hs : PlainIx b := by intro _ _; rfl) : DE X E (.Subscript a b pos) (wOp fIx wa wb) := by
  obtain ⟨_, h3, h4⟩ := ha
  obtain ⟨_, h5, h6⟩ := hb
  refine ⟨_, pe_ix ix_seq h3 h5 hs, rel_op ?_ h4 h6⟩
  intro F H x y a b Q Q' e ra rb h q
  cases b <;> try exact False.elim h
  rename_i i
  have h : fIx1 i Q a := h
  cases a <;> try exact False.elim h
  · obtain ⟨hz, h⟩ := h
    obtain ⟨c, g, h⟩ := onOc_some h
    exact .inr (.inr ⟨_, i, c, ra.str, rb.int, sz_of hz, g, q .fz _ (.str _) F H (.refl e) rfl h⟩)
  · obtain ⟨p, vs, rfl, k1, k2⟩ := ra.lst e
    obtain ⟨d, g, h⟩ := onO_some h
    obtain ⟨v, g1, g2⟩ := atI_dats k2 g
    exact .inl ⟨p, vs, i, v, rfl, rb.int, SqL.of k1, g1, q .fz _ d F H (.refl e) g2 h⟩
  · obtain ⟨p, vs, rfl, k1, k2⟩ := ra.rol e
    obtain ⟨d, g, h⟩ := onO_some h
    obtain ⟨v, g1, g2⟩ := atI_dats k2 g
    exact .inl ⟨p, vs, i, v, rfl, rb.int, k1, g1, q .fz _ d F H (.refl e) g2 h⟩
  · obtain ⟨p, vs, rfl, k1, k2⟩ := ra.tup e
    obtain ⟨d, g, h⟩ := onO_some h
    obtain ⟨v, g1, g2⟩ := atI_dats k2 g
    exact .inr (.inl ⟨p, vs, i, v, rfl, rb.int, SqT.of k1, g1, q .fz _ d F H (.refl e) g2 h⟩)
abbrev WO := (ExD → Prop) → List Slot → (Option Int → Prop) → Prop
def RelO' (K : PySem.W.Frag) (E : XK) (t : TO) (w : WO) : Prop := ∀ {F0 B F H : Hp} {σ : L2.St} {env : List Slot} {Pe : ExD → Prop} {Q : Option Int → Prop} {Q' : Option Int → Hp → Prop}, Py.Env K F0 B F H σ env → EOk K E Pe F H → w Pe env Q →
  (∀ i F' H', Stp F H F' H' → Q i → Q' i H') → t σ H Q'
def DO (X : Cx) (E : XK) (e : Option Expr) (w : WO) : Prop := ∃ t, PO X e t ∧ RelO' X.K E t w
def wNoP : WO := fun _ _ Q => Q none
def wP (we : WE) : WO := fun Pe env Q => we Pe env fun _ d => onI (fun i => Q (some i)) d
theorem do_none : DO X E none wNoP := ⟨_, po_none, fun e _ h q => q none _ _ (.refl e.s) h⟩
theorem do_some (ha : DE X E a wa) : DO X E (some a) (wP wa) := by
  obtain ⟨_, h3, h4⟩ := ha
  refine ⟨_, po_some h3, ?_⟩
  intro F0 B F H σ env Pe Q Q' e x h q
  refine h4.rd e x h fun v d F1 H1 t1 hd h1 => ?_
  cases d <;> try exact False.elim h1
  exact ⟨_, hd.int, q _ F1 H1 t1 h1⟩
def cutD (ds : List D) (lo hi : Option Int) : List D := (ds.drop (HT.sIx ds.length 0 lo)).take (HT.sIx ds.length ds.length hi - HT.sIx ds.length 0 lo)
def fSl (d : D) (lo hi : Option Int) (Q : Kd → D → Prop) : Prop := match d with
  | .lst ds => Q .nw (.lst (cutD ds lo hi))
  | .rol ds => Q .nw (.lst (cutD ds lo hi))
  | .str z => z.length ≤ 100000 ∧ Q .fz (.str (cutS z lo hi))
  | _ => False
def wSl (we : WE) (wl wh : WO) : WE := fun Pe env Q => we Pe env fun _ d => wl Pe env fun lo => wh Pe env fun hi => fSl d lo hi Q
theorem Dats.cut {K : PySem.W.Frag} {F : Hp} {ds : List D} {vs : List V} {lo hi : Option Int} (h : Dats K F ds vs) : Dats K F (cutD ds lo hi) (cutV vs lo hi) := by
  unfold cutD cutV
  rw [h.length]
  exact (h.drop _).take _
theorem de_slice {lo hi : Option Expr} {wl wh : WO} {p2 : Pos} (ha : DE X E a wa) (hl : DO X E lo wl) (hu : DO X E hi wh) : DE X E (.Subscript a (.Slice lo hi none p2) pos) (wSl wa wl wh) := by
  obtain ⟨_, h1, h2⟩ := ha
  obtain ⟨_, h3, h4⟩ := hl
  obtain ⟨_, h5, h6⟩ := hu
  refine ⟨_, pe_slice (sl_list.or sl_str) h1 h3 h5, ?_⟩
  intro F0 B F H σ env Pe Q Q' e x h q
  refine h2 e x h fun ka v d F1 H1 t1 rd h1 => ?_
  refine h4 (e.step t1) (x.step t1) h1 fun lo F2 H2 t2 h2 => ?_
  refine h6 ((e.step t1).step t2) ((x.step t1).step t2) h2 fun hi F3 H3 t3 h3 => ?_
  have r3 := rd.rd (e.step t1) (t2.trans t3)
  have tt := (t1.trans t2).trans t3
  cases d <;> try exact False.elim h3
  · exact .inr ⟨_, r3.str, sz_of h3.1, q .fz _ (.str _) F3 H3 tt rfl h3.2⟩
  · obtain ⟨p, vs, rfl, k1, k2⟩ := r3.lst t3.s
    refine .inl ⟨p, vs, rfl, SqL.of k1, fun p' hp => q .nw _ (.lst _) F3 _ (tt.trans (.own t3.s hp)) ((ResN.own (d := .lst _) (o := .lst _) t3.s hp k2.cut).step0 tt.h).res h3⟩
  · obtain ⟨p, vs, rfl, k1, k2⟩ := r3.rol t3.s
    refine .inl ⟨p, vs, rfl, k1, fun p' hp => q .nw _ (.lst _) F3 _ (tt.trans (.own t3.s hp)) ((ResN.own (d := .lst _) (o := .lst _) t3.s hp k2.cut).step0 tt.h).res h3⟩

/-! built-ins -/
def fLen : F1 := fun a Q => match a with
  | .lst ds => Q .fz (.int ds.length)
  | .rol ds => Q .fz (.int ds.length)
  | .tup ds => Q .fz (.int ds.length)
  | .str z => z.length ≤ 100000 ∧ Q .fz (.int z.length)
  | _ => False
def fInt : F1 := fun a Q => match a with
  | .int i => Q .fz (.int i)
  | .bl k => Q .fz (.int (if k then 1 else 0))
  | .str z => match PySem.intText? z with
    | some n => z.length ≤ 640 ∧ Q .fz (.int n)
    | none => False
  | _ => False
def fStr1 : F1 := fun a Q => onI (fun i => i.natAbs.log2 < 1920 ∧ Q .fz (.str (Str.ofString (toString i)))) a
def tyD : D → String
  | .non => "NoneType"
  | .bl _ => "bool"
  | .int _ => "int"
  | .str _ => "str"
  | .lst _ => "list"
  | .rol _ => "list"
  | .tup _ => "tuple"
  | .dK _ _ => "dict"
  | .dT _ _ => "dict"
  | _ => ""
/-- isinstance of built-in types -/
def isi (a b : String) : Bool := a == b || (a == "bool" && b == "int")
def fIsi (b : String) : F1 := fun a Q => (tyD a ≠ "" ∧ b ∈ ["int", "bool", "str", "list", "tuple", "dict"]) ∧ Q .fz (.bl (isi (tyD a) b))
def fListOf : F1 := fun a Q => match a with
  | .lst ds => Q .nw (.lst ds)
  | .rol ds => Q .nw (.lst ds)
  | .tup ds => Q .nw (.lst ds)
  | _ => False
def fAbs : F1 := fun a Q => onI (fun i => Q .fz (.int (if i < 0 then -i else i))) a
def allBl : List D → Option (List Bool)
  | [] => some []
  | .bl b :: r => (allBl r).map (b :: ·)
  | _ :: _ => none
theorem allBl_map : ∀ bs : List Bool, allBl (bs.map .bl) = some bs
  | [] => rfl
  | b :: bs => by
    show (allBl (bs.map .bl)).map (b :: ·) = _
    rw [allBl_map bs]
    rfl
theorem allBl_some : ∀ {ds : List D} {bs : List Bool}, allBl ds = some bs → ds = bs.map .bl
  | [], bs, h => by
    cases h
    rfl
  | d :: ds, bs, h => by
    cases d <;> try cases (show none = some bs from h)
    rename_i b
    have h : (allBl ds).map (b :: ·) = some bs := h
    cases q : allBl ds with
    | none =>
      rw [q] at h
      cases h
    | some cs =>
      rw [q] at h
      cases h
      rw [allBl_some q]
      rfl
def onBs (Q : List Bool → Prop) : Option (List Bool) → Prop
  | some bs => Q bs
  | none => False
def fAny : F1 := fun a Q => onLst (fun ds => onBs (fun bs => Q .fz (.bl (bs.any id))) (allBl ds)) a
def fAll : F1 := fun a Q => onLst (fun ds => onBs (fun bs => Q .fz (.bl (bs.all id))) (allBl ds)) a
/-- a built-in of one value -/
def DB1 (X : Cx) (f : Value) (g : F1) : Prop := ∃ r, CallR X f r ∧ RelR1 X.K (fun v H Q => r [v] H Q) g
theorem db_len : DB1 X (.builtin "len") fLen := by
  refine ⟨_, call_len, ?_⟩
  intro F H x d Q Q' e ra h q
  cases d <;> try exact False.elim h
  · rename_i z
    exact ⟨.str z, z.length, by rw [ra.str], ⟨sz_of h.1, rfl⟩, q .fz _ (.int _) F H (.refl e) rfl h.2⟩
  · obtain ⟨p, vs, rfl, k1, k2⟩ := ra.lst e
    exact ⟨_, vs.length, rfl, .inl ⟨vs, SqL.of k1, rfl⟩, by rw [k2.length]; exact q .fz _ (.int _) F H (.refl e) rfl h⟩
  · obtain ⟨p, vs, rfl, k1, k2⟩ := ra.rol e
    exact ⟨_, vs.length, rfl, .inl ⟨vs, k1, rfl⟩, by rw [k2.length]; exact q .fz _ (.int _) F H (.refl e) rfl h⟩
  · obtain ⟨p, vs, rfl, k1, k2⟩ := ra.tup e
    exact ⟨_, vs.length, rfl, .inr ⟨vs, SqT.of k1, rfl⟩, by rw [k2.length]; exact q .fz _ (.int _) F H (.refl e) rfl h⟩
theorem db_abs : DB1 X (.builtin "abs") fAbs := by
  refine ⟨_, call_abs, ?_⟩
  intro F H x d Q Q' e ra h q
  cases d <;> try exact False.elim h
  exact ⟨_, by rw [ra.int], q .fz _ (.int _) F H (.refl e) rfl h⟩
theorem db_int : DB1 X (.type "int") fInt := by
  refine ⟨_, call_int1.or call_int_str, ?_⟩
  intro F H x d Q Q' e ra h q
  cases d <;> try exact False.elim h
  · rename_i b
    exact .inl (.inr ⟨b, by rw [ra.bl], q .fz _ (.int _) F H (.refl e) rfl h⟩)
  · rename_i b
    exact .inl (.inl ⟨b, by rw [ra.int], q .fz _ (.int _) F H (.refl e) rfl h⟩)
  · rename_i z
    have h : (match PySem.intText? z with
      | some n => z.length ≤ 640 ∧ Q .fz (.int n)
      | none => False) := h
    cases g : PySem.intText? z with
    | none =>
      rw [g] at h
      exact False.elim h
    | some n =>
      rw [g] at h
      exact .inr ⟨z, n, by rw [ra.str], g, h.1, q .fz _ (.int _) F H (.refl e) rfl h.2⟩
theorem db_str : DB1 X (.type "str") fStr1 := by
  refine ⟨_, call_str_int, ?_⟩
  intro F H x d Q Q' e ra h q
  cases d <;> try exact False.elim h
  exact ⟨_, by rw [ra.int], h.1, q .fz _ (.str _) F H (.refl e) rfl h.2⟩
theorem db_list : DB1 X (.type "list") fListOf := by
  refine ⟨_, call_list_of, ?_⟩
  intro F H x d Q Q' e ra h q
  cases d <;> try exact False.elim h
  · obtain ⟨p, vs, rfl, k1, k2⟩ := ra.lst e
    exact ⟨p, vs, rfl, .inl (SqL.of k1), fun l hl => q .nw _ (.lst _) F _ (.own e hl) (ResN.own (d := .lst _) (o := .lst _) e hl k2) h⟩
  · obtain ⟨p, vs, rfl, k1, k2⟩ := ra.rol e
    exact ⟨p, vs, rfl, .inl k1, fun l hl => q .nw _ (.lst _) F _ (.own e hl) (ResN.own (d := .lst _) (o := .lst _) e hl k2) h⟩
  · obtain ⟨p, vs, rfl, k1, k2⟩ := ra.tup e
    exact ⟨p, vs, rfl, .inr (SqT.of k1), fun l hl => q .nw _ (.lst _) F _ (.own e hl) (ResN.own (d := .lst _) (o := .lst _) e hl k2) h⟩
theorem db_any (hc : X.calm = true) : DB1 X (.builtin "any") fAny := by
  refine ⟨_, cr_any hc, ?_⟩
  intro F H x d Q Q' e ra h q
  cases d <;> try exact False.elim h
  rename_i ds
  have h : onBs (fun bs => Q .fz (.bl (bs.any id))) (allBl ds) := h
  cases g : allBl ds with
  | none =>
    rw [g] at h
    exact False.elim h
  | some bs =>
    rw [g] at h
    rw [allBl_some g] at ra
    obtain ⟨p, vs, rfl, k1, k2⟩ := ra.lst e
    rw [k2.bls] at k1
    exact ⟨p, bs, rfl, SqL.of k1, q .fz _ (.bl _) F H (.refl e) rfl h⟩
theorem db_all (hc : X.calm = true) : DB1 X (.builtin "all") fAll := by
  refine ⟨_, cr_all hc, ?_⟩
  intro F H x d Q Q' e ra h q
  cases d <;> try exact False.elim h
  rename_i ds
  have h : onBs (fun bs => Q .fz (.bl (bs.all id))) (allBl ds) := h
  cases g : allBl ds with
  | none =>
    rw [g] at h
    exact False.elim h
  | some bs =>
    rw [g] at h
    rw [allBl_some g] at ra
    obtain ⟨p, vs, rfl, k1, k2⟩ := ra.lst e
    rw [k2.bls] at k1
    exact ⟨p, bs, rfl, SqL.of k1, q .fz _ (.bl _) F H (.refl e) rfl h⟩
theorem de_b1 {x : Str} {p : Pos} {id : String} {f : F1} (hf : DB1 X (.builtin id) f) (hg : Gl X x) (hm : X.mg x = none) (hv : bootBuiltins x = some (.builtin id)) (ha : DE X E a wa) (hn : x ≠ "__name__" := by decide) (hdb : (x == ("__debug__" : Str)) = false := by decide)
    (hs : starEach [a] X.env = (false, eval a X.env) :: starEach [] X.env := by rfl) (hpl : (backTo pos (starEach [] X.env)).any (·.1) = false := by rfl) : DE X E (.Call (.Name x p) [a] [] pos) (wC1 f wa) := by
  obtain ⟨r, h1, h2⟩ := hf
  obtain ⟨_, h3, h4⟩ := ha
  exact ⟨_, pe_callB h1 hg hm hv (pa_cons h3 pa_nil hs) hn hdb hs hpl, rel_c1 h2 h4⟩
theorem de_t1 {x : Str} {p : Pos} {id : String} {f : F1} (hf : DB1 X (.type id) f) (hg : Gl X x) (hm : X.mg x = none) (hv : bootBuiltins x = some (.type id)) (ha : DE X E a wa) (hn : x ≠ "__name__" := by decide) (hdb : (x == ("__debug__" : Str)) = false := by decide)
    (hs : starEach [a] X.env = (false, eval a X.env) :: starEach [] X.env := by rfl) (hpl : (backTo pos (starEach [] X.env)).any (·.1) = false := by rfl) : DE X E (.Call (.Name x p) [a] [] pos) (wC1 f wa) := by
  obtain ⟨r, h1, h2⟩ := hf
  obtain ⟨_, h3, h4⟩ := ha
  exact ⟨_, pe_callTy h1 hg hm hv (pa_cons h3 pa_nil hs) hn hdb hs hpl, rel_c1 h2 h4⟩
/-- isinstance(x, T), T a built-in type's name -/
theorem kit_isi : ∀ a ∈ ["NoneType", "bool", "int", "str", "list", "tuple", "dict"], ∀ b ∈ ["int", "bool", "str", "list", "tuple", "dict"], kitB a b = some (isi a b) := by decide +kernel
theorem tyX {F H : Hp} {d : D} {x : V} (r : Rdb X.K F H d x) (e : Ex F H) (h : tyD d ≠ "") : TyX X.K H x (.type (tyD d)) ∧ tyD d ∈ ["NoneType", "bool", "int", "str", "list", "tuple", "dict"] := by
  have r := r.dat e
  cases d with
  | non => cases (show x = _ from r); exact ⟨.base .non, by show "NoneType" ∈ _; decide⟩
  | bl b => cases (show x = _ from r); exact ⟨.base (.bl b), by show "bool" ∈ _; decide⟩
  | int b => cases (show x = _ from r); exact ⟨.base (.int b), by show "int" ∈ _; decide⟩
  | str b => cases (show x = _ from r); exact ⟨.base (.str b), by show "str" ∈ _; decide⟩
  | ty _ => exact absurd rfl h
  | ref _ => exact absurd rfl h
  | ins _ _ _ => exact absurd rfl h
  | lst _ =>
    obtain ⟨p, vs, rfl, k1, k2⟩ := r
    exact ⟨.base (.lst k1), by show "list" ∈ _; decide⟩
  | rol _ =>
    obtain ⟨p, vs, rfl, k1, k2⟩ := r
    refine ⟨?_, by show "list" ∈ _; decide⟩
    rcases k1 with (k1 | ⟨o, k1⟩) | ⟨o, its, n, k, c, _⟩
    · exact .base (.lst k1)
    · exact .base (.frz k1)
    · exact .kList k c
  | tup _ =>
    obtain ⟨p, vs, rfl, k1, k2⟩ := r
    exact ⟨.base (.tup k1), by show "tuple" ∈ _; decide⟩
  | dK _ _ =>
    obtain ⟨p, vs, rfl, k1, k2⟩ := r
    exact ⟨.base (.dK k1), by show "dict" ∈ _; decide⟩
  | dT _ _ =>
    obtain ⟨p, vs, rfl, k1, k2⟩ := r
    exact ⟨.base (.dT k1), by show "dict" ∈ _; decide⟩
theorem de_isi {x y : Str} {p py : Pos} {ty : String} (hg : Gl X x) (hm : X.mg x = none) (hv : bootBuiltins x = some (.builtin "isinstance")) (hgy : Gl X y) (hmy : X.mg y = none) (hvy : bootBuiltins y = some (.type ty)) (ha : DE X E a wa)
    (hn : x ≠ "__name__" := by decide) (hdb : (x == ("__debug__" : Str)) = false := by decide) (hny : y ≠ "__name__" := by decide) (hdby : (y == ("__debug__" : Str)) = false := by decide)
    (hs : starEach [a, .Name y py] X.env = (false, eval a X.env) :: starEach [.Name y py] X.env := by rfl) (hs2 : starEach [.Name y py] X.env = (false, eval (.Name y py) X.env) :: starEach [] X.env := by rfl) (hpl : (backTo pos (starEach [.Name y py] X.env)).any (·.1) = false := by rfl) :
    DE X E (.Call (.Name x p) [a, .Name y py] [] pos) (wC1 (fIsi ty) wa) := by
  obtain ⟨_, h3, h4⟩ := ha
  refine ⟨_, pe_callB call_isi hg hm hv (pa_cons h3 (pa_cons (pe_bltn (v := .ty ty) hgy hmy hvy rfl hny hdby) pa_nil hs2) hs) hn hdb hs hpl, ?_⟩
  intro F0 B F H σ env Pe Q Q' e x h q
  refine h4.rd e x h fun v d F1 H1 t1 hd h1 => ?_
  obtain ⟨⟨k1, k2⟩, h1⟩ := h1
  obtain ⟨k3, k4⟩ := tyX hd t1.s k1
  exact ⟨v, .ty ty, _, _, _, rfl, .ty ty, k3, kit_ty (kit_isi _ k4 _ k2), q .fz _ (.bl _) F1 H1 t1 rfl h1⟩
/-- a text's method of one text -/
def fStarts : F2 := fun a b Q => onStr (fun x => onStr (fun y => Q .fz (.bl (Txt.startswith x y))) b) a
end

/-! ### statements -/
section
variable {X : Cx} {E : XK} {e c : Expr} {we : WE} {wt : WT} {pos : Pos} {st : Stmt} {rest as bs : List Stmt} {w wr ws wz : WS}
theorem dss_nil : DSs X E [] wNext := ⟨_, pss_nil, rel_next⟩
theorem dss_cons (h1 : DS X E st w) (h2 : DSs X E rest wr) : DSs X E (st :: rest) (wSeq w wr) := by
  obtain ⟨_, h3, h4⟩ := h1
  obtain ⟨_, h5, h6⟩ := h2
  exact ⟨_, pss_cons h3 h5, rel_seq h4 h6⟩
theorem dss_one (h1 : DS X E st w) : DSs X E [st] w := by
  obtain ⟨_, h3, h4⟩ := h1
  exact ⟨_, pss_one h3, h4⟩
theorem ds_pass : DS X E (.Pass pos) wNext := ⟨_, ps_pass, rel_next⟩
theorem ds_break : DS X E (.Break pos) wBreak := ⟨_, ps_break, rel_break⟩
theorem ds_cont : DS X E (.Continue pos) wCont := ⟨_, ps_continue, rel_cont⟩
theorem ds_ret (h : DE X E e we) : DS X E (.Return (some e) pos) (wRet we) := by
  obtain ⟨_, h3, h4⟩ := h
  exact ⟨_, ps_ret h3, rel_ret h4⟩
theorem ds_retF (h : DE X E e we) : DS X E (.Return (some e) pos) (wRetF we) := by
  obtain ⟨_, h3, h4⟩ := h
  exact ⟨_, ps_ret h3, rel_retF h4⟩
theorem ds_retN : DS X E (.Return none pos) wRetN := ⟨_, ps_retN, rel_retN⟩
theorem ds_if (ht : DT X E c wt) (ha : DSs X E as ws) (hb : DSs X E bs wz) : DS X E (.If c as bs pos) (wIf wt ws wz) := by
  obtain ⟨_, h1, h2⟩ := ht
  obtain ⟨_, h3, h4⟩ := ha
  obtain ⟨_, h5, h6⟩ := hb
  exact ⟨_, ps_if h1 h3 h5, rel_if h2 h4 h6⟩
theorem ds_drop (h : DE X E e we) (hs : swapsWith e none pos.line X.env = pure false := by rfl) : DS X E (.Expr e pos) (wDrop we) := by
  obtain ⟨_, h3, h4⟩ := h
  exact ⟨_, ps_expr h3 hs, rel_drop h4⟩
theorem ds_set {i : Nat} {x : Str} {pos' : Pos} (hN : X.N.Nodup) (hi : X.N[i]? = some x) (hx : Loc X.env.scope x) (h : DE X E e we) (hs : swapsWith e (some (.Name x pos')) pos.line X.env = pure false := by rfl) (hf : X.fn x = true ∨ X.env.scope.names.lookup x = some .local := by first | exact .inl rfl | exact .inr rfl | assumption) :
    DS X E (.Assign [.Name x pos'] e pos) (wAsg we (gN i)) := by
  obtain ⟨_, h3, h4⟩ := h
  exact ⟨_, ps_set hN hi hx h3 hs hf, rel_asg h4 rel_gN⟩
/-- the name holds the new object as its own -/
theorem ds_setO {i : Nat} {x : Str} {pos' : Pos} (hN : X.N.Nodup) (hi : X.N[i]? = some x) (hx : Loc X.env.scope x) (h : DE X E e we) (hs : swapsWith e (some (.Name x pos')) pos.line X.env = pure false := by rfl) (hf : X.fn x = true ∨ X.env.scope.names.lookup x = some .local := by first | exact .inl rfl | exact .inr rfl | assumption) :
    DS X E (.Assign [.Name x pos'] e pos) (wAsgO i we) := by
  obtain ⟨_, h3, h4⟩ := h
  exact ⟨_, ps_set hN hi hx h3 hs hf, rel_asgO h4⟩
theorem dg_name {i : Nat} {x : Str} {pos : Pos} (hN : X.N.Nodup) (hi : X.N[i]? = some x) (hx : Loc X.env.scope x) (hf : X.fn x = true ∨ X.env.scope.names.lookup x = some .local := by first | exact .inl rfl | exact .inr rfl | assumption) : DG X (.Name x pos) (gN i) := ⟨_, pg_name hN hi hx hf, rel_gN⟩
theorem dgs_nil : DGs X [] gNil' := ⟨_, pgs_nil, rel_gNil⟩
theorem dgs_cons {es : List Expr} {g : WG} {gs : WGs} (h1 : DG X e g) (h2 : DGs X es gs) (hs : (assignEach (e :: es) X.env).map (·.2) = assign e X.env :: (assignEach es X.env).map (·.2) := by rfl) : DGs X (e :: es) (gCons' g gs) := by
  obtain ⟨_, h3, h4⟩ := h1
  obtain ⟨_, h5, h6⟩ := h2
  exact ⟨_, pgs_cons h3 h5 hs, rel_gCons h4 h6⟩
theorem dg_tup {es : List Expr} {gs : WGs} {k n : Nat} (hc : X.calm = true) (h : DGs X es gs) (hn : (assignEach es X.env).length = n := by rfl) (hst : (assignEach es X.env).findIdx? (·.1) = none := by rfl) : DG X (.Tuple es k pos) (gT n gs) := by
  obtain ⟨_, h3, h4⟩ := h
  exact ⟨_, pg_tup hc h3 hn hst, rel_gT h4⟩
theorem ds_asg {tg : Expr} {g : WG} (he : DE X E e we) (hg : DG X tg g) (hs : swapsWithSole [tg] e pos.line X.env = pure false := by rfl) (hw : swappedStores [tg] e X.env = pure none := by rfl)
    (h1 : (assignEach [tg] X.env).map (·.2) = [assign tg X.env] := by rfl) : DS X E (.Assign [tg] e pos) (wAsg we g) := by
  obtain ⟨_, h3, h4⟩ := he
  obtain ⟨_, h5, h6⟩ := hg
  exact ⟨_, ps_asg h3 h5 hs hw h1, rel_asg h4 h6⟩
theorem ds_aug {i : Nat} {x : Str} {op : Operator} {f : F2} {pos' : Pos} (hN : X.N.Nodup) (hi : X.N[i]? = some x) (hx : Loc X.env.scope x) (h : DE X E e we) (ho : DOp X (inplaceOp op) f) (hf : X.fn x = true ∨ X.env.scope.names.lookup x = some .local := by first | exact .inl rfl | exact .inr rfl | assumption) :
    DS X E (.AugAssign (.Name x pos') op e pos) (wAug i f we) := by
  obtain ⟨_, h3, h4⟩ := h
  obtain ⟨r, h5, h6⟩ := ho
  exact ⟨_, ps_aug hN hi hx h3 h5 hf, rel_aug h6 h4⟩
theorem di_list {tg : Expr} (h : DE X E e we) : DI X E tg e (iL we) := by
  obtain ⟨_, h3, h4⟩ := h
  exact ⟨_, pi_list h3, rel_iL h4⟩
theorem di_tup {tg : Expr} (h : DE X E e we) : DI X E tg e (iT we) := by
  obtain ⟨_, h3, h4⟩ := h
  exact ⟨_, pi_tup h3, rel_iT h4⟩
theorem di_str {tg : Expr} (h : DE X E e we) : DI X E tg e (iS we) := by
  obtain ⟨_, h3, h4⟩ := h
  exact ⟨_, pi_str h3, rel_iS h4⟩
theorem di_range1 {tg a : Expr} {wr : WA} {p : Pos} (hg : Gl X "range") (hm : X.mg "range" = none) (h : DA X E [a] wr) (hs : starEach [a] X.env = [(false, eval a X.env)] := by rfl) : DI X E tg (.Call (.Name "range" p) [a] [] pos) (iR1 wr) := by
  obtain ⟨_, h3, h4⟩ := h
  exact ⟨_, pi_range1 hg hm h3 hs, rel_iR1 h4⟩
theorem di_range2 {tg a b : Expr} {wr : WA} {p : Pos} (hg : Gl X "range") (hm : X.mg "range" = none) (h : DA X E [a, b] wr) (hs : starEach [a, b] X.env = [(false, eval a X.env), (false, eval b X.env)] := by rfl) (hs2 : starEach [b] X.env = [(false, eval b X.env)] := by rfl) : DI X E tg (.Call (.Name "range" p) [a, b] [] pos) (iR2 wr) := by
  obtain ⟨_, h3, h4⟩ := h
  exact ⟨_, pi_range2 hg hm h3 hs hs2, rel_iR2 h4⟩
theorem di_enum {a : Expr} {wr : WA} {p tpos : Pos} {elts : List Expr} {kk : Nat} (hg : Gl X "enumerate") (hm : X.mg "enumerate" = none) (h : DA X E [a] wr) (hs : starEach [a] X.env = [(false, eval a X.env)] := by rfl) : DI X E (.Tuple elts kk tpos) (.Call (.Name "enumerate" p) [a] [] pos) (iEn wr) := by
  obtain ⟨_, h3, h4⟩ := h
  exact ⟨_, pi_enum hg hm h3 hs, rel_iEn h4⟩
theorem di_zip {a b : Expr} {wr : WA} {p tpos : Pos} {elts : List Expr} {kk : Nat} (hg : Gl X "zip") (hm : X.mg "zip" = none) (h : DA X E [a, b] wr) (hs : starEach [a, b] X.env = (false, eval a X.env) :: starEach [b] X.env := by rfl) (hpl : (backTo pos (starEach [b] X.env)).any (·.1) = false := by rfl) : DI X E (.Tuple elts kk tpos) (.Call (.Name "zip" p) [a, b] [] pos) (iZ wr) := by
  obtain ⟨_, h3, h4⟩ := h
  exact ⟨_, pi_zip hg hm h3 hs hpl, rel_iZ h4⟩
theorem ds_for {tg : Expr} {wi : WI} {g : WG} (hp : PassesOwn (model X.prog X.w) X.A X.env X.xe) (hc : X.calm = true) (hi : DI X E tg e wi) (hg : DG X tg g) (hb : DSs X E bs wz) (hs : ∀ x, foldedSetIterable e X.env x = pure x := by intro _; rfl) : DS X E (.For tg e bs [] pos) (wFor wi g wz) := by
  obtain ⟨_, h1, h2⟩ := hi
  obtain ⟨_, h3, h4⟩ := hg
  obtain ⟨_, h5, h6⟩ := hb
  exact ⟨_, ps_for hp hc h1 h3 h5 hs, rel_for h2 h4 h6⟩
theorem ds_while (hp : PassesOwn (model X.prog X.w) X.A X.env X.xe) (ht : DT X E c wt) (hb : DSs X E bs wz) : DS X E (.While c bs [] pos) (wWhile wt wz) := by
  obtain ⟨_, h1, h2⟩ := ht
  obtain ⟨_, h5, h6⟩ := hb
  exact ⟨_, ps_while hp h1 h5, rel_while h2 h6⟩
theorem ds_frz {i : Nat} (h : DS X E st w) : DS X E st (wFrz i w) := by
  obtain ⟨_, h1, h2⟩ := h
  exact ⟨_, h1, rel_frz h2⟩
theorem rel_loan {K : PySem.W.Frag} {t : TE} {we : WE} {i : Nat} (h : RelE K E t we) : RelE K E t (fun Pe env Q => ∃ d, slotAt env i = .ow d ∧ we noX (setAt env i (.fz d)) fun k d => scD d = true ∧ Q .fz d) := by
  intro F0 B F H σ env Pe Q Q' e x h' q
  obtain ⟨d, hd, h'⟩ := h'
  obtain ⟨F1, eF, e1⟩ := e.freeze (slotAt_get hd fun z => nomatch z)
  rw [setAt_eq] at h'
  refine h.rd e1 ⟨fun _ _ _ _ _ _ _ p => False.elim p⟩ h' fun v d F2 H2 t2 r hq => ?_
  exact q .fz v d F H2 ⟨.refl F, t2.h, e.s.trans t2.h, fun _ h _ => h⟩ ((r.sc hq.1).sc hq.1) hq.2
theorem rel_loanT {K : PySem.W.Frag} {t : TT} {we : WT} {i : Nat} (h : RelT K E t we) : RelT K E t (fun Pe env Q => ∃ d, slotAt env i = .ow d ∧ we noX (setAt env i (.fz d)) Q) := by
  intro F0 B F H σ env Pe Q Q' e x h' q
  obtain ⟨d, hd, h'⟩ := h'
  obtain ⟨F1, eF, e1⟩ := e.freeze (slotAt_get hd fun z => nomatch z)
  rw [setAt_eq] at h'
  exact h e1 ⟨fun _ _ _ _ _ _ _ p => False.elim p⟩ h' fun b F2 H2 t2 hq => q b F H2 ⟨.refl F, t2.h, e.s.trans t2.h, fun _ h _ => h⟩ hq
/-- the slot i is lent -/
def wLn (i : Nat) (w : WE) : WE := fun Pe env Q => ∃ d, slotAt env i = .ow d ∧ w noX (setAt env i (.fz d)) fun k d => scD d = true ∧ Q .fz d
def wLnT (i : Nat) (w : WT) : WT := fun Pe env Q => ∃ d, slotAt env i = .ow d ∧ w noX (setAt env i (.fz d)) Q
theorem de_ln {i : Nat} (h : DE X E e we) : DE X E e (wLn i we) := by
  obtain ⟨_, h1, h2⟩ := h
  exact ⟨_, h1, rel_loan h2⟩
theorem dt_ln {i : Nat} (h : DT X E e wt) : DT X E e (wLnT i wt) := by
  obtain ⟨_, h1, h2⟩ := h
  exact ⟨_, h1, rel_loanT h2⟩
end

/-! ### calls and defs -/
abbrev Ct := List D → (Kd → D → Prop) → (ExD → Prop) → Prop
def spC (K : PySem.W.Frag) (c : Ct) : Sp := fun vs H Q E => ∃ F ds Qd Pe, Ex F H ∧ Dats K F ds vs ∧ c ds Qd Pe ∧ (∀ kd v d F' H', Stp F H F' H' → ResN K H F' H' kd v d → Qd kd d → Q v H') ∧ EOk K E Pe F H
def wCall (c : Ct) (wa : WA) : WE := fun Pe env Q => wa Pe env fun ds => c ds Q Pe
theorem rel_call {K : PySem.W.Frag} {E : XK} {c : Ct} {t : TA} {wa : WA} (ha : RelA K E t wa) : RelE K E (tCall (spC K c) [] E t) (wCall c wa) := by
  intro F0 B F H σ env Pe Q Q' e x h q
  refine ha e x h fun vs ds F1 H1 t1 hd hc => ?_
  refine ⟨F1, ds, Q, Pe, t1.s, by rw [List.append_nil]; exact hd, hc, fun kd v d F' H' t2 r hq => q kd v d F' H' (t1.trans t2) (r.step0 t1.h).res hq, x.step t1⟩
/-- what the name x stands for keeps c -/
def Cal (P : Program) (w : World) (K : PySem.W.Frag) (mg : Str → Option Value) (base : Heap) (k : Nat) (x : Str) (c : Ct) : Prop :=
  ∃ f fd ps, FnOk P w K mg base CX0 k f fd ps (spC K c) ∧ mg x = some (.ref f) ∧ PySem.W.keepIn K (.ref f) = true ∧ Binds K fd ps []
theorem de_call {X : Cx} {k : Nat} {x : Str} {c : Ct} {e : Expr} {es : List Expr} {wa : WA} {p pos : Pos} (h : Cal X.prog X.w X.K X.mg X.base k x c) (hr : Room k X.A) (hg : Gl X x) (ha : DA X E0 (e :: es) wa)
    (hdb : (x == ("__debug__" : Str)) = false := by decide) (he : starEach (e :: es) X.env = (false, eval e X.env) :: starEach es X.env := by rfl) (hpl : (backTo pos (starEach es X.env)).any (·.1) = false := by rfl) :
    DE X E0 (.Call (.Name x p) (e :: es) [] pos) (wCall c wa) := by
  obtain ⟨f, fd, ps, h1, h2, h3, h4⟩ := h
  obtain ⟨_, h5, h6⟩ := ha
  exact ⟨_, pe_call h1 hr hg h2 h3 h4 .nil pass0 h5 hdb he hpl, rel_call h6⟩
theorem de_call0 {X : Cx} {k : Nat} {x : Str} {c : Ct} {p pos : Pos} (h : Cal X.prog X.w X.K X.mg X.base k x c) (hr : Room k X.A) (hg : Gl X x) 
    (hdb : (x == ("__debug__" : Str)) = false := by decide) :
    DE X E0 (.Call (.Name x p) [] [] pos) (wCall c wNil) := by
  obtain ⟨f, fd, ps, h1, h2, h3, h4⟩ := h
  exact ⟨_, pe_call0 h1 hr hg h2 h3 h4 .nil pass0 hdb, rel_call rel_nil⟩
/-- the slots at the entry -/
def ini (n : Nat) (ds : List D) : List Slot := ds.map .fz ++ List.replicate (n - ds.length) .un
theorem env_start {K : PySem.W.Frag} {F H : Hp} {N : List Str} {ds : List D} {vs : List V} (e : Ex F H) (h : Dats K F ds vs) : Py.Env K F H F H (L2.start N vs) (ini N.length ds) := by
  have hl := h.length
  refine ⟨e, .refl _, .refl _, fun _ h _ => h, ?_, fun i d hi => ?_, fun i d hi => ?_, fun i j di dj a hi => ?_⟩
  · unfold L2.start ini
    rw [List.length_append, List.length_append, List.length_map, List.length_map, List.length_replicate, List.length_replicate, hl]
  · unfold ini at hi
    unfold L2.start
    by_cases q : i < ds.length
    · rw [List.getElem?_append_left (by rw [List.length_map]; exact q), List.getElem?_map] at hi
      cases g : ds[i]? with
      | none =>
        rw [g] at hi
        cases hi
      | some d' =>
        rw [g] at hi
        cases hi
        obtain ⟨v, h1, h2⟩ := h.get g
        refine ⟨v, ?_, h2⟩
        rw [List.getElem?_append_left (by rw [List.length_map, hl]; exact q), List.getElem?_map, h1]
        rfl
    · rw [List.getElem?_append_right (by rw [List.length_map]; omega), List.getElem?_replicate] at hi
      split at hi <;> cases hi
  all_goals
    unfold ini at hi
    by_cases q : i < ds.length
    · rw [List.getElem?_append_left (by rw [List.length_map]; exact q), List.getElem?_map] at hi
      cases g : ds[i]? with
      | none =>
        rw [g] at hi
        cases hi
      | some d' =>
        rw [g] at hi
        cases hi
    · rw [List.getElem?_append_right (by rw [List.length_map]; omega), List.getElem?_replicate] at hi
      split at hi <;> cases hi
/-- a def that nothing leaves: c by its body -/
theorem def_ok {P : Program} {w : World} {K : PySem.W.Frag} {mg : Str → Option Value} {base : Heap} {x qual : Str} {params : Arguments} {body : List Stmt} {scope : Scope} {f : Addr} {fd : FuncData} {N ps : List Str} {k : Nat} {c : Ct} {wb : WS}
    (F : FunD K x qual params body scope [] [] f fd) (S : FnScope N ps scope) (len : ∀ ds Q Pe, c ds Q Pe → ds.length = ps.length)
    (sem : ∀ ds Q Pe, c ds Q Pe → wb (ini N.length ds) { nx := fun _ => Q .fz .non, rt := Q, ex := noX })
    (der : ∀ (cdv : Value) (A : Around) (outer : List PySem.Env) (s : Shared) (H : Hp) (E : XK), Room k (A.deeper (envOfC qual scope s.heap.objs.size f cdv)) → DSs (cxOf CX0 P w K mg base N qual scope f cdv A outer s H E).nox E0 body wb) :
    FnOk P w K mg base CX0 (k + 1) f fd ps (spC K c) := by
  refine F.ok S (fun vs H Q E h => ?_) (fun cdv A outer s H vs Q E hr h => ?_)
  · obtain ⟨F, ds, Qd, Pe, _, h1, h2, _⟩ := h
    rw [h1.length, len _ _ _ h2]
  · obtain ⟨F, ds, Qd, Pe, e, h1, h2, h3, h4⟩ := h
    obtain ⟨t, k1, k2⟩ := der cdv A outer s H E hr
    refine ⟨t, k1.nox, k2 (P := { nx := fun _ => Qd .fz .non, rt := Qd, ex := noX }) (env_start e h1) ⟨fun _ _ _ _ _ _ _ p => False.elim p⟩ ⟨fun {σ env F' H'} e' h' => ?_, fun {kd v d F' H'} t r h' => h3 kd v d F' H' t r h', fun _ h => False.elim h, fun _ h => False.elim h⟩ (sem ds Qd Pe h2)⟩
    exact h3 .fz .non .non F' H' e'.t rfl h'
end Py

/-! Comprehensions, methods. -/
namespace Py
open PySem PySem.Spec PyProof.Rows L2

section
variable {X : Cx} {E : XK} {elt tg iter : Expr} {ifs : List Expr} {scope : Scope} {own : List (Str × Nat)} {pos : Pos} {wi : WI} {g : WG} {wt : WT} {we : WE}
/-- a target of a comprehension: stores into these slots alone -/
def DGk (X : Cx) (vs : List Nat) (e : Expr) (t : TG) (w : WG) : Prop := PG X e t ∧ RelG X.K t w ∧ KeepsW t vs
def DGsk (X : Cx) (vs : List Nat) (e : List Expr) (t : TGs) (w : WGs) : Prop := PGs X e t ∧ RelGs X.K t w ∧ KeepsWs t vs
theorem dgk_name {vs : List Nat} {i : Nat} {x : Str} {pos : Pos} (hN : X.N.Nodup) (hi : X.N[i]? = some x) (hx : Loc X.env.scope x) (hv : i ∈ vs) (hf : X.fn x = true ∨ X.env.scope.names.lookup x = some .local := by first | exact .inl rfl | exact .inr rfl | assumption) : DGk X vs (.Name x pos) (gName i) (gN i) := ⟨pg_name hN hi hx hf, rel_gN, kw_name hv⟩
theorem dgsk_nil {vs : List Nat} : DGsk X vs [] gNil gNil' := ⟨pgs_nil, rel_gNil, kw_nil⟩
theorem dgsk_cons {vs : List Nat} {e : Expr} {es : List Expr} {t : TG} {ts : TGs} {g : WG} {gs : WGs} (h1 : DGk X vs e t g) (h2 : DGsk X vs es ts gs) (hs : (assignEach (e :: es) X.env).map (·.2) = assign e X.env :: (assignEach es X.env).map (·.2) := by rfl) : DGsk X vs (e :: es) (gCons t ts) (gCons' g gs) := by
  obtain ⟨a1, a2, a3⟩ := h1
  obtain ⟨b1, b2, b3⟩ := h2
  refine ⟨pgs_cons a1 b1 hs, ?_, ?_⟩
  · exact rel_gCons (wg := g) (wgs := gs) a2 b2
  · exact kw_cons (g := t) (gs := ts) a3 b3
theorem dgk_tup {vs : List Nat} {es : List Expr} {ts : TGs} {gs : WGs} {k n : Nat} (hc : X.calm = true) (h : DGsk X vs es ts gs) (hn : (assignEach es X.env).length = n := by rfl) (hst : (assignEach es X.env).findIdx? (·.1) = none := by rfl) : DGk X vs (.Tuple es k pos) (gTup X.K n ts) (gT n gs) := by
  obtain ⟨b1, b2, b3⟩ := h
  refine ⟨pg_tup hc b1 hn hst, ?_, ?_⟩
  · exact rel_gT (wgs := gs) b2
  · exact kw_tup (gs := ts) b3

/-- the trees of e in each of some contexts -/
def tAll (P : Cx → Prop) (e : Expr) : TE := fun σ H Q => ∀ X, P X → ∀ pins s, Inv X pins σ H s → wpAny (model X.prog X.w) X.A (eval e X.env) (EP X pins σ Q) X.xe s
theorem tAll_pe {P : Cx → Prop} {e : Expr} {X : Cx} (h : P X) : PE X e (tAll P e) := ⟨fun pins s σ H Q I q => q X h pins s I⟩
theorem tAll_rel {P : Cx → Prop} {K : PySem.W.Frag} {e : Expr} {w : WE} {E : XK} (h : ∀ X, P X → X.K = K ∧ DE X E e w) : RelE K E (tAll P e) w := by
  intro F0 B F H σ env Pe Q Q' ev x hw q X hX pins s I
  obtain ⟨hK, t, h1, h2⟩ := h X hX
  subst hK
  exact h1.run pins s σ H Q' I (h2 ev x hw q)
def tAllTs (P : Cx → Prop) (ifs : List Expr) : TT := fun σ H Q => ∀ X, P X → ∀ pins s, Inv X pins σ H s → wpAny (model X.prog X.w) X.A (forIn ifs true fun c r => if r = true then do let ok ← isTrue c X.env (eval c X.env); pure (ForInStep.yield ok) else pure (ForInStep.yield r)) (TP X pins σ Q) X.xe s
def DTs (X : Cx) (E : XK) (ifs : List Expr) (w : WT) : Prop := ∃ t, PTs X ifs t ∧ RelT X.K E t w
theorem dts_nil : DTs X E [] wYes := ⟨_, pts_nil, rel_yes⟩
theorem dts_one {c : Expr} (h : DT X E c wt) : DTs X E [c] wt := by
  obtain ⟨_, h1, h2⟩ := h
  exact ⟨_, pts_one h1, h2⟩
theorem tAllTs_pts {P : Cx → Prop} {ifs : List Expr} {X : Cx} (h : P X) : PTs X ifs (tAllTs P ifs) := ⟨fun pins s σ H Q I q => q X h pins s I⟩
theorem tAllTs_rel {P : Cx → Prop} {K : PySem.W.Frag} {ifs : List Expr} {w : WT} {E : XK} (h : ∀ X, P X → X.K = K ∧ DTs X E ifs w) : RelT K E (tAllTs P ifs) w := by
  intro F0 B F H σ env Pe Q Q' ev x hw q X hX pins s I
  obtain ⟨hK, t, h1, h2⟩ := h X hX
  subst hK
  exact h1.run pins s σ H Q' I (h2 ev x hw q)
/-- the blocks of a comprehension -/
def Blk (X : Cx) (scope : Scope) (Y : Cx) : Prop := ∃ (s : Shared) (H : Hp) (C : Addr) (cl : List (Str × Addr)) (fp : List Addr), Y = X.blk s H scope (compEnvC scope cl C X.env) fp
theorem lc_parts {gt : TG} (hg : ∀ (s : Shared) (H : Hp) (C : Addr) (cl : List (Str × Addr)) (fp : List Addr), DGk (X.blk s H scope (compEnvC scope cl C X.env) fp) (own.map (·.2)) tg gt g) (s0 : Shared) : RelG X.K gt g ∧ KeepsW gt (own.map (·.2)) := by
  obtain ⟨_, h1, h2⟩ := hg s0 (fun _ => none) 0 [] []
  exact ⟨h1, h2⟩
theorem de_lc {E : XK} {gt : TG} (hc : X.calm = true) (hN : X.N.Nodup) (hi : DI X E tg iter wi) (ok : BlkOk X.N X.env.scope scope own)
    (hg : ∀ (s : Shared) (H : Hp) (C : Addr) (cl : List (Str × Addr)) (fp : List Addr), DGk (X.blk s H scope (compEnvC scope cl C X.env) fp) (own.map (·.2)) tg gt g)
    (ht : ∀ (s : Shared) (H : Hp) (C : Addr) (cl : List (Str × Addr)) (fp : List Addr), DTs (X.blk s H scope (compEnvC scope cl C X.env) fp) E0 ifs wt)
    (he : ∀ (s : Shared) (H : Hp) (C : Addr) (cl : List (Str × Addr)) (fp : List Addr), DE (X.blk s H scope (compEnvC scope cl C X.env) fp) E0 elt we)
    (hs : ∀ x, foldedSetIterable iter X.env x = pure x := by intro _; rfl) :
    DE X E (.ListComp elt [⟨tg, iter, ifs, 0⟩] scope pos) (wLc wi g wt we (own.map (·.2))) := by
  obtain ⟨_, h1, h2⟩ := hi
  obtain ⟨k1, k2⟩ := lc_parts hg X.s_0
  refine ⟨_, pe_lc hc hN h1 ok (fun s H C cl fp => (hg s H C cl fp).1) (fun s H C cl fp => tAllTs_pts (P := Blk X scope) ⟨s, H, C, cl, fp, rfl⟩) (fun s H C cl fp => tAll_pe (P := Blk X scope) ⟨s, H, C, cl, fp, rfl⟩) hs, ?_⟩
  refine rel_lc h2 k1 k2 (tAllTs_rel (E := E0) fun Y hY => ?_) (tAll_rel (E := E0) fun Y hY => ?_)
  · obtain ⟨s, H, C, cl, fp, rfl⟩ := hY
    exact ⟨rfl, ht s H C cl fp⟩
  · obtain ⟨s, H, C, cl, fp, rfl⟩ := hY
    exact ⟨rfl, he s H C cl fp⟩
theorem ds_lc {E : XK} {gt : TG} {i : Nat} {y : Str} {py spos : Pos} (hc : X.calm = true) (hN : X.N.Nodup) (hy : X.N[i]? = some y) (hyl : X.env.scope.names.lookup y = some .local)
    (hsw : swapsWith (.ListComp elt [⟨tg, iter, ifs, 0⟩] scope pos) (some (.Name y py)) spos.line X.env = pure true) (hi : DI X E tg iter wi) (ok : BlkOk X.N X.env.scope scope own)
    (hg : ∀ (s : Shared) (H : Hp) (C : Addr) (cl : List (Str × Addr)) (fp : List Addr), DGk (X.blk s H scope (compEnvC scope cl C X.env) fp) (own.map (·.2)) tg gt g)
    (ht : ∀ (s : Shared) (H : Hp) (C : Addr) (cl : List (Str × Addr)) (fp : List Addr), DTs (X.blk s H scope (compEnvC scope cl C X.env) fp) E0 ifs wt)
    (he : ∀ (s : Shared) (H : Hp) (C : Addr) (cl : List (Str × Addr)) (fp : List Addr), DE (X.blk s H scope (compEnvC scope cl C X.env) fp) E0 elt we)
    (hs : ∀ x, foldedSetIterable iter X.env x = pure x := by intro _; rfl) :
    DS X E (.Assign [.Name y py] (.ListComp elt [⟨tg, iter, ifs, 0⟩] scope pos) spos) (wAsg (wLc wi g wt we (own.map (·.2))) (gN i)) := by
  obtain ⟨_, h1, h2⟩ := hi
  obtain ⟨k1, k2⟩ := lc_parts hg X.s_0
  refine ⟨_, ps_setLc hc hN hy hyl hsw h1 ok (fun s H C cl fp => (hg s H C cl fp).1) (fun s H C cl fp => tAllTs_pts (P := Blk X scope) ⟨s, H, C, cl, fp, rfl⟩) (fun s H C cl fp => tAll_pe (P := Blk X scope) ⟨s, H, C, cl, fp, rfl⟩) hs, ?_⟩
  refine rel_asg (rel_lc h2 k1 k2 (tAllTs_rel (E := E0) fun Y hY => ?_) (tAll_rel (E := E0) fun Y hY => ?_)) rel_gN
  · obtain ⟨s, H, C, cl, fp, rfl⟩ := hY
    exact ⟨rfl, ht s H C cl fp⟩
  · obtain ⟨s, H, C, cl, fp, rfl⟩ := hY
    exact ⟨rfl, he s H C cl fp⟩
theorem ds_lcO {E : XK} {gt : TG} {i : Nat} {y : Str} {py spos : Pos} (hc : X.calm = true) (hN : X.N.Nodup) (hy : X.N[i]? = some y) (hyl : X.env.scope.names.lookup y = some .local)
    (hsw : swapsWith (.ListComp elt [⟨tg, iter, ifs, 0⟩] scope pos) (some (.Name y py)) spos.line X.env = pure true) (hi : DI X E tg iter wi) (ok : BlkOk X.N X.env.scope scope own)
    (hg : ∀ (s : Shared) (H : Hp) (C : Addr) (cl : List (Str × Addr)) (fp : List Addr), DGk (X.blk s H scope (compEnvC scope cl C X.env) fp) (own.map (·.2)) tg gt g)
    (ht : ∀ (s : Shared) (H : Hp) (C : Addr) (cl : List (Str × Addr)) (fp : List Addr), DTs (X.blk s H scope (compEnvC scope cl C X.env) fp) E0 ifs wt)
    (he : ∀ (s : Shared) (H : Hp) (C : Addr) (cl : List (Str × Addr)) (fp : List Addr), DE (X.blk s H scope (compEnvC scope cl C X.env) fp) E0 elt we)
    (hs : ∀ x, foldedSetIterable iter X.env x = pure x := by intro _; rfl) :
    DS X E (.Assign [.Name y py] (.ListComp elt [⟨tg, iter, ifs, 0⟩] scope pos) spos) (wAsgO i (wLc wi g wt we (own.map (·.2)))) := by
  obtain ⟨_, h1, h2⟩ := hi
  obtain ⟨k1, k2⟩ := lc_parts hg X.s_0
  refine ⟨_, ps_setLc hc hN hy hyl hsw h1 ok (fun s H C cl fp => (hg s H C cl fp).1) (fun s H C cl fp => tAllTs_pts (P := Blk X scope) ⟨s, H, C, cl, fp, rfl⟩) (fun s H C cl fp => tAll_pe (P := Blk X scope) ⟨s, H, C, cl, fp, rfl⟩) hs, ?_⟩
  refine rel_asgO (rel_lc h2 k1 k2 (tAllTs_rel (E := E0) fun Y hY => ?_) (tAll_rel (E := E0) fun Y hY => ?_))
  · obtain ⟨s, H, C, cl, fp, rfl⟩ := hY
    exact ⟨rfl, ht s H C cl fp⟩
  · obtain ⟨s, H, C, cl, fp, rfl⟩ := hY
    exact ⟨rfl, he s H C cl fp⟩
end

/-! ### methods -/
def RelM (K : PySem.W.Frag) (r : V → List V → Hp → VK → Prop) (f : List D → List D → (List D → D → Prop) → Prop) : Prop := ∀ {F H : Hp} {a : Addr} {xs : List V} {c as : List D} {vs : List V} {Q : List D → D → Prop} {Q' : VK}, Ex F H → F a = none → H a = some (.lst xs) → Dats K F c xs → Dats K F as vs → f c as Q →
  (∀ xs' c' d v, Dats K F c' xs' → Dat K F d v → Q c' d → Q' v (upd H a (.lst xs'))) → r (.ref a) vs H Q'
def DM (X : Cx) (id : String) (f : List D → List D → (List D → D → Prop) → Prop) : Prop := ∃ r, MtR X id r ∧ RelM X.K r f
/-- a list method that changes the list of slot j -/
def wMeth (j : Nat) (f : List D → List D → (List D → D → Prop) → Prop) (wa : WA) : WS := fun env P => onSlot j (fun k c => k = .ow j ∧ onLst (fun c => wa P.ex env fun as => f c as fun c' _ => P.nx (setAt env j (.ow (.lst c')))) c) (slotAt env j)
def fApp : List D → List D → (List D → D → Prop) → Prop := fun c as Q => on1 (fun d => c.length < 100000 ∧ Q (c ++ [d]) .non) as
def fIns : List D → List D → (List D → D → Prop) → Prop := fun c as Q => on2 (fun i d => onI (fun i => c.length < 100000 ∧ 0 ≤ i ∧ i < 1000000 ∧ Q (c.take i.toNat ++ [d] ++ c.drop i.toNat) .non) i) as
section
variable {X : Cx} {E : XK}
theorem dm_append : DM X "list.append" fApp := by
  refine ⟨_, mt_append, ?_⟩
  intro F H a xs c as vs Q Q' e hF hH hc ha h q
  obtain ⟨d, v, rfl, hd, h1, h2⟩ := ha.on1 h
  exact ⟨a, xs, v, rfl, rfl, hH, sz_lt (by rw [hc.length]; exact h1), q _ _ .non _ (hc.snoc hd) rfl h2⟩
theorem dm_insert : DM X "list.insert" fIns := by
  refine ⟨_, mt_insert, ?_⟩
  intro F H a xs c as vs Q Q' e hF hH hc ha h q
  obtain ⟨d, d2, v, u, rfl, hd, hd2, h⟩ := ha.on2 h
  obtain ⟨i, rfl, h1, h2, h3, h4⟩ := hd.onI h
  exact ⟨a, xs, i, u, rfl, rfl, hH, sz_lt (by rw [hc.length]; exact h1), h2, Int.lt_of_lt_of_le h3 (by decide), q _ _ .non _ (((hc.take _).append (.cons hd2 .nil)).append (hc.drop _)) rfl h4⟩
theorem rel_meth {K : PySem.W.Frag} {E : XK} {j : Nat} {r : V → List V → Hp → VK → Prop} {f : List D → List D → (List D → D → Prop) → Prop} {ta : TA} {wa : WA} (hr : RelM K r f) (ha : RelA K E ta wa) : RelS K E (tDrop (tBM K "list" r (tVar j) ta)) (wMeth j f wa) := by
  intro F0 B F H σ env P D e x o h
  have h : onSlot j _ (slotAt env j) := h
  cases hs : slotAt env j with
  | un =>
    rw [hs] at h
    exact False.elim h
  | fz d =>
    rw [hs] at h
    exact nomatch h.1
  | ow d =>
    rw [hs] at h
    have hi := slotAt_get hs (fun z => nomatch z)
    obtain ⟨a, ob, h1, h2, h3, h4, h5⟩ := e.ow j d hi
    have h := h.2
    cases d <;> try exact False.elim h
    rename_i c
    cases ob <;> try exact False.elim h5
    rename_i xs
    refine ⟨_, h1, .inl ⟨rfl, xs, SqL.of h4⟩, ?_⟩
    refine ha e (x.step e.t) h fun vs ds F1 H1 t1 hd hf => ?_
    refine hr t1.s (t1.n a h2 (by rw [h4]; exact fun z => nomatch z)) (t1.h _ _ h4) (Dats.mono t1.f h5) hd hf fun xs' c' d v hx hdv hn => ?_
    rw [setAt_eq] at hn
    exact o.nx ((e.step t1).write hi h1 (o' := .lst xs') (d' := .lst c') hx) hn
theorem ds_meth {j : Nat} {x : Str} {px apos cpos pos : Pos} {id : String} {name : Str} {f : List D → List D → (List D → D → Prop) → Prop} {e : Expr} {es : List Expr} {wa : WA} (hm : DM X id f) (slot : PySem.Slot "list" name id) (hty : typeOf (.builtin id) = pure (.type "method_descriptor"))
    (hN : X.N[j]? = some x) (hv : Vis X.env.scope x) (ha : DA X E (e :: es) wa) (hd : (x == ("__debug__" : Str)) = false := by decide) (hcd : (x == ("__classdict__" : Str)) = false := by decide)
    (hbase : attributeBase (.Name x px) name X.env (eval (.Name x px) X.env) = eval (.Name x px) X.env := by rfl)
    (hfew : ((backTo cpos (starEach (e :: es) X.env)).all (fun x => !x.1) && (backToKw cpos (keywordEach [] X.env)).all (fun x => x.1.isSome)
      && decide ((e :: es).length + ([] : List Keyword).length + (if ([] : List Keyword).isEmpty then 0 else 1) < 30)) = true := by rfl)
    (hline : (apos.endLine == cpos.line) = true := by rfl) (hs : starEach (e :: es) X.env = (false, eval e X.env) :: starEach es X.env := by rfl) (hplain : (backTo cpos (starEach es X.env)).any (·.1) = false := by rfl)
    (hsw : swapsWith (.Call (.Attribute (.Name x px) name apos) (e :: es) [] cpos) none pos.line X.env = pure false := by rfl) :
    DS X E (.Expr (.Call (.Attribute (.Name x px) name apos) (e :: es) [] cpos) pos) (wMeth j f wa) := by
  obtain ⟨r, h1, h2⟩ := hm
  obtain ⟨_, h3, h4⟩ := ha
  exact ⟨_, ps_expr (pe_bm PySem.F.plainAttrs_list slot hty h1 (pe_var hN hv hd hcd) h3 hbase hfew hline hs hplain) hsw, rel_meth h2 h4⟩
/-- a method of a text with one argument that is read; without -/
def wM1 (g : Str → D → (Kd → D → Prop) → Prop) (wo we : WE) : WE := fun Pe env Q => wo Pe env fun _ d => onStr (fun x => we Pe env fun _ d' => g x d' Q) d
def wM0 (g : Str → (Kd → D → Prop) → Prop) (wo : WE) : WE := fun Pe env Q => wo Pe env fun _ d => onStr (fun x => g x Q) d
def RelM1 (K : PySem.W.Frag) (r : V → List V → Hp → VK → Prop) (g : Str → D → (Kd → D → Prop) → Prop) : Prop := ∀ {F H : Hp} {x : Str} {v : V} {d : D} {Q : Kd → D → Prop} {Q' : VK}, Ex F H → Rdb K F H d v → g x d Q →
  (∀ kd v d F' H', Stp F H F' H' → ResN K H F' H' kd v d → Q kd d → Q' v H') → r (.str x) [v] H Q'
def RelM0 (K : PySem.W.Frag) (r : V → List V → Hp → VK → Prop) (g : Str → (Kd → D → Prop) → Prop) : Prop := ∀ {F H : Hp} {x : Str} {Q : Kd → D → Prop} {Q' : VK}, Ex F H → g x Q →
  (∀ kd v d F' H', Stp F H F' H' → ResN K H F' H' kd v d → Q kd d → Q' v H') → r (.str x) [] H Q'
def DM1 (X : Cx) (id : String) (g : Str → D → (Kd → D → Prop) → Prop) : Prop := ∃ r, MtR X id r ∧ RelM1 X.K r g
def DM0 (X : Cx) (id : String) (g : Str → (Kd → D → Prop) → Prop) : Prop := ∃ r, MtR X id r ∧ RelM0 X.K r g
theorem de_m1 {o e : Expr} {wo we : WE} {apos pos : Pos} {id : String} {name : Str} {g : Str → D → (Kd → D → Prop) → Prop} (hm : DM1 X id g) (slot : PySem.Slot "str" name id) (ty : typeOf (.builtin id) = pure (.type "method_descriptor")) (ho : DE X E o wo) (he : DE X E e we)
    (hs : starEach [e] X.env = [(false, eval e X.env)] := by rfl) (hbase : attributeBase o name X.env (eval o X.env) = eval o X.env := by rfl) (hline : (apos.endLine == pos.line) = true := by rfl) :
    DE X E (.Call (.Attribute o name apos) [e] [] pos) (wM1 g wo we) := by
  obtain ⟨r, k1, k2⟩ := hm
  obtain ⟨_, h1, h2⟩ := ho
  obtain ⟨_, h3, h4⟩ := he
  refine ⟨_, pe_m1 slot ty k1 h1 h3 hs hbase hline, ?_⟩
  intro F0 B F H σ env Pe Q Q' e x h q
  refine h2.rd e x h fun v d F1 H1 t1 hd h1 => ?_
  cases d <;> try exact False.elim h1
  rename_i z
  cases hd.str
  refine ⟨⟨z, rfl⟩, h4.rd (e.step t1) (x.step t1) h1 fun u d' F2 H2 t2 hd2 hf => ?_⟩
  exact k2 t2.s hd2 hf fun kd v d F' H' t3 r hq => q kd v d F' H' ((t1.trans t2).trans t3) (r.step0 (t1.trans t2).h).res hq
theorem de_m0 {o : Expr} {wo : WE} {apos pos : Pos} {id : String} {name : Str} {g : Str → (Kd → D → Prop) → Prop} (hm : DM0 X id g) (slot : PySem.Slot "str" name id) (ty : typeOf (.builtin id) = pure (.type "method_descriptor")) (ho : DE X E o wo)
    (hbase : attributeBase o name X.env (eval o X.env) = eval o X.env := by rfl) (hline : (apos.endLine == pos.line) = true := by rfl) :
    DE X E (.Call (.Attribute o name apos) [] [] pos) (wM0 g wo) := by
  obtain ⟨r, k1, k2⟩ := hm
  obtain ⟨_, h1, h2⟩ := ho
  refine ⟨_, pe_m0 slot ty k1 h1 hbase hline, ?_⟩
  intro F0 B F H σ env Pe Q Q' e x h q
  refine h2.rd e x h fun v d F1 H1 t1 hd h1 => ?_
  cases d <;> try exact False.elim h1
  rename_i z
  cases hd.str
  refine ⟨⟨z, rfl⟩, ?_⟩
  exact k2 t1.s h1 fun kd v d F' H' t3 r hq => q kd v d F' H' (t1.trans t3) (r.step0 t1.h).res hq
def gStarts : Str → D → (Kd → D → Prop) → Prop := fun x d Q => onStr (fun y => Q .fz (.bl (Txt.startswith x y))) d
theorem dm_startswith : DM1 X "str.startswith" gStarts := by
  refine ⟨_, mt_startswith, ?_⟩
  intro F H x v d Q Q' e hd h q
  cases d <;> try exact False.elim h
  exact ⟨_, _, rfl, by rw [hd.str], q .fz _ (.bl _) F H (.refl e) rfl h⟩
def strsOf : List D → Option (List Str)
  | [] => some []
  | .str b :: r => (strsOf r).map (b :: ·)
  | _ :: _ => none
theorem strsOf_map : ∀ bs : List Str, strsOf (bs.map .str) = some bs
  | [] => rfl
  | b :: bs => by
    show (strsOf (bs.map .str)).map (b :: ·) = _
    rw [strsOf_map bs]
    rfl
theorem strsOf_some : ∀ {ds : List D} {bs : List Str}, strsOf ds = some bs → ds = bs.map .str
  | [], bs, h => by
    cases h
    rfl
  | d :: ds, bs, h => by
    cases d <;> try cases (show none = some bs from h)
    rename_i b
    have h : (strsOf ds).map (b :: ·) = some bs := h
    cases q : strsOf ds with
    | none =>
      rw [q] at h
      cases h
    | some cs =>
      rw [q] at h
      cases h
      rw [strsOf_some q]
      rfl
def onSs (Q : List Str → Prop) : Option (List Str) → Prop
  | some bs => Q bs
  | none => False
def gSplit : Str → D → (Kd → D → Prop) → Prop := fun x d Q => onStr (fun y => (y.length == 0) = false ∧ x.length ≤ 100000 ∧ Q .nw (.lst ((Txt.split x y).map .str))) d
theorem dm_split : DM1 X "str.split" gSplit := by
  refine ⟨_, mt_split, ?_⟩
  intro F H x v d Q Q' e hd h q
  cases d <;> try exact False.elim h
  rename_i y
  refine ⟨x, y, rfl, by rw [hd.str], h.1, Nat.le_trans (Nat.add_le_add_right h.2.1 2) (by decide), fun p hp => ?_⟩
  exact q .nw _ (.lst _) F _ (.own e hp) (ResN.own (d := .lst _) (o := .lst _) e hp Dats.of_strs) h.2.2
def gWords : Str → (Kd → D → Prop) → Prop := fun x Q => x.length ≤ 100000 ∧ Q .nw (.lst ((Txt.words x).map .str))
theorem dm_words : DM0 X "str.split" gWords := by
  refine ⟨_, mt_words, ?_⟩
  intro F H x Q Q' e h q
  refine ⟨x, rfl, rfl, Nat.le_trans (Nat.add_le_add_right h.1 2) (by decide), fun p hp => ?_⟩
  exact q .nw _ (.lst _) F _ (.own e hp) (ResN.own (d := .lst _) (o := .lst _) e hp Dats.of_strs) h.2
end
end Py

namespace Py
open PySem PySem.Spec PyProof.Rows L2
theorem de_globE {X : Cx} {E : XK} {pos : Pos} {x : Str} {d : D} {v : V} (hg : Gl X x) (h : ∃ u, X.mg x = some u ∧ RelV v u) (hd : ∀ F, Dat X.K F d v) (hdb : (x == ("__debug__" : Str)) = false := by decide) : DE X E (.Name x pos) (wC d) := by
  obtain ⟨u, h1, h2⟩ := h
  exact de_glob hg h1 h2 hd hdb
end Py

namespace Py
open PySem PySem.Spec PyProof.Rows L2
theorem atI_pos {α : Type} {l : List α} {i : Int} (h0 : 0 ≤ i) (h1 : i < l.length) : atI l i = l[i.toNat]? := by
  unfold atI ixN
  rw [if_pos h0, if_pos h1]
  rfl
theorem atI_get {α : Type} {l : List α} {i : Int} (h0 : 0 ≤ i) (h1 : i < l.length) : ∃ c, atI l i = some c ∧ c ∈ l := by
  have h : i.toNat < l.length := by omega
  exact ⟨l[i.toNat], by rw [atI_pos h0 h1, List.getElem?_eq_getElem h], List.getElem_mem h⟩
theorem sl_hi (x : Str) (k : Nat) : (cutS x none (some (k : Int))).cps.toList = x.cps.toList.take k := by
  show (((x.cps.toList.drop (HT.sIx x.length 0 none)).take (HT.sIx x.length x.length (some (k : Int)) - HT.sIx x.length 0 none)).toArray).toList = _
  rw [HT.sIx_nat, HT.sIx_none]
  show (x.cps.toList.drop 0).take (min k x.length - 0) = _
  rw [List.drop_zero, Nat.sub_zero]
  rcases Nat.le_total k x.length with h | h
  · rw [Nat.min_eq_left h]
  · rw [Nat.min_eq_right h, List.take_of_length_le (Nat.le_of_eq (by rw [Array.length_toList]; rfl)), List.take_of_length_le (by rw [Array.length_toList]; exact h)]
theorem sl_lo (x : Str) (k : Nat) : (cutS x (some (k : Int)) none).cps.toList = x.cps.toList.drop k := by
  show (((x.cps.toList.drop (HT.sIx x.length 0 (some (k : Int)))).take (HT.sIx x.length x.length none - HT.sIx x.length 0 (some (k : Int)))).toArray).toList = _
  rw [HT.sIx_nat, HT.sIx_none]
  show (x.cps.toList.drop (min k x.length)).take (x.length - min k x.length) = _
  have e : x.length = x.cps.toList.length := by rw [Array.length_toList]; rfl
  rcases Nat.le_total k x.length with h | h
  · rw [Nat.min_eq_left h, List.take_of_length_le (by rw [List.length_drop]; omega)]
  · rw [Nat.min_eq_right h, List.drop_of_length_le (by omega), List.drop_of_length_le (by omega), List.take_nil]
theorem str_ext {a b : Str} : a.cps.toList = b.cps.toList → a = b := fun h => by
  cases a; cases b
  congr 1
  exact Array.ext' h
theorem str_beq (a b : Str) : (a == b) = decide (a.cps.toList = b.cps.toList) := by
  by_cases h : a = b
  · subst h
    rw [beq_self_eq_true, decide_eq_true rfl]
  · rw [beq_eq_false_iff_ne.mpr h, decide_eq_false fun z => h (str_ext z)]
theorem str_len (x : Str) : x.length = x.cps.toList.length := by rw [Array.length_toList]; rfl
theorem lt1 (a b : Nat) : decide ([a] < [b]) = decide (a < b) := by
  by_cases h : a < b
  · rw [decide_eq_true h, decide_eq_true (show [a] < [b] from List.Lex.rel h)]
  · rw [decide_eq_false h, decide_eq_false]
    intro z
    cases z with
    | rel g => exact h g
    | cons g => cases g
theorem onO_some' {Q : D → Prop} {d : D} : onO Q (some d) = Q d := rfl
theorem onOc_some' {Q : Nat → Prop} {d : Nat} : onOc Q (some d) = Q d := rfl
theorem tl_app (x y : Str) : (x ++ y).cps.toList = x.cps.toList ++ y.cps.toList := by
  show (x.cps ++ y.cps).toList = _
  rw [Array.toList_append]
theorem len_app (x y : Str) : (x ++ y).length = x.length + y.length := by
  rw [str_len, tl_app, List.length_append, ← str_len, ← str_len]
theorem empty_beq (x : Str) : (x == Str.ofString "") = decide (x.cps.toList = []) := by
  rw [str_beq]
  rfl
theorem log2_lt {n k : Nat} (hk : k ≠ 0) (h : n < 2 ^ k) : n.log2 < k := by
  by_cases hn : n = 0
  · subst hn
    show Nat.log2 0 < k
    have : Nat.log2 0 = 0 := by decide
    omega
  · exact (Nat.log2_lt hn).mpr h
theorem cdiv_ok {i j : Int} (h : 0 < j) (h2 : j < 18446744073709551616) : CDivW i j := by
  refine ⟨h, ?_⟩
  have : j.natAbs < 2 ^ 64 := by omega
  exact Nat.lt_trans (log2_lt (by decide) this) (by decide)
theorem mul_r {i j : Int} (h : -18446744073709551616 < j) (h2 : j < 18446744073709551616) : mulC i j := .inl (.inr ⟨h, h2⟩)
theorem mul_l {i j : Int} (h : -18446744073709551616 < i) (h2 : i < 18446744073709551616) : mulC i j := .inl (.inl ⟨h, h2⟩)
/-! numbers as texts -/
open NumText in
theorem numL_head {n : Nat} : ∀ {r : List Nat}, TL.numL n = 48 :: r → r = [] := by
  induction n using Nat.strongRecOn with
  | _ n ih =>
    intro r h
    by_cases g : n < 10
    · rw [TL.numL_lt g] at h
      injection h with h1 h2
      exact h2.symm
    · rw [TL.numL_step (by omega)] at h
      cases q : TL.numL (n / 10) with
      | nil => exact absurd q (TL.numL_ne _)
      | cons c t =>
        rw [q] at h
        have h1 : c = 48 := by cases h; rfl
        subst h1
        have := ih (n / 10) (by omega) q
        subst this
        have v := TL.numL_val (n / 10)
        rw [q] at v
        have : (0 : Nat) = n / 10 := v
        omega
open NumText in
theorem dv_snoc (l : List Nat) (c : Nat) : digitsVal (l ++ [c]) = digitsVal l * 10 + (c - 48) := by
  unfold digitsVal
  rw [List.foldl_append]
  rfl
open NumText in
theorem dv_pos : ∀ (n : Nat) {l : List Nat}, l.length = n → AllDigits l → (∃ c r, l = c :: r ∧ c ≠ 48) → 0 < digitsVal l ∧ TL.numL (digitsVal l) = l := by
  intro n
  induction n with
  | zero =>
    intro l h _ h3
    obtain ⟨c, r, rfl, _⟩ := h3
    cases h
  | succ n ih =>
    intro l h1 h2 h3
    obtain ⟨c, r, rfl, hc⟩ := h3
    rcases List.eq_nil_or_concat r with q | ⟨m, d, q⟩
    · subst q
      have hd := h2.head
      have e : digitsVal [c] = c - 48 := by show 0 * 10 + (c - 48) = _; omega
      rw [e]
      refine ⟨by omega, ?_⟩
      rw [TL.numL_lt (by omega)]
      congr 1
      omega
    · rw [List.concat_eq_append] at q
      subst q
      have hd := h2 d (by simp)
      have hl : (c :: m).length = n := by
        simp only [List.length_cons, List.length_append, List.length_nil] at h1 ⊢
        omega
      obtain ⟨k1, k2⟩ := ih hl (fun x hx => h2 x (by
        rcases List.mem_cons.mp hx with hx | hx
        · simp [hx]
        · simp [hx])) ⟨c, m, rfl, hc⟩
      have e : digitsVal (c :: (m ++ [d])) = digitsVal (c :: m) * 10 + (d - 48) := dv_snoc (c :: m) d
      rw [e]
      refine ⟨by omega, ?_⟩
      rw [TL.numL_step (by omega), show (digitsVal (c :: m) * 10 + (d - 48)) / 10 = digitsVal (c :: m) by omega, show (digitsVal (c :: m) * 10 + (d - 48)) % 10 = d - 48 by omega, k2, show 48 + (d - 48) = d by omega]
      rfl
open NumText in
theorem dv_lt : ∀ (n : Nat) {l : List Nat}, l.length = n → AllDigits l → digitsVal l < 10 ^ n := by
  intro n
  induction n with
  | zero =>
    intro l h _
    cases l with
    | nil => decide
    | cons _ _ => cases h
  | succ n ih =>
    intro l h1 h2
    rcases List.eq_nil_or_concat l with q | ⟨m, d, q⟩
    · subst q
      cases h1
    · rw [List.concat_eq_append] at q
      subst q
      have hd := h2 d (by simp)
      have hl : m.length = n := by
        simp only [List.length_append, List.length_cons, List.length_nil] at h1
        omega
      have k := ih hl (fun x hx => h2 x (by simp [hx]))
      rw [dv_snoc, Nat.pow_succ]
      omega
theorem tl_neg (n : Nat) : (Str.ofString (toString (-((n + 1 : Nat) : Int)))).cps.toList = 45 :: TL.numL (n + 1) := by
  have e : toString (-((n + 1 : Nat) : Int)) = "-" ++ toString (n + 1) := rfl
  have e2 : toString ((n + 1 : Nat) : Int) = toString (n + 1) := rfl
  have := TL.tl_num (n + 1)
  rw [e2] at this
  have k := TL.tl_ofString (toString (n + 1))
  have k2 := TL.tl_ofString ("-" ++ toString (n + 1))
  rw [e]
  refine k2.trans ?_
  rw [String.toList_append, List.map_append, ← k, this]
  rfl
end Py

namespace Py
open PySem PySem.Spec PyProof.Rows L2
def low (c : Nat) : Bool := decide (97 ≤ c) && decide (c ≤ 122)
def dig (c : Nat) : Bool := decide (48 ≤ c) && decide (c ≤ 57)
def headB (p : Nat → Bool) : List Nat → Bool
  | [] => false
  | c :: _ => p c
def isNm (l : List Nat) : Bool := decide (1 ≤ l.length) && decide (l.length ≤ 12) && l.all (fun c => low c || dig c) && headB low l
def figsOf : List Nat → List Nat
  | [] => []
  | c :: r => if c = 45 then r else c :: r
def isNu (l : List Nat) : Bool := decide (1 ≤ (figsOf l).length) && decide ((figsOf l).length ≤ 60) && (figsOf l).all dig && (headB (fun c => decide (c ≠ 48)) (figsOf l) || decide (l = [48]))
def ct_signs_from : Ct := fun ds Q _ => ∃ x y : Str, ds = [.str x, .str y] ∧ Q .fz (.bl (x.cps.toList.all fun c => decide (c ∈ y.cps.toList)))
def ct_is_name : Ct := fun ds Q _ => ∃ x : Str, ds = [.str x] ∧ x.length ≤ 10000 ∧ Q .fz (.bl (isNm x.cps.toList))
def ct_is_number : Ct := fun ds Q _ => ∃ x : Str, ds = [.str x] ∧ x.length ≤ 10000 ∧ Q .fz (.bl (isNu x.cps.toList))
def ct__law_sign : Ct := fun ds Q _ => ∃ d : Int, ds = [.int d] ∧ ∀ z : Str, z.length = 1 → Q .fz (.str z)
def ct__law_drawn : Ct := fun ds Q _ => ∃ (d n : Int) (z : Str), ds = [.int d, .int n, .str z] ∧ 0 ≤ n ∧ n ≤ 1000 ∧ 0 < z.length ∧ z.length ≤ 1000 ∧ ∀ r : Str, r.length = n.toNat → Q .fz (.str r)
def ct__law_long : Ct := fun ds Q _ => ∃ d e : Int, ds = [.int d, .int e] ∧ ∀ z : Str, z.length ≤ 100 → Q .fz (.str z)
def ct__law_spoilt : Ct := fun ds Q _ => ∃ d e : Int, ds = [.int d, .int e] ∧ ∀ z : Str, z.length ≤ 100 → Q .fz (.str z)
def ct__law_word : Ct := fun ds Q _ => ∃ d k : Int, ds = [.int d, .int k] ∧ 0 ≤ k ∧ k ≤ 1000 ∧ ∀ z : Str, z.length ≤ 100 → Q .fz (.str z)
def ct__law_name_due : Ct := fun ds Q _ => ∃ x : Str, ds = [.str x] ∧ x.length ≤ 10000 ∧ Q .fz (.bl (isNm x.cps.toList))
def ct__law_number_due : Ct := fun ds Q _ => ∃ x : Str, ds = [.str x] ∧ x.length ≤ 10000 ∧ Q .fz (.bl (isNu x.cps.toList))
def ct_law : Ct := fun ds Q _ => ∃ ns : List Int, ds = [.rol (ns.map .int)] ∧ ns.length ≤ 63 ∧ Q .fz (.bl true)
theorem len_signs_from (ds : List D) (Q : Kd → D → Prop) (Pe : ExD → Prop) (h : ct_signs_from ds Q Pe) : ds.length = 2 := by obtain ⟨_, _, rfl, _⟩ := h; rfl
theorem len_is_name (ds : List D) (Q : Kd → D → Prop) (Pe : ExD → Prop) (h : ct_is_name ds Q Pe) : ds.length = 1 := by obtain ⟨_, rfl, _⟩ := h; rfl
theorem len_is_number (ds : List D) (Q : Kd → D → Prop) (Pe : ExD → Prop) (h : ct_is_number ds Q Pe) : ds.length = 1 := by obtain ⟨_, rfl, _⟩ := h; rfl
theorem len__law_sign (ds : List D) (Q : Kd → D → Prop) (Pe : ExD → Prop) (h : ct__law_sign ds Q Pe) : ds.length = 1 := by obtain ⟨_, rfl, _⟩ := h; rfl
theorem len__law_drawn (ds : List D) (Q : Kd → D → Prop) (Pe : ExD → Prop) (h : ct__law_drawn ds Q Pe) : ds.length = 3 := by obtain ⟨_, _, _, rfl, _⟩ := h; rfl
theorem len__law_long (ds : List D) (Q : Kd → D → Prop) (Pe : ExD → Prop) (h : ct__law_long ds Q Pe) : ds.length = 2 := by obtain ⟨_, _, rfl, _⟩ := h; rfl
theorem len__law_spoilt (ds : List D) (Q : Kd → D → Prop) (Pe : ExD → Prop) (h : ct__law_spoilt ds Q Pe) : ds.length = 2 := by obtain ⟨_, _, rfl, _⟩ := h; rfl
theorem len__law_word (ds : List D) (Q : Kd → D → Prop) (Pe : ExD → Prop) (h : ct__law_word ds Q Pe) : ds.length = 2 := by obtain ⟨_, _, rfl, _⟩ := h; rfl
theorem len__law_name_due (ds : List D) (Q : Kd → D → Prop) (Pe : ExD → Prop) (h : ct__law_name_due ds Q Pe) : ds.length = 1 := by obtain ⟨_, rfl, _⟩ := h; rfl
theorem len__law_number_due (ds : List D) (Q : Kd → D → Prop) (Pe : ExD → Prop) (h : ct__law_number_due ds Q Pe) : ds.length = 1 := by obtain ⟨_, rfl, _⟩ := h; rfl
theorem len_law (ds : List D) (Q : Kd → D → Prop) (Pe : ExD → Prop) (h : ct_law ds Q Pe) : ds.length = 1 := by obtain ⟨_, rfl, _⟩ := h; rfl

/-- slots: 0 word, 1 signs, 2 sign -/
def w_signs_from : WS :=
  (wSeq (wFor (iS (wVar 0)) (gN 2) (wIf (wTest (wOp fNotIn (wVar 2) (wVar 1))) (wRet (wC (.bl false))) wNext))
  (wRet (wC (.bl true))))

/-- slots: 0 word -/
def w_is_name : WS :=
  (wSeq (wIf (wOr (wTest (wOp fEq (wVar 0) (wC (.str "")))) (wOr (wTest (wOp fGt (wC1 fLen (wVar 0)) (wC (.int 12)))) (wTest (wOp fNotIn (wOp fIx (wVar 0) (wC (.int 0))) (wC (.str "abcdefghijklmnopqrstuvwxyz")))))) (wRet (wC (.bl false))) wNext)
  (wRet (wCall ct_signs_from (wCons (wVar 0) (wCons (wOp fAdd (wC (.str "abcdefghijklmnopqrstuvwxyz")) (wC (.str "0123456789"))) wNil)))))

/-- slots: 0 word, 1 figures -/
def w_is_number : WS :=
  (wSeq (wAsg (wVar 0) (gN 1))
  (wSeq (wIf (wTest (wM1 gStarts (wVar 0) (wC (.str "-")))) (wAsg (wSl (wVar 0) (wP (wC (.int 1))) wNoP) (gN 1)) wNext)
  (wSeq (wIf (wOr (wTest (wOp fEq (wVar 1) (wC (.str "")))) (wOr (wTest (wOp fGt (wC1 fLen (wVar 1)) (wC (.int 60)))) (wNot (wTest (wCall ct_signs_from (wCons (wVar 1) (wCons (wC (.str "0123456789")) wNil))))))) (wRet (wC (.bl false))) wNext)
  (wRet (wOrV (wOp fNe (wOp fIx (wVar 1) (wC (.int 0))) (wC (.str "0"))) (wOp fEq (wVar 0) (wC (.str "0"))))))))

/-- slots: 0 _law_d, 1 _law_some -/
def w__law_sign : WS :=
  (wSeq (wAsg (wC (.str " !\"#$&'()*+,-./0123456789:;<=>?@ABCDEFGHIJKLMNOPQRSTUVWXYZ[\\]^_`")) (gN 1))
  (wSeq (wAsg (wOp fAdd (wVar 1) (wC (.str "abcdefghijklmnopqrstuvwxyz{|}~\n"))) (gN 1))
  (wRet (wOp fIx (wVar 1) (wOp fMod (wVar 0) (wC (.int 95)))))))

/-- slots: 0 _law_d, 1 _law_size, 2 _law_some, 3 _law_word_here, 4 _law_k -/
def w__law_drawn : WS :=
  (wSeq (wAsg (wC (.str "")) (gN 3))
  (wSeq (wFor (iR1 (wCons (wVar 1) wNil)) (gN 4) (wSeq (wAsg (wOp fMod (wOp fMul (wOp fAdd (wVar 0) (wVar 4)) (wC (.int 40692))) (wC (.int 2147483399))) (gN 0))
  (wAsg (wOp fAdd (wVar 3) (wOp fIx (wVar 2) (wOp fMod (wVar 0) (wC1 fLen (wVar 2))))) (gN 3))))
  (wRet (wVar 3))))

/-- slots: 0 _law_d, 1 _law_e, 2 _law_first, 3 _law_word_here -/
def w__law_long : WS :=
  (wSeq (wAsg (wOp fIx (wC (.str "123456789")) (wOp fMod (wOp fDiv (wVar 0) (wC (.int 12))) (wC (.int 9)))) (gN 2))
  (wSeq (wAsg (wOp fAdd (wVar 2) (wCall ct__law_drawn (wCons (wVar 1) (wCons (wOp fAdd (wC (.int 58)) (wOp fMod (wOp fDiv (wVar 0) (wC (.int 108))) (wC (.int 4)))) (wCons (wC (.str "0123456789")) wNil))))) (gN 3))
  (wSeq (wIf (wTest (wOp fEq (wOp fMod (wOp fDiv (wVar 0) (wC (.int 6))) (wC (.int 2))) (wC (.int 1)))) (wRet (wOp fAdd (wC (.str "-")) (wVar 3))) wNext)
  (wRet (wVar 3)))))

/-- slots: 0 _law_d, 1 _law_e, 2 _law_size, 3 _law_word_here, 4 _law_at, 5 _law_past -/
def w__law_spoilt : WS :=
  (wSeq (wAsg (wOp fMod (wOp fDiv (wVar 0) (wC (.int 6))) (wC (.int 12))) (gN 2))
  (wSeq (wAsg (wOp fAdd (wOp fIx (wC (.str "abcdefghijklmnopqrstuvwxyz")) (wOp fMod (wOp fDiv (wVar 0) (wC (.int 72))) (wC (.int 26)))) (wCall ct__law_drawn (wCons (wVar 1) (wCons (wVar 2) (wCons (wC (.str "abcxyz0189")) wNil))))) (gN 3))
  (wSeq (wIf (wTest (wOp fEq (wOp fMod (wVar 1) (wC (.int 3))) (wC (.int 1)))) (wAsg (wOp fAdd (wOp fIx (wC (.str "123456789")) (wOp fMod (wOp fDiv (wVar 0) (wC (.int 72))) (wC (.int 9)))) (wCall ct__law_drawn (wCons (wVar 1) (wCons (wVar 2) (wCons (wC (.str "0123456789")) wNil))))) (gN 3)) wNext)
  (wSeq (wAsg (wOp fMod (wOp fDiv (wVar 1) (wC (.int 3))) (wOp fAdd (wVar 2) (wC (.int 2)))) (gN 4))
  (wSeq (wAsg (wOp fAdd (wVar 4) (wOp fMod (wOp fDiv (wVar 1) (wC (.int 42))) (wC (.int 2)))) (gN 5))
  (wRet (wOp fAdd (wOp fAdd (wSl (wVar 3) wNoP (wP (wVar 4))) (wCall ct__law_sign (wCons (wOp fDiv (wVar 1) (wC (.int 84))) wNil))) (wSl (wVar 3) (wP (wVar 5)) wNoP))))))))

/-- slots: 0 _law_cell, 1 _law_k, 2 _law_d, 3 _law_e, 4 _law_minus, 5 _law_some -/
def w__law_word : WS :=
  (wSeq (wAsg (wOp fMod (wOp fMul (wOp fAdd (wVar 0) (wOp fMul (wVar 1) (wVar 1))) (wC (.int 48271))) (wC (.int 2147483647))) (gN 2))
  (wSeq (wAsg (wOp fMod (wOp fMul (wOp fAdd (wOp fAdd (wVar 0) (wOp fMul (wC (.int 3)) (wVar 1))) (wC (.int 1))) (wC (.int 69621))) (wC (.int 2147483629))) (gN 3))
  (wSeq (wIf (wTest (wOp fEq (wOp fMod (wVar 2) (wC (.int 6))) (wC (.int 0)))) (wRet (wCall ct__law_drawn (wCons (wVar 3) (wCons (wOp fMod (wOp fDiv (wVar 2) (wC (.int 6))) (wC (.int 14))) (wCons (wC (.str "abcdefghijklmnopqrstuvwxyz0123456789")) wNil))))) wNext)
  (wSeq (wIf (wTest (wOp fEq (wOp fMod (wVar 2) (wC (.int 6))) (wC (.int 1)))) (wSeq (wAsg (wSl (wC (.str "-")) wNoP (wP (wC1 fInt (wOp fEq (wOp fMod (wVar 3) (wC (.int 3))) (wC (.int 1)))))) (gN 4))
  (wRet (wOp fAdd (wVar 4) (wCall ct__law_drawn (wCons (wVar 3) (wCons (wOp fMod (wOp fDiv (wVar 2) (wC (.int 6))) (wC (.int 63))) (wCons (wC (.str "0123456789")) wNil))))))) wNext)
  (wSeq (wIf (wTest (wOp fEq (wOp fMod (wVar 2) (wC (.int 6))) (wC (.int 2)))) (wRet (wCall ct__law_long (wCons (wVar 2) (wCons (wVar 3) wNil)))) wNext)
  (wSeq (wIf (wTest (wOp fEq (wOp fMod (wVar 2) (wC (.int 6))) (wC (.int 3)))) (wSeq (wAsg (wLst (wCons (wC (.str "")) (wCons (wC (.str "-")) (wCons (wC (.str "--1")) (wCons (wC (.str "0")) (wCons (wC (.str "-0")) (wCons (wC (.str "00")) (wCons (wC (.str "+1")) (wCons (wC (.str "1-")) (wCons (wC (.str "1.0")) (wCons (wC (.str "a")) (wCons (wC (.str "A")) (wCons (wC (.str "9")) (wCons (wC (.str "z9")) (wCons (wC (.str "-a")) wNil))))))))))))))) (gN 5))
  (wRet (wOp fIx (wVar 5) (wOp fMod (wOp fDiv (wVar 2) (wC (.int 6))) (wC (.int 14)))))) wNext)
  (wRet (wCall ct__law_spoilt (wCons (wVar 2) (wCons (wVar 3) wNil))))))))))

/-- slots: 0 _law_word_here, 1 _law_sign_here -/
def w__law_name_due : WS :=
  (wSeq (wIf (wNot (wTest (wChain fLe fLe (wC (.int 1)) (wC1 fLen (wVar 0)) (wC (.int 12))))) (wRet (wC (.bl false))) wNext)
  (wSeq (wFor (iS (wVar 0)) (gN 1) (wIf (wNot (wOr (wTest (wChain fLe fLe (wC (.str "a")) (wVar 1) (wC (.str "z")))) (wTest (wChain fLe fLe (wC (.str "0")) (wVar 1) (wC (.str "9")))))) (wRet (wC (.bl false))) wNext))
  (wRet (wChain fLe fLe (wC (.str "a")) (wOp fIx (wVar 0) (wC (.int 0))) (wC (.str "z"))))))

/-- slots: 0 _law_word_here, 1 _law_figures, 2 _law_sign_here -/
def w__law_number_due : WS :=
  (wSeq (wAsg (wVar 0) (gN 1))
  (wSeq (wIf (wTest (wOp fEq (wSl (wVar 0) wNoP (wP (wC (.int 1)))) (wC (.str "-")))) (wAsg (wSl (wVar 0) (wP (wC (.int 1))) wNoP) (gN 1)) wNext)
  (wSeq (wIf (wNot (wTest (wChain fLe fLe (wC (.int 1)) (wC1 fLen (wVar 1)) (wC (.int 60))))) (wRet (wC (.bl false))) wNext)
  (wSeq (wFor (iS (wVar 1)) (gN 2) (wIf (wNot (wTest (wChain fLe fLe (wC (.str "0")) (wVar 2) (wC (.str "9"))))) (wRet (wC (.bl false))) wNext))
  (wRet (wOp fEq (wC1 fStr1 (wC1 fInt (wVar 0))) (wVar 0)))))))

/-- slots: 0 _law_script, 1 _law_cells, 2 _law_k, 3 _law_word_here, 4 _law_found -/
def w_law : WS :=
  (wSeq (wAsg (wOp fAdd (wSl (wVar 0) wNoP (wP (wC (.int 63)))) (wLst (wCons (wOp fMod (wC1 fLen (wVar 0)) (wC (.int 64))) wNil))) (gN 1))
  (wSeq (wFor (iR1 (wCons (wC1 fLen (wVar 1)) wNil)) (gN 2) (wSeq (wAsg (wCall ct__law_word (wCons (wOp fIx (wVar 1) (wVar 2)) (wCons (wVar 2) wNil))) (gN 3))
  (wSeq (wAsg (wCall ct_is_name (wCons (wVar 3) wNil)) (gN 4))
  (wSeq (wIf (wOr (wNot (wTest (wC1 (fIsi "bool") (wVar 4)))) (wTest (wOp fNe (wVar 4) (wCall ct__law_name_due (wCons (wVar 3) wNil))))) (wRet (wC (.bl false))) wNext)
  (wSeq (wAsg (wCall ct_is_number (wCons (wVar 3) wNil)) (gN 4))
  (wIf (wOr (wNot (wTest (wC1 (fIsi "bool") (wVar 4)))) (wTest (wOp fNe (wVar 4) (wCall ct__law_number_due (wCons (wVar 3) wNil))))) (wRet (wC (.bl false))) wNext))))))
  (wRet (wC (.bl true)))))

theorem sem_signs_from (ds : List D) (Q : Kd → D → Prop) (Pe : ExD → Prop) (h : ct_signs_from ds Q Pe) : w_signs_from (ini 3 ds) { nx := fun _ => Q .fz .non, rt := Q, ex := noX } := by
  obtain ⟨x, y, rfl, h⟩ := h
  simp only [w_signs_from, br_eq, wVar, wC, wOp, wUn, wNil, wCons, wTest, wAnd, wOr, wNot, wAndV, wOrV, wNotV, wIfE, wTup, wLst, wChain, wCB, wC1, wNext, wNever, wSeq, wAsg, wAsgO, wDrop, wIf, wRet, wRetF, wRetN, wBreak, wCont, wAug, wFrz, wForget, gN, gNil', gCons', gT, wFor, onL, onT, onS, iL, iT, iS, on1, on2, onI, iR1, iR2, iEn, iZ, iRv, wYes, wLc, wipeE, onStr, onLst, fAdd, fI2, fI2C, fIB, fSub, fMul, fDiv, fMod, fPow, fShl, fShr, fNeg, fLt, fLe, fGt, fGe, fAnd, fOr, fXor, fEq, fNe, fAddS, fIsN, fNotN, onSign, fIn, fNotIn, fIx, fIx1, onO_some', onOc_some', wNoP, wP, fSl, wSl, fLen, fInt, fStr1, fIsi, fListOf, fAbs, onBs, fAny, fAll, fStarts, wLn, wLnT, wCall, wMeth, fApp, fIns, wM1, wM0, gStarts, gSplit, gWords, onSs, slotAt, setAt, onSlot, onB, Kd.ok, Kd.out, tyD, ini, List.map_cons, List.map_nil, List.length_cons, List.length_nil, List.replicate, List.cons_append, List.nil_append, List.append_nil, ite_true, ite_false, if_true, if_false, true_and, and_true, eq_self_iff_true, Nat.reduceAdd, Nat.reduceSub, Bool.false_eq_true, Bool.not_true, Bool.not_false, shp, eqv, reduceIte, Int.reduceLT, Int.reduceLE, Int.reduceNeg, Nat.reduceLT, Nat.reduceLeDiff, cdiv_ok, mul_r, mul_l, decide_true, decide_false]
  generalize x.cps.toList = l at h ⊢
  generalize Slot.un = u
  induction l generalizing u with
  | nil => exact h
  | cons c l ih =>
    simp only [List.map_cons, forGo, br_eq, wVar, wC, wOp, wUn, wNil, wCons, wTest, wAnd, wOr, wNot, wAndV, wOrV, wNotV, wIfE, wTup, wLst, wChain, wCB, wC1, wNext, wNever, wSeq, wAsg, wAsgO, wDrop, wIf, wRet, wRetF, wRetN, wBreak, wCont, wAug, wFrz, wForget, gN, gNil', gCons', gT, wFor, onL, onT, onS, iL, iT, iS, on1, on2, onI, iR1, iR2, iEn, iZ, iRv, wYes, wLc, wipeE, onStr, onLst, fAdd, fI2, fI2C, fIB, fSub, fMul, fDiv, fMod, fPow, fShl, fShr, fNeg, fLt, fLe, fGt, fGe, fAnd, fOr, fXor, fEq, fNe, fAddS, fIsN, fNotN, onSign, fIn, fNotIn, fIx, fIx1, onO_some', onOc_some', wNoP, wP, fSl, wSl, fLen, fInt, fStr1, fIsi, fListOf, fAbs, onBs, fAny, fAll, fStarts, wLn, wLnT, wCall, wMeth, fApp, fIns, wM1, wM0, gStarts, gSplit, gWords, onSs, slotAt, setAt, onSlot, onB, Kd.ok, Kd.out, tyD, ini, List.map_cons, List.map_nil, List.length_cons, List.length_nil, List.replicate, List.cons_append, List.nil_append, List.append_nil, ite_true, ite_false, if_true, if_false, true_and, and_true, eq_self_iff_true, Nat.reduceAdd, Nat.reduceSub, Bool.false_eq_true, Bool.not_true, Bool.not_false, shp, eqv, reduceIte, Int.reduceLT, Int.reduceLE, Int.reduceNeg, Nat.reduceLT, Nat.reduceLeDiff, cdiv_ok, mul_r, mul_l, decide_true, decide_false]
    by_cases g : c ∈ y.cps.toList
    · simp only [g, decide_true, br_eq, wVar, wC, wOp, wUn, wNil, wCons, wTest, wAnd, wOr, wNot, wAndV, wOrV, wNotV, wIfE, wTup, wLst, wChain, wCB, wC1, wNext, wNever, wSeq, wAsg, wAsgO, wDrop, wIf, wRet, wRetF, wRetN, wBreak, wCont, wAug, wFrz, wForget, gN, gNil', gCons', gT, wFor, onL, onT, onS, iL, iT, iS, on1, on2, onI, iR1, iR2, iEn, iZ, iRv, wYes, wLc, wipeE, onStr, onLst, fAdd, fI2, fI2C, fIB, fSub, fMul, fDiv, fMod, fPow, fShl, fShr, fNeg, fLt, fLe, fGt, fGe, fAnd, fOr, fXor, fEq, fNe, fAddS, fIsN, fNotN, onSign, fIn, fNotIn, fIx, fIx1, onO_some', onOc_some', wNoP, wP, fSl, wSl, fLen, fInt, fStr1, fIsi, fListOf, fAbs, onBs, fAny, fAll, fStarts, wLn, wLnT, wCall, wMeth, fApp, fIns, wM1, wM0, gStarts, gSplit, gWords, onSs, slotAt, setAt, onSlot, onB, Kd.ok, Kd.out, tyD, ini, List.map_cons, List.map_nil, List.length_cons, List.length_nil, List.replicate, List.cons_append, List.nil_append, List.append_nil, ite_true, ite_false, if_true, if_false, true_and, and_true, eq_self_iff_true, Nat.reduceAdd, Nat.reduceSub, Bool.false_eq_true, Bool.not_true, Bool.not_false, shp, eqv, reduceIte, Int.reduceLT, Int.reduceLE, Int.reduceNeg, Nat.reduceLT, Nat.reduceLeDiff, cdiv_ok, mul_r, mul_l, decide_true, decide_false]
      refine ih ?_ _
      simpa only [List.all_cons, g, decide_true, Bool.true_and] using h
    · simp only [g, decide_false, br_eq, wVar, wC, wOp, wUn, wNil, wCons, wTest, wAnd, wOr, wNot, wAndV, wOrV, wNotV, wIfE, wTup, wLst, wChain, wCB, wC1, wNext, wNever, wSeq, wAsg, wAsgO, wDrop, wIf, wRet, wRetF, wRetN, wBreak, wCont, wAug, wFrz, wForget, gN, gNil', gCons', gT, wFor, onL, onT, onS, iL, iT, iS, on1, on2, onI, iR1, iR2, iEn, iZ, iRv, wYes, wLc, wipeE, onStr, onLst, fAdd, fI2, fI2C, fIB, fSub, fMul, fDiv, fMod, fPow, fShl, fShr, fNeg, fLt, fLe, fGt, fGe, fAnd, fOr, fXor, fEq, fNe, fAddS, fIsN, fNotN, onSign, fIn, fNotIn, fIx, fIx1, onO_some', onOc_some', wNoP, wP, fSl, wSl, fLen, fInt, fStr1, fIsi, fListOf, fAbs, onBs, fAny, fAll, fStarts, wLn, wLnT, wCall, wMeth, fApp, fIns, wM1, wM0, gStarts, gSplit, gWords, onSs, slotAt, setAt, onSlot, onB, Kd.ok, Kd.out, tyD, ini, List.map_cons, List.map_nil, List.length_cons, List.length_nil, List.replicate, List.cons_append, List.nil_append, List.append_nil, ite_true, ite_false, if_true, if_false, true_and, and_true, eq_self_iff_true, Nat.reduceAdd, Nat.reduceSub, Bool.false_eq_true, Bool.not_true, Bool.not_false, shp, eqv, reduceIte, Int.reduceLT, Int.reduceLE, Int.reduceNeg, Nat.reduceLT, Nat.reduceLeDiff, cdiv_ok, mul_r, mul_l, decide_true, decide_false]
      simpa only [List.all_cons, g, decide_false, Bool.false_and] using h
theorem mem_low (c : Nat) : decide (c ∈ (Str.ofString "abcdefghijklmnopqrstuvwxyz").cps.toList) = low c := by
  have e : (Str.ofString "abcdefghijklmnopqrstuvwxyz").cps.toList = [97,98,99,100,101,102,103,104,105,106,107,108,109,110,111,112,113,114,115,116,117,118,119,120,121,122] := by decide +kernel
  rw [e, low]
  by_cases h : 97 ≤ c ∧ c ≤ 122
  · rw [decide_eq_true h.1, decide_eq_true h.2]
    refine decide_eq_true ?_
    simp only [List.mem_cons, List.not_mem_nil, or_false]
    omega
  · rw [← Bool.decide_and, decide_eq_false h]
    refine decide_eq_false ?_
    simp only [List.mem_cons, List.not_mem_nil, or_false]
    omega
theorem mem_dig (c : Nat) : decide (c ∈ (Str.ofString "0123456789").cps.toList) = dig c := by
  have e : (Str.ofString "0123456789").cps.toList = [48,49,50,51,52,53,54,55,56,57] := by decide +kernel
  rw [e, dig]
  by_cases h : 48 ≤ c ∧ c ≤ 57
  · rw [decide_eq_true h.1, decide_eq_true h.2]
    refine decide_eq_true ?_
    simp only [List.mem_cons, List.not_mem_nil, or_false]
    omega
  · rw [← Bool.decide_and, decide_eq_false h]
    refine decide_eq_false ?_
    simp only [List.mem_cons, List.not_mem_nil, or_false]
    omega
theorem sem_is_name (ds : List D) (Q : Kd → D → Prop) (Pe : ExD → Prop) (h : ct_is_name ds Q Pe) : w_is_name (ini 1 ds) { nx := fun _ => Q .fz .non, rt := Q, ex := noX } := by
  obtain ⟨x, rfl, hl, h⟩ := h
  have hl' : x.length ≤ 100000 := by omega
  simp only [w_is_name, br_eq, wVar, wC, wOp, wUn, wNil, wCons, wTest, wAnd, wOr, wNot, wAndV, wOrV, wNotV, wIfE, wTup, wLst, wChain, wCB, wC1, wNext, wNever, wSeq, wAsg, wAsgO, wDrop, wIf, wRet, wRetF, wRetN, wBreak, wCont, wAug, wFrz, wForget, gN, gNil', gCons', gT, wFor, onL, onT, onS, iL, iT, iS, on1, on2, onI, iR1, iR2, iEn, iZ, iRv, wYes, wLc, wipeE, onStr, onLst, fAdd, fI2, fI2C, fIB, fSub, fMul, fDiv, fMod, fPow, fShl, fShr, fNeg, fLt, fLe, fGt, fGe, fAnd, fOr, fXor, fEq, fNe, fAddS, fIsN, fNotN, onSign, fIn, fNotIn, fIx, fIx1, onO_some', onOc_some', wNoP, wP, fSl, wSl, fLen, fInt, fStr1, fIsi, fListOf, fAbs, onBs, fAny, fAll, fStarts, wLn, wLnT, wCall, wMeth, fApp, fIns, wM1, wM0, gStarts, gSplit, gWords, onSs, slotAt, setAt, onSlot, onB, Kd.ok, Kd.out, tyD, ini, List.map_cons, List.map_nil, List.length_cons, List.length_nil, List.replicate, List.cons_append, List.nil_append, List.append_nil, ite_true, ite_false, if_true, if_false, true_and, and_true, eq_self_iff_true, Nat.reduceAdd, Nat.reduceSub, Bool.false_eq_true, Bool.not_true, Bool.not_false, shp, eqv, reduceIte, Int.reduceLT, Int.reduceLE, Int.reduceNeg, Nat.reduceLT, Nat.reduceLeDiff, cdiv_ok, mul_r, mul_l, decide_true, decide_false, empty_beq, hl']
  rw [str_len]
  rw [str_len] at hl
  cases q : x.cps.toList with
  | nil =>
    rw [q] at h
    simp only [br_eq, wVar, wC, wOp, wUn, wNil, wCons, wTest, wAnd, wOr, wNot, wAndV, wOrV, wNotV, wIfE, wTup, wLst, wChain, wCB, wC1, wNext, wNever, wSeq, wAsg, wAsgO, wDrop, wIf, wRet, wRetF, wRetN, wBreak, wCont, wAug, wFrz, wForget, gN, gNil', gCons', gT, wFor, onL, onT, onS, iL, iT, iS, on1, on2, onI, iR1, iR2, iEn, iZ, iRv, wYes, wLc, wipeE, onStr, onLst, fAdd, fI2, fI2C, fIB, fSub, fMul, fDiv, fMod, fPow, fShl, fShr, fNeg, fLt, fLe, fGt, fGe, fAnd, fOr, fXor, fEq, fNe, fAddS, fIsN, fNotN, onSign, fIn, fNotIn, fIx, fIx1, onO_some', onOc_some', wNoP, wP, fSl, wSl, fLen, fInt, fStr1, fIsi, fListOf, fAbs, onBs, fAny, fAll, fStarts, wLn, wLnT, wCall, wMeth, fApp, fIns, wM1, wM0, gStarts, gSplit, gWords, onSs, slotAt, setAt, onSlot, onB, Kd.ok, Kd.out, tyD, ini, List.map_cons, List.map_nil, List.length_cons, List.length_nil, List.replicate, List.cons_append, List.nil_append, List.append_nil, ite_true, ite_false, if_true, if_false, true_and, and_true, eq_self_iff_true, Nat.reduceAdd, Nat.reduceSub, Bool.false_eq_true, Bool.not_true, Bool.not_false, shp, eqv, reduceIte, Int.reduceLT, Int.reduceLE, Int.reduceNeg, Nat.reduceLT, Nat.reduceLeDiff, cdiv_ok, mul_r, mul_l, decide_true, decide_false, decide_true]
    exact h
  | cons c r =>
    rw [q] at h hl
    have e : atI (c :: r) 0 = some c := by rw [atI_pos (by decide) (by simp only [List.length_cons]; omega)]; rfl
    simp only [reduceCtorEq, decide_false, br_eq, wVar, wC, wOp, wUn, wNil, wCons, wTest, wAnd, wOr, wNot, wAndV, wOrV, wNotV, wIfE, wTup, wLst, wChain, wCB, wC1, wNext, wNever, wSeq, wAsg, wAsgO, wDrop, wIf, wRet, wRetF, wRetN, wBreak, wCont, wAug, wFrz, wForget, gN, gNil', gCons', gT, wFor, onL, onT, onS, iL, iT, iS, on1, on2, onI, iR1, iR2, iEn, iZ, iRv, wYes, wLc, wipeE, onStr, onLst, fAdd, fI2, fI2C, fIB, fSub, fMul, fDiv, fMod, fPow, fShl, fShr, fNeg, fLt, fLe, fGt, fGe, fAnd, fOr, fXor, fEq, fNe, fAddS, fIsN, fNotN, onSign, fIn, fNotIn, fIx, fIx1, onO_some', onOc_some', wNoP, wP, fSl, wSl, fLen, fInt, fStr1, fIsi, fListOf, fAbs, onBs, fAny, fAll, fStarts, wLn, wLnT, wCall, wMeth, fApp, fIns, wM1, wM0, gStarts, gSplit, gWords, onSs, slotAt, setAt, onSlot, onB, Kd.ok, Kd.out, tyD, ini, List.map_cons, List.map_nil, List.length_cons, List.length_nil, List.replicate, List.cons_append, List.nil_append, List.append_nil, ite_true, ite_false, if_true, if_false, true_and, and_true, eq_self_iff_true, Nat.reduceAdd, Nat.reduceSub, Bool.false_eq_true, Bool.not_true, Bool.not_false, shp, eqv, reduceIte, Int.reduceLT, Int.reduceLE, Int.reduceNeg, Nat.reduceLT, Nat.reduceLeDiff, cdiv_ok, mul_r, mul_l, decide_true, decide_false, e, mem_low]
    simp only [List.length_cons] at hl
    simp only [isNm, List.length_cons, headB] at h
    by_cases g : 12 < r.length + 1
    · rw [if_pos (decide_eq_true (by omega))]
      rw [decide_eq_false (p := r.length + 1 ≤ 12) (by omega)] at h
      simpa using h
    · rw [if_neg (by simp only [decide_eq_true_eq]; omega)]
      rw [decide_eq_true (p := r.length + 1 ≤ 12) (by omega), decide_eq_true (p := 1 ≤ r.length + 1) (by omega)] at h
      by_cases gl : low c = true
      · simp only [gl, br_eq, wVar, wC, wOp, wUn, wNil, wCons, wTest, wAnd, wOr, wNot, wAndV, wOrV, wNotV, wIfE, wTup, wLst, wChain, wCB, wC1, wNext, wNever, wSeq, wAsg, wAsgO, wDrop, wIf, wRet, wRetF, wRetN, wBreak, wCont, wAug, wFrz, wForget, gN, gNil', gCons', gT, wFor, onL, onT, onS, iL, iT, iS, on1, on2, onI, iR1, iR2, iEn, iZ, iRv, wYes, wLc, wipeE, onStr, onLst, fAdd, fI2, fI2C, fIB, fSub, fMul, fDiv, fMod, fPow, fShl, fShr, fNeg, fLt, fLe, fGt, fGe, fAnd, fOr, fXor, fEq, fNe, fAddS, fIsN, fNotN, onSign, fIn, fNotIn, fIx, fIx1, onO_some', onOc_some', wNoP, wP, fSl, wSl, fLen, fInt, fStr1, fIsi, fListOf, fAbs, onBs, fAny, fAll, fStarts, wLn, wLnT, wCall, wMeth, fApp, fIns, wM1, wM0, gStarts, gSplit, gWords, onSs, slotAt, setAt, onSlot, onB, Kd.ok, Kd.out, tyD, ini, List.map_cons, List.map_nil, List.length_cons, List.length_nil, List.replicate, List.cons_append, List.nil_append, List.append_nil, ite_true, ite_false, if_true, if_false, true_and, and_true, eq_self_iff_true, Nat.reduceAdd, Nat.reduceSub, Bool.false_eq_true, Bool.not_true, Bool.not_false, shp, eqv, reduceIte, Int.reduceLT, Int.reduceLE, Int.reduceNeg, Nat.reduceLT, Nat.reduceLeDiff, cdiv_ok, mul_r, mul_l, decide_true, decide_false]
        refine ⟨by decide, x, _, rfl, ?_⟩
        have : (x.cps.toList.all fun c => decide (c ∈ (Str.ofString "abcdefghijklmnopqrstuvwxyz" ++ Str.ofString "0123456789").cps.toList)) = (c :: r).all (fun c => low c || dig c) := by
          rw [q, tl_app]
          congr 1
          funext d
          rw [← mem_low, ← mem_dig, ← Bool.decide_or]
          simp only [List.mem_append]
        rw [this]
        simpa only [gl, Bool.true_and, Bool.and_true] using h
      · simp only [gl, br_eq, wVar, wC, wOp, wUn, wNil, wCons, wTest, wAnd, wOr, wNot, wAndV, wOrV, wNotV, wIfE, wTup, wLst, wChain, wCB, wC1, wNext, wNever, wSeq, wAsg, wAsgO, wDrop, wIf, wRet, wRetF, wRetN, wBreak, wCont, wAug, wFrz, wForget, gN, gNil', gCons', gT, wFor, onL, onT, onS, iL, iT, iS, on1, on2, onI, iR1, iR2, iEn, iZ, iRv, wYes, wLc, wipeE, onStr, onLst, fAdd, fI2, fI2C, fIB, fSub, fMul, fDiv, fMod, fPow, fShl, fShr, fNeg, fLt, fLe, fGt, fGe, fAnd, fOr, fXor, fEq, fNe, fAddS, fIsN, fNotN, onSign, fIn, fNotIn, fIx, fIx1, onO_some', onOc_some', wNoP, wP, fSl, wSl, fLen, fInt, fStr1, fIsi, fListOf, fAbs, onBs, fAny, fAll, fStarts, wLn, wLnT, wCall, wMeth, fApp, fIns, wM1, wM0, gStarts, gSplit, gWords, onSs, slotAt, setAt, onSlot, onB, Kd.ok, Kd.out, tyD, ini, List.map_cons, List.map_nil, List.length_cons, List.length_nil, List.replicate, List.cons_append, List.nil_append, List.append_nil, ite_true, ite_false, if_true, if_false, true_and, and_true, eq_self_iff_true, Nat.reduceAdd, Nat.reduceSub, Bool.false_eq_true, Bool.not_true, Bool.not_false, shp, eqv, reduceIte, Int.reduceLT, Int.reduceLE, Int.reduceNeg, Nat.reduceLT, Nat.reduceLeDiff, cdiv_ok, mul_r, mul_l, decide_true, decide_false]
        simpa only [gl, Bool.and_false] using h
theorem figs_tl (x : Str) (c : Nat) (r : List Nat) (q : x.cps.toList = c :: r) : (cutS x (some 1) none).cps.toList = r := by
  rw [show (some (1 : Int)) = some ((1 : Nat) : Int) from rfl, sl_lo, q]
  rfl
theorem cut1 (x : Str) : (cutS x none (some 1)).cps.toList = x.cps.toList.take 1 := sl_hi x 1
theorem minus_tl : (Str.ofString "-").cps.toList = [45] := by decide +kernel
theorem zero_tl : (Str.ofString "0").cps.toList = [48] := by decide +kernel
theorem starts_minus (x : Str) : Txt.startswith x (Str.ofString "-") = headB (fun c => decide (c = 45)) x.cps.toList := by
  have hy : (Str.ofString "-") = ⟨#[45]⟩ := str_ext minus_tl
  rw [hy]
  obtain ⟨⟨l⟩⟩ := x
  cases l with
  | nil => rfl
  | cons c r =>
    have e : (Builtin.Str.subAt ⟨⟨c :: r⟩⟩ ⟨#[45]⟩ 0) = decide (c = 45) := by
      simp [Builtin.Str.subAt, Str.length]
      by_cases h : c = 45 <;> simp [h]
    show (decide (0 + 1 ≤ (c :: r).length) && Builtin.Str.subAt ⟨⟨c :: r⟩⟩ ⟨#[45]⟩ 0) = decide (c = 45)
    rw [e, decide_eq_true (by simp)]
    rfl
theorem sem_is_number (ds : List D) (Q : Kd → D → Prop) (Pe : ExD → Prop) (h : ct_is_number ds Q Pe) : w_is_number (ini 2 ds) { nx := fun _ => Q .fz .non, rt := Q, ex := noX } := by
  obtain ⟨x, rfl, hl, h⟩ := h
  have hl' : x.length ≤ 100000 := by omega
  have key : ∀ f : Str, f.length ≤ 100000 → f.cps.toList = figsOf x.cps.toList → ∀ σ : List Slot, σ = [.fz (.str x), .fz (.str f)] →
    (wSeq (wIf (wOr (wTest (wOp fEq (wVar 1) (wC (.str "")))) (wOr (wTest (wOp fGt (wC1 fLen (wVar 1)) (wC (.int 60)))) (wNot (wTest (wCall ct_signs_from (wCons (wVar 1) (wCons (wC (.str "0123456789")) wNil))))))) (wRet (wC (.bl false))) wNext)
  (wRet (wOrV (wOp fNe (wOp fIx (wVar 1) (wC (.int 0))) (wC (.str "0"))) (wOp fEq (wVar 0) (wC (.str "0")))))) σ { nx := fun _ => Q .fz .non, rt := Q, ex := noX } := by
    intro f hf e σ eσ
    subst eσ
    simp only [br_eq, wVar, wC, wOp, wUn, wNil, wCons, wTest, wAnd, wOr, wNot, wAndV, wOrV, wNotV, wIfE, wTup, wLst, wChain, wCB, wC1, wNext, wNever, wSeq, wAsg, wAsgO, wDrop, wIf, wRet, wRetF, wRetN, wBreak, wCont, wAug, wFrz, wForget, gN, gNil', gCons', gT, wFor, onL, onT, onS, iL, iT, iS, on1, on2, onI, iR1, iR2, iEn, iZ, iRv, wYes, wLc, wipeE, onStr, onLst, fAdd, fI2, fI2C, fIB, fSub, fMul, fDiv, fMod, fPow, fShl, fShr, fNeg, fLt, fLe, fGt, fGe, fAnd, fOr, fXor, fEq, fNe, fAddS, fIsN, fNotN, onSign, fIn, fNotIn, fIx, fIx1, onO_some', onOc_some', wNoP, wP, fSl, wSl, fLen, fInt, fStr1, fIsi, fListOf, fAbs, onBs, fAny, fAll, fStarts, wLn, wLnT, wCall, wMeth, fApp, fIns, wM1, wM0, gStarts, gSplit, gWords, onSs, slotAt, setAt, onSlot, onB, Kd.ok, Kd.out, tyD, ini, List.map_cons, List.map_nil, List.length_cons, List.length_nil, List.replicate, List.cons_append, List.nil_append, List.append_nil, ite_true, ite_false, if_true, if_false, true_and, and_true, eq_self_iff_true, Nat.reduceAdd, Nat.reduceSub, Bool.false_eq_true, Bool.not_true, Bool.not_false, shp, eqv, reduceIte, Int.reduceLT, Int.reduceLE, Int.reduceNeg, Nat.reduceLT, Nat.reduceLeDiff, cdiv_ok, mul_r, mul_l, decide_true, decide_false, empty_beq, hf]
    simp only [isNu, ← e] at h
    cases q : f.cps.toList with
    | nil =>
      rw [q] at h
      simp only [br_eq, wVar, wC, wOp, wUn, wNil, wCons, wTest, wAnd, wOr, wNot, wAndV, wOrV, wNotV, wIfE, wTup, wLst, wChain, wCB, wC1, wNext, wNever, wSeq, wAsg, wAsgO, wDrop, wIf, wRet, wRetF, wRetN, wBreak, wCont, wAug, wFrz, wForget, gN, gNil', gCons', gT, wFor, onL, onT, onS, iL, iT, iS, on1, on2, onI, iR1, iR2, iEn, iZ, iRv, wYes, wLc, wipeE, onStr, onLst, fAdd, fI2, fI2C, fIB, fSub, fMul, fDiv, fMod, fPow, fShl, fShr, fNeg, fLt, fLe, fGt, fGe, fAnd, fOr, fXor, fEq, fNe, fAddS, fIsN, fNotN, onSign, fIn, fNotIn, fIx, fIx1, onO_some', onOc_some', wNoP, wP, fSl, wSl, fLen, fInt, fStr1, fIsi, fListOf, fAbs, onBs, fAny, fAll, fStarts, wLn, wLnT, wCall, wMeth, fApp, fIns, wM1, wM0, gStarts, gSplit, gWords, onSs, slotAt, setAt, onSlot, onB, Kd.ok, Kd.out, tyD, ini, List.map_cons, List.map_nil, List.length_cons, List.length_nil, List.replicate, List.cons_append, List.nil_append, List.append_nil, ite_true, ite_false, if_true, if_false, true_and, and_true, eq_self_iff_true, Nat.reduceAdd, Nat.reduceSub, Bool.false_eq_true, Bool.not_true, Bool.not_false, shp, eqv, reduceIte, Int.reduceLT, Int.reduceLE, Int.reduceNeg, Nat.reduceLT, Nat.reduceLeDiff, cdiv_ok, mul_r, mul_l, decide_true, decide_false, decide_true]
      simpa using h
    | cons c r =>
      rw [q] at h
      have e : atI (c :: r) 0 = some c := by rw [atI_pos (by decide) (by simp only [List.length_cons]; omega)]; rfl
      have el : f.length = r.length + 1 := by rw [str_len, q]; rfl
      simp only [reduceCtorEq, decide_false, br_eq, wVar, wC, wOp, wUn, wNil, wCons, wTest, wAnd, wOr, wNot, wAndV, wOrV, wNotV, wIfE, wTup, wLst, wChain, wCB, wC1, wNext, wNever, wSeq, wAsg, wAsgO, wDrop, wIf, wRet, wRetF, wRetN, wBreak, wCont, wAug, wFrz, wForget, gN, gNil', gCons', gT, wFor, onL, onT, onS, iL, iT, iS, on1, on2, onI, iR1, iR2, iEn, iZ, iRv, wYes, wLc, wipeE, onStr, onLst, fAdd, fI2, fI2C, fIB, fSub, fMul, fDiv, fMod, fPow, fShl, fShr, fNeg, fLt, fLe, fGt, fGe, fAnd, fOr, fXor, fEq, fNe, fAddS, fIsN, fNotN, onSign, fIn, fNotIn, fIx, fIx1, onO_some', onOc_some', wNoP, wP, fSl, wSl, fLen, fInt, fStr1, fIsi, fListOf, fAbs, onBs, fAny, fAll, fStarts, wLn, wLnT, wCall, wMeth, fApp, fIns, wM1, wM0, gStarts, gSplit, gWords, onSs, slotAt, setAt, onSlot, onB, Kd.ok, Kd.out, tyD, ini, List.map_cons, List.map_nil, List.length_cons, List.length_nil, List.replicate, List.cons_append, List.nil_append, List.append_nil, ite_true, ite_false, if_true, if_false, true_and, and_true, eq_self_iff_true, Nat.reduceAdd, Nat.reduceSub, Bool.false_eq_true, Bool.not_true, Bool.not_false, shp, eqv, reduceIte, Int.reduceLT, Int.reduceLE, Int.reduceNeg, Nat.reduceLT, Nat.reduceLeDiff, cdiv_ok, mul_r, mul_l, decide_true, decide_false, e, el]
      simp only [List.length_cons, headB] at h
      by_cases g : 60 < r.length + 1
      · rw [if_pos (decide_eq_true (by omega))]
        rw [decide_eq_false (p := r.length + 1 ≤ 60) (by omega)] at h
        simpa using h
      · rw [if_neg (by simp only [decide_eq_true_eq]; omega)]
        rw [decide_eq_true (p := r.length + 1 ≤ 60) (by omega), decide_eq_true (p := 1 ≤ r.length + 1) (by omega)] at h
        refine ⟨f, _, rfl, ?_⟩
        have : (f.cps.toList.all fun c => decide (c ∈ (Str.ofString "0123456789").cps.toList)) = (c :: r).all dig := by
          rw [q]
          congr 1
          funext d
          exact mem_dig d
        rw [this]
        by_cases ga : (c :: r).all dig = true
        · simp only [ga, br_eq, wVar, wC, wOp, wUn, wNil, wCons, wTest, wAnd, wOr, wNot, wAndV, wOrV, wNotV, wIfE, wTup, wLst, wChain, wCB, wC1, wNext, wNever, wSeq, wAsg, wAsgO, wDrop, wIf, wRet, wRetF, wRetN, wBreak, wCont, wAug, wFrz, wForget, gN, gNil', gCons', gT, wFor, onL, onT, onS, iL, iT, iS, on1, on2, onI, iR1, iR2, iEn, iZ, iRv, wYes, wLc, wipeE, onStr, onLst, fAdd, fI2, fI2C, fIB, fSub, fMul, fDiv, fMod, fPow, fShl, fShr, fNeg, fLt, fLe, fGt, fGe, fAnd, fOr, fXor, fEq, fNe, fAddS, fIsN, fNotN, onSign, fIn, fNotIn, fIx, fIx1, onO_some', onOc_some', wNoP, wP, fSl, wSl, fLen, fInt, fStr1, fIsi, fListOf, fAbs, onBs, fAny, fAll, fStarts, wLn, wLnT, wCall, wMeth, fApp, fIns, wM1, wM0, gStarts, gSplit, gWords, onSs, slotAt, setAt, onSlot, onB, Kd.ok, Kd.out, tyD, ini, List.map_cons, List.map_nil, List.length_cons, List.length_nil, List.replicate, List.cons_append, List.nil_append, List.append_nil, ite_true, ite_false, if_true, if_false, true_and, and_true, eq_self_iff_true, Nat.reduceAdd, Nat.reduceSub, Bool.false_eq_true, Bool.not_true, Bool.not_false, shp, eqv, reduceIte, Int.reduceLT, Int.reduceLE, Int.reduceNeg, Nat.reduceLT, Nat.reduceLeDiff, cdiv_ok, mul_r, mul_l, decide_true, decide_false, str_beq, zero_tl]
          simp only [ga, Bool.true_and, Bool.and_true] at h
          have e1 : (#[c] : Array Nat).toList = [c] := rfl
          by_cases gc : c = 48
          · subst gc
            simp only [e1, decide_true, br_eq, wVar, wC, wOp, wUn, wNil, wCons, wTest, wAnd, wOr, wNot, wAndV, wOrV, wNotV, wIfE, wTup, wLst, wChain, wCB, wC1, wNext, wNever, wSeq, wAsg, wAsgO, wDrop, wIf, wRet, wRetF, wRetN, wBreak, wCont, wAug, wFrz, wForget, gN, gNil', gCons', gT, wFor, onL, onT, onS, iL, iT, iS, on1, on2, onI, iR1, iR2, iEn, iZ, iRv, wYes, wLc, wipeE, onStr, onLst, fAdd, fI2, fI2C, fIB, fSub, fMul, fDiv, fMod, fPow, fShl, fShr, fNeg, fLt, fLe, fGt, fGe, fAnd, fOr, fXor, fEq, fNe, fAddS, fIsN, fNotN, onSign, fIn, fNotIn, fIx, fIx1, onO_some', onOc_some', wNoP, wP, fSl, wSl, fLen, fInt, fStr1, fIsi, fListOf, fAbs, onBs, fAny, fAll, fStarts, wLn, wLnT, wCall, wMeth, fApp, fIns, wM1, wM0, gStarts, gSplit, gWords, onSs, slotAt, setAt, onSlot, onB, Kd.ok, Kd.out, tyD, ini, List.map_cons, List.map_nil, List.length_cons, List.length_nil, List.replicate, List.cons_append, List.nil_append, List.append_nil, ite_true, ite_false, if_true, if_false, true_and, and_true, eq_self_iff_true, Nat.reduceAdd, Nat.reduceSub, Bool.false_eq_true, Bool.not_true, Bool.not_false, shp, eqv, reduceIte, Int.reduceLT, Int.reduceLE, Int.reduceNeg, Nat.reduceLT, Nat.reduceLeDiff, cdiv_ok, mul_r, mul_l, decide_true, decide_false]
            simpa using h
          · have : decide ([c] = [48]) = false := decide_eq_false (by simpa using gc)
            simp only [e1, this, br_eq, wVar, wC, wOp, wUn, wNil, wCons, wTest, wAnd, wOr, wNot, wAndV, wOrV, wNotV, wIfE, wTup, wLst, wChain, wCB, wC1, wNext, wNever, wSeq, wAsg, wAsgO, wDrop, wIf, wRet, wRetF, wRetN, wBreak, wCont, wAug, wFrz, wForget, gN, gNil', gCons', gT, wFor, onL, onT, onS, iL, iT, iS, on1, on2, onI, iR1, iR2, iEn, iZ, iRv, wYes, wLc, wipeE, onStr, onLst, fAdd, fI2, fI2C, fIB, fSub, fMul, fDiv, fMod, fPow, fShl, fShr, fNeg, fLt, fLe, fGt, fGe, fAnd, fOr, fXor, fEq, fNe, fAddS, fIsN, fNotN, onSign, fIn, fNotIn, fIx, fIx1, onO_some', onOc_some', wNoP, wP, fSl, wSl, fLen, fInt, fStr1, fIsi, fListOf, fAbs, onBs, fAny, fAll, fStarts, wLn, wLnT, wCall, wMeth, fApp, fIns, wM1, wM0, gStarts, gSplit, gWords, onSs, slotAt, setAt, onSlot, onB, Kd.ok, Kd.out, tyD, ini, List.map_cons, List.map_nil, List.length_cons, List.length_nil, List.replicate, List.cons_append, List.nil_append, List.append_nil, ite_true, ite_false, if_true, if_false, true_and, and_true, eq_self_iff_true, Nat.reduceAdd, Nat.reduceSub, Bool.false_eq_true, Bool.not_true, Bool.not_false, shp, eqv, reduceIte, Int.reduceLT, Int.reduceLE, Int.reduceNeg, Nat.reduceLT, Nat.reduceLeDiff, cdiv_ok, mul_r, mul_l, decide_true, decide_false]
            simpa [gc] using h
        · simp only [ga, br_eq, wVar, wC, wOp, wUn, wNil, wCons, wTest, wAnd, wOr, wNot, wAndV, wOrV, wNotV, wIfE, wTup, wLst, wChain, wCB, wC1, wNext, wNever, wSeq, wAsg, wAsgO, wDrop, wIf, wRet, wRetF, wRetN, wBreak, wCont, wAug, wFrz, wForget, gN, gNil', gCons', gT, wFor, onL, onT, onS, iL, iT, iS, on1, on2, onI, iR1, iR2, iEn, iZ, iRv, wYes, wLc, wipeE, onStr, onLst, fAdd, fI2, fI2C, fIB, fSub, fMul, fDiv, fMod, fPow, fShl, fShr, fNeg, fLt, fLe, fGt, fGe, fAnd, fOr, fXor, fEq, fNe, fAddS, fIsN, fNotN, onSign, fIn, fNotIn, fIx, fIx1, onO_some', onOc_some', wNoP, wP, fSl, wSl, fLen, fInt, fStr1, fIsi, fListOf, fAbs, onBs, fAny, fAll, fStarts, wLn, wLnT, wCall, wMeth, fApp, fIns, wM1, wM0, gStarts, gSplit, gWords, onSs, slotAt, setAt, onSlot, onB, Kd.ok, Kd.out, tyD, ini, List.map_cons, List.map_nil, List.length_cons, List.length_nil, List.replicate, List.cons_append, List.nil_append, List.append_nil, ite_true, ite_false, if_true, if_false, true_and, and_true, eq_self_iff_true, Nat.reduceAdd, Nat.reduceSub, Bool.false_eq_true, Bool.not_true, Bool.not_false, shp, eqv, reduceIte, Int.reduceLT, Int.reduceLE, Int.reduceNeg, Nat.reduceLT, Nat.reduceLeDiff, cdiv_ok, mul_r, mul_l, decide_true, decide_false]
          simpa [ga] using h
  have e0 : ∀ r P, wSeq (wAsg (wVar 0) (gN 1)) r (ini 2 [.str x]) P = r [.fz (.str x), .fz (.str x)] P := fun r P => by simp only [br_eq, wVar, wC, wOp, wUn, wNil, wCons, wTest, wAnd, wOr, wNot, wAndV, wOrV, wNotV, wIfE, wTup, wLst, wChain, wCB, wC1, wNext, wNever, wSeq, wAsg, wAsgO, wDrop, wIf, wRet, wRetF, wRetN, wBreak, wCont, wAug, wFrz, wForget, gN, gNil', gCons', gT, wFor, onL, onT, onS, iL, iT, iS, on1, on2, onI, iR1, iR2, iEn, iZ, iRv, wYes, wLc, wipeE, onStr, onLst, fAdd, fI2, fI2C, fIB, fSub, fMul, fDiv, fMod, fPow, fShl, fShr, fNeg, fLt, fLe, fGt, fGe, fAnd, fOr, fXor, fEq, fNe, fAddS, fIsN, fNotN, onSign, fIn, fNotIn, fIx, fIx1, onO_some', onOc_some', wNoP, wP, fSl, wSl, fLen, fInt, fStr1, fIsi, fListOf, fAbs, onBs, fAny, fAll, fStarts, wLn, wLnT, wCall, wMeth, fApp, fIns, wM1, wM0, gStarts, gSplit, gWords, onSs, slotAt, setAt, onSlot, onB, Kd.ok, Kd.out, tyD, ini, List.map_cons, List.map_nil, List.length_cons, List.length_nil, List.replicate, List.cons_append, List.nil_append, List.append_nil, ite_true, ite_false, if_true, if_false, true_and, and_true, eq_self_iff_true, Nat.reduceAdd, Nat.reduceSub, Bool.false_eq_true, Bool.not_true, Bool.not_false, shp, eqv, reduceIte, Int.reduceLT, Int.reduceLE, Int.reduceNeg, Nat.reduceLT, Nat.reduceLeDiff, cdiv_ok, mul_r, mul_l, decide_true, decide_false]
  have e1 : ∀ (t : WT) (a b r : WS) (env : List Slot) (P : Post), wSeq (wIf t a b) r env P = t P.ex env fun c => if c = true then a env { P with nx := fun e => r e P } else b env { P with nx := fun e => r e P } := fun t a b r env P => by show t P.ex env (fun c => Br c _ _) = _; simp only [br_eq]
  rw [w_is_number, e0, e1]
  simp only [wM1, wTest, wVar, wC, slotAt, onSlot, onStr, gStarts, onB, starts_minus]
  cases q : x.cps.toList with
  | nil =>
    simp only [headB, Bool.false_eq_true, if_false, wNext]
    exact key x hl' (by rw [q]; rfl) _ rfl
  | cons c r =>
    by_cases gc : c = 45
    · simp only [headB, gc, decide_true, if_true]
      simp only [wAsg, wSl, wP, wNoP, wVar, wC, slotAt, onSlot, fSl, onI, gN, setAt, Kd.ok, true_and]
      refine ⟨hl', key _ (Nat.le_trans (cutS_length _ _ _) hl') (by rw [figs_tl x c r q, q]; simp [figsOf, gc]) _ rfl⟩
    · simp only [headB, gc, decide_false, Bool.false_eq_true, if_false, wNext]
      exact key x hl' (by rw [q]; simp [figsOf, gc]) _ rfl
theorem sem__law_sign (ds : List D) (Q : Kd → D → Prop) (Pe : ExD → Prop) (h : ct__law_sign ds Q Pe) : w__law_sign (ini 2 ds) { nx := fun _ => Q .fz .non, rt := Q, ex := noX } := by
  obtain ⟨d, rfl, h⟩ := h
  simp only [w__law_sign, br_eq, wVar, wC, wOp, wUn, wNil, wCons, wTest, wAnd, wOr, wNot, wAndV, wOrV, wNotV, wIfE, wTup, wLst, wChain, wCB, wC1, wNext, wNever, wSeq, wAsg, wAsgO, wDrop, wIf, wRet, wRetF, wRetN, wBreak, wCont, wAug, wFrz, wForget, gN, gNil', gCons', gT, wFor, onL, onT, onS, iL, iT, iS, on1, on2, onI, iR1, iR2, iEn, iZ, iRv, wYes, wLc, wipeE, onStr, onLst, fAdd, fI2, fI2C, fIB, fSub, fMul, fDiv, fMod, fPow, fShl, fShr, fNeg, fLt, fLe, fGt, fGe, fAnd, fOr, fXor, fEq, fNe, fAddS, fIsN, fNotN, onSign, fIn, fNotIn, fIx, fIx1, onO_some', onOc_some', wNoP, wP, fSl, wSl, fLen, fInt, fStr1, fIsi, fListOf, fAbs, onBs, fAny, fAll, fStarts, wLn, wLnT, wCall, wMeth, fApp, fIns, wM1, wM0, gStarts, gSplit, gWords, onSs, slotAt, setAt, onSlot, onB, Kd.ok, Kd.out, tyD, ini, List.map_cons, List.map_nil, List.length_cons, List.length_nil, List.replicate, List.cons_append, List.nil_append, List.append_nil, ite_true, ite_false, if_true, if_false, true_and, and_true, eq_self_iff_true, Nat.reduceAdd, Nat.reduceSub, Bool.false_eq_true, Bool.not_true, Bool.not_false, shp, eqv, reduceIte, Int.reduceLT, Int.reduceLE, Int.reduceNeg, Nat.reduceLT, Nat.reduceLeDiff, cdiv_ok, mul_r, mul_l, decide_true, decide_false, len_app]
  have h1 : (Str.ofString " !\"#$&'()*+,-./0123456789:;<=>?@ABCDEFGHIJKLMNOPQRSTUVWXYZ[\\]^_`").length = 64 := by decide +kernel
  have h2 : (Str.ofString "abcdefghijklmnopqrstuvwxyz{|}~\n").length = 31 := by decide +kernel
  simp only [h1, h2, br_eq, wVar, wC, wOp, wUn, wNil, wCons, wTest, wAnd, wOr, wNot, wAndV, wOrV, wNotV, wIfE, wTup, wLst, wChain, wCB, wC1, wNext, wNever, wSeq, wAsg, wAsgO, wDrop, wIf, wRet, wRetF, wRetN, wBreak, wCont, wAug, wFrz, wForget, gN, gNil', gCons', gT, wFor, onL, onT, onS, iL, iT, iS, on1, on2, onI, iR1, iR2, iEn, iZ, iRv, wYes, wLc, wipeE, onStr, onLst, fAdd, fI2, fI2C, fIB, fSub, fMul, fDiv, fMod, fPow, fShl, fShr, fNeg, fLt, fLe, fGt, fGe, fAnd, fOr, fXor, fEq, fNe, fAddS, fIsN, fNotN, onSign, fIn, fNotIn, fIx, fIx1, onO_some', onOc_some', wNoP, wP, fSl, wSl, fLen, fInt, fStr1, fIsi, fListOf, fAbs, onBs, fAny, fAll, fStarts, wLn, wLnT, wCall, wMeth, fApp, fIns, wM1, wM0, gStarts, gSplit, gWords, onSs, slotAt, setAt, onSlot, onB, Kd.ok, Kd.out, tyD, ini, List.map_cons, List.map_nil, List.length_cons, List.length_nil, List.replicate, List.cons_append, List.nil_append, List.append_nil, ite_true, ite_false, if_true, if_false, true_and, and_true, eq_self_iff_true, Nat.reduceAdd, Nat.reduceSub, Bool.false_eq_true, Bool.not_true, Bool.not_false, shp, eqv, reduceIte, Int.reduceLT, Int.reduceLE, Int.reduceNeg, Nat.reduceLT, Nat.reduceLeDiff, cdiv_ok, mul_r, mul_l, decide_true, decide_false]
  have hb : 0 ≤ d % 95 := Int.emod_nonneg _ (by decide)
  have hc : d % 95 < 95 := Int.emod_lt_of_pos _ (by decide)
  obtain ⟨c, e, _⟩ := atI_get (l := (Str.ofString " !\"#$&'()*+,-./0123456789:;<=>?@ABCDEFGHIJKLMNOPQRSTUVWXYZ[\\]^_`" ++ Str.ofString "abcdefghijklmnopqrstuvwxyz{|}~\n").cps.toList) hb (by rw [← str_len, len_app, h1, h2]; omega)
  rw [e]
  exact h _ rfl
theorem drawn_go (Q : Kd → D → Prop) (z : Str) (n : D) (hz : 0 < z.length) (hz2 : z.length ≤ 1000) : ∀ (l : List Nat) (d : Int) (r : Str) (u : Slot), r.length + l.length ≤ 1000 → (∀ r' : Str, r'.length = r.length + l.length → Q .fz (.str r')) →
    forGo (gN 4) (wSeq (wAsg (wOp fMod (wOp fMul (wOp fAdd (wVar 0) (wVar 4)) (wC (.int 40692))) (wC (.int 2147483399))) (gN 0))
  (wAsg (wOp fAdd (wVar 3) (wOp fIx (wVar 2) (wOp fMod (wVar 0) (wC1 fLen (wVar 2))))) (gN 3))) { nx := fun e => wRet (wVar 3) e { nx := fun _ => Q .fz .non, rt := Q, ex := noX }, rt := Q, ex := noX } (l.map fun (i : Nat) => D.int i) [.fz (.int d), .fz n, .fz (.str z), .fz (.str r), u] := by
  intro l
  induction l with
  | nil =>
    intro d r u _ h
    exact h r (by simp)
  | cons i l ih =>
    intro d r u hb h
    simp only [List.length_cons] at hb h
    simp only [List.map_cons, forGo, br_eq, wVar, wC, wOp, wUn, wNil, wCons, wTest, wAnd, wOr, wNot, wAndV, wOrV, wNotV, wIfE, wTup, wLst, wChain, wCB, wC1, wNext, wNever, wSeq, wAsg, wAsgO, wDrop, wIf, wRet, wRetF, wRetN, wBreak, wCont, wAug, wFrz, wForget, gN, gNil', gCons', gT, wFor, onL, onT, onS, iL, iT, iS, on1, on2, onI, iR1, iR2, iEn, iZ, iRv, wYes, wLc, wipeE, onStr, onLst, fAdd, fI2, fI2C, fIB, fSub, fMul, fDiv, fMod, fPow, fShl, fShr, fNeg, fLt, fLe, fGt, fGe, fAnd, fOr, fXor, fEq, fNe, fAddS, fIsN, fNotN, onSign, fIn, fNotIn, fIx, fIx1, onO_some', onOc_some', wNoP, wP, fSl, wSl, fLen, fInt, fStr1, fIsi, fListOf, fAbs, onBs, fAny, fAll, fStarts, wLn, wLnT, wCall, wMeth, fApp, fIns, wM1, wM0, gStarts, gSplit, gWords, onSs, slotAt, setAt, onSlot, onB, Kd.ok, Kd.out, tyD, ini, List.map_cons, List.map_nil, List.length_cons, List.length_nil, List.replicate, List.cons_append, List.nil_append, List.append_nil, ite_true, ite_false, if_true, if_false, true_and, and_true, eq_self_iff_true, Nat.reduceAdd, Nat.reduceSub, Bool.false_eq_true, Bool.not_true, Bool.not_false, shp, eqv, reduceIte, Int.reduceLT, Int.reduceLE, Int.reduceNeg, Nat.reduceLT, Nat.reduceLeDiff, cdiv_ok, mul_r, mul_l, decide_true, decide_false, len_app]
    have hz' : z.length ≤ 100000 := by omega
    have hz3 : (0 : Int) < (z.length : Int) := by omega
    simp only [hz', hz3, br_eq, wVar, wC, wOp, wUn, wNil, wCons, wTest, wAnd, wOr, wNot, wAndV, wOrV, wNotV, wIfE, wTup, wLst, wChain, wCB, wC1, wNext, wNever, wSeq, wAsg, wAsgO, wDrop, wIf, wRet, wRetF, wRetN, wBreak, wCont, wAug, wFrz, wForget, gN, gNil', gCons', gT, wFor, onL, onT, onS, iL, iT, iS, on1, on2, onI, iR1, iR2, iEn, iZ, iRv, wYes, wLc, wipeE, onStr, onLst, fAdd, fI2, fI2C, fIB, fSub, fMul, fDiv, fMod, fPow, fShl, fShr, fNeg, fLt, fLe, fGt, fGe, fAnd, fOr, fXor, fEq, fNe, fAddS, fIsN, fNotN, onSign, fIn, fNotIn, fIx, fIx1, onO_some', onOc_some', wNoP, wP, fSl, wSl, fLen, fInt, fStr1, fIsi, fListOf, fAbs, onBs, fAny, fAll, fStarts, wLn, wLnT, wCall, wMeth, fApp, fIns, wM1, wM0, gStarts, gSplit, gWords, onSs, slotAt, setAt, onSlot, onB, Kd.ok, Kd.out, tyD, ini, List.map_cons, List.map_nil, List.length_cons, List.length_nil, List.replicate, List.cons_append, List.nil_append, List.append_nil, ite_true, ite_false, if_true, if_false, true_and, and_true, eq_self_iff_true, Nat.reduceAdd, Nat.reduceSub, Bool.false_eq_true, Bool.not_true, Bool.not_false, shp, eqv, reduceIte, Int.reduceLT, Int.reduceLE, Int.reduceNeg, Nat.reduceLT, Nat.reduceLeDiff, cdiv_ok, mul_r, mul_l, decide_true, decide_false]
    obtain ⟨c, e, _⟩ := atI_get (l := z.cps.toList) (i := ((d + (i : Int)) * 40692 % 2147483399) % (z.length : Int)) (Int.emod_nonneg _ (by omega)) (by rw [← str_len]; exact Int.emod_lt_of_pos _ hz3)
    rw [e]
    have e1 : (({ cps := #[c] } : Str)).length = 1 := rfl
    simp only [br_eq, wVar, wC, wOp, wUn, wNil, wCons, wTest, wAnd, wOr, wNot, wAndV, wOrV, wNotV, wIfE, wTup, wLst, wChain, wCB, wC1, wNext, wNever, wSeq, wAsg, wAsgO, wDrop, wIf, wRet, wRetF, wRetN, wBreak, wCont, wAug, wFrz, wForget, gN, gNil', gCons', gT, wFor, onL, onT, onS, iL, iT, iS, on1, on2, onI, iR1, iR2, iEn, iZ, iRv, wYes, wLc, wipeE, onStr, onLst, fAdd, fI2, fI2C, fIB, fSub, fMul, fDiv, fMod, fPow, fShl, fShr, fNeg, fLt, fLe, fGt, fGe, fAnd, fOr, fXor, fEq, fNe, fAddS, fIsN, fNotN, onSign, fIn, fNotIn, fIx, fIx1, onO_some', onOc_some', wNoP, wP, fSl, wSl, fLen, fInt, fStr1, fIsi, fListOf, fAbs, onBs, fAny, fAll, fStarts, wLn, wLnT, wCall, wMeth, fApp, fIns, wM1, wM0, gStarts, gSplit, gWords, onSs, slotAt, setAt, onSlot, onB, Kd.ok, Kd.out, tyD, ini, List.map_cons, List.map_nil, List.length_cons, List.length_nil, List.replicate, List.cons_append, List.nil_append, List.append_nil, ite_true, ite_false, if_true, if_false, true_and, and_true, eq_self_iff_true, Nat.reduceAdd, Nat.reduceSub, Bool.false_eq_true, Bool.not_true, Bool.not_false, shp, eqv, reduceIte, Int.reduceLT, Int.reduceLE, Int.reduceNeg, Nat.reduceLT, Nat.reduceLeDiff, cdiv_ok, mul_r, mul_l, decide_true, decide_false, e1]
    refine ⟨by omega, ?_⟩
    have := ih ((d + (i : Int)) * 40692 % 2147483399) (r ++ ⟨#[c]⟩) (.fz (.int i)) (by rw [len_app, e1]; omega) (fun r' hr => h r' (by rw [hr, len_app, e1]; omega))
    simpa only [br_eq, wVar, wC, wOp, wUn, wNil, wCons, wTest, wAnd, wOr, wNot, wAndV, wOrV, wNotV, wIfE, wTup, wLst, wChain, wCB, wC1, wNext, wNever, wSeq, wAsg, wAsgO, wDrop, wIf, wRet, wRetF, wRetN, wBreak, wCont, wAug, wFrz, wForget, gN, gNil', gCons', gT, wFor, onL, onT, onS, iL, iT, iS, on1, on2, onI, iR1, iR2, iEn, iZ, iRv, wYes, wLc, wipeE, onStr, onLst, fAdd, fI2, fI2C, fIB, fSub, fMul, fDiv, fMod, fPow, fShl, fShr, fNeg, fLt, fLe, fGt, fGe, fAnd, fOr, fXor, fEq, fNe, fAddS, fIsN, fNotN, onSign, fIn, fNotIn, fIx, fIx1, onO_some', onOc_some', wNoP, wP, fSl, wSl, fLen, fInt, fStr1, fIsi, fListOf, fAbs, onBs, fAny, fAll, fStarts, wLn, wLnT, wCall, wMeth, fApp, fIns, wM1, wM0, gStarts, gSplit, gWords, onSs, slotAt, setAt, onSlot, onB, Kd.ok, Kd.out, tyD, ini, List.map_cons, List.map_nil, List.length_cons, List.length_nil, List.replicate, List.cons_append, List.nil_append, List.append_nil, ite_true, ite_false, if_true, if_false, true_and, and_true, eq_self_iff_true, Nat.reduceAdd, Nat.reduceSub, Bool.false_eq_true, Bool.not_true, Bool.not_false, shp, eqv, reduceIte, Int.reduceLT, Int.reduceLE, Int.reduceNeg, Nat.reduceLT, Nat.reduceLeDiff, cdiv_ok, mul_r, mul_l, decide_true, decide_false] using this
theorem sem__law_drawn (ds : List D) (Q : Kd → D → Prop) (Pe : ExD → Prop) (h : ct__law_drawn ds Q Pe) : w__law_drawn (ini 5 ds) { nx := fun _ => Q .fz .non, rt := Q, ex := noX } := by
  obtain ⟨d, n, z, rfl, h0, h1, h2, h3, h⟩ := h
  have := drawn_go Q z (.int n) h2 h3 (List.range n.toNat) d (Str.ofString "") .un (by show 0 + _ ≤ _; rw [List.length_range]; omega) (fun r hr => h r (by rw [hr]; show 0 + _ = _; rw [List.length_range]; omega))
  have k1 : n ≤ 1000000 := by omega
  have k2 : -1000000 ≤ n := by omega
  simp only [w__law_drawn, br_eq, wVar, wC, wOp, wUn, wNil, wCons, wTest, wAnd, wOr, wNot, wAndV, wOrV, wNotV, wIfE, wTup, wLst, wChain, wCB, wC1, wNext, wNever, wSeq, wAsg, wAsgO, wDrop, wIf, wRet, wRetF, wRetN, wBreak, wCont, wAug, wFrz, wForget, gN, gNil', gCons', gT, wFor, onL, onT, onS, iL, iT, iS, on1, on2, onI, iR1, iR2, iEn, iZ, iRv, wYes, wLc, wipeE, onStr, onLst, fAdd, fI2, fI2C, fIB, fSub, fMul, fDiv, fMod, fPow, fShl, fShr, fNeg, fLt, fLe, fGt, fGe, fAnd, fOr, fXor, fEq, fNe, fAddS, fIsN, fNotN, onSign, fIn, fNotIn, fIx, fIx1, onO_some', onOc_some', wNoP, wP, fSl, wSl, fLen, fInt, fStr1, fIsi, fListOf, fAbs, onBs, fAny, fAll, fStarts, wLn, wLnT, wCall, wMeth, fApp, fIns, wM1, wM0, gStarts, gSplit, gWords, onSs, slotAt, setAt, onSlot, onB, Kd.ok, Kd.out, tyD, ini, List.map_cons, List.map_nil, List.length_cons, List.length_nil, List.replicate, List.cons_append, List.nil_append, List.append_nil, ite_true, ite_false, if_true, if_false, true_and, and_true, eq_self_iff_true, Nat.reduceAdd, Nat.reduceSub, Bool.false_eq_true, Bool.not_true, Bool.not_false, shp, eqv, reduceIte, Int.reduceLT, Int.reduceLE, Int.reduceNeg, Nat.reduceLT, Nat.reduceLeDiff, cdiv_ok, mul_r, mul_l, decide_true, decide_false, k1, k2]
  simpa only [br_eq, wVar, wC, wOp, wUn, wNil, wCons, wTest, wAnd, wOr, wNot, wAndV, wOrV, wNotV, wIfE, wTup, wLst, wChain, wCB, wC1, wNext, wNever, wSeq, wAsg, wAsgO, wDrop, wIf, wRet, wRetF, wRetN, wBreak, wCont, wAug, wFrz, wForget, gN, gNil', gCons', gT, wFor, onL, onT, onS, iL, iT, iS, on1, on2, onI, iR1, iR2, iEn, iZ, iRv, wYes, wLc, wipeE, onStr, onLst, fAdd, fI2, fI2C, fIB, fSub, fMul, fDiv, fMod, fPow, fShl, fShr, fNeg, fLt, fLe, fGt, fGe, fAnd, fOr, fXor, fEq, fNe, fAddS, fIsN, fNotN, onSign, fIn, fNotIn, fIx, fIx1, onO_some', onOc_some', wNoP, wP, fSl, wSl, fLen, fInt, fStr1, fIsi, fListOf, fAbs, onBs, fAny, fAll, fStarts, wLn, wLnT, wCall, wMeth, fApp, fIns, wM1, wM0, gStarts, gSplit, gWords, onSs, slotAt, setAt, onSlot, onB, Kd.ok, Kd.out, tyD, ini, List.map_cons, List.map_nil, List.length_cons, List.length_nil, List.replicate, List.cons_append, List.nil_append, List.append_nil, ite_true, ite_false, if_true, if_false, true_and, and_true, eq_self_iff_true, Nat.reduceAdd, Nat.reduceSub, Bool.false_eq_true, Bool.not_true, Bool.not_false, shp, eqv, reduceIte, Int.reduceLT, Int.reduceLE, Int.reduceNeg, Nat.reduceLT, Nat.reduceLeDiff, cdiv_ok, mul_r, mul_l, decide_true, decide_false] using this
theorem lens : (Str.ofString "0123456789").length = 10 ∧ (Str.ofString "123456789").length = 9 ∧ (Str.ofString "abcdefghijklmnopqrstuvwxyz").length = 26 ∧ (Str.ofString "abcxyz0189").length = 10 ∧ (Str.ofString "abcdefghijklmnopqrstuvwxyz0123456789").length = 36 ∧ (Str.ofString "-").length = 1 := by decide +kernel
theorem sign1 (c : Nat) : (({ cps := #[c] } : Str)).length = 1 := rfl
theorem ix_str (z : Str) (i : Int) (P : Nat → Prop) (h0 : 0 ≤ i) (h1 : i < z.length) (h : ∀ c, P c) : onOc P (atI z.cps.toList i) := by
  obtain ⟨c, e, _⟩ := atI_get (l := z.cps.toList) h0 (by rw [← str_len]; exact h1)
  rw [e]
  exact h c
theorem modb (a : Int) (n : Int) (h : 0 < n) : 0 ≤ a % n ∧ a % n < n := ⟨Int.emod_nonneg _ (by omega), Int.emod_lt_of_pos _ h⟩
theorem sem__law_long (ds : List D) (Q : Kd → D → Prop) (Pe : ExD → Prop) (h : ct__law_long ds Q Pe) : w__law_long (ini 4 ds) { nx := fun _ => Q .fz .non, rt := Q, ex := noX } := by
  obtain ⟨d, e, rfl, h⟩ := h
  obtain ⟨l1, l2, l3, l4, l5, l6⟩ := lens
  simp only [w__law_long, br_eq, wVar, wC, wOp, wUn, wNil, wCons, wTest, wAnd, wOr, wNot, wAndV, wOrV, wNotV, wIfE, wTup, wLst, wChain, wCB, wC1, wNext, wNever, wSeq, wAsg, wAsgO, wDrop, wIf, wRet, wRetF, wRetN, wBreak, wCont, wAug, wFrz, wForget, gN, gNil', gCons', gT, wFor, onL, onT, onS, iL, iT, iS, on1, on2, onI, iR1, iR2, iEn, iZ, iRv, wYes, wLc, wipeE, onStr, onLst, fAdd, fI2, fI2C, fIB, fSub, fMul, fDiv, fMod, fPow, fShl, fShr, fNeg, fLt, fLe, fGt, fGe, fAnd, fOr, fXor, fEq, fNe, fAddS, fIsN, fNotN, onSign, fIn, fNotIn, fIx, fIx1, onO_some', onOc_some', wNoP, wP, fSl, wSl, fLen, fInt, fStr1, fIsi, fListOf, fAbs, onBs, fAny, fAll, fStarts, wLn, wLnT, wCall, wMeth, fApp, fIns, wM1, wM0, gStarts, gSplit, gWords, onSs, slotAt, setAt, onSlot, onB, Kd.ok, Kd.out, tyD, ini, List.map_cons, List.map_nil, List.length_cons, List.length_nil, List.replicate, List.cons_append, List.nil_append, List.append_nil, ite_true, ite_false, if_true, if_false, true_and, and_true, eq_self_iff_true, Nat.reduceAdd, Nat.reduceSub, Bool.false_eq_true, Bool.not_true, Bool.not_false, shp, eqv, reduceIte, Int.reduceLT, Int.reduceLE, Int.reduceNeg, Nat.reduceLT, Nat.reduceLeDiff, cdiv_ok, mul_r, mul_l, decide_true, decide_false, len_app, l2]
  have b1 := modb (d / 12) 9 (by decide)
  refine ix_str _ _ _ b1.1 (by rw [l2]; exact b1.2) fun c => ?_
  have b2 := modb (d / 108) 4 (by decide)
  refine ⟨_, _, _, rfl, by omega, by omega, by rw [l1]; decide, by rw [l1]; decide, fun r hr => ?_⟩
  simp only [br_eq, wVar, wC, wOp, wUn, wNil, wCons, wTest, wAnd, wOr, wNot, wAndV, wOrV, wNotV, wIfE, wTup, wLst, wChain, wCB, wC1, wNext, wNever, wSeq, wAsg, wAsgO, wDrop, wIf, wRet, wRetF, wRetN, wBreak, wCont, wAug, wFrz, wForget, gN, gNil', gCons', gT, wFor, onL, onT, onS, iL, iT, iS, on1, on2, onI, iR1, iR2, iEn, iZ, iRv, wYes, wLc, wipeE, onStr, onLst, fAdd, fI2, fI2C, fIB, fSub, fMul, fDiv, fMod, fPow, fShl, fShr, fNeg, fLt, fLe, fGt, fGe, fAnd, fOr, fXor, fEq, fNe, fAddS, fIsN, fNotN, onSign, fIn, fNotIn, fIx, fIx1, onO_some', onOc_some', wNoP, wP, fSl, wSl, fLen, fInt, fStr1, fIsi, fListOf, fAbs, onBs, fAny, fAll, fStarts, wLn, wLnT, wCall, wMeth, fApp, fIns, wM1, wM0, gStarts, gSplit, gWords, onSs, slotAt, setAt, onSlot, onB, Kd.ok, Kd.out, tyD, ini, List.map_cons, List.map_nil, List.length_cons, List.length_nil, List.replicate, List.cons_append, List.nil_append, List.append_nil, ite_true, ite_false, if_true, if_false, true_and, and_true, eq_self_iff_true, Nat.reduceAdd, Nat.reduceSub, Bool.false_eq_true, Bool.not_true, Bool.not_false, shp, eqv, reduceIte, Int.reduceLT, Int.reduceLE, Int.reduceNeg, Nat.reduceLT, Nat.reduceLeDiff, cdiv_ok, mul_r, mul_l, decide_true, decide_false, sign1, len_app, l6]
  refine ⟨by omega, ?_⟩
  split
  · refine ⟨by omega, h _ ?_⟩
    rw [len_app, len_app, sign1, l6]
    omega
  · refine h _ ?_
    rw [len_app, sign1]
    omega
theorem cut_le (z : Str) (lo hi : Option Int) {n : Nat} (h : z.length ≤ n) : (cutS z lo hi).length ≤ n := Nat.le_trans (cutS_length _ _ _) h
theorem sem__law_spoilt (ds : List D) (Q : Kd → D → Prop) (Pe : ExD → Prop) (h : ct__law_spoilt ds Q Pe) : w__law_spoilt (ini 6 ds) { nx := fun _ => Q .fz .non, rt := Q, ex := noX } := by
  obtain ⟨d, e, rfl, h⟩ := h
  obtain ⟨l1, l2, l3, l4, l5, l6⟩ := lens
  have b0 := modb (d / 6) 12 (by decide)
  have key : ∀ z : Str, z.length ≤ 30 → ∀ σ, σ = [.fz (.int d), .fz (.int e), .fz (.int (d / 6 % 12)), .fz (.str z), .un, .un] → (wSeq (wAsg (wOp fMod (wOp fDiv (wVar 1) (wC (.int 3))) (wOp fAdd (wVar 2) (wC (.int 2)))) (gN 4))
  (wSeq (wAsg (wOp fAdd (wVar 4) (wOp fMod (wOp fDiv (wVar 1) (wC (.int 42))) (wC (.int 2)))) (gN 5))
  (wRet (wOp fAdd (wOp fAdd (wSl (wVar 3) wNoP (wP (wVar 4))) (wCall ct__law_sign (wCons (wOp fDiv (wVar 1) (wC (.int 84))) wNil))) (wSl (wVar 3) (wP (wVar 5)) wNoP))))) σ { nx := fun _ => Q .fz .non, rt := Q, ex := noX } := by
    intro z hz σ hσ
    subst hσ
    have hp : 0 < d / 6 % 12 + 2 := by omega
    have hz' : z.length ≤ 100000 := by omega
    simp only [br_eq, wVar, wC, wOp, wUn, wNil, wCons, wTest, wAnd, wOr, wNot, wAndV, wOrV, wNotV, wIfE, wTup, wLst, wChain, wCB, wC1, wNext, wNever, wSeq, wAsg, wAsgO, wDrop, wIf, wRet, wRetF, wRetN, wBreak, wCont, wAug, wFrz, wForget, gN, gNil', gCons', gT, wFor, onL, onT, onS, iL, iT, iS, on1, on2, onI, iR1, iR2, iEn, iZ, iRv, wYes, wLc, wipeE, onStr, onLst, fAdd, fI2, fI2C, fIB, fSub, fMul, fDiv, fMod, fPow, fShl, fShr, fNeg, fLt, fLe, fGt, fGe, fAnd, fOr, fXor, fEq, fNe, fAddS, fIsN, fNotN, onSign, fIn, fNotIn, fIx, fIx1, onO_some', onOc_some', wNoP, wP, fSl, wSl, fLen, fInt, fStr1, fIsi, fListOf, fAbs, onBs, fAny, fAll, fStarts, wLn, wLnT, wCall, wMeth, fApp, fIns, wM1, wM0, gStarts, gSplit, gWords, onSs, slotAt, setAt, onSlot, onB, Kd.ok, Kd.out, tyD, ini, List.map_cons, List.map_nil, List.length_cons, List.length_nil, List.replicate, List.cons_append, List.nil_append, List.append_nil, ite_true, ite_false, if_true, if_false, true_and, and_true, eq_self_iff_true, Nat.reduceAdd, Nat.reduceSub, Bool.false_eq_true, Bool.not_true, Bool.not_false, shp, eqv, reduceIte, Int.reduceLT, Int.reduceLE, Int.reduceNeg, Nat.reduceLT, Nat.reduceLeDiff, cdiv_ok, mul_r, mul_l, decide_true, decide_false, hp, hz']
    refine ⟨_, rfl, fun y hy => ?_⟩
    simp only [br_eq, wVar, wC, wOp, wUn, wNil, wCons, wTest, wAnd, wOr, wNot, wAndV, wOrV, wNotV, wIfE, wTup, wLst, wChain, wCB, wC1, wNext, wNever, wSeq, wAsg, wAsgO, wDrop, wIf, wRet, wRetF, wRetN, wBreak, wCont, wAug, wFrz, wForget, gN, gNil', gCons', gT, wFor, onL, onT, onS, iL, iT, iS, on1, on2, onI, iR1, iR2, iEn, iZ, iRv, wYes, wLc, wipeE, onStr, onLst, fAdd, fI2, fI2C, fIB, fSub, fMul, fDiv, fMod, fPow, fShl, fShr, fNeg, fLt, fLe, fGt, fGe, fAnd, fOr, fXor, fEq, fNe, fAddS, fIsN, fNotN, onSign, fIn, fNotIn, fIx, fIx1, onO_some', onOc_some', wNoP, wP, fSl, wSl, fLen, fInt, fStr1, fIsi, fListOf, fAbs, onBs, fAny, fAll, fStarts, wLn, wLnT, wCall, wMeth, fApp, fIns, wM1, wM0, gStarts, gSplit, gWords, onSs, slotAt, setAt, onSlot, onB, Kd.ok, Kd.out, tyD, ini, List.map_cons, List.map_nil, List.length_cons, List.length_nil, List.replicate, List.cons_append, List.nil_append, List.append_nil, ite_true, ite_false, if_true, if_false, true_and, and_true, eq_self_iff_true, Nat.reduceAdd, Nat.reduceSub, Bool.false_eq_true, Bool.not_true, Bool.not_false, shp, eqv, reduceIte, Int.reduceLT, Int.reduceLE, Int.reduceNeg, Nat.reduceLT, Nat.reduceLeDiff, cdiv_ok, mul_r, mul_l, decide_true, decide_false, len_app]
    have k1 := cut_le z none (some (e / 3 % (d / 6 % 12 + 2))) hz
    have k2 := cut_le z (some (e / 3 % (d / 6 % 12 + 2) + e / 42 % 2)) none hz
    refine ⟨by omega, by omega, h _ ?_⟩
    rw [len_app, len_app]
    omega
  simp only [w__law_spoilt, br_eq, wVar, wC, wOp, wUn, wNil, wCons, wTest, wAnd, wOr, wNot, wAndV, wOrV, wNotV, wIfE, wTup, wLst, wChain, wCB, wC1, wNext, wNever, wSeq, wAsg, wAsgO, wDrop, wIf, wRet, wRetF, wRetN, wBreak, wCont, wAug, wFrz, wForget, gN, gNil', gCons', gT, wFor, onL, onT, onS, iL, iT, iS, on1, on2, onI, iR1, iR2, iEn, iZ, iRv, wYes, wLc, wipeE, onStr, onLst, fAdd, fI2, fI2C, fIB, fSub, fMul, fDiv, fMod, fPow, fShl, fShr, fNeg, fLt, fLe, fGt, fGe, fAnd, fOr, fXor, fEq, fNe, fAddS, fIsN, fNotN, onSign, fIn, fNotIn, fIx, fIx1, onO_some', onOc_some', wNoP, wP, fSl, wSl, fLen, fInt, fStr1, fIsi, fListOf, fAbs, onBs, fAny, fAll, fStarts, wLn, wLnT, wCall, wMeth, fApp, fIns, wM1, wM0, gStarts, gSplit, gWords, onSs, slotAt, setAt, onSlot, onB, Kd.ok, Kd.out, tyD, ini, List.map_cons, List.map_nil, List.length_cons, List.length_nil, List.replicate, List.cons_append, List.nil_append, List.append_nil, ite_true, ite_false, if_true, if_false, true_and, and_true, eq_self_iff_true, Nat.reduceAdd, Nat.reduceSub, Bool.false_eq_true, Bool.not_true, Bool.not_false, shp, eqv, reduceIte, Int.reduceLT, Int.reduceLE, Int.reduceNeg, Nat.reduceLT, Nat.reduceLeDiff, cdiv_ok, mul_r, mul_l, decide_true, decide_false, len_app, l2, l3]
  have b1 := modb (d / 72) 26 (by decide)
  refine ix_str _ _ _ b1.1 (by rw [l3]; exact b1.2) fun c => ?_
  refine ⟨_, _, _, rfl, by omega, by omega, by rw [l4]; decide, by rw [l4]; decide, fun r hr => ?_⟩
  simp only [br_eq, wVar, wC, wOp, wUn, wNil, wCons, wTest, wAnd, wOr, wNot, wAndV, wOrV, wNotV, wIfE, wTup, wLst, wChain, wCB, wC1, wNext, wNever, wSeq, wAsg, wAsgO, wDrop, wIf, wRet, wRetF, wRetN, wBreak, wCont, wAug, wFrz, wForget, gN, gNil', gCons', gT, wFor, onL, onT, onS, iL, iT, iS, on1, on2, onI, iR1, iR2, iEn, iZ, iRv, wYes, wLc, wipeE, onStr, onLst, fAdd, fI2, fI2C, fIB, fSub, fMul, fDiv, fMod, fPow, fShl, fShr, fNeg, fLt, fLe, fGt, fGe, fAnd, fOr, fXor, fEq, fNe, fAddS, fIsN, fNotN, onSign, fIn, fNotIn, fIx, fIx1, onO_some', onOc_some', wNoP, wP, fSl, wSl, fLen, fInt, fStr1, fIsi, fListOf, fAbs, onBs, fAny, fAll, fStarts, wLn, wLnT, wCall, wMeth, fApp, fIns, wM1, wM0, gStarts, gSplit, gWords, onSs, slotAt, setAt, onSlot, onB, Kd.ok, Kd.out, tyD, ini, List.map_cons, List.map_nil, List.length_cons, List.length_nil, List.replicate, List.cons_append, List.nil_append, List.append_nil, ite_true, ite_false, if_true, if_false, true_and, and_true, eq_self_iff_true, Nat.reduceAdd, Nat.reduceSub, Bool.false_eq_true, Bool.not_true, Bool.not_false, shp, eqv, reduceIte, Int.reduceLT, Int.reduceLE, Int.reduceNeg, Nat.reduceLT, Nat.reduceLeDiff, cdiv_ok, mul_r, mul_l, decide_true, decide_false, sign1, len_app]
  refine ⟨by omega, ?_⟩
  split
  · have b2 := modb (d / 72) 9 (by decide)
    refine ix_str _ _ _ b2.1 (by rw [l2]; exact b2.2) fun c => ?_
    refine ⟨_, _, _, rfl, by omega, by omega, by rw [l1]; decide, by rw [l1]; decide, fun r hr => ?_⟩
    simp only [br_eq, wVar, wC, wOp, wUn, wNil, wCons, wTest, wAnd, wOr, wNot, wAndV, wOrV, wNotV, wIfE, wTup, wLst, wChain, wCB, wC1, wNext, wNever, wSeq, wAsg, wAsgO, wDrop, wIf, wRet, wRetF, wRetN, wBreak, wCont, wAug, wFrz, wForget, gN, gNil', gCons', gT, wFor, onL, onT, onS, iL, iT, iS, on1, on2, onI, iR1, iR2, iEn, iZ, iRv, wYes, wLc, wipeE, onStr, onLst, fAdd, fI2, fI2C, fIB, fSub, fMul, fDiv, fMod, fPow, fShl, fShr, fNeg, fLt, fLe, fGt, fGe, fAnd, fOr, fXor, fEq, fNe, fAddS, fIsN, fNotN, onSign, fIn, fNotIn, fIx, fIx1, onO_some', onOc_some', wNoP, wP, fSl, wSl, fLen, fInt, fStr1, fIsi, fListOf, fAbs, onBs, fAny, fAll, fStarts, wLn, wLnT, wCall, wMeth, fApp, fIns, wM1, wM0, gStarts, gSplit, gWords, onSs, slotAt, setAt, onSlot, onB, Kd.ok, Kd.out, tyD, ini, List.map_cons, List.map_nil, List.length_cons, List.length_nil, List.replicate, List.cons_append, List.nil_append, List.append_nil, ite_true, ite_false, if_true, if_false, true_and, and_true, eq_self_iff_true, Nat.reduceAdd, Nat.reduceSub, Bool.false_eq_true, Bool.not_true, Bool.not_false, shp, eqv, reduceIte, Int.reduceLT, Int.reduceLE, Int.reduceNeg, Nat.reduceLT, Nat.reduceLeDiff, cdiv_ok, mul_r, mul_l, decide_true, decide_false, sign1, len_app]
    refine ⟨by omega, ?_⟩
    have := key (⟨#[c]⟩ ++ r) (by rw [len_app, sign1]; omega) _ rfl
    simpa only [br_eq, wVar, wC, wOp, wUn, wNil, wCons, wTest, wAnd, wOr, wNot, wAndV, wOrV, wNotV, wIfE, wTup, wLst, wChain, wCB, wC1, wNext, wNever, wSeq, wAsg, wAsgO, wDrop, wIf, wRet, wRetF, wRetN, wBreak, wCont, wAug, wFrz, wForget, gN, gNil', gCons', gT, wFor, onL, onT, onS, iL, iT, iS, on1, on2, onI, iR1, iR2, iEn, iZ, iRv, wYes, wLc, wipeE, onStr, onLst, fAdd, fI2, fI2C, fIB, fSub, fMul, fDiv, fMod, fPow, fShl, fShr, fNeg, fLt, fLe, fGt, fGe, fAnd, fOr, fXor, fEq, fNe, fAddS, fIsN, fNotN, onSign, fIn, fNotIn, fIx, fIx1, onO_some', onOc_some', wNoP, wP, fSl, wSl, fLen, fInt, fStr1, fIsi, fListOf, fAbs, onBs, fAny, fAll, fStarts, wLn, wLnT, wCall, wMeth, fApp, fIns, wM1, wM0, gStarts, gSplit, gWords, onSs, slotAt, setAt, onSlot, onB, Kd.ok, Kd.out, tyD, ini, List.map_cons, List.map_nil, List.length_cons, List.length_nil, List.replicate, List.cons_append, List.nil_append, List.append_nil, ite_true, ite_false, if_true, if_false, true_and, and_true, eq_self_iff_true, Nat.reduceAdd, Nat.reduceSub, Bool.false_eq_true, Bool.not_true, Bool.not_false, shp, eqv, reduceIte, Int.reduceLT, Int.reduceLE, Int.reduceNeg, Nat.reduceLT, Nat.reduceLeDiff, cdiv_ok, mul_r, mul_l, decide_true, decide_false, len_app, sign1] using this
  · have := key (⟨#[c]⟩ ++ r) (by rw [len_app, sign1]; omega) _ rfl
    simpa only [br_eq, wVar, wC, wOp, wUn, wNil, wCons, wTest, wAnd, wOr, wNot, wAndV, wOrV, wNotV, wIfE, wTup, wLst, wChain, wCB, wC1, wNext, wNever, wSeq, wAsg, wAsgO, wDrop, wIf, wRet, wRetF, wRetN, wBreak, wCont, wAug, wFrz, wForget, gN, gNil', gCons', gT, wFor, onL, onT, onS, iL, iT, iS, on1, on2, onI, iR1, iR2, iEn, iZ, iRv, wYes, wLc, wipeE, onStr, onLst, fAdd, fI2, fI2C, fIB, fSub, fMul, fDiv, fMod, fPow, fShl, fShr, fNeg, fLt, fLe, fGt, fGe, fAnd, fOr, fXor, fEq, fNe, fAddS, fIsN, fNotN, onSign, fIn, fNotIn, fIx, fIx1, onO_some', onOc_some', wNoP, wP, fSl, wSl, fLen, fInt, fStr1, fIsi, fListOf, fAbs, onBs, fAny, fAll, fStarts, wLn, wLnT, wCall, wMeth, fApp, fIns, wM1, wM0, gStarts, gSplit, gWords, onSs, slotAt, setAt, onSlot, onB, Kd.ok, Kd.out, tyD, ini, List.map_cons, List.map_nil, List.length_cons, List.length_nil, List.replicate, List.cons_append, List.nil_append, List.append_nil, ite_true, ite_false, if_true, if_false, true_and, and_true, eq_self_iff_true, Nat.reduceAdd, Nat.reduceSub, Bool.false_eq_true, Bool.not_true, Bool.not_false, shp, eqv, reduceIte, Int.reduceLT, Int.reduceLE, Int.reduceNeg, Nat.reduceLT, Nat.reduceLeDiff, cdiv_ok, mul_r, mul_l, decide_true, decide_false, len_app, sign1] using this
theorem sem__law_word (ds : List D) (Q : Kd → D → Prop) (Pe : ExD → Prop) (h : ct__law_word ds Q Pe) : w__law_word (ini 6 ds) { nx := fun _ => Q .fz .non, rt := Q, ex := noX } := by
  obtain ⟨c, k, rfl, h0, h1, h⟩ := h
  obtain ⟨l1, l2, l3, l4, l5, l6⟩ := lens
  have m1 : mulC k k := mul_l (by omega) (by omega)
  simp only [w__law_word, br_eq, wVar, wC, wOp, wUn, wNil, wCons, wTest, wAnd, wOr, wNot, wAndV, wOrV, wNotV, wIfE, wTup, wLst, wChain, wCB, wC1, wNext, wNever, wSeq, wAsg, wAsgO, wDrop, wIf, wRet, wRetF, wRetN, wBreak, wCont, wAug, wFrz, wForget, gN, gNil', gCons', gT, wFor, onL, onT, onS, iL, iT, iS, on1, on2, onI, iR1, iR2, iEn, iZ, iRv, wYes, wLc, wipeE, onStr, onLst, fAdd, fI2, fI2C, fIB, fSub, fMul, fDiv, fMod, fPow, fShl, fShr, fNeg, fLt, fLe, fGt, fGe, fAnd, fOr, fXor, fEq, fNe, fAddS, fIsN, fNotN, onSign, fIn, fNotIn, fIx, fIx1, onO_some', onOc_some', wNoP, wP, fSl, wSl, fLen, fInt, fStr1, fIsi, fListOf, fAbs, onBs, fAny, fAll, fStarts, wLn, wLnT, wCall, wMeth, fApp, fIns, wM1, wM0, gStarts, gSplit, gWords, onSs, slotAt, setAt, onSlot, onB, Kd.ok, Kd.out, tyD, ini, List.map_cons, List.map_nil, List.length_cons, List.length_nil, List.replicate, List.cons_append, List.nil_append, List.append_nil, ite_true, ite_false, if_true, if_false, true_and, and_true, eq_self_iff_true, Nat.reduceAdd, Nat.reduceSub, Bool.false_eq_true, Bool.not_true, Bool.not_false, shp, eqv, reduceIte, Int.reduceLT, Int.reduceLE, Int.reduceNeg, Nat.reduceLT, Nat.reduceLeDiff, cdiv_ok, mul_r, mul_l, decide_true, decide_false, m1, len_app]
  generalize (c + k * k) * 48271 % 2147483647 = d
  generalize (c + 3 * k + 1) * 69621 % 2147483629 = e
  have b1 := modb (d / 6) 14 (by decide)
  have b2 := modb (d / 6) 63 (by decide)
  split
  · exact ⟨_, _, _, rfl, by omega, by omega, by rw [l5]; decide, by rw [l5]; decide, fun r hr => h r (by omega)⟩
  split
  · refine ⟨by rw [l6]; decide, _, _, _, rfl, by omega, by omega, by rw [l1]; decide, by rw [l1]; decide, fun r hr => ?_⟩
    have k : ∀ o, (cutS (Str.ofString "-") none o).length ≤ 1 := fun o => cut_le _ _ _ (Nat.le_of_eq l6)
    simp only [br_eq, wVar, wC, wOp, wUn, wNil, wCons, wTest, wAnd, wOr, wNot, wAndV, wOrV, wNotV, wIfE, wTup, wLst, wChain, wCB, wC1, wNext, wNever, wSeq, wAsg, wAsgO, wDrop, wIf, wRet, wRetF, wRetN, wBreak, wCont, wAug, wFrz, wForget, gN, gNil', gCons', gT, wFor, onL, onT, onS, iL, iT, iS, on1, on2, onI, iR1, iR2, iEn, iZ, iRv, wYes, wLc, wipeE, onStr, onLst, fAdd, fI2, fI2C, fIB, fSub, fMul, fDiv, fMod, fPow, fShl, fShr, fNeg, fLt, fLe, fGt, fGe, fAnd, fOr, fXor, fEq, fNe, fAddS, fIsN, fNotN, onSign, fIn, fNotIn, fIx, fIx1, onO_some', onOc_some', wNoP, wP, fSl, wSl, fLen, fInt, fStr1, fIsi, fListOf, fAbs, onBs, fAny, fAll, fStarts, wLn, wLnT, wCall, wMeth, fApp, fIns, wM1, wM0, gStarts, gSplit, gWords, onSs, slotAt, setAt, onSlot, onB, Kd.ok, Kd.out, tyD, ini, List.map_cons, List.map_nil, List.length_cons, List.length_nil, List.replicate, List.cons_append, List.nil_append, List.append_nil, ite_true, ite_false, if_true, if_false, true_and, and_true, eq_self_iff_true, Nat.reduceAdd, Nat.reduceSub, Bool.false_eq_true, Bool.not_true, Bool.not_false, shp, eqv, reduceIte, Int.reduceLT, Int.reduceLE, Int.reduceNeg, Nat.reduceLT, Nat.reduceLeDiff, cdiv_ok, mul_r, mul_l, decide_true, decide_false, len_app]
    exact ⟨Nat.le_trans (Nat.add_le_add_right (k _) _) (by omega), h _ (by rw [len_app]; exact Nat.le_trans (Nat.add_le_add_right (k _) _) (by omega))⟩
  split
  · exact ⟨_, _, rfl, h⟩
  split
  · obtain ⟨w, hw, hm⟩ := atI_get (l := [D.str (Str.ofString ""), .str (Str.ofString "-"), .str (Str.ofString "--1"), .str (Str.ofString "0"), .str (Str.ofString "-0"), .str (Str.ofString "00"), .str (Str.ofString "+1"), .str (Str.ofString "1-"), .str (Str.ofString "1.0"), .str (Str.ofString "a"), .str (Str.ofString "A"), .str (Str.ofString "9"), .str (Str.ofString "z9"), .str (Str.ofString "-a")]) b1.1 b1.2
    rw [hw]
    simp only [List.mem_cons, List.not_mem_nil, or_false] at hm
    rcases hm with rfl | rfl | rfl | rfl | rfl | rfl | rfl | rfl | rfl | rfl | rfl | rfl | rfl | rfl <;> exact h _ (by decide +kernel)
  · exact ⟨_, _, rfl, h⟩
theorem a_tl : (Str.ofString "a").cps.toList = [97] ∧ (Str.ofString "z").cps.toList = [122] ∧ (Str.ofString "9").cps.toList = [57] := by decide +kernel
theorem ge_lt (a b : Nat) : (!decide (a < b)) = decide (b ≤ a) := by
  by_cases h : a < b
  · rw [decide_eq_true h, decide_eq_false (by omega)]; rfl
  · rw [decide_eq_false h, decide_eq_true (by omega)]; rfl
theorem nd_loop (x : D) : ∀ (l : List Nat) (u : Slot) (P : Post), (l.all (fun c => low c || dig c) = false → P.rt .fz (.bl false)) → (l.all (fun c => low c || dig c) = true → ∀ u, P.nx [.fz x, u]) →
      forGo (gN 1) (wIf (wNot (wOr (wTest (wChain fLe fLe (wC (.str "a")) (wVar 1) (wC (.str "z")))) (wTest (wChain fLe fLe (wC (.str "0")) (wVar 1) (wC (.str "9")))))) (wRet (wC (.bl false))) wNext) P (l.map fun c => .str ⟨#[c]⟩) [.fz x, u] := by
  obtain ⟨a1, a2, a3⟩ := a_tl
  intro l
  induction l with
  | nil =>
    intro u P h1 h2
    exact h2 rfl u
  | cons c l ih =>
    intro u P h1 h2
    have e1 : (#[c] : Array Nat).toList = [c] := rfl
    simp only [List.map_cons, forGo, br_eq, wVar, wC, wOp, wUn, wNil, wCons, wTest, wAnd, wOr, wNot, wAndV, wOrV, wNotV, wIfE, wTup, wLst, wChain, wCB, wC1, wNext, wNever, wSeq, wAsg, wAsgO, wDrop, wIf, wRet, wRetF, wRetN, wBreak, wCont, wAug, wFrz, wForget, gN, gNil', gCons', gT, wFor, onL, onT, onS, iL, iT, iS, on1, on2, onI, iR1, iR2, iEn, iZ, iRv, wYes, wLc, wipeE, onStr, onLst, fAdd, fI2, fI2C, fIB, fSub, fMul, fDiv, fMod, fPow, fShl, fShr, fNeg, fLt, fLe, fGt, fGe, fAnd, fOr, fXor, fEq, fNe, fAddS, fIsN, fNotN, onSign, fIn, fNotIn, fIx, fIx1, onO_some', onOc_some', wNoP, wP, fSl, wSl, fLen, fInt, fStr1, fIsi, fListOf, fAbs, onBs, fAny, fAll, fStarts, wLn, wLnT, wCall, wMeth, fApp, fIns, wM1, wM0, gStarts, gSplit, gWords, onSs, slotAt, setAt, onSlot, onB, Kd.ok, Kd.out, tyD, ini, List.map_cons, List.map_nil, List.length_cons, List.length_nil, List.replicate, List.cons_append, List.nil_append, List.append_nil, ite_true, ite_false, if_true, if_false, true_and, and_true, eq_self_iff_true, Nat.reduceAdd, Nat.reduceSub, Bool.false_eq_true, Bool.not_true, Bool.not_false, shp, eqv, reduceIte, Int.reduceLT, Int.reduceLE, Int.reduceNeg, Nat.reduceLT, Nat.reduceLeDiff, cdiv_ok, mul_r, mul_l, decide_true, decide_false, a1, a2, a3, e1, lt1, ge_lt, zero_tl]
    simp only [List.all_cons] at h1 h2
    by_cases g : (low c || dig c) = true
    · simp only [g, Bool.true_and] at h1 h2
      have := ih (.fz (.str ⟨#[c]⟩)) P h1 h2
      simp only [low, dig] at g
      by_cases g1 : 97 ≤ c <;> by_cases g2 : c ≤ 122 <;> by_cases g3 : 48 ≤ c <;> by_cases g4 : c ≤ 57 <;> simp only [g1, g2, g3, g4, br_eq, wVar, wC, wOp, wUn, wNil, wCons, wTest, wAnd, wOr, wNot, wAndV, wOrV, wNotV, wIfE, wTup, wLst, wChain, wCB, wC1, wNext, wNever, wSeq, wAsg, wAsgO, wDrop, wIf, wRet, wRetF, wRetN, wBreak, wCont, wAug, wFrz, wForget, gN, gNil', gCons', gT, wFor, onL, onT, onS, iL, iT, iS, on1, on2, onI, iR1, iR2, iEn, iZ, iRv, wYes, wLc, wipeE, onStr, onLst, fAdd, fI2, fI2C, fIB, fSub, fMul, fDiv, fMod, fPow, fShl, fShr, fNeg, fLt, fLe, fGt, fGe, fAnd, fOr, fXor, fEq, fNe, fAddS, fIsN, fNotN, onSign, fIn, fNotIn, fIx, fIx1, onO_some', onOc_some', wNoP, wP, fSl, wSl, fLen, fInt, fStr1, fIsi, fListOf, fAbs, onBs, fAny, fAll, fStarts, wLn, wLnT, wCall, wMeth, fApp, fIns, wM1, wM0, gStarts, gSplit, gWords, onSs, slotAt, setAt, onSlot, onB, Kd.ok, Kd.out, tyD, ini, List.map_cons, List.map_nil, List.length_cons, List.length_nil, List.replicate, List.cons_append, List.nil_append, List.append_nil, ite_true, ite_false, if_true, if_false, true_and, and_true, eq_self_iff_true, Nat.reduceAdd, Nat.reduceSub, Bool.false_eq_true, Bool.not_true, Bool.not_false, shp, eqv, reduceIte, Int.reduceLT, Int.reduceLE, Int.reduceNeg, Nat.reduceLT, Nat.reduceLeDiff, cdiv_ok, mul_r, mul_l, decide_true, decide_false, Bool.and_self, Bool.or_self, Bool.and_true, Bool.and_false, Bool.or_true, Bool.or_false, Bool.true_or, Bool.false_or, Bool.true_and, Bool.false_and] at g ⊢ <;> exact this
    · have g' : (low c || dig c) = false := by simpa using g
      simp only [g', Bool.false_and] at h1
      simp only [low, dig] at g'
      by_cases g1 : 97 ≤ c <;> by_cases g2 : c ≤ 122 <;> by_cases g3 : 48 ≤ c <;> by_cases g4 : c ≤ 57 <;> simp only [g1, g2, g3, g4, br_eq, wVar, wC, wOp, wUn, wNil, wCons, wTest, wAnd, wOr, wNot, wAndV, wOrV, wNotV, wIfE, wTup, wLst, wChain, wCB, wC1, wNext, wNever, wSeq, wAsg, wAsgO, wDrop, wIf, wRet, wRetF, wRetN, wBreak, wCont, wAug, wFrz, wForget, gN, gNil', gCons', gT, wFor, onL, onT, onS, iL, iT, iS, on1, on2, onI, iR1, iR2, iEn, iZ, iRv, wYes, wLc, wipeE, onStr, onLst, fAdd, fI2, fI2C, fIB, fSub, fMul, fDiv, fMod, fPow, fShl, fShr, fNeg, fLt, fLe, fGt, fGe, fAnd, fOr, fXor, fEq, fNe, fAddS, fIsN, fNotN, onSign, fIn, fNotIn, fIx, fIx1, onO_some', onOc_some', wNoP, wP, fSl, wSl, fLen, fInt, fStr1, fIsi, fListOf, fAbs, onBs, fAny, fAll, fStarts, wLn, wLnT, wCall, wMeth, fApp, fIns, wM1, wM0, gStarts, gSplit, gWords, onSs, slotAt, setAt, onSlot, onB, Kd.ok, Kd.out, tyD, ini, List.map_cons, List.map_nil, List.length_cons, List.length_nil, List.replicate, List.cons_append, List.nil_append, List.append_nil, ite_true, ite_false, if_true, if_false, true_and, and_true, eq_self_iff_true, Nat.reduceAdd, Nat.reduceSub, Bool.false_eq_true, Bool.not_true, Bool.not_false, shp, eqv, reduceIte, Int.reduceLT, Int.reduceLE, Int.reduceNeg, Nat.reduceLT, Nat.reduceLeDiff, cdiv_ok, mul_r, mul_l, decide_true, decide_false, Bool.and_self, Bool.or_self, Bool.and_true, Bool.and_false, Bool.or_true, Bool.or_false, Bool.true_or, Bool.false_or, Bool.true_and, Bool.false_and, reduceCtorEq] at g' ⊢ <;> first | exact h1 rfl | exact h1 trivial
theorem sem__law_name_due (ds : List D) (Q : Kd → D → Prop) (Pe : ExD → Prop) (h : ct__law_name_due ds Q Pe) : w__law_name_due (ini 2 ds) { nx := fun _ => Q .fz .non, rt := Q, ex := noX } := by
  obtain ⟨x, rfl, hl, h⟩ := h
  have hl' : x.length ≤ 100000 := by omega
  obtain ⟨a1, a2, a3⟩ := a_tl
  simp only [w__law_name_due, br_eq, wVar, wC, wOp, wUn, wNil, wCons, wTest, wAnd, wOr, wNot, wAndV, wOrV, wNotV, wIfE, wTup, wLst, wChain, wCB, wC1, wNext, wNever, wSeq, wAsg, wAsgO, wDrop, wIf, wRet, wRetF, wRetN, wBreak, wCont, wAug, wFrz, wForget, gN, gNil', gCons', gT, wFor, onL, onT, onS, iL, iT, iS, on1, on2, onI, iR1, iR2, iEn, iZ, iRv, wYes, wLc, wipeE, onStr, onLst, fAdd, fI2, fI2C, fIB, fSub, fMul, fDiv, fMod, fPow, fShl, fShr, fNeg, fLt, fLe, fGt, fGe, fAnd, fOr, fXor, fEq, fNe, fAddS, fIsN, fNotN, onSign, fIn, fNotIn, fIx, fIx1, onO_some', onOc_some', wNoP, wP, fSl, wSl, fLen, fInt, fStr1, fIsi, fListOf, fAbs, onBs, fAny, fAll, fStarts, wLn, wLnT, wCall, wMeth, fApp, fIns, wM1, wM0, gStarts, gSplit, gWords, onSs, slotAt, setAt, onSlot, onB, Kd.ok, Kd.out, tyD, ini, List.map_cons, List.map_nil, List.length_cons, List.length_nil, List.replicate, List.cons_append, List.nil_append, List.append_nil, ite_true, ite_false, if_true, if_false, true_and, and_true, eq_self_iff_true, Nat.reduceAdd, Nat.reduceSub, Bool.false_eq_true, Bool.not_true, Bool.not_false, shp, eqv, reduceIte, Int.reduceLT, Int.reduceLE, Int.reduceNeg, Nat.reduceLT, Nat.reduceLeDiff, cdiv_ok, mul_r, mul_l, decide_true, decide_false, hl']
  rw [str_len]
  simp only [isNm] at h
  by_cases g1 : 1 ≤ x.cps.toList.length
  · by_cases g2 : x.cps.toList.length ≤ 12
    · have e1 : (1 : Int) ≤ (x.cps.toList.length : Int) := by omega
      have e2 : (x.cps.toList.length : Int) ≤ 12 := by omega
      simp only [e1, e2, br_eq, wVar, wC, wOp, wUn, wNil, wCons, wTest, wAnd, wOr, wNot, wAndV, wOrV, wNotV, wIfE, wTup, wLst, wChain, wCB, wC1, wNext, wNever, wSeq, wAsg, wAsgO, wDrop, wIf, wRet, wRetF, wRetN, wBreak, wCont, wAug, wFrz, wForget, gN, gNil', gCons', gT, wFor, onL, onT, onS, iL, iT, iS, on1, on2, onI, iR1, iR2, iEn, iZ, iRv, wYes, wLc, wipeE, onStr, onLst, fAdd, fI2, fI2C, fIB, fSub, fMul, fDiv, fMod, fPow, fShl, fShr, fNeg, fLt, fLe, fGt, fGe, fAnd, fOr, fXor, fEq, fNe, fAddS, fIsN, fNotN, onSign, fIn, fNotIn, fIx, fIx1, onO_some', onOc_some', wNoP, wP, fSl, wSl, fLen, fInt, fStr1, fIsi, fListOf, fAbs, onBs, fAny, fAll, fStarts, wLn, wLnT, wCall, wMeth, fApp, fIns, wM1, wM0, gStarts, gSplit, gWords, onSs, slotAt, setAt, onSlot, onB, Kd.ok, Kd.out, tyD, ini, List.map_cons, List.map_nil, List.length_cons, List.length_nil, List.replicate, List.cons_append, List.nil_append, List.append_nil, ite_true, ite_false, if_true, if_false, true_and, and_true, eq_self_iff_true, Nat.reduceAdd, Nat.reduceSub, Bool.false_eq_true, Bool.not_true, Bool.not_false, shp, eqv, reduceIte, Int.reduceLT, Int.reduceLE, Int.reduceNeg, Nat.reduceLT, Nat.reduceLeDiff, cdiv_ok, mul_r, mul_l, decide_true, decide_false]
      rw [decide_eq_true g1, decide_eq_true g2] at h
      have := nd_loop (.str x) x.cps.toList .un { nx := fun e => wRet (wChain fLe fLe (wC (.str "a")) (wOp fIx (wVar 0) (wC (.int 0))) (wC (.str "z"))) e { nx := fun _ => Q .fz .non, rt := Q, ex := noX }, rt := Q, ex := noX } (fun z => by rw [z] at h; exact h) (fun z u => by
        rw [z] at h
        simp only [br_eq, wVar, wC, wOp, wUn, wNil, wCons, wTest, wAnd, wOr, wNot, wAndV, wOrV, wNotV, wIfE, wTup, wLst, wChain, wCB, wC1, wNext, wNever, wSeq, wAsg, wAsgO, wDrop, wIf, wRet, wRetF, wRetN, wBreak, wCont, wAug, wFrz, wForget, gN, gNil', gCons', gT, wFor, onL, onT, onS, iL, iT, iS, on1, on2, onI, iR1, iR2, iEn, iZ, iRv, wYes, wLc, wipeE, onStr, onLst, fAdd, fI2, fI2C, fIB, fSub, fMul, fDiv, fMod, fPow, fShl, fShr, fNeg, fLt, fLe, fGt, fGe, fAnd, fOr, fXor, fEq, fNe, fAddS, fIsN, fNotN, onSign, fIn, fNotIn, fIx, fIx1, onO_some', onOc_some', wNoP, wP, fSl, wSl, fLen, fInt, fStr1, fIsi, fListOf, fAbs, onBs, fAny, fAll, fStarts, wLn, wLnT, wCall, wMeth, fApp, fIns, wM1, wM0, gStarts, gSplit, gWords, onSs, slotAt, setAt, onSlot, onB, Kd.ok, Kd.out, tyD, ini, List.map_cons, List.map_nil, List.length_cons, List.length_nil, List.replicate, List.cons_append, List.nil_append, List.append_nil, ite_true, ite_false, if_true, if_false, true_and, and_true, eq_self_iff_true, Nat.reduceAdd, Nat.reduceSub, Bool.false_eq_true, Bool.not_true, Bool.not_false, shp, eqv, reduceIte, Int.reduceLT, Int.reduceLE, Int.reduceNeg, Nat.reduceLT, Nat.reduceLeDiff, cdiv_ok, mul_r, mul_l, decide_true, decide_false, hl']
        cases q : x.cps.toList with
        | nil => rw [q] at g1; simp at g1
        | cons c r =>
          rw [q] at h
          have e : atI (c :: r) 0 = some c := by rw [atI_pos (by decide) (by simp only [List.length_cons]; omega)]; rfl
          have e1 : (#[c] : Array Nat).toList = [c] := rfl
          simp only [e, br_eq, wVar, wC, wOp, wUn, wNil, wCons, wTest, wAnd, wOr, wNot, wAndV, wOrV, wNotV, wIfE, wTup, wLst, wChain, wCB, wC1, wNext, wNever, wSeq, wAsg, wAsgO, wDrop, wIf, wRet, wRetF, wRetN, wBreak, wCont, wAug, wFrz, wForget, gN, gNil', gCons', gT, wFor, onL, onT, onS, iL, iT, iS, on1, on2, onI, iR1, iR2, iEn, iZ, iRv, wYes, wLc, wipeE, onStr, onLst, fAdd, fI2, fI2C, fIB, fSub, fMul, fDiv, fMod, fPow, fShl, fShr, fNeg, fLt, fLe, fGt, fGe, fAnd, fOr, fXor, fEq, fNe, fAddS, fIsN, fNotN, onSign, fIn, fNotIn, fIx, fIx1, onO_some', onOc_some', wNoP, wP, fSl, wSl, fLen, fInt, fStr1, fIsi, fListOf, fAbs, onBs, fAny, fAll, fStarts, wLn, wLnT, wCall, wMeth, fApp, fIns, wM1, wM0, gStarts, gSplit, gWords, onSs, slotAt, setAt, onSlot, onB, Kd.ok, Kd.out, tyD, ini, List.map_cons, List.map_nil, List.length_cons, List.length_nil, List.replicate, List.cons_append, List.nil_append, List.append_nil, ite_true, ite_false, if_true, if_false, true_and, and_true, eq_self_iff_true, Nat.reduceAdd, Nat.reduceSub, Bool.false_eq_true, Bool.not_true, Bool.not_false, shp, eqv, reduceIte, Int.reduceLT, Int.reduceLE, Int.reduceNeg, Nat.reduceLT, Nat.reduceLeDiff, cdiv_ok, mul_r, mul_l, decide_true, decide_false, a1, a2, e1, lt1, ge_lt]
          simp only [headB, low, Bool.true_and] at h
          by_cases g1 : 97 ≤ c <;> by_cases g2 : c ≤ 122 <;> simp only [g1, g2, br_eq, wVar, wC, wOp, wUn, wNil, wCons, wTest, wAnd, wOr, wNot, wAndV, wOrV, wNotV, wIfE, wTup, wLst, wChain, wCB, wC1, wNext, wNever, wSeq, wAsg, wAsgO, wDrop, wIf, wRet, wRetF, wRetN, wBreak, wCont, wAug, wFrz, wForget, gN, gNil', gCons', gT, wFor, onL, onT, onS, iL, iT, iS, on1, on2, onI, iR1, iR2, iEn, iZ, iRv, wYes, wLc, wipeE, onStr, onLst, fAdd, fI2, fI2C, fIB, fSub, fMul, fDiv, fMod, fPow, fShl, fShr, fNeg, fLt, fLe, fGt, fGe, fAnd, fOr, fXor, fEq, fNe, fAddS, fIsN, fNotN, onSign, fIn, fNotIn, fIx, fIx1, onO_some', onOc_some', wNoP, wP, fSl, wSl, fLen, fInt, fStr1, fIsi, fListOf, fAbs, onBs, fAny, fAll, fStarts, wLn, wLnT, wCall, wMeth, fApp, fIns, wM1, wM0, gStarts, gSplit, gWords, onSs, slotAt, setAt, onSlot, onB, Kd.ok, Kd.out, tyD, ini, List.map_cons, List.map_nil, List.length_cons, List.length_nil, List.replicate, List.cons_append, List.nil_append, List.append_nil, ite_true, ite_false, if_true, if_false, true_and, and_true, eq_self_iff_true, Nat.reduceAdd, Nat.reduceSub, Bool.false_eq_true, Bool.not_true, Bool.not_false, shp, eqv, reduceIte, Int.reduceLT, Int.reduceLE, Int.reduceNeg, Nat.reduceLT, Nat.reduceLeDiff, cdiv_ok, mul_r, mul_l, decide_true, decide_false, ge_lt, Bool.and_true, Bool.and_false, Bool.true_and, Bool.false_and, Bool.and_self] at h ⊢ <;> exact h)
      simpa only [br_eq, wVar, wC, wOp, wUn, wNil, wCons, wTest, wAnd, wOr, wNot, wAndV, wOrV, wNotV, wIfE, wTup, wLst, wChain, wCB, wC1, wNext, wNever, wSeq, wAsg, wAsgO, wDrop, wIf, wRet, wRetF, wRetN, wBreak, wCont, wAug, wFrz, wForget, gN, gNil', gCons', gT, wFor, onL, onT, onS, iL, iT, iS, on1, on2, onI, iR1, iR2, iEn, iZ, iRv, wYes, wLc, wipeE, onStr, onLst, fAdd, fI2, fI2C, fIB, fSub, fMul, fDiv, fMod, fPow, fShl, fShr, fNeg, fLt, fLe, fGt, fGe, fAnd, fOr, fXor, fEq, fNe, fAddS, fIsN, fNotN, onSign, fIn, fNotIn, fIx, fIx1, onO_some', onOc_some', wNoP, wP, fSl, wSl, fLen, fInt, fStr1, fIsi, fListOf, fAbs, onBs, fAny, fAll, fStarts, wLn, wLnT, wCall, wMeth, fApp, fIns, wM1, wM0, gStarts, gSplit, gWords, onSs, slotAt, setAt, onSlot, onB, Kd.ok, Kd.out, tyD, ini, List.map_cons, List.map_nil, List.length_cons, List.length_nil, List.replicate, List.cons_append, List.nil_append, List.append_nil, ite_true, ite_false, if_true, if_false, true_and, and_true, eq_self_iff_true, Nat.reduceAdd, Nat.reduceSub, Bool.false_eq_true, Bool.not_true, Bool.not_false, shp, eqv, reduceIte, Int.reduceLT, Int.reduceLE, Int.reduceNeg, Nat.reduceLT, Nat.reduceLeDiff, cdiv_ok, mul_r, mul_l, decide_true, decide_false] using this
    · have e1 : (1 : Int) ≤ (x.cps.toList.length : Int) := by omega
      have e2 : ¬ (x.cps.toList.length : Int) ≤ 12 := by omega
      simp only [e1, e2, br_eq, wVar, wC, wOp, wUn, wNil, wCons, wTest, wAnd, wOr, wNot, wAndV, wOrV, wNotV, wIfE, wTup, wLst, wChain, wCB, wC1, wNext, wNever, wSeq, wAsg, wAsgO, wDrop, wIf, wRet, wRetF, wRetN, wBreak, wCont, wAug, wFrz, wForget, gN, gNil', gCons', gT, wFor, onL, onT, onS, iL, iT, iS, on1, on2, onI, iR1, iR2, iEn, iZ, iRv, wYes, wLc, wipeE, onStr, onLst, fAdd, fI2, fI2C, fIB, fSub, fMul, fDiv, fMod, fPow, fShl, fShr, fNeg, fLt, fLe, fGt, fGe, fAnd, fOr, fXor, fEq, fNe, fAddS, fIsN, fNotN, onSign, fIn, fNotIn, fIx, fIx1, onO_some', onOc_some', wNoP, wP, fSl, wSl, fLen, fInt, fStr1, fIsi, fListOf, fAbs, onBs, fAny, fAll, fStarts, wLn, wLnT, wCall, wMeth, fApp, fIns, wM1, wM0, gStarts, gSplit, gWords, onSs, slotAt, setAt, onSlot, onB, Kd.ok, Kd.out, tyD, ini, List.map_cons, List.map_nil, List.length_cons, List.length_nil, List.replicate, List.cons_append, List.nil_append, List.append_nil, ite_true, ite_false, if_true, if_false, true_and, and_true, eq_self_iff_true, Nat.reduceAdd, Nat.reduceSub, Bool.false_eq_true, Bool.not_true, Bool.not_false, shp, eqv, reduceIte, Int.reduceLT, Int.reduceLE, Int.reduceNeg, Nat.reduceLT, Nat.reduceLeDiff, cdiv_ok, mul_r, mul_l, decide_true, decide_false]
      rw [decide_eq_false g2] at h
      simpa using h
  · have e1 : ¬ (1 : Int) ≤ (x.cps.toList.length : Int) := by omega
    simp only [e1, br_eq, wVar, wC, wOp, wUn, wNil, wCons, wTest, wAnd, wOr, wNot, wAndV, wOrV, wNotV, wIfE, wTup, wLst, wChain, wCB, wC1, wNext, wNever, wSeq, wAsg, wAsgO, wDrop, wIf, wRet, wRetF, wRetN, wBreak, wCont, wAug, wFrz, wForget, gN, gNil', gCons', gT, wFor, onL, onT, onS, iL, iT, iS, on1, on2, onI, iR1, iR2, iEn, iZ, iRv, wYes, wLc, wipeE, onStr, onLst, fAdd, fI2, fI2C, fIB, fSub, fMul, fDiv, fMod, fPow, fShl, fShr, fNeg, fLt, fLe, fGt, fGe, fAnd, fOr, fXor, fEq, fNe, fAddS, fIsN, fNotN, onSign, fIn, fNotIn, fIx, fIx1, onO_some', onOc_some', wNoP, wP, fSl, wSl, fLen, fInt, fStr1, fIsi, fListOf, fAbs, onBs, fAny, fAll, fStarts, wLn, wLnT, wCall, wMeth, fApp, fIns, wM1, wM0, gStarts, gSplit, gWords, onSs, slotAt, setAt, onSlot, onB, Kd.ok, Kd.out, tyD, ini, List.map_cons, List.map_nil, List.length_cons, List.length_nil, List.replicate, List.cons_append, List.nil_append, List.append_nil, ite_true, ite_false, if_true, if_false, true_and, and_true, eq_self_iff_true, Nat.reduceAdd, Nat.reduceSub, Bool.false_eq_true, Bool.not_true, Bool.not_false, shp, eqv, reduceIte, Int.reduceLT, Int.reduceLE, Int.reduceNeg, Nat.reduceLT, Nat.reduceLeDiff, cdiv_ok, mul_r, mul_l, decide_true, decide_false]
    rw [decide_eq_false g1] at h
    simpa using h
theorem nu_loop (x f : D) : ∀ (l : List Nat) (u : Slot) (P : Post), (l.all dig = false → P.rt .fz (.bl false)) → (l.all dig = true → ∀ u, P.nx [.fz x, .fz f, u]) →
      forGo (gN 2) (wIf (wNot (wTest (wChain fLe fLe (wC (.str "0")) (wVar 2) (wC (.str "9"))))) (wRet (wC (.bl false))) wNext) P (l.map fun c => .str ⟨#[c]⟩) [.fz x, .fz f, u] := by
  obtain ⟨a1, a2, a3⟩ := a_tl
  intro l
  induction l with
  | nil =>
    intro u P h1 h2
    exact h2 rfl u
  | cons c l ih =>
    intro u P h1 h2
    have e1 : (#[c] : Array Nat).toList = [c] := rfl
    simp only [List.map_cons, forGo, br_eq, wVar, wC, wOp, wUn, wNil, wCons, wTest, wAnd, wOr, wNot, wAndV, wOrV, wNotV, wIfE, wTup, wLst, wChain, wCB, wC1, wNext, wNever, wSeq, wAsg, wAsgO, wDrop, wIf, wRet, wRetF, wRetN, wBreak, wCont, wAug, wFrz, wForget, gN, gNil', gCons', gT, wFor, onL, onT, onS, iL, iT, iS, on1, on2, onI, iR1, iR2, iEn, iZ, iRv, wYes, wLc, wipeE, onStr, onLst, fAdd, fI2, fI2C, fIB, fSub, fMul, fDiv, fMod, fPow, fShl, fShr, fNeg, fLt, fLe, fGt, fGe, fAnd, fOr, fXor, fEq, fNe, fAddS, fIsN, fNotN, onSign, fIn, fNotIn, fIx, fIx1, onO_some', onOc_some', wNoP, wP, fSl, wSl, fLen, fInt, fStr1, fIsi, fListOf, fAbs, onBs, fAny, fAll, fStarts, wLn, wLnT, wCall, wMeth, fApp, fIns, wM1, wM0, gStarts, gSplit, gWords, onSs, slotAt, setAt, onSlot, onB, Kd.ok, Kd.out, tyD, ini, List.map_cons, List.map_nil, List.length_cons, List.length_nil, List.replicate, List.cons_append, List.nil_append, List.append_nil, ite_true, ite_false, if_true, if_false, true_and, and_true, eq_self_iff_true, Nat.reduceAdd, Nat.reduceSub, Bool.false_eq_true, Bool.not_true, Bool.not_false, shp, eqv, reduceIte, Int.reduceLT, Int.reduceLE, Int.reduceNeg, Nat.reduceLT, Nat.reduceLeDiff, cdiv_ok, mul_r, mul_l, decide_true, decide_false, a1, a2, a3, e1, lt1, ge_lt, zero_tl]
    simp only [List.all_cons] at h1 h2
    by_cases g : dig c = true
    · simp only [g, Bool.true_and] at h1 h2
      have := ih (.fz (.str ⟨#[c]⟩)) P h1 h2
      simp only [dig] at g
      by_cases g3 : 48 ≤ c <;> by_cases g4 : c ≤ 57 <;> simp only [g3, g4, br_eq, wVar, wC, wOp, wUn, wNil, wCons, wTest, wAnd, wOr, wNot, wAndV, wOrV, wNotV, wIfE, wTup, wLst, wChain, wCB, wC1, wNext, wNever, wSeq, wAsg, wAsgO, wDrop, wIf, wRet, wRetF, wRetN, wBreak, wCont, wAug, wFrz, wForget, gN, gNil', gCons', gT, wFor, onL, onT, onS, iL, iT, iS, on1, on2, onI, iR1, iR2, iEn, iZ, iRv, wYes, wLc, wipeE, onStr, onLst, fAdd, fI2, fI2C, fIB, fSub, fMul, fDiv, fMod, fPow, fShl, fShr, fNeg, fLt, fLe, fGt, fGe, fAnd, fOr, fXor, fEq, fNe, fAddS, fIsN, fNotN, onSign, fIn, fNotIn, fIx, fIx1, onO_some', onOc_some', wNoP, wP, fSl, wSl, fLen, fInt, fStr1, fIsi, fListOf, fAbs, onBs, fAny, fAll, fStarts, wLn, wLnT, wCall, wMeth, fApp, fIns, wM1, wM0, gStarts, gSplit, gWords, onSs, slotAt, setAt, onSlot, onB, Kd.ok, Kd.out, tyD, ini, List.map_cons, List.map_nil, List.length_cons, List.length_nil, List.replicate, List.cons_append, List.nil_append, List.append_nil, ite_true, ite_false, if_true, if_false, true_and, and_true, eq_self_iff_true, Nat.reduceAdd, Nat.reduceSub, Bool.false_eq_true, Bool.not_true, Bool.not_false, shp, eqv, reduceIte, Int.reduceLT, Int.reduceLE, Int.reduceNeg, Nat.reduceLT, Nat.reduceLeDiff, cdiv_ok, mul_r, mul_l, decide_true, decide_false, Bool.and_self, Bool.and_true, Bool.and_false, Bool.true_and, Bool.false_and] at g ⊢ <;> exact this
    · have g' : dig c = false := by simpa using g
      simp only [g', Bool.false_and] at h1
      simp only [dig] at g'
      by_cases g3 : 48 ≤ c <;> by_cases g4 : c ≤ 57 <;> simp only [g3, g4, br_eq, wVar, wC, wOp, wUn, wNil, wCons, wTest, wAnd, wOr, wNot, wAndV, wOrV, wNotV, wIfE, wTup, wLst, wChain, wCB, wC1, wNext, wNever, wSeq, wAsg, wAsgO, wDrop, wIf, wRet, wRetF, wRetN, wBreak, wCont, wAug, wFrz, wForget, gN, gNil', gCons', gT, wFor, onL, onT, onS, iL, iT, iS, on1, on2, onI, iR1, iR2, iEn, iZ, iRv, wYes, wLc, wipeE, onStr, onLst, fAdd, fI2, fI2C, fIB, fSub, fMul, fDiv, fMod, fPow, fShl, fShr, fNeg, fLt, fLe, fGt, fGe, fAnd, fOr, fXor, fEq, fNe, fAddS, fIsN, fNotN, onSign, fIn, fNotIn, fIx, fIx1, onO_some', onOc_some', wNoP, wP, fSl, wSl, fLen, fInt, fStr1, fIsi, fListOf, fAbs, onBs, fAny, fAll, fStarts, wLn, wLnT, wCall, wMeth, fApp, fIns, wM1, wM0, gStarts, gSplit, gWords, onSs, slotAt, setAt, onSlot, onB, Kd.ok, Kd.out, tyD, ini, List.map_cons, List.map_nil, List.length_cons, List.length_nil, List.replicate, List.cons_append, List.nil_append, List.append_nil, ite_true, ite_false, if_true, if_false, true_and, and_true, eq_self_iff_true, Nat.reduceAdd, Nat.reduceSub, Bool.false_eq_true, Bool.not_true, Bool.not_false, shp, eqv, reduceIte, Int.reduceLT, Int.reduceLE, Int.reduceNeg, Nat.reduceLT, Nat.reduceLeDiff, cdiv_ok, mul_r, mul_l, decide_true, decide_false, Bool.and_self, Bool.and_true, Bool.and_false, Bool.true_and, Bool.false_and, reduceCtorEq] at g' ⊢ <;> first | exact h1 rfl | exact h1 trivial
open NumText in
theorem num_back (x : Str) (hf : (figsOf x.cps.toList).all dig = true) (h1 : 1 ≤ (figsOf x.cps.toList).length) (h2 : (figsOf x.cps.toList).length ≤ 60) :
    ∃ n : Int, intText? x = some n ∧ n.natAbs.log2 < 1920 ∧ (Str.ofString (toString n) == x) = (headB (fun c => decide (c ≠ 48)) (figsOf x.cps.toList) || decide (x.cps.toList = [48])) := by
  have ha : AllDigits (figsOf x.cps.toList) := fun c hc => by
    have := List.all_eq_true.mp hf c hc
    simp only [dig, Bool.and_eq_true, decide_eq_true_eq] at this
    exact this
  have hne : figsOf x.cps.toList ≠ [] := fun z => by rw [z] at h1; simp at h1
  have hb : digitsVal (figsOf x.cps.toList) < 2 ^ 1920 := by
    refine Nat.lt_of_lt_of_le (dv_lt _ rfl ha) (Nat.le_trans (Nat.pow_le_pow_right (by decide) h2) (by decide +kernel))
  cases q : x.cps.toList with
  | nil =>
    rw [q] at hne
    exact absurd rfl hne
  | cons c r =>
    by_cases gc : c = 45
    · subst gc
      have e : figsOf (45 :: r) = r := by simp [figsOf]
      rw [q, e] at ha hne hb h2
      refine ⟨_, intText_neg q ha hne (by rw [str_len, q]; simp only [List.length_cons]; omega), ?_, ?_⟩
      · rw [Int.natAbs_neg, Int.natAbs_natCast]
        exact log2_lt (by decide) hb
      · rw [e, str_beq, q]
        have : decide (45 :: r = [48]) = false := decide_eq_false (by simp)
        rw [this, Bool.or_false]
        cases r with
        | nil => exact absurd rfl hne
        | cons d r =>
          simp only [headB]
          by_cases gd : d = 48
          · rw [decide_eq_false (p := d ≠ 48) (by simp [gd])]
            refine decide_eq_false fun z => ?_
            cases m : digitsVal (d :: r) with
            | zero =>
              rw [m] at z
              have : (Str.ofString (toString (-((0 : Nat) : Int)))).cps.toList = [48] := by decide +kernel
              rw [this] at z
              cases z
            | succ k =>
              rw [m, tl_neg] at z
              injection z with _ z
              subst gd
              have := numL_head z
              subst this
              have : digitsVal [48] = 0 := rfl
              omega
          · rw [decide_eq_true (p := d ≠ 48) gd]
            refine decide_eq_true ?_
            obtain ⟨k1, k2⟩ := dv_pos _ rfl ha ⟨d, r, rfl, gd⟩
            cases m : digitsVal (d :: r) with
            | zero => omega
            | succ k =>
              rw [tl_neg, ← m, k2]
    · have e : figsOf (c :: r) = c :: r := by simp [figsOf, gc]
      rw [q, e] at ha hne hb h2
      rw [← q] at ha hne hb h2
      refine ⟨_, intText_digits ha hne (by rw [str_len]; omega), ?_, ?_⟩
      · rw [Int.natAbs_natCast]
        exact log2_lt (by decide) hb
      · rw [e, str_beq, show (Str.ofString (toString ((digitsVal x.cps.toList : Nat) : Int))).cps.toList = TL.numL (digitsVal x.cps.toList) from TL.tl_num _, q]
        rw [q] at ha
        simp only [headB]
        by_cases gd : c = 48
        · rw [decide_eq_false (p := c ≠ 48) (by simp [gd]), Bool.false_or]
          subst gd
          by_cases gr : r = []
          · subst gr
            decide
          · rw [decide_eq_false (p := 48 :: r = [48]) (by simp [gr])]
            exact decide_eq_false fun z => gr (numL_head z)
        · rw [decide_eq_true (p := c ≠ 48) gd, Bool.true_or]
          exact decide_eq_true (dv_pos _ rfl ha ⟨c, r, rfl, gd⟩).2
theorem sem__law_number_due (ds : List D) (Q : Kd → D → Prop) (Pe : ExD → Prop) (h : ct__law_number_due ds Q Pe) : w__law_number_due (ini 3 ds) { nx := fun _ => Q .fz .non, rt := Q, ex := noX } := by
  obtain ⟨x, rfl, hl, h⟩ := h
  have hl' : x.length ≤ 100000 := by omega
  have key : ∀ f : Str, f.length ≤ 100000 → f.cps.toList = figsOf x.cps.toList → ∀ σ : List Slot, σ = [.fz (.str x), .fz (.str f), .un] →
    (wSeq (wIf (wNot (wTest (wChain fLe fLe (wC (.int 1)) (wC1 fLen (wVar 1)) (wC (.int 60))))) (wRet (wC (.bl false))) wNext)
  (wSeq (wFor (iS (wVar 1)) (gN 2) (wIf (wNot (wTest (wChain fLe fLe (wC (.str "0")) (wVar 2) (wC (.str "9"))))) (wRet (wC (.bl false))) wNext))
  (wRet (wOp fEq (wC1 fStr1 (wC1 fInt (wVar 0))) (wVar 0))))) σ { nx := fun _ => Q .fz .non, rt := Q, ex := noX } := by
    intro f hf e σ eσ
    subst eσ
    simp only [br_eq, wVar, wC, wOp, wUn, wNil, wCons, wTest, wAnd, wOr, wNot, wAndV, wOrV, wNotV, wIfE, wTup, wLst, wChain, wCB, wC1, wNext, wNever, wSeq, wAsg, wAsgO, wDrop, wIf, wRet, wRetF, wRetN, wBreak, wCont, wAug, wFrz, wForget, gN, gNil', gCons', gT, wFor, onL, onT, onS, iL, iT, iS, on1, on2, onI, iR1, iR2, iEn, iZ, iRv, wYes, wLc, wipeE, onStr, onLst, fAdd, fI2, fI2C, fIB, fSub, fMul, fDiv, fMod, fPow, fShl, fShr, fNeg, fLt, fLe, fGt, fGe, fAnd, fOr, fXor, fEq, fNe, fAddS, fIsN, fNotN, onSign, fIn, fNotIn, fIx, fIx1, onO_some', onOc_some', wNoP, wP, fSl, wSl, fLen, fInt, fStr1, fIsi, fListOf, fAbs, onBs, fAny, fAll, fStarts, wLn, wLnT, wCall, wMeth, fApp, fIns, wM1, wM0, gStarts, gSplit, gWords, onSs, slotAt, setAt, onSlot, onB, Kd.ok, Kd.out, tyD, ini, List.map_cons, List.map_nil, List.length_cons, List.length_nil, List.replicate, List.cons_append, List.nil_append, List.append_nil, ite_true, ite_false, if_true, if_false, true_and, and_true, eq_self_iff_true, Nat.reduceAdd, Nat.reduceSub, Bool.false_eq_true, Bool.not_true, Bool.not_false, shp, eqv, reduceIte, Int.reduceLT, Int.reduceLE, Int.reduceNeg, Nat.reduceLT, Nat.reduceLeDiff, cdiv_ok, mul_r, mul_l, decide_true, decide_false, hf]
    rw [str_len, e]
    simp only [isNu] at h
    by_cases g1 : 1 ≤ (figsOf x.cps.toList).length
    · by_cases g2 : (figsOf x.cps.toList).length ≤ 60
      · have e1 : (1 : Int) ≤ ((figsOf x.cps.toList).length : Int) := by omega
        have e2 : ((figsOf x.cps.toList).length : Int) ≤ 60 := by omega
        simp only [e1, e2, br_eq, wVar, wC, wOp, wUn, wNil, wCons, wTest, wAnd, wOr, wNot, wAndV, wOrV, wNotV, wIfE, wTup, wLst, wChain, wCB, wC1, wNext, wNever, wSeq, wAsg, wAsgO, wDrop, wIf, wRet, wRetF, wRetN, wBreak, wCont, wAug, wFrz, wForget, gN, gNil', gCons', gT, wFor, onL, onT, onS, iL, iT, iS, on1, on2, onI, iR1, iR2, iEn, iZ, iRv, wYes, wLc, wipeE, onStr, onLst, fAdd, fI2, fI2C, fIB, fSub, fMul, fDiv, fMod, fPow, fShl, fShr, fNeg, fLt, fLe, fGt, fGe, fAnd, fOr, fXor, fEq, fNe, fAddS, fIsN, fNotN, onSign, fIn, fNotIn, fIx, fIx1, onO_some', onOc_some', wNoP, wP, fSl, wSl, fLen, fInt, fStr1, fIsi, fListOf, fAbs, onBs, fAny, fAll, fStarts, wLn, wLnT, wCall, wMeth, fApp, fIns, wM1, wM0, gStarts, gSplit, gWords, onSs, slotAt, setAt, onSlot, onB, Kd.ok, Kd.out, tyD, ini, List.map_cons, List.map_nil, List.length_cons, List.length_nil, List.replicate, List.cons_append, List.nil_append, List.append_nil, ite_true, ite_false, if_true, if_false, true_and, and_true, eq_self_iff_true, Nat.reduceAdd, Nat.reduceSub, Bool.false_eq_true, Bool.not_true, Bool.not_false, shp, eqv, reduceIte, Int.reduceLT, Int.reduceLE, Int.reduceNeg, Nat.reduceLT, Nat.reduceLeDiff, cdiv_ok, mul_r, mul_l, decide_true, decide_false]
        rw [decide_eq_true g1, decide_eq_true g2] at h
        have := nu_loop (.str x) (.str f) (figsOf x.cps.toList) .un { nx := fun e => wRet (wOp fEq (wC1 fStr1 (wC1 fInt (wVar 0))) (wVar 0)) e { nx := fun _ => Q .fz .non, rt := Q, ex := noX }, rt := Q, ex := noX } (fun z => by rw [z] at h; exact h) (fun z u => by
          rw [z] at h
          obtain ⟨n, k1, k2, k3⟩ := num_back x z g1 g2
          simp only [Bool.true_and] at h
          rw [← k3] at h
          have hx : x.length ≤ 640 := by
            rw [str_len]
            cases q : x.cps.toList with
            | nil => simp
            | cons c r =>
              rw [q] at g2
              by_cases gc : c = 45
              · simp [figsOf, gc] at g2 ⊢
                omega
              · simp [figsOf, gc] at g2 ⊢
                omega
          simp only [br_eq, wVar, wC, wOp, wUn, wNil, wCons, wTest, wAnd, wOr, wNot, wAndV, wOrV, wNotV, wIfE, wTup, wLst, wChain, wCB, wC1, wNext, wNever, wSeq, wAsg, wAsgO, wDrop, wIf, wRet, wRetF, wRetN, wBreak, wCont, wAug, wFrz, wForget, gN, gNil', gCons', gT, wFor, onL, onT, onS, iL, iT, iS, on1, on2, onI, iR1, iR2, iEn, iZ, iRv, wYes, wLc, wipeE, onStr, onLst, fAdd, fI2, fI2C, fIB, fSub, fMul, fDiv, fMod, fPow, fShl, fShr, fNeg, fLt, fLe, fGt, fGe, fAnd, fOr, fXor, fEq, fNe, fAddS, fIsN, fNotN, onSign, fIn, fNotIn, fIx, fIx1, onO_some', onOc_some', wNoP, wP, fSl, wSl, fLen, fInt, fStr1, fIsi, fListOf, fAbs, onBs, fAny, fAll, fStarts, wLn, wLnT, wCall, wMeth, fApp, fIns, wM1, wM0, gStarts, gSplit, gWords, onSs, slotAt, setAt, onSlot, onB, Kd.ok, Kd.out, tyD, ini, List.map_cons, List.map_nil, List.length_cons, List.length_nil, List.replicate, List.cons_append, List.nil_append, List.append_nil, ite_true, ite_false, if_true, if_false, true_and, and_true, eq_self_iff_true, Nat.reduceAdd, Nat.reduceSub, Bool.false_eq_true, Bool.not_true, Bool.not_false, shp, eqv, reduceIte, Int.reduceLT, Int.reduceLE, Int.reduceNeg, Nat.reduceLT, Nat.reduceLeDiff, cdiv_ok, mul_r, mul_l, decide_true, decide_false, k1, k2, hx]
          exact h)
        simpa only [br_eq, wVar, wC, wOp, wUn, wNil, wCons, wTest, wAnd, wOr, wNot, wAndV, wOrV, wNotV, wIfE, wTup, wLst, wChain, wCB, wC1, wNext, wNever, wSeq, wAsg, wAsgO, wDrop, wIf, wRet, wRetF, wRetN, wBreak, wCont, wAug, wFrz, wForget, gN, gNil', gCons', gT, wFor, onL, onT, onS, iL, iT, iS, on1, on2, onI, iR1, iR2, iEn, iZ, iRv, wYes, wLc, wipeE, onStr, onLst, fAdd, fI2, fI2C, fIB, fSub, fMul, fDiv, fMod, fPow, fShl, fShr, fNeg, fLt, fLe, fGt, fGe, fAnd, fOr, fXor, fEq, fNe, fAddS, fIsN, fNotN, onSign, fIn, fNotIn, fIx, fIx1, onO_some', onOc_some', wNoP, wP, fSl, wSl, fLen, fInt, fStr1, fIsi, fListOf, fAbs, onBs, fAny, fAll, fStarts, wLn, wLnT, wCall, wMeth, fApp, fIns, wM1, wM0, gStarts, gSplit, gWords, onSs, slotAt, setAt, onSlot, onB, Kd.ok, Kd.out, tyD, ini, List.map_cons, List.map_nil, List.length_cons, List.length_nil, List.replicate, List.cons_append, List.nil_append, List.append_nil, ite_true, ite_false, if_true, if_false, true_and, and_true, eq_self_iff_true, Nat.reduceAdd, Nat.reduceSub, Bool.false_eq_true, Bool.not_true, Bool.not_false, shp, eqv, reduceIte, Int.reduceLT, Int.reduceLE, Int.reduceNeg, Nat.reduceLT, Nat.reduceLeDiff, cdiv_ok, mul_r, mul_l, decide_true, decide_false] using this
      · have e1 : (1 : Int) ≤ ((figsOf x.cps.toList).length : Int) := by omega
        have e2 : ¬ ((figsOf x.cps.toList).length : Int) ≤ 60 := by omega
        simp only [e1, e2, br_eq, wVar, wC, wOp, wUn, wNil, wCons, wTest, wAnd, wOr, wNot, wAndV, wOrV, wNotV, wIfE, wTup, wLst, wChain, wCB, wC1, wNext, wNever, wSeq, wAsg, wAsgO, wDrop, wIf, wRet, wRetF, wRetN, wBreak, wCont, wAug, wFrz, wForget, gN, gNil', gCons', gT, wFor, onL, onT, onS, iL, iT, iS, on1, on2, onI, iR1, iR2, iEn, iZ, iRv, wYes, wLc, wipeE, onStr, onLst, fAdd, fI2, fI2C, fIB, fSub, fMul, fDiv, fMod, fPow, fShl, fShr, fNeg, fLt, fLe, fGt, fGe, fAnd, fOr, fXor, fEq, fNe, fAddS, fIsN, fNotN, onSign, fIn, fNotIn, fIx, fIx1, onO_some', onOc_some', wNoP, wP, fSl, wSl, fLen, fInt, fStr1, fIsi, fListOf, fAbs, onBs, fAny, fAll, fStarts, wLn, wLnT, wCall, wMeth, fApp, fIns, wM1, wM0, gStarts, gSplit, gWords, onSs, slotAt, setAt, onSlot, onB, Kd.ok, Kd.out, tyD, ini, List.map_cons, List.map_nil, List.length_cons, List.length_nil, List.replicate, List.cons_append, List.nil_append, List.append_nil, ite_true, ite_false, if_true, if_false, true_and, and_true, eq_self_iff_true, Nat.reduceAdd, Nat.reduceSub, Bool.false_eq_true, Bool.not_true, Bool.not_false, shp, eqv, reduceIte, Int.reduceLT, Int.reduceLE, Int.reduceNeg, Nat.reduceLT, Nat.reduceLeDiff, cdiv_ok, mul_r, mul_l, decide_true, decide_false]
        rw [decide_eq_false g2] at h
        simpa using h
    · have e1 : ¬ (1 : Int) ≤ ((figsOf x.cps.toList).length : Int) := by omega
      simp only [e1, br_eq, wVar, wC, wOp, wUn, wNil, wCons, wTest, wAnd, wOr, wNot, wAndV, wOrV, wNotV, wIfE, wTup, wLst, wChain, wCB, wC1, wNext, wNever, wSeq, wAsg, wAsgO, wDrop, wIf, wRet, wRetF, wRetN, wBreak, wCont, wAug, wFrz, wForget, gN, gNil', gCons', gT, wFor, onL, onT, onS, iL, iT, iS, on1, on2, onI, iR1, iR2, iEn, iZ, iRv, wYes, wLc, wipeE, onStr, onLst, fAdd, fI2, fI2C, fIB, fSub, fMul, fDiv, fMod, fPow, fShl, fShr, fNeg, fLt, fLe, fGt, fGe, fAnd, fOr, fXor, fEq, fNe, fAddS, fIsN, fNotN, onSign, fIn, fNotIn, fIx, fIx1, onO_some', onOc_some', wNoP, wP, fSl, wSl, fLen, fInt, fStr1, fIsi, fListOf, fAbs, onBs, fAny, fAll, fStarts, wLn, wLnT, wCall, wMeth, fApp, fIns, wM1, wM0, gStarts, gSplit, gWords, onSs, slotAt, setAt, onSlot, onB, Kd.ok, Kd.out, tyD, ini, List.map_cons, List.map_nil, List.length_cons, List.length_nil, List.replicate, List.cons_append, List.nil_append, List.append_nil, ite_true, ite_false, if_true, if_false, true_and, and_true, eq_self_iff_true, Nat.reduceAdd, Nat.reduceSub, Bool.false_eq_true, Bool.not_true, Bool.not_false, shp, eqv, reduceIte, Int.reduceLT, Int.reduceLE, Int.reduceNeg, Nat.reduceLT, Nat.reduceLeDiff, cdiv_ok, mul_r, mul_l, decide_true, decide_false]
      rw [decide_eq_false g1] at h
      simpa using h
  have hb : (cutS x none (some 1) == Str.ofString "-") = decide (x.cps.toList.take 1 = [45]) := by rw [str_beq, cut1, minus_tl]
  refine ⟨trivial, ?_⟩
  refine ⟨hl', ⟨rfl, rfl⟩, ⟨fun hc => ?_, fun hc => ?_⟩⟩
  · have hc' := of_decide_eq_true (hb.symm.trans hc)
    refine ⟨hl', trivial, ?_⟩
    cases q : x.cps.toList with
    | nil => rw [q] at hc'; cases hc'
    | cons c r =>
      rw [q] at hc'
      simp only [List.take] at hc'
      injection hc' with gc _
      subst gc
      exact key (cutS x (some 1) none) (Nat.le_trans (cutS_length _ _ _) hl') (by rw [figs_tl x 45 r q, q]; simp [figsOf]) _ rfl
  · have hc' := of_decide_eq_false (hb.symm.trans hc)
    refine key x hl' ?_ _ rfl
    cases q : x.cps.toList with
    | nil => rfl
    | cons c r =>
      rw [q] at hc'
      have : c ≠ 45 := fun z => hc' (by rw [z]; rfl)
      simp [figsOf, this]
theorem onO_of {Q : D → Prop} {o : Option D} {d : D} (e : o = some d) (h : Q d) : onO Q o := by subst e; exact h
theorem onOc_of {Q : Nat → Prop} {o : Option Nat} {d : Nat} (e : o = some d) (h : Q d) : onOc Q o := by subst e; exact h
theorem atI_map {cs : List Int} {i : Nat} (h : i < cs.length) : atI (cs.map D.int) (i : Int) = some (.int cs[i]) := by
  rw [atI_pos (by omega) (by simp; omega)]
  simp [h]
theorem eqv_bl (a : Bool) : (!eqv (.bl a) (.bl a)) = false := by cases a <;> rfl
theorem cutD_hi (ds : List D) (k : Nat) : cutD ds none (some (k : Int)) = ds.take k := by
  show (ds.drop (HT.sIx ds.length 0 none)).take (HT.sIx ds.length ds.length (some (k : Int)) - HT.sIx ds.length 0 none) = _
  rw [HT.sIx_nat, HT.sIx_none, List.drop_zero, Nat.sub_zero]
  rcases Nat.le_total k ds.length with h | h
  · rw [Nat.min_eq_left h]
  · rw [Nat.min_eq_right h, List.take_of_length_le (Nat.le_refl _), List.take_of_length_le h]
theorem law_go (x0 : Slot) (cl : List D) (cs : List Int) (hcl : cl = cs.map .int) (hl : cs.length ≤ 64) : ∀ (l : List Nat) (u v w : Slot) (P : Post), (∀ i ∈ l, i < cs.length) → (∀ u v w, P.nx [x0, .fz (.lst cl), u, v, w]) →
    forGo (gN 2) (wSeq (wAsg (wCall ct__law_word (wCons (wOp fIx (wVar 1) (wVar 2)) (wCons (wVar 2) wNil))) (gN 3))
  (wSeq (wAsg (wCall ct_is_name (wCons (wVar 3) wNil)) (gN 4))
  (wSeq (wIf (wOr (wNot (wTest (wC1 (fIsi "bool") (wVar 4)))) (wTest (wOp fNe (wVar 4) (wCall ct__law_name_due (wCons (wVar 3) wNil))))) (wRet (wC (.bl false))) wNext)
  (wSeq (wAsg (wCall ct_is_number (wCons (wVar 3) wNil)) (gN 4))
  (wIf (wOr (wNot (wTest (wC1 (fIsi "bool") (wVar 4)))) (wTest (wOp fNe (wVar 4) (wCall ct__law_number_due (wCons (wVar 3) wNil))))) (wRet (wC (.bl false))) wNext))))) P (l.map fun (i : Nat) => D.int i) [x0, .fz (.lst cl), u, v, w] := by
  intro l
  induction l with
  | nil => exact fun u v w P _ h => h u v w
  | cons i l ih =>
    intro u v w P hb hP
    have hi := hb i (by simp)
    subst hcl
    refine onO_of (atI_map hi) ?_
    refine ⟨trivial, trivial, _, _, rfl, by omega, by omega, fun z hz => ?_⟩
    refine ⟨trivial, ?_⟩
    refine ⟨trivial, z, rfl, by omega, ?_⟩
    refine ⟨trivial, ?_⟩
    refine ⟨⟨by show "bool" ≠ ""; decide, by decide⟩, ?_⟩
    refine ⟨fun hc => absurd hc (by show ¬ (!isi "bool" "bool") = true; decide), fun _ => ?_⟩
    refine ⟨trivial, z, rfl, by omega, ?_⟩
    refine ⟨⟨rfl, rfl⟩, ?_⟩
    refine ⟨fun hc => absurd (hc.symm.trans (eqv_bl _)) (by decide), fun _ => ?_⟩
    refine ⟨trivial, z, rfl, by omega, ?_⟩
    refine ⟨trivial, ?_⟩
    refine ⟨⟨by show "bool" ≠ ""; decide, by decide⟩, ?_⟩
    refine ⟨fun hc => absurd hc (by show ¬ (!isi "bool" "bool") = true; decide), fun _ => ?_⟩
    refine ⟨trivial, z, rfl, by omega, ?_⟩
    refine ⟨⟨rfl, rfl⟩, ?_⟩
    refine ⟨fun hc => absurd (hc.symm.trans (eqv_bl _)) (by decide), fun _ => ?_⟩
    exact ih _ _ _ P (fun j hj => hb j (by simp [hj])) hP
theorem sem_law (ds : List D) (Q : Kd → D → Prop) (Pe : ExD → Prop) (h : ct_law ds Q Pe) : w_law (ini 5 ds) { nx := fun _ => Q .fz .non, rt := Q, ex := noX } := by
  obtain ⟨ns, rfl, hl, h⟩ := h
  have e : cutD (ns.map .int) none (some 63) ++ [.int ((ns.map D.int).length % 64)] = (ns ++ [(ns.length : Int) % 64]).map .int := by
    rw [show (some (63 : Int)) = some ((63 : Nat) : Int) from rfl, cutD_hi, List.take_of_length_le (by simpa using hl), List.map_append, List.length_map]
    rfl
  have el := congrArg List.length e
  rw [List.length_map, List.length_append, List.length_map, List.length_append] at el
  simp only [List.length_cons, List.length_nil] at el
  have hp : (0 : Int) < 64 := by decide
  refine ⟨hp, trivial, Nat.le_of_ble_eq_true rfl, ?_⟩
  refine ⟨by show (cutD _ _ _).length + 1 ≤ 100000; omega, trivial, ?_⟩
  have el2 : (cutD (ns.map D.int) none (some 63) ++ [D.int ((ns.map D.int).length % 64)]).length = ns.length + 1 := by rw [e, List.length_map, List.length_append]; rfl
  refine ⟨trivial, rfl, by show (((cutD (ns.map D.int) none (some 63) ++ [D.int ((ns.map D.int).length % 64)]).length : Nat) : Int) ≤ 1000000; omega, by show -1000000 ≤ (((cutD (ns.map D.int) none (some 63) ++ [D.int ((ns.map D.int).length % 64)]).length : Nat) : Int); omega, ?_⟩
  refine law_go _ _ _ e (by simp; omega) _ _ _ _ _ (fun i hi => ?_) ?_
  rotate_left
  · exact fun u v w => h
  have hi := List.mem_range.mp hi
  have hi : i < ((((cutD (ns.map D.int) none (some 63) ++ [D.int ((ns.map D.int).length % 64)]).length : Nat) : Int)).toNat := hi
  simp only [List.length_append, List.length_cons, List.length_nil]
  omega

def topS (i : Nat) : Stmt := PySem.Challenge.pw_faultwhy_k01_words.main.body.getD i (.Pass ⟨0,0,0,0⟩)

structure Tx (K : PySem.W.Frag) (mg : Str → Option Value) : Prop where
  f_bool : mg "bool" = none
  f_int : mg "int" = none
  f_isinstance : mg "isinstance" = none
  f_len : mg "len" = none
  f_range : mg "range" = none
  f_str : mg "str" = none
  g_FIGURES : ∃ u, mg "FIGURES" = some u ∧ RelV (V.str "0123456789") u
  g_NAME_SIGNS : ∃ u, mg "NAME_SIGNS" = some u ∧ RelV (V.int 12) u
  g_NUMBER_FIGURES : ∃ u, mg "NUMBER_FIGURES" = some u ∧ RelV (V.int 60) u
  g_SMALL : ∃ u, mg "SMALL" = some u ∧ RelV (V.str "abcdefghijklmnopqrstuvwxyz") u
section
variable {P : Program} {w : World} {K : PySem.W.Frag} {mg : Str → Option Value} {base : Heap}
abbrev s_signs_from : Stmt := topS 5
theorem sc_signs_from : FnScope ["word", "signs", "sign"] ["word", "signs"] (defScope s_signs_from) := ⟨rfl, rfl, rfl, by decide +kernel, rfl, by decide +kernel, by decide +kernel⟩
theorem der_signs_from (T : Tx K mg)  {f : Addr} (cdv : Value) (A : Around) (outer : List PySem.Env) (s : Shared) (H : Hp) (E : XK) (hr : Room 0 (A.deeper (envOfC "signs_from" (defScope s_signs_from) s.heap.objs.size f cdv))) :
    DSs (cxOf CX0 P w K mg base ["word", "signs", "sign"] "signs_from" (defScope s_signs_from) f cdv A outer s H E).nox E0 (defBody s_signs_from) w_signs_from :=
  have S := sc_signs_from
  (dss_cons (ds_for PassesOwn.never rfl (di_str (de_var (i := 0) rfl (.inl rfl))) (dg_name (i := 2) S.nd rfl (.inl rfl)) (dss_one (ds_if (dt_cmp (dop_notIn hr.units) (de_var (i := 2) rfl (.inl rfl)) (de_var (i := 1) rfl (.inl rfl)) (by rfl)) (dss_one (ds_ret de_bl)) dss_nil)))
  (dss_one (ds_ret de_bl)))
theorem fn_signs_from (T : Tx K mg)  {f : Addr} {fd : FuncData} (F : FunD K "signs_from" "signs_from" (defArgs s_signs_from) (defBody s_signs_from) (defScope s_signs_from) [] [] f fd) (g : mg "signs_from" = some (.ref f)) : Cal P w K mg base 1 "signs_from" ct_signs_from :=
  ⟨f, fd, ["word", "signs"], def_ok (k := 0) F sc_signs_from len_signs_from sem_signs_from (fun cdv A outer s H E hr => der_signs_from T  cdv A outer s H E hr), g, F.kp, FunD.bindsN F fun _ _ _ _ _ _ us hl => match us, hl with | [_, _], _ => rfl⟩

abbrev s_is_name : Stmt := topS 6
theorem sc_is_name : FnScope ["word"] ["word"] (defScope s_is_name) := ⟨rfl, rfl, rfl, by decide +kernel, rfl, by decide +kernel, by decide +kernel⟩
theorem der_is_name (T : Tx K mg) (c_signs_from : Cal P w K mg base 1 "signs_from" ct_signs_from) {f : Addr} (cdv : Value) (A : Around) (outer : List PySem.Env) (s : Shared) (H : Hp) (E : XK) (hr : Room 1 (A.deeper (envOfC "is_name" (defScope s_is_name) s.heap.objs.size f cdv))) :
    DSs (cxOf CX0 P w K mg base ["word"] "is_name" (defScope s_is_name) f cdv A outer s H E).nox E0 (defBody s_is_name) w_is_name :=
  have S := sc_is_name
  (dss_cons (ds_if (dt_w (dw_or (dt_cmp (dop_eq hr.units) (de_var (i := 0) rfl (.inl rfl)) de_str (nomark _)) (dw_or (dt_cmp dop_gt (de_b1 db_len rfl T.f_len (by decide +kernel) (de_var (i := 0) rfl (.inl rfl))) (de_globE rfl T.g_NAME_SIGNS (fun _ => rfl)) (nomark _)) (dw_or1 (dt_cmp (dop_notIn hr.units) (de_ix (de_var (i := 0) rfl (.inl rfl)) de_int) (de_globE rfl T.g_SMALL (fun _ => rfl)) (by rfl)))))) (dss_one (ds_ret de_bl)) dss_nil)
  (dss_one (ds_ret (de_call c_signs_from (hr.mono (by decide)) rfl (da_cons (de_var (i := 0) rfl (.inl rfl)) (da_cons (de_op dop_add (de_globE rfl T.g_SMALL (fun _ => rfl)) (de_globE rfl T.g_FIGURES (fun _ => rfl))) da_nil))))))
theorem fn_is_name (T : Tx K mg) (c_signs_from : Cal P w K mg base 1 "signs_from" ct_signs_from) {f : Addr} {fd : FuncData} (F : FunD K "is_name" "is_name" (defArgs s_is_name) (defBody s_is_name) (defScope s_is_name) [] [] f fd) (g : mg "is_name" = some (.ref f)) : Cal P w K mg base 2 "is_name" ct_is_name :=
  ⟨f, fd, ["word"], def_ok (k := 1) F sc_is_name len_is_name sem_is_name (fun cdv A outer s H E hr => der_is_name T c_signs_from cdv A outer s H E hr), g, F.kp, FunD.bindsN F fun _ _ _ _ _ _ us hl => match us, hl with | [_], _ => rfl⟩

abbrev s_is_number : Stmt := topS 7
theorem sc_is_number : FnScope ["word", "figures"] ["word"] (defScope s_is_number) := ⟨rfl, rfl, rfl, by decide +kernel, rfl, by decide +kernel, by decide +kernel⟩
theorem der_is_number (T : Tx K mg) (c_signs_from : Cal P w K mg base 1 "signs_from" ct_signs_from) {f : Addr} (cdv : Value) (A : Around) (outer : List PySem.Env) (s : Shared) (H : Hp) (E : XK) (hr : Room 1 (A.deeper (envOfC "is_number" (defScope s_is_number) s.heap.objs.size f cdv))) :
    DSs (cxOf CX0 P w K mg base ["word", "figures"] "is_number" (defScope s_is_number) f cdv A outer s H E).nox E0 (defBody s_is_number) w_is_number :=
  have S := sc_is_number
  (dss_cons (ds_set (i := 1) S.nd rfl (.inl rfl) (de_var (i := 0) rfl (.inl rfl)))
  (dss_cons (ds_if (dt_val (de_m1 dm_startswith PySem.F.slot_str_startswith PySem.F.type_str_startswith (de_var (i := 0) rfl (.inl rfl)) de_str)) (dss_one (ds_set (i := 1) S.nd rfl (.inl rfl) (de_slice (de_var (i := 0) rfl (.inl rfl)) (do_some de_int) do_none))) dss_nil)
  (dss_cons (ds_if (dt_w (dw_or (dt_cmp (dop_eq hr.units) (de_var (i := 1) rfl (.inl rfl)) de_str (nomark _)) (dw_or (dt_cmp dop_gt (de_b1 db_len rfl T.f_len (by decide +kernel) (de_var (i := 1) rfl (.inl rfl))) (de_globE rfl T.g_NUMBER_FIGURES (fun _ => rfl)) (nomark _)) (dw_or1 (dt_not (dt_val (de_call c_signs_from (hr.mono (by decide)) rfl (da_cons (de_var (i := 1) rfl (.inl rfl)) (da_cons (de_globE rfl T.g_FIGURES (fun _ => rfl)) da_nil))))))))) (dss_one (ds_ret de_bl)) dss_nil)
  (dss_one (ds_ret (de_or (de_cmp (dop_ne hr.units) (de_ix (de_var (i := 1) rfl (.inl rfl)) de_int) de_str (nomark _)) (de_one (de_cmp (dop_eq hr.units) (de_var (i := 0) rfl (.inl rfl)) de_str (nomark _)))))))))
theorem fn_is_number (T : Tx K mg) (c_signs_from : Cal P w K mg base 1 "signs_from" ct_signs_from) {f : Addr} {fd : FuncData} (F : FunD K "is_number" "is_number" (defArgs s_is_number) (defBody s_is_number) (defScope s_is_number) [] [] f fd) (g : mg "is_number" = some (.ref f)) : Cal P w K mg base 2 "is_number" ct_is_number :=
  ⟨f, fd, ["word"], def_ok (k := 1) F sc_is_number len_is_number sem_is_number (fun cdv A outer s H E hr => der_is_number T c_signs_from cdv A outer s H E hr), g, F.kp, FunD.bindsN F fun _ _ _ _ _ _ us hl => match us, hl with | [_], _ => rfl⟩

abbrev s__law_sign : Stmt := topS 9
theorem sc__law_sign : FnScope ["_law_d", "_law_some"] ["_law_d"] (defScope s__law_sign) := ⟨rfl, rfl, rfl, by decide +kernel, rfl, by decide +kernel, by decide +kernel⟩
theorem der__law_sign (T : Tx K mg)  {f : Addr} (cdv : Value) (A : Around) (outer : List PySem.Env) (s : Shared) (H : Hp) (E : XK) (hr : Room 0 (A.deeper (envOfC "_law_sign" (defScope s__law_sign) s.heap.objs.size f cdv))) :
    DSs (cxOf CX0 P w K mg base ["_law_d", "_law_some"] "_law_sign" (defScope s__law_sign) f cdv A outer s H E).nox E0 (defBody s__law_sign) w__law_sign :=
  have S := sc__law_sign
  (dss_cons (ds_set (i := 1) S.nd rfl (.inl rfl) de_str)
  (dss_cons (ds_set (i := 1) S.nd rfl (.inl rfl) (de_op dop_add (de_var (i := 1) rfl (.inl rfl)) de_str))
  (dss_one (ds_ret (de_ix (de_var (i := 1) rfl (.inl rfl)) (de_op dop_mod (de_var (i := 0) rfl (.inl rfl)) de_int))))))
theorem fn__law_sign (T : Tx K mg)  {f : Addr} {fd : FuncData} (F : FunD K "_law_sign" "_law_sign" (defArgs s__law_sign) (defBody s__law_sign) (defScope s__law_sign) [] [] f fd) (g : mg "_law_sign" = some (.ref f)) : Cal P w K mg base 1 "_law_sign" ct__law_sign :=
  ⟨f, fd, ["_law_d"], def_ok (k := 0) F sc__law_sign len__law_sign sem__law_sign (fun cdv A outer s H E hr => der__law_sign T  cdv A outer s H E hr), g, F.kp, FunD.bindsN F fun _ _ _ _ _ _ us hl => match us, hl with | [_], _ => rfl⟩

abbrev s__law_drawn : Stmt := topS 10
theorem sc__law_drawn : FnScope ["_law_d", "_law_size", "_law_some", "_law_word_here", "_law_k"] ["_law_d", "_law_size", "_law_some"] (defScope s__law_drawn) := ⟨rfl, rfl, rfl, by decide +kernel, rfl, by decide +kernel, by decide +kernel⟩
theorem der__law_drawn (T : Tx K mg)  {f : Addr} (cdv : Value) (A : Around) (outer : List PySem.Env) (s : Shared) (H : Hp) (E : XK) (hr : Room 0 (A.deeper (envOfC "_law_drawn" (defScope s__law_drawn) s.heap.objs.size f cdv))) :
    DSs (cxOf CX0 P w K mg base ["_law_d", "_law_size", "_law_some", "_law_word_here", "_law_k"] "_law_drawn" (defScope s__law_drawn) f cdv A outer s H E).nox E0 (defBody s__law_drawn) w__law_drawn :=
  have S := sc__law_drawn
  (dss_cons (ds_set (i := 3) S.nd rfl (.inl rfl) de_str)
  (dss_cons (ds_for PassesOwn.never rfl (di_range1 rfl T.f_range (da_cons (de_var (i := 1) rfl (.inl rfl)) da_nil)) (dg_name (i := 4) S.nd rfl (.inl rfl)) (dss_cons (ds_set (i := 0) S.nd rfl (.inl rfl) (de_op dop_mod (de_op dop_mul (de_op dop_add (de_var (i := 0) rfl (.inl rfl)) (de_var (i := 4) rfl (.inl rfl))) de_int) de_int))
  (dss_one (ds_set (i := 3) S.nd rfl (.inl rfl) (de_op dop_add (de_var (i := 3) rfl (.inl rfl)) (de_ix (de_var (i := 2) rfl (.inl rfl)) (de_op dop_mod (de_var (i := 0) rfl (.inl rfl)) (de_b1 db_len rfl T.f_len (by decide +kernel) (de_var (i := 2) rfl (.inl rfl))))))))))
  (dss_one (ds_ret (de_var (i := 3) rfl (.inl rfl))))))
theorem fn__law_drawn (T : Tx K mg)  {f : Addr} {fd : FuncData} (F : FunD K "_law_drawn" "_law_drawn" (defArgs s__law_drawn) (defBody s__law_drawn) (defScope s__law_drawn) [] [] f fd) (g : mg "_law_drawn" = some (.ref f)) : Cal P w K mg base 1 "_law_drawn" ct__law_drawn :=
  ⟨f, fd, ["_law_d", "_law_size", "_law_some"], def_ok (k := 0) F sc__law_drawn len__law_drawn sem__law_drawn (fun cdv A outer s H E hr => der__law_drawn T  cdv A outer s H E hr), g, F.kp, FunD.bindsN F fun _ _ _ _ _ _ us hl => match us, hl with | [_, _, _], _ => rfl⟩

abbrev s__law_long : Stmt := topS 11
theorem sc__law_long : FnScope ["_law_d", "_law_e", "_law_first", "_law_word_here"] ["_law_d", "_law_e"] (defScope s__law_long) := ⟨rfl, rfl, rfl, by decide +kernel, rfl, by decide +kernel, by decide +kernel⟩
theorem der__law_long (T : Tx K mg) (c__law_drawn : Cal P w K mg base 1 "_law_drawn" ct__law_drawn) {f : Addr} (cdv : Value) (A : Around) (outer : List PySem.Env) (s : Shared) (H : Hp) (E : XK) (hr : Room 1 (A.deeper (envOfC "_law_long" (defScope s__law_long) s.heap.objs.size f cdv))) :
    DSs (cxOf CX0 P w K mg base ["_law_d", "_law_e", "_law_first", "_law_word_here"] "_law_long" (defScope s__law_long) f cdv A outer s H E).nox E0 (defBody s__law_long) w__law_long :=
  have S := sc__law_long
  (dss_cons (ds_set (i := 2) S.nd rfl (.inl rfl) (de_ix de_str (de_op dop_mod (de_op dop_div (de_var (i := 0) rfl (.inl rfl)) de_int) de_int)))
  (dss_cons (ds_set (i := 3) S.nd rfl (.inl rfl) (de_op dop_add (de_var (i := 2) rfl (.inl rfl)) (de_call c__law_drawn (hr.mono (by decide)) rfl (da_cons (de_var (i := 1) rfl (.inl rfl)) (da_cons (de_op dop_add de_int (de_op dop_mod (de_op dop_div (de_var (i := 0) rfl (.inl rfl)) de_int) de_int)) (da_cons de_str da_nil))))))
  (dss_cons (ds_if (dt_cmp (dop_eq hr.units) (de_op dop_mod (de_op dop_div (de_var (i := 0) rfl (.inl rfl)) de_int) de_int) de_int (nomark _)) (dss_one (ds_ret (de_op dop_add de_str (de_var (i := 3) rfl (.inl rfl))))) dss_nil)
  (dss_one (ds_ret (de_var (i := 3) rfl (.inl rfl)))))))
theorem fn__law_long (T : Tx K mg) (c__law_drawn : Cal P w K mg base 1 "_law_drawn" ct__law_drawn) {f : Addr} {fd : FuncData} (F : FunD K "_law_long" "_law_long" (defArgs s__law_long) (defBody s__law_long) (defScope s__law_long) [] [] f fd) (g : mg "_law_long" = some (.ref f)) : Cal P w K mg base 2 "_law_long" ct__law_long :=
  ⟨f, fd, ["_law_d", "_law_e"], def_ok (k := 1) F sc__law_long len__law_long sem__law_long (fun cdv A outer s H E hr => der__law_long T c__law_drawn cdv A outer s H E hr), g, F.kp, FunD.bindsN F fun _ _ _ _ _ _ us hl => match us, hl with | [_, _], _ => rfl⟩

abbrev s__law_spoilt : Stmt := topS 12
theorem sc__law_spoilt : FnScope ["_law_d", "_law_e", "_law_size", "_law_word_here", "_law_at", "_law_past"] ["_law_d", "_law_e"] (defScope s__law_spoilt) := ⟨rfl, rfl, rfl, by decide +kernel, rfl, by decide +kernel, by decide +kernel⟩
theorem der__law_spoilt (T : Tx K mg) (c__law_drawn : Cal P w K mg base 1 "_law_drawn" ct__law_drawn) (c__law_sign : Cal P w K mg base 1 "_law_sign" ct__law_sign) {f : Addr} (cdv : Value) (A : Around) (outer : List PySem.Env) (s : Shared) (H : Hp) (E : XK) (hr : Room 1 (A.deeper (envOfC "_law_spoilt" (defScope s__law_spoilt) s.heap.objs.size f cdv))) :
    DSs (cxOf CX0 P w K mg base ["_law_d", "_law_e", "_law_size", "_law_word_here", "_law_at", "_law_past"] "_law_spoilt" (defScope s__law_spoilt) f cdv A outer s H E).nox E0 (defBody s__law_spoilt) w__law_spoilt :=
  have S := sc__law_spoilt
  (dss_cons (ds_set (i := 2) S.nd rfl (.inl rfl) (de_op dop_mod (de_op dop_div (de_var (i := 0) rfl (.inl rfl)) de_int) de_int))
  (dss_cons (ds_set (i := 3) S.nd rfl (.inl rfl) (de_op dop_add (de_ix de_str (de_op dop_mod (de_op dop_div (de_var (i := 0) rfl (.inl rfl)) de_int) de_int)) (de_call c__law_drawn (hr.mono (by decide)) rfl (da_cons (de_var (i := 1) rfl (.inl rfl)) (da_cons (de_var (i := 2) rfl (.inl rfl)) (da_cons de_str da_nil))))))
  (dss_cons (ds_if (dt_cmp (dop_eq hr.units) (de_op dop_mod (de_var (i := 1) rfl (.inl rfl)) de_int) de_int (nomark _)) (dss_one (ds_set (i := 3) S.nd rfl (.inl rfl) (de_op dop_add (de_ix de_str (de_op dop_mod (de_op dop_div (de_var (i := 0) rfl (.inl rfl)) de_int) de_int)) (de_call c__law_drawn (hr.mono (by decide)) rfl (da_cons (de_var (i := 1) rfl (.inl rfl)) (da_cons (de_var (i := 2) rfl (.inl rfl)) (da_cons de_str da_nil))))))) dss_nil)
  (dss_cons (ds_set (i := 4) S.nd rfl (.inl rfl) (de_op dop_mod (de_op dop_div (de_var (i := 1) rfl (.inl rfl)) de_int) (de_op dop_add (de_var (i := 2) rfl (.inl rfl)) de_int)))
  (dss_cons (ds_set (i := 5) S.nd rfl (.inl rfl) (de_op dop_add (de_var (i := 4) rfl (.inl rfl)) (de_op dop_mod (de_op dop_div (de_var (i := 1) rfl (.inl rfl)) de_int) de_int)))
  (dss_one (ds_ret (de_op dop_add (de_op dop_add (de_slice (de_var (i := 3) rfl (.inl rfl)) do_none (do_some (de_var (i := 4) rfl (.inl rfl)))) (de_call c__law_sign (hr.mono (by decide)) rfl (da_cons (de_op dop_div (de_var (i := 1) rfl (.inl rfl)) de_int) da_nil))) (de_slice (de_var (i := 3) rfl (.inl rfl)) (do_some (de_var (i := 5) rfl (.inl rfl))) do_none)))))))))
theorem fn__law_spoilt (T : Tx K mg) (c__law_drawn : Cal P w K mg base 1 "_law_drawn" ct__law_drawn) (c__law_sign : Cal P w K mg base 1 "_law_sign" ct__law_sign) {f : Addr} {fd : FuncData} (F : FunD K "_law_spoilt" "_law_spoilt" (defArgs s__law_spoilt) (defBody s__law_spoilt) (defScope s__law_spoilt) [] [] f fd) (g : mg "_law_spoilt" = some (.ref f)) : Cal P w K mg base 2 "_law_spoilt" ct__law_spoilt :=
  ⟨f, fd, ["_law_d", "_law_e"], def_ok (k := 1) F sc__law_spoilt len__law_spoilt sem__law_spoilt (fun cdv A outer s H E hr => der__law_spoilt T c__law_drawn c__law_sign cdv A outer s H E hr), g, F.kp, FunD.bindsN F fun _ _ _ _ _ _ us hl => match us, hl with | [_, _], _ => rfl⟩

abbrev s__law_word : Stmt := topS 13
theorem sc__law_word : FnScope ["_law_cell", "_law_k", "_law_d", "_law_e", "_law_minus", "_law_some"] ["_law_cell", "_law_k"] (defScope s__law_word) := ⟨rfl, rfl, rfl, by decide +kernel, rfl, by decide +kernel, by decide +kernel⟩
theorem der__law_word (T : Tx K mg) (c__law_drawn : Cal P w K mg base 1 "_law_drawn" ct__law_drawn) (c__law_long : Cal P w K mg base 2 "_law_long" ct__law_long) (c__law_spoilt : Cal P w K mg base 2 "_law_spoilt" ct__law_spoilt) {f : Addr} (cdv : Value) (A : Around) (outer : List PySem.Env) (s : Shared) (H : Hp) (E : XK) (hr : Room 2 (A.deeper (envOfC "_law_word" (defScope s__law_word) s.heap.objs.size f cdv))) :
    DSs (cxOf CX0 P w K mg base ["_law_cell", "_law_k", "_law_d", "_law_e", "_law_minus", "_law_some"] "_law_word" (defScope s__law_word) f cdv A outer s H E).nox E0 (defBody s__law_word) w__law_word :=
  have S := sc__law_word
  (dss_cons (ds_set (i := 2) S.nd rfl (.inl rfl) (de_op dop_mod (de_op dop_mul (de_op dop_add (de_var (i := 0) rfl (.inl rfl)) (de_op dop_mul (de_var (i := 1) rfl (.inl rfl)) (de_var (i := 1) rfl (.inl rfl)))) de_int) de_int))
  (dss_cons (ds_set (i := 3) S.nd rfl (.inl rfl) (de_op dop_mod (de_op dop_mul (de_op dop_add (de_op dop_add (de_var (i := 0) rfl (.inl rfl)) (de_op dop_mul de_int (de_var (i := 1) rfl (.inl rfl)))) de_int) de_int) de_int))
  (dss_cons (ds_if (dt_cmp (dop_eq hr.units) (de_op dop_mod (de_var (i := 2) rfl (.inl rfl)) de_int) de_int (nomark _)) (dss_one (ds_ret (de_call c__law_drawn (hr.mono (by decide)) rfl (da_cons (de_var (i := 3) rfl (.inl rfl)) (da_cons (de_op dop_mod (de_op dop_div (de_var (i := 2) rfl (.inl rfl)) de_int) de_int) (da_cons de_str da_nil)))))) dss_nil)
  (dss_cons (ds_if (dt_cmp (dop_eq hr.units) (de_op dop_mod (de_var (i := 2) rfl (.inl rfl)) de_int) de_int (nomark _)) (dss_cons (ds_set (i := 4) S.nd rfl (.inl rfl) (de_slice de_str do_none (do_some (de_t1 db_int rfl T.f_int (by decide +kernel) (de_cmp (dop_eq hr.units) (de_op dop_mod (de_var (i := 3) rfl (.inl rfl)) de_int) de_int (nomark _))))))
  (dss_one (ds_ret (de_op dop_add (de_var (i := 4) rfl (.inl rfl)) (de_call c__law_drawn (hr.mono (by decide)) rfl (da_cons (de_var (i := 3) rfl (.inl rfl)) (da_cons (de_op dop_mod (de_op dop_div (de_var (i := 2) rfl (.inl rfl)) de_int) de_int) (da_cons de_str da_nil)))))))) dss_nil)
  (dss_cons (ds_if (dt_cmp (dop_eq hr.units) (de_op dop_mod (de_var (i := 2) rfl (.inl rfl)) de_int) de_int (nomark _)) (dss_one (ds_ret (de_call c__law_long (hr.mono (by decide)) rfl (da_cons (de_var (i := 2) rfl (.inl rfl)) (da_cons (de_var (i := 3) rfl (.inl rfl)) da_nil))))) dss_nil)
  (dss_cons (ds_if (dt_cmp (dop_eq hr.units) (de_op dop_mod (de_var (i := 2) rfl (.inl rfl)) de_int) de_int (nomark _)) (dss_cons (ds_set (i := 5) S.nd rfl (.inl rfl) (de_lst (da_cons de_str (da_cons de_str (da_cons de_str (da_cons de_str (da_cons de_str (da_cons de_str (da_cons de_str (da_cons de_str (da_cons de_str (da_cons de_str (da_cons de_str (da_cons de_str (da_cons de_str (da_cons de_str da_nil))))))))))))))))
  (dss_one (ds_ret (de_ix (de_var (i := 5) rfl (.inl rfl)) (de_op dop_mod (de_op dop_div (de_var (i := 2) rfl (.inl rfl)) de_int) de_int))))) dss_nil)
  (dss_one (ds_ret (de_call c__law_spoilt (hr.mono (by decide)) rfl (da_cons (de_var (i := 2) rfl (.inl rfl)) (da_cons (de_var (i := 3) rfl (.inl rfl)) da_nil)))))))))))
theorem fn__law_word (T : Tx K mg) (c__law_drawn : Cal P w K mg base 1 "_law_drawn" ct__law_drawn) (c__law_long : Cal P w K mg base 2 "_law_long" ct__law_long) (c__law_spoilt : Cal P w K mg base 2 "_law_spoilt" ct__law_spoilt) {f : Addr} {fd : FuncData} (F : FunD K "_law_word" "_law_word" (defArgs s__law_word) (defBody s__law_word) (defScope s__law_word) [] [] f fd) (g : mg "_law_word" = some (.ref f)) : Cal P w K mg base 3 "_law_word" ct__law_word :=
  ⟨f, fd, ["_law_cell", "_law_k"], def_ok (k := 2) F sc__law_word len__law_word sem__law_word (fun cdv A outer s H E hr => der__law_word T c__law_drawn c__law_long c__law_spoilt cdv A outer s H E hr), g, F.kp, FunD.bindsN F fun _ _ _ _ _ _ us hl => match us, hl with | [_, _], _ => rfl⟩

abbrev s__law_name_due : Stmt := topS 14
theorem sc__law_name_due : FnScope ["_law_word_here", "_law_sign_here"] ["_law_word_here"] (defScope s__law_name_due) := ⟨rfl, rfl, rfl, by decide +kernel, rfl, by decide +kernel, by decide +kernel⟩
theorem der__law_name_due (T : Tx K mg)  {f : Addr} (cdv : Value) (A : Around) (outer : List PySem.Env) (s : Shared) (H : Hp) (E : XK) (hr : Room 0 (A.deeper (envOfC "_law_name_due" (defScope s__law_name_due) s.heap.objs.size f cdv))) :
    DSs (cxOf CX0 P w K mg base ["_law_word_here", "_law_sign_here"] "_law_name_due" (defScope s__law_name_due) f cdv A outer s H E).nox E0 (defBody s__law_name_due) w__law_name_due :=
  have S := sc__law_name_due
  (dss_cons (ds_if (dt_not (dt_chain dop_le dop_le de_int (de_b1 db_len rfl T.f_len (by decide +kernel) (de_var (i := 0) rfl (.inl rfl))) de_int)) (dss_one (ds_ret de_bl)) dss_nil)
  (dss_cons (ds_for PassesOwn.never rfl (di_str (de_var (i := 0) rfl (.inl rfl))) (dg_name (i := 1) S.nd rfl (.inl rfl)) (dss_one (ds_if (dt_not (dt_w (dw_or (dt_chain dop_le dop_le de_str (de_var (i := 1) rfl (.inl rfl)) de_str) (dw_or1 (dt_chain dop_le dop_le de_str (de_var (i := 1) rfl (.inl rfl)) de_str))))) (dss_one (ds_ret de_bl)) dss_nil)))
  (dss_one (ds_ret (de_chain dop_le dop_le de_str (de_ix (de_var (i := 0) rfl (.inl rfl)) de_int) de_str)))))
theorem fn__law_name_due (T : Tx K mg)  {f : Addr} {fd : FuncData} (F : FunD K "_law_name_due" "_law_name_due" (defArgs s__law_name_due) (defBody s__law_name_due) (defScope s__law_name_due) [] [] f fd) (g : mg "_law_name_due" = some (.ref f)) : Cal P w K mg base 1 "_law_name_due" ct__law_name_due :=
  ⟨f, fd, ["_law_word_here"], def_ok (k := 0) F sc__law_name_due len__law_name_due sem__law_name_due (fun cdv A outer s H E hr => der__law_name_due T  cdv A outer s H E hr), g, F.kp, FunD.bindsN F fun _ _ _ _ _ _ us hl => match us, hl with | [_], _ => rfl⟩

abbrev s__law_number_due : Stmt := topS 15
theorem sc__law_number_due : FnScope ["_law_word_here", "_law_figures", "_law_sign_here"] ["_law_word_here"] (defScope s__law_number_due) := ⟨rfl, rfl, rfl, by decide +kernel, rfl, by decide +kernel, by decide +kernel⟩
theorem der__law_number_due (T : Tx K mg)  {f : Addr} (cdv : Value) (A : Around) (outer : List PySem.Env) (s : Shared) (H : Hp) (E : XK) (hr : Room 0 (A.deeper (envOfC "_law_number_due" (defScope s__law_number_due) s.heap.objs.size f cdv))) :
    DSs (cxOf CX0 P w K mg base ["_law_word_here", "_law_figures", "_law_sign_here"] "_law_number_due" (defScope s__law_number_due) f cdv A outer s H E).nox E0 (defBody s__law_number_due) w__law_number_due :=
  have S := sc__law_number_due
  (dss_cons (ds_set (i := 1) S.nd rfl (.inl rfl) (de_var (i := 0) rfl (.inl rfl)))
  (dss_cons (ds_if (dt_cmp (dop_eq hr.units) (de_slice (de_var (i := 0) rfl (.inl rfl)) do_none (do_some de_int)) de_str (nomark _)) (dss_one (ds_set (i := 1) S.nd rfl (.inl rfl) (de_slice (de_var (i := 0) rfl (.inl rfl)) (do_some de_int) do_none))) dss_nil)
  (dss_cons (ds_if (dt_not (dt_chain dop_le dop_le de_int (de_b1 db_len rfl T.f_len (by decide +kernel) (de_var (i := 1) rfl (.inl rfl))) de_int)) (dss_one (ds_ret de_bl)) dss_nil)
  (dss_cons (ds_for PassesOwn.never rfl (di_str (de_var (i := 1) rfl (.inl rfl))) (dg_name (i := 2) S.nd rfl (.inl rfl)) (dss_one (ds_if (dt_not (dt_chain dop_le dop_le de_str (de_var (i := 2) rfl (.inl rfl)) de_str)) (dss_one (ds_ret de_bl)) dss_nil)))
  (dss_one (ds_ret (de_cmp (dop_eq hr.units) (de_t1 db_str rfl T.f_str (by decide +kernel) (de_t1 db_int rfl T.f_int (by decide +kernel) (de_var (i := 0) rfl (.inl rfl)))) (de_var (i := 0) rfl (.inl rfl)) (nomark _))))))))
theorem fn__law_number_due (T : Tx K mg)  {f : Addr} {fd : FuncData} (F : FunD K "_law_number_due" "_law_number_due" (defArgs s__law_number_due) (defBody s__law_number_due) (defScope s__law_number_due) [] [] f fd) (g : mg "_law_number_due" = some (.ref f)) : Cal P w K mg base 1 "_law_number_due" ct__law_number_due :=
  ⟨f, fd, ["_law_word_here"], def_ok (k := 0) F sc__law_number_due len__law_number_due sem__law_number_due (fun cdv A outer s H E hr => der__law_number_due T  cdv A outer s H E hr), g, F.kp, FunD.bindsN F fun _ _ _ _ _ _ us hl => match us, hl with | [_], _ => rfl⟩

abbrev s_law : Stmt := topS 16
theorem sc_law : FnScope ["_law_script", "_law_cells", "_law_k", "_law_word_here", "_law_found"] ["_law_script"] (defScope s_law) := ⟨rfl, rfl, rfl, by decide +kernel, rfl, by decide +kernel, by decide +kernel⟩
theorem der_law (T : Tx K mg) (c__law_name_due : Cal P w K mg base 1 "_law_name_due" ct__law_name_due) (c__law_number_due : Cal P w K mg base 1 "_law_number_due" ct__law_number_due) (c__law_word : Cal P w K mg base 3 "_law_word" ct__law_word) (c_is_name : Cal P w K mg base 2 "is_name" ct_is_name) (c_is_number : Cal P w K mg base 2 "is_number" ct_is_number) {f : Addr} (cdv : Value) (A : Around) (outer : List PySem.Env) (s : Shared) (H : Hp) (E : XK) (hr : Room 3 (A.deeper (envOfC "law" (defScope s_law) s.heap.objs.size f cdv))) :
    DSs (cxOf CX0 P w K mg base ["_law_script", "_law_cells", "_law_k", "_law_word_here", "_law_found"] "law" (defScope s_law) f cdv A outer s H E).nox E0 (defBody s_law) w_law :=
  have S := sc_law
  (dss_cons (ds_set (i := 1) S.nd rfl (.inl rfl) (de_op dop_add (de_slice (de_var (i := 0) rfl (.inl rfl)) do_none (do_some de_int)) (de_lst (da_cons (de_op dop_mod (de_b1 db_len rfl T.f_len (by decide +kernel) (de_var (i := 0) rfl (.inl rfl))) de_int) da_nil))))
  (dss_cons (ds_for PassesOwn.never rfl (di_range1 rfl T.f_range (da_cons (de_b1 db_len rfl T.f_len (by decide +kernel) (de_var (i := 1) rfl (.inl rfl))) da_nil)) (dg_name (i := 2) S.nd rfl (.inl rfl)) (dss_cons (ds_set (i := 3) S.nd rfl (.inl rfl) (de_call c__law_word (hr.mono (by decide)) rfl (da_cons (de_ix (de_var (i := 1) rfl (.inl rfl)) (de_var (i := 2) rfl (.inl rfl))) (da_cons (de_var (i := 2) rfl (.inl rfl)) da_nil))))
  (dss_cons (ds_set (i := 4) S.nd rfl (.inl rfl) (de_call c_is_name (hr.mono (by decide)) rfl (da_cons (de_var (i := 3) rfl (.inl rfl)) da_nil)))
  (dss_cons (ds_if (dt_w (dw_or (dt_not (dt_val (de_isi rfl T.f_isinstance (by decide +kernel) rfl T.f_bool (by decide +kernel) (de_var (i := 4) rfl (.inl rfl))))) (dw_or1 (dt_cmp (dop_ne hr.units) (de_var (i := 4) rfl (.inl rfl)) (de_call c__law_name_due (hr.mono (by decide)) rfl (da_cons (de_var (i := 3) rfl (.inl rfl)) da_nil)) (nomark _))))) (dss_one (ds_ret de_bl)) dss_nil)
  (dss_cons (ds_set (i := 4) S.nd rfl (.inl rfl) (de_call c_is_number (hr.mono (by decide)) rfl (da_cons (de_var (i := 3) rfl (.inl rfl)) da_nil)))
  (dss_one (ds_if (dt_w (dw_or (dt_not (dt_val (de_isi rfl T.f_isinstance (by decide +kernel) rfl T.f_bool (by decide +kernel) (de_var (i := 4) rfl (.inl rfl))))) (dw_or1 (dt_cmp (dop_ne hr.units) (de_var (i := 4) rfl (.inl rfl)) (de_call c__law_number_due (hr.mono (by decide)) rfl (da_cons (de_var (i := 3) rfl (.inl rfl)) da_nil)) (nomark _))))) (dss_one (ds_ret de_bl)) dss_nil)))))))
  (dss_one (ds_ret de_bl))))
theorem fn_law (T : Tx K mg) (c__law_name_due : Cal P w K mg base 1 "_law_name_due" ct__law_name_due) (c__law_number_due : Cal P w K mg base 1 "_law_number_due" ct__law_number_due) (c__law_word : Cal P w K mg base 3 "_law_word" ct__law_word) (c_is_name : Cal P w K mg base 2 "is_name" ct_is_name) (c_is_number : Cal P w K mg base 2 "is_number" ct_is_number) {f : Addr} {fd : FuncData} (F : FunD K "law" "law" (defArgs s_law) (defBody s_law) (defScope s_law) [] [] f fd) (g : mg "law" = some (.ref f)) : Cal P w K mg base 4 "law" ct_law :=
  ⟨f, fd, ["_law_script"], def_ok (k := 3) F sc_law len_law sem_law (fun cdv A outer s H E hr => der_law T c__law_name_due c__law_number_due c__law_word c_is_name c_is_number cdv A outer s H E hr), g, F.kp, FunD.bindsN F fun _ _ _ _ _ _ us hl => match us, hl with | [_], _ => rfl⟩
end

theorem law_sp {K : PySem.W.Frag} {H : Hp} {a : Addr} {ns : List Int} (hl : ns.length ≤ 63) (hS : SqL K H a (ns.map V.int)) : spC K ct_law [.ref a] H (fun v _ => v = .bl true) (fun _ _ _ => False) :=
  ⟨H, [.rol (ns.map .int)], fun kd d => kd = .fz ∧ d = .bl true, noX, .refl H, ⟨_, _, rfl, ⟨a, _, rfl, hS, Dats.of_ints⟩, rfl⟩, ⟨ns, rfl, hl, rfl, rfl⟩, fun kd v d F' H' _ r q => by
    obtain ⟨rfl, rfl⟩ := q
    exact r, ⟨fun _ _ _ _ _ _ _ p => False.elim p⟩⟩

def d_signs_from : He.DefD := ⟨("signs_from", none), "signs_from", "signs_from", defArgs s_signs_from, defBody s_signs_from, defScope s_signs_from, [], []⟩
def d_is_name : He.DefD := ⟨("is_name", none), "is_name", "is_name", defArgs s_is_name, defBody s_is_name, defScope s_is_name, [], []⟩
def d_is_number : He.DefD := ⟨("is_number", none), "is_number", "is_number", defArgs s_is_number, defBody s_is_number, defScope s_is_number, [], []⟩
def d__law_sign : He.DefD := ⟨("_law_sign", none), "_law_sign", "_law_sign", defArgs s__law_sign, defBody s__law_sign, defScope s__law_sign, [], []⟩
def d__law_drawn : He.DefD := ⟨("_law_drawn", none), "_law_drawn", "_law_drawn", defArgs s__law_drawn, defBody s__law_drawn, defScope s__law_drawn, [], []⟩
def d__law_long : He.DefD := ⟨("_law_long", none), "_law_long", "_law_long", defArgs s__law_long, defBody s__law_long, defScope s__law_long, [], []⟩
def d__law_spoilt : He.DefD := ⟨("_law_spoilt", none), "_law_spoilt", "_law_spoilt", defArgs s__law_spoilt, defBody s__law_spoilt, defScope s__law_spoilt, [], []⟩
def d__law_word : He.DefD := ⟨("_law_word", none), "_law_word", "_law_word", defArgs s__law_word, defBody s__law_word, defScope s__law_word, [], []⟩
def d__law_name_due : He.DefD := ⟨("_law_name_due", none), "_law_name_due", "_law_name_due", defArgs s__law_name_due, defBody s__law_name_due, defScope s__law_name_due, [], []⟩
def d__law_number_due : He.DefD := ⟨("_law_number_due", none), "_law_number_due", "_law_number_due", defArgs s__law_number_due, defBody s__law_number_due, defScope s__law_number_due, [], []⟩
def d_law : He.DefD := ⟨("law", none), "law", "law", defArgs s_law, defBody s_law, defScope s_law, [], []⟩
def fn : List He.DefD := [d_signs_from, d_is_name, d_is_number, d__law_sign, d__law_drawn, d__law_long, d__law_spoilt, d__law_word, d__law_name_due, d__law_number_due, d_law]
def fa : List He.Fa := [.glo "signs_from", .glo "is_name", .glo "is_number", .glo "_law_sign", .glo "_law_drawn", .glo "_law_long", .glo "_law_spoilt", .glo "_law_word", .glo "_law_name_due", .glo "_law_number_due", .glo "law", .free "bool", .free "int", .free "isinstance", .free "len", .free "range", .free "str", .str "FIGURES" "0123456789", .int "NAME_SIGNS" (12), .int "NUMBER_FIGURES" (60), .str "SMALL" "abcdefghijklmnopqrstuvwxyz"]
abbrev R : PySem.W.OpenRow := PySem.W.OpenLaw.row PySem.Challenge.rw_faultwhy_k01_words
abbrev hk : PySem.W.Hook := He.hookD 4 fa fn
def ob (s : PySem.W.SharedT) : He.AlD := He.obsDG 4 fa fn (HandSHeadRun.getT s)
theorem ob_eq (s : PySem.W.SharedT) : ob s = hk.obs s.abs := He.obsDG_eq (HandSHeadRun.getT_eq s)
def loose : List Str := ["SMALL", "FIGURES", "NAME_SIGNS", "NUMBER_FIGURES", "signs_from", "is_name", "is_number", "_law_sign", "_law_drawn", "_law_long", "_law_spoilt", "_law_word", "_law_name_due", "_law_number_due"]
theorem run (w : World) : HandSHeadRun.RunEq R (PySem.W.view R.prog [16]) hk ob 800 ["SMALL", "FIGURES", "NAME_SIGNS", "NUMBER_FIGURES", "signs_from", "is_name", "is_number", "_law_sign", "_law_drawn", "_law_long", "_law_spoilt", "_law_word", "_law_name_due", "_law_number_due"] w := by
  intro os
  kernel_rfl
theorem facts {P : Program} {w : World} {K : PySem.W.Frag} {h : Heap} {mg : Str → Option Value} {f : Addr} (X : K.In h) (G : h.Ns mainGlobals mg) (hfa : mg ("law" : Str) = some (.ref f)) (c : He.SaysD fa fn K) :
    ∃ fd : FuncData, (∀ (s : Shared) (v : Value), BindsTo s fd ⟨[v], []⟩ [("_law_script", v)]) ∧ ∀ base : Heap, K.In base → base.Ns mainGlobals mg → FnOk P w K mg base CX0 4 f fd ["_law_script"] (spC K ct_law) := by
  obtain ⟨fd_signs_from, F_signs_from⟩ := c.def_ 0 (d := d_signs_from) rfl
  obtain ⟨fd_is_name, F_is_name⟩ := c.def_ 1 (d := d_is_name) rfl
  obtain ⟨fd_is_number, F_is_number⟩ := c.def_ 2 (d := d_is_number) rfl
  obtain ⟨fd__law_sign, F__law_sign⟩ := c.def_ 3 (d := d__law_sign) rfl
  obtain ⟨fd__law_drawn, F__law_drawn⟩ := c.def_ 4 (d := d__law_drawn) rfl
  obtain ⟨fd__law_long, F__law_long⟩ := c.def_ 5 (d := d__law_long) rfl
  obtain ⟨fd__law_spoilt, F__law_spoilt⟩ := c.def_ 6 (d := d__law_spoilt) rfl
  obtain ⟨fd__law_word, F__law_word⟩ := c.def_ 7 (d := d__law_word) rfl
  obtain ⟨fd__law_name_due, F__law_name_due⟩ := c.def_ 8 (d := d__law_name_due) rfl
  obtain ⟨fd__law_number_due, F__law_number_due⟩ := c.def_ 9 (d := d__law_number_due) rfl
  obtain ⟨fd_law, F_law⟩ := c.def_ 10 (d := d_law) rfl
  have T : Tx K mg := ⟨He.free_ok X G (c.fact 11 (f := .free "bool") rfl), He.free_ok X G (c.fact 12 (f := .free "int") rfl), He.free_ok X G (c.fact 13 (f := .free "isinstance") rfl), He.free_ok X G (c.fact 14 (f := .free "len") rfl), He.free_ok X G (c.fact 15 (f := .free "range") rfl), He.free_ok X G (c.fact 16 (f := .free "str") rfl), (Exists.elim (He.str_ok X G (c.fact 17 (f := .str "FIGURES" "0123456789") rfl)) fun _ e => ⟨_, e, _, rfl⟩), (Exists.elim (He.int_ok X G (c.fact 18 (f := .int "NAME_SIGNS" (12)) rfl)) fun _ e => ⟨_, e, _, rfl⟩), (Exists.elim (He.int_ok X G (c.fact 19 (f := .int "NUMBER_FIGURES" (60)) rfl)) fun _ e => ⟨_, e, _, rfl⟩), (Exists.elim (He.str_ok X G (c.fact 20 (f := .str "SMALL" "abcdefghijklmnopqrstuvwxyz") rfl)) fun _ e => ⟨_, e, _, rfl⟩)⟩
  have c_signs_from : ∀ base, Cal P w K mg base 1 "signs_from" ct_signs_from := fun base => fn_signs_from T  F_signs_from (He.glo_ok X G (c.fact 0 (f := .glo "signs_from") rfl))
  have c__law_sign : ∀ base, Cal P w K mg base 1 "_law_sign" ct__law_sign := fun base => fn__law_sign T  F__law_sign (He.glo_ok X G (c.fact 3 (f := .glo "_law_sign") rfl))
  have c__law_drawn : ∀ base, Cal P w K mg base 1 "_law_drawn" ct__law_drawn := fun base => fn__law_drawn T  F__law_drawn (He.glo_ok X G (c.fact 4 (f := .glo "_law_drawn") rfl))
  have c__law_name_due : ∀ base, Cal P w K mg base 1 "_law_name_due" ct__law_name_due := fun base => fn__law_name_due T  F__law_name_due (He.glo_ok X G (c.fact 8 (f := .glo "_law_name_due") rfl))
  have c__law_number_due : ∀ base, Cal P w K mg base 1 "_law_number_due" ct__law_number_due := fun base => fn__law_number_due T  F__law_number_due (He.glo_ok X G (c.fact 9 (f := .glo "_law_number_due") rfl))
  have c_is_name : ∀ base, Cal P w K mg base 2 "is_name" ct_is_name := fun base => fn_is_name T (c_signs_from base) F_is_name (He.glo_ok X G (c.fact 1 (f := .glo "is_name") rfl))
  have c_is_number : ∀ base, Cal P w K mg base 2 "is_number" ct_is_number := fun base => fn_is_number T (c_signs_from base) F_is_number (He.glo_ok X G (c.fact 2 (f := .glo "is_number") rfl))
  have c__law_long : ∀ base, Cal P w K mg base 2 "_law_long" ct__law_long := fun base => fn__law_long T (c__law_drawn base) F__law_long (He.glo_ok X G (c.fact 5 (f := .glo "_law_long") rfl))
  have c__law_spoilt : ∀ base, Cal P w K mg base 2 "_law_spoilt" ct__law_spoilt := fun base => fn__law_spoilt T (c__law_drawn base) (c__law_sign base) F__law_spoilt (He.glo_ok X G (c.fact 6 (f := .glo "_law_spoilt") rfl))
  have c__law_word : ∀ base, Cal P w K mg base 3 "_law_word" ct__law_word := fun base => fn__law_word T (c__law_drawn base) (c__law_long base) (c__law_spoilt base) F__law_word (He.glo_ok X G (c.fact 7 (f := .glo "_law_word") rfl))
  have e := hfa.symm.trans (He.glo_ok X G (c.fact 10 (f := .glo "law") rfl))
  cases e
  have b := FunD.bindsA (ps := ["_law_script"]) F_law fun _ _ _ _ _ _ us hl => match us, hl with | [_], _ => rfl
  exact ⟨fd_law, fun s v => b s [v] rfl, fun base _ _ => def_ok (k := 3) F_law sc_law len_law sem_law (fun cdv A outer s H E hr => der_law T (c__law_name_due base) (c__law_number_due base) (c__law_word base) (c_is_name base) (c_is_number base) cdv A outer s H E hr)⟩
end Py
open PySem PySem.W PySem.Calls PyProof.Rows
theorem PySem.Challenge.cw_faultwhy_k01_words_holds : PySem.Challenge.rw_faultwhy_k01_words.Holds := by
  w_on; o_law
  refine HandSHeadRun.head_any (r := OpenLaw.row PySem.Challenge.rw_faultwhy_k01_words) (q := view (OpenLaw.row PySem.Challenge.rw_faultwhy_k01_words).prog [16]) (H := Py.hk) (ob := Py.ob) (M := 800) (loose := ["SMALL", "FIGURES", "NAME_SIGNS", "NUMBER_FIGURES", "signs_from", "is_name", "is_number", "_law_sign", "_law_drawn", "_law_long", "_law_spoilt", "_law_word", "_law_name_due", "_law_number_due"]) (d := HandSHeadRun.topDef (OpenLaw.row PySem.Challenge.rw_faultwhy_k01_words).prog 16) (kwd := []) Py.ob_eq
    (by kernel_rfl) (fun s => by kernel_rfl) Py.run (by kernel_rfl) (by kernel_rfl) (by kernel_rfl) (by rfl) (by first | assumption | decide +kernel) (by decide +kernel) ⟨rfl, rfl, rfl, rfl, rfl, by decide +kernel⟩ ?hw ?hc
  case hw => w_witness2
  case hc =>
    refine L2.walk_ofE (l := PySem.Challenge.rw_faultwhy_k01_words) (n := 63) (k := 4) (x := "_law_script") (CX := L2.CX0) rfl (by decide) (by kernel_rfl) ⟨rfl, by decide, by decide⟩ ?F (fun _ _ _ _ z => z)
    intro w mg fa h Y G hmg0
    obtain ⟨K, KX, c⟩ := Y
    have hmg : mg ("law" : PySem.Str) = some (.ref fa) := by
      have e : (HandSHeadRun.topDef (OpenLaw.row PySem.Challenge.rw_faultwhy_k01_words).prog 16).name = ("law" : PySem.Str) := by kernel_rfl
      rw [← e]
      exact hmg0
    obtain ⟨fd, hb, hF⟩ := Py.facts (P := (PySem.Challenge.rw_faultwhy_k01_words).prog) (w := w) KX G hmg c
    refine ⟨K, fd, Py.spC K Py.ct_law, KX, hb, fun H a ns hl _ hS => ?_, hF⟩
    exact Py.law_sp hl hS
