import PyProof.Rows.All
import Wide.All
import OpenK.AllK
import Wide.FinOn
import HandS.ForMost
import HandS.Walk
import HandS.Deep
import HandS.Wide
import HandS.IsInst
import HandS.ExcCtx
import HandS.HotCalls
import HandS.Style
import HandS.Rev
import HandS.SetFor
import HandS.ExcIs
import HandS.Zip
import PySem.Challenge.RW_plustables_k07_whole_led_into_one_anothe
set_option Elab.async false
set_option linter.all false
set_option maxRecDepth 100000
set_option maxHeartbeats 2000000
/-! PL: a layer of pure meaning over the hand layer. Part a: data, how they lie in the heap, who owns them. -/
namespace PL
open PySem PySem.Spec PyProof.Rows L2

inductive D where
  | non | bl (b : Bool) | int (i : Int) | str (s : Str) | lst (xs : List D) | tup (xs : List D) | scr (ns : List Int) | ex (a : Addr) (c : Str)

inductive Lv where
  | sh | out | full
  deriving DecidableEq

mutual
def flatD : D → Bool
  | .lst _ => false
  | .ex _ _ => false
  | .scr _ => false
  | .tup xs => flatA xs
  | .non => true
  | .bl _ => true
  | .int _ => true
  | .str _ => true
def flatA : List D → Bool
  | [] => true
  | x :: xs => flatD x && flatA xs
end

mutual
def Fl (K : PySem.W.Frag) (H : Hp) : D → V → Prop
  | .non, v => v = .non
  | .bl b, v => v = .bl b
  | .int i, v => v = .int i
  | .str s, v => v = .str s
  | .tup ds, v => ∃ a vs, v = .ref a ∧ SqT K H a vs ∧ FlA K H ds vs
  | .lst _, _ => False
  | .ex _ _, _ => False
  | .scr _, _ => False
def FlA (K : PySem.W.Frag) (H : Hp) : List D → List V → Prop
  | [], vs => vs = []
  | d :: ds, vs => ∃ x xs, vs = x :: xs ∧ Fl K H d x ∧ FlA K H ds xs
end

mutual
/-- shared: lists lie in G; flat things in H -/
def Rq (K : PySem.W.Frag) (G H : Hp) : D → V → Prop
  | .lst ds, v => ∃ a vs, v = .ref a ∧ G a = some (.lst vs) ∧ RqA K G H ds vs
  | .ex a _, v => v = .ref a
  | .scr ns, v => ∃ a, v = .ref a ∧ SqL K G a (ns.map V.int)
  | .non, v => v = .non
  | .bl b, v => v = .bl b
  | .int i, v => v = .int i
  | .str s, v => v = .str s
  | .tup ds, v => ∃ a vs, v = .ref a ∧ SqT K H a vs ∧ FlA K H ds vs
def RqA (K : PySem.W.Frag) (G H : Hp) : List D → List V → Prop
  | [], vs => vs = []
  | d :: ds, vs => ∃ x xs, vs = x :: xs ∧ Rq K G H d x ∧ RqA K G H ds xs
end

mutual
/-- owned wholly: a tree whose lists stand at A, once each -/
def Tr (K : PySem.W.Frag) (H : Hp) : D → V → (Addr → Prop) → Prop
  | .lst ds, v, A => ∃ p vs B, v = .ref p ∧ H p = some (.lst vs) ∧ TrA K H ds vs B ∧ ¬ B p ∧ ∀ a, A a ↔ (a = p ∨ B a)
  | .ex _ _, _, _ => False
  | .scr _, _, _ => False
  | .non, v, A => v = .non ∧ ∀ a, ¬ A a
  | .bl b, v, A => v = .bl b ∧ ∀ a, ¬ A a
  | .int i, v, A => v = .int i ∧ ∀ a, ¬ A a
  | .str s, v, A => v = .str s ∧ ∀ a, ¬ A a
  | .tup ds, v, A => (∃ a vs, v = .ref a ∧ SqT K H a vs ∧ FlA K H ds vs) ∧ ∀ a, ¬ A a
def TrA (K : PySem.W.Frag) (H : Hp) : List D → List V → (Addr → Prop) → Prop
  | [], vs, A => vs = [] ∧ ∀ a, ¬ A a
  | d :: ds, vs, A => ∃ x xs B C, vs = x :: xs ∧ Tr K H d x B ∧ TrA K H ds xs C ∧ (∀ a, B a → C a → False) ∧ ∀ a, A a ↔ (B a ∨ C a)
end

/-- tuples and known things stay -/
structure Stay (H H' : Hp) : Prop where
  tup : ∀ a vs, H a = some (.tup vs) → H' a = some (.tup vs)
  frz : ∀ a o u, H a = some (.frz o u) → H' a = some (.frz o u)
theorem Stay.refl (H : Hp) : Stay H H := ⟨fun _ _ h => h, fun _ _ _ h => h⟩
theorem Stay.of {H H' : Hp} (s : Same H H') : Stay H H' := ⟨fun a vs h => s a _ h, fun a o u h => s a _ h⟩
theorem Stay.trans {H H1 H2 : Hp} (s : Stay H H1) (t : Stay H1 H2) : Stay H H2 := ⟨fun a vs h => t.tup a vs (s.tup a vs h), fun a o u h => t.frz a o u (s.frz a o u h)⟩
theorem Stay.upd {H : Hp} {p : Addr} {xs : List V} {o : HO} (h : H p = some (.lst xs)) : Stay H (upd H p o) :=
  ⟨fun a vs e => by rw [upd_ne (ne_of e h (by intro q; cases q))]; exact e, fun a ob u e => by rw [upd_ne (ne_of e h (by intro q; cases q))]; exact e⟩

section
variable {K : PySem.W.Frag}
theorem sqT_stay {H H' : Hp} (s : Stay H H') {a : Addr} {vs : List V} (h : SqT K H a vs) : SqT K H' a vs := by
  rcases h with (h | ⟨o, h⟩) | h
  · exact .inl (.inl (s.tup _ _ h))
  · exact .inl (.inr ⟨o, s.frz _ _ _ h⟩)
  · exact .inr h
mutual
theorem Fl.mono {H H' : Hp} (s : Stay H H') : ∀ {d : D} {v : V}, Fl K H d v → Fl K H' d v
  | .non, _, h => h
  | .bl _, _, h => h
  | .int _, _, h => h
  | .str _, _, h => h
  | .tup ds, v, h => by
    unfold Fl at h ⊢
    obtain ⟨a, vs, e, t, f⟩ := h
    exact ⟨a, vs, e, sqT_stay s t, FlA.mono s f⟩
  | .lst _, _, h => h
  | .ex _ _, _, h => h
  | .scr _, _, h => h
theorem FlA.mono {H H' : Hp} (s : Stay H H') : ∀ {ds : List D} {vs : List V}, FlA K H ds vs → FlA K H' ds vs
  | [], _, h => h
  | d :: ds, vs, h => by
    unfold FlA at h ⊢
    obtain ⟨x, xs, e, a, b⟩ := h
    exact ⟨x, xs, e, Fl.mono s a, FlA.mono s b⟩
end
mutual
theorem Rq.mono {G G' H H' : Hp} (g : Same G G') (s : Stay H H') : ∀ {d : D} {v : V}, Rq K G H d v → Rq K G' H' d v
  | .non, _, h => h
  | .bl _, _, h => h
  | .int _, _, h => h
  | .str _, _, h => h
  | .tup ds, v, h => by
    unfold Rq at h ⊢
    obtain ⟨a, vs, e, t, f⟩ := h
    exact ⟨a, vs, e, sqT_stay s t, FlA.mono s f⟩
  | .lst ds, v, h => by
    unfold Rq at h ⊢
    obtain ⟨a, vs, e, t, f⟩ := h
    exact ⟨a, vs, e, g _ _ t, RqA.mono g s f⟩
  | .ex _ _, _, h => h
  | .scr ns, v, h => by
    unfold Rq at h ⊢
    obtain ⟨a, e, t⟩ := h
    exact ⟨a, e, g.seq t⟩
theorem RqA.mono {G G' H H' : Hp} (g : Same G G') (s : Stay H H') : ∀ {ds : List D} {vs : List V}, RqA K G H ds vs → RqA K G' H' ds vs
  | [], _, h => h
  | d :: ds, vs, h => by
    unfold RqA at h ⊢
    obtain ⟨x, xs, e, a, b⟩ := h
    exact ⟨x, xs, e, Rq.mono g s a, RqA.mono g s b⟩
end
mutual
theorem Tr.mono {H H' : Hp} (s : Stay H H') : ∀ {d : D} {v : V} {A : Addr → Prop}, (∀ a, A a → H' a = H a) → Tr K H d v A → Tr K H' d v A
  | .non, _, _, _, h => h
  | .bl _, _, _, _, h => h
  | .int _, _, _, _, h => h
  | .str _, _, _, _, h => h
  | .tup ds, v, A, k, h => by
    unfold Tr at h ⊢
    obtain ⟨⟨a, vs, e, t, f⟩, n⟩ := h
    exact ⟨⟨a, vs, e, sqT_stay s t, FlA.mono s f⟩, n⟩
  | .lst ds, v, A, k, h => by
    unfold Tr at h ⊢
    obtain ⟨p, vs, B, e, t, f, nb, i⟩ := h
    exact ⟨p, vs, B, e, (k p ((i p).mpr (.inl rfl))).trans t, TrA.mono s (fun a ha => k a ((i a).mpr (.inr ha))) f, nb, i⟩
  | .ex _ _, v, A, k, h => by unfold Tr at h; exact h.elim
  | .scr ns, v, A, k, h => by
    unfold Tr at h
    exact h.elim
theorem TrA.mono {H H' : Hp} (s : Stay H H') : ∀ {ds : List D} {vs : List V} {A : Addr → Prop}, (∀ a, A a → H' a = H a) → TrA K H ds vs A → TrA K H' ds vs A
  | [], _, _, _, h => h
  | d :: ds, vs, A, k, h => by
    unfold TrA at h ⊢
    obtain ⟨x, xs, B, C, e, a, b, dj, i⟩ := h
    exact ⟨x, xs, B, C, e, Tr.mono s (fun a ha => k a ((i a).mpr (.inl ha))) a, TrA.mono s (fun a ha => k a ((i a).mpr (.inr ha))) b, dj, i⟩
end
mutual
theorem Tr.lists {H : Hp} : ∀ {d : D} {v : V} {A : Addr → Prop}, Tr K H d v A → ∀ a, A a → ∃ xs, H a = some (.lst xs)
  | .non, _, _, h, a, ha => absurd ha (h.2 a)
  | .bl _, _, _, h, a, ha => absurd ha (h.2 a)
  | .int _, _, _, h, a, ha => absurd ha (h.2 a)
  | .str _, _, _, h, a, ha => absurd ha (h.2 a)
  | .tup ds, v, A, h, a, ha => absurd ha (h.2 a)
  | .lst ds, v, A, h, a, ha => by
    unfold Tr at h
    obtain ⟨p, vs, B, e, t, f, nb, i⟩ := h
    rcases (i a).mp ha with rfl | hb
    · exact ⟨vs, t⟩
    · exact TrA.lists f a hb
  | .ex _ _, v, A, h, a, ha => by unfold Tr at h; exact h.elim
  | .scr ns, v, A, h, a, ha => by
    unfold Tr at h
    exact h.elim
theorem TrA.lists {H : Hp} : ∀ {ds : List D} {vs : List V} {A : Addr → Prop}, TrA K H ds vs A → ∀ a, A a → ∃ xs, H a = some (.lst xs)
  | [], _, _, h, a, ha => absurd ha (h.2 a)
  | d :: ds, vs, A, h, a, ha => by
    unfold TrA at h
    obtain ⟨x, xs, B, C, e, p, q, dj, i⟩ := h
    rcases (i a).mp ha with hb | hc
    · exact Tr.lists p a hb
    · exact TrA.lists q a hc
end
mutual
/-- an owned tree, shared from now on -/
theorem Tr.rq {G H : Hp} : ∀ {d : D} {v : V} {A : Addr → Prop}, (∀ a, A a → G a = H a) → Tr K H d v A → Rq K G H d v
  | .non, _, _, _, h => h.1
  | .bl _, _, _, _, h => h.1
  | .int _, _, _, _, h => h.1
  | .str _, _, _, _, h => h.1
  | .tup ds, v, A, _, h => h.1
  | .lst ds, v, A, k, h => by
    unfold Tr at h
    unfold Rq
    obtain ⟨p, vs, B, e, t, f, nb, i⟩ := h
    exact ⟨p, vs, e, (k p ((i p).mpr (.inl rfl))).trans t, TrA.rq (fun a ha => k a ((i a).mpr (.inr ha))) f⟩
  | .ex _ _, v, A, k, h => by unfold Tr at h; exact h.elim
  | .scr ns, v, A, k, h => by
    unfold Tr at h
    exact h.elim
theorem TrA.rq {G H : Hp} : ∀ {ds : List D} {vs : List V} {A : Addr → Prop}, (∀ a, A a → G a = H a) → TrA K H ds vs A → RqA K G H ds vs
  | [], _, _, _, h => h.1
  | d :: ds, vs, A, k, h => by
    unfold TrA at h
    unfold RqA
    obtain ⟨x, xs, B, C, e, p, q, dj, i⟩ := h
    exact ⟨x, xs, e, Tr.rq (fun a ha => k a ((i a).mpr (.inl ha))) p, TrA.rq (fun a ha => k a ((i a).mpr (.inr ha))) q⟩
end
abbrev noA : Addr → Prop := fun _ => False
/-- a flat thing is owned, for it owns nothing -/
theorem Rq.flat {G H : Hp} : ∀ {d : D} {v : V}, flatD d = true → Rq K G H d v → Tr K H d v noA
  | .non, _, _, h => ⟨h, fun _ z => z⟩
  | .bl _, _, _, h => ⟨h, fun _ z => z⟩
  | .int _, _, _, h => ⟨h, fun _ z => z⟩
  | .str _, _, _, h => ⟨h, fun _ z => z⟩
  | .tup ds, v, _, h => ⟨h, fun _ z => z⟩
  | .lst ds, v, f, h => by simp [flatD] at f
  | .ex _ _, v, f, h => by simp [flatD] at f
  | .scr ns, v, f, h => by simp [flatD] at f
theorem RqA.flat {G H : Hp} : ∀ {ds : List D} {vs : List V}, flatA ds = true → RqA K G H ds vs → TrA K H ds vs noA
  | [], _, _, h => ⟨h, fun _ z => z⟩
  | d :: ds, vs, f, h => by
    unfold RqA at h
    unfold TrA
    obtain ⟨x, xs, e, a, b⟩ := h
    have f' : flatD d = true ∧ flatA ds = true := by simpa [flatA] using f
    exact ⟨x, xs, noA, noA, e, a.flat f'.1, RqA.flat f'.2 b, fun _ z => z.elim, fun _ => ⟨fun z => z.elim, fun z => z.elim id id⟩⟩
theorem Tr.congr {H : Hp} {A B : Addr → Prop} (e : ∀ a, A a ↔ B a) {d : D} {v : V} (h : Tr K H d v A) : Tr K H d v B := by
  have : A = B := funext fun a => propext (e a)
  rwa [← this]
theorem TrA.congr {H : Hp} {A B : Addr → Prop} (e : ∀ a, A a ↔ B a) {d : List D} {v : List V} (h : TrA K H d v A) : TrA K H d v B := by
  have : A = B := funext fun a => propext (e a)
  rwa [← this]
theorem Fl.rq {G H : Hp} : ∀ {d : D} {v : V}, Fl K H d v → Rq K G H d v
  | .non, _, h => h
  | .bl _, _, h => h
  | .int _, _, h => h
  | .str _, _, h => h
  | .tup ds, v, h => h
  | .lst ds, v, h => by unfold Fl at h; exact h.elim
  | .ex _ _, v, h => by unfold Fl at h; exact h.elim
  | .scr ns, v, h => by unfold Fl at h; exact h.elim
theorem FlA.rq {G H : Hp} : ∀ {ds : List D} {vs : List V}, FlA K H ds vs → RqA K G H ds vs
  | [], _, h => h
  | d :: ds, vs, h => by
    unfold FlA at h
    unfold RqA
    obtain ⟨x, xs, e, a, b⟩ := h
    exact ⟨x, xs, e, a.rq, FlA.rq b⟩
theorem Rq.fl {G H : Hp} : ∀ {d : D} {v : V}, flatD d = true → Rq K G H d v → Fl K H d v
  | .non, _, _, h => h
  | .bl _, _, _, h => h
  | .int _, _, _, h => h
  | .str _, _, _, h => h
  | .tup ds, v, _, h => h
  | .lst ds, v, f, h => by simp [flatD] at f
  | .ex _ _, v, f, h => by simp [flatD] at f
  | .scr ns, v, f, h => by simp [flatD] at f
theorem RqA.fl {G H : Hp} : ∀ {ds : List D} {vs : List V}, flatA ds = true → RqA K G H ds vs → FlA K H ds vs
  | [], _, _, h => h
  | d :: ds, vs, f, h => by
    unfold RqA at h
    unfold FlA
    obtain ⟨x, xs, e, a, b⟩ := h
    have f' : flatD d = true ∧ flatA ds = true := by simpa [flatA] using f
    exact ⟨x, xs, e, a.fl f'.1, RqA.fl f'.2 b⟩
theorem RqA.length {G H : Hp} : ∀ {ds : List D} {vs : List V}, RqA K G H ds vs → vs.length = ds.length
  | [], _, h => by unfold RqA at h; rw [h]; rfl
  | d :: ds, vs, h => by
    unfold RqA at h
    obtain ⟨x, xs, e, a, b⟩ := h
    rw [e, List.length_cons, List.length_cons, b.length]
theorem FlA.length {H : Hp} {ds : List D} {vs : List V} (h : FlA K H ds vs) : vs.length = ds.length := (FlA.rq (G := H) h).length
theorem TrA.length {H : Hp} : ∀ {ds : List D} {vs : List V} {A : Addr → Prop}, TrA K H ds vs A → vs.length = ds.length
  | [], _, _, h => by unfold TrA at h; rw [h.1]; rfl
  | d :: ds, vs, A, h => by
    unfold TrA at h
    obtain ⟨x, xs, B, C, e, a, b, _⟩ := h
    rw [e, List.length_cons, List.length_cons, b.length]
theorem RqA.get {G H : Hp} : ∀ {ds : List D} {vs : List V}, RqA K G H ds vs → ∀ {i : Nat} {d : D}, ds[i]? = some d → ∃ v, vs[i]? = some v ∧ Rq K G H d v
  | [], _, _, i, d, e => by simp at e
  | d :: ds, vs, h, 0, d', e => by
    unfold RqA at h
    obtain ⟨x, xs, rfl, a, b⟩ := h
    simp at e
    subst e
    exact ⟨x, rfl, a⟩
  | d :: ds, vs, h, i + 1, d', e => by
    unfold RqA at h
    obtain ⟨x, xs, rfl, a, b⟩ := h
    obtain ⟨v, h1, h2⟩ := RqA.get b (i := i) (d := d') (by simpa using e)
    exact ⟨v, by simpa using h1, h2⟩
theorem RqA.getD {G H : Hp} {ds : List D} {vs : List V} (h : RqA K G H ds vs) {i : Nat} {v : V} (e : vs[i]? = some v) : ∃ d, ds[i]? = some d ∧ Rq K G H d v := by
  have hl := h.length
  have hi : i < vs.length := (List.getElem?_eq_some_iff.mp e).1
  obtain ⟨v', h1, h2⟩ := h.get (i := i) (d := ds[i]'(by omega)) (List.getElem?_eq_getElem (by omega))
  rw [e] at h1
  cases h1
  exact ⟨_, List.getElem?_eq_getElem (by omega), h2⟩
theorem RqA.append {G H : Hp} : ∀ {ds es : List D} {vs ws : List V}, RqA K G H ds vs → RqA K G H es ws → RqA K G H (ds ++ es) (vs ++ ws)
  | [], es, vs, ws, h, k => by unfold RqA at h; rw [h]; exact k
  | d :: ds, es, vs, ws, h, k => by
    unfold RqA at h
    obtain ⟨x, xs, rfl, a, b⟩ := h
    show RqA K G H (d :: (ds ++ es)) (x :: (xs ++ ws))
    unfold RqA
    exact ⟨x, xs ++ ws, rfl, a, b.append k⟩
theorem RqA.drop {G H : Hp} : ∀ {ds : List D} {vs : List V} (n : Nat), RqA K G H ds vs → RqA K G H (ds.drop n) (vs.drop n)
  | ds, vs, 0, h => h
  | [], vs, n + 1, h => by unfold RqA at h; rw [h]; exact (show RqA K G H [] [] by unfold RqA; rfl)
  | d :: ds, vs, n + 1, h => by
    unfold RqA at h
    obtain ⟨x, xs, rfl, a, b⟩ := h
    exact b.drop n
theorem RqA.take {G H : Hp} : ∀ {ds : List D} {vs : List V} (n : Nat), RqA K G H ds vs → RqA K G H (ds.take n) (vs.take n)
  | ds, vs, 0, h => by show RqA K G H [] []; unfold RqA; rfl
  | [], vs, n + 1, h => by unfold RqA at h; rw [h]; exact (show RqA K G H [] [] by unfold RqA; rfl)
  | d :: ds, vs, n + 1, h => by
    unfold RqA at h
    obtain ⟨x, xs, rfl, a, b⟩ := h
    show RqA K G H (d :: ds.take n) (x :: xs.take n)
    unfold RqA
    exact ⟨x, _, rfl, a, b.take n⟩
theorem RqA.reverse {G H : Hp} : ∀ {ds : List D} {vs : List V}, RqA K G H ds vs → RqA K G H ds.reverse vs.reverse
  | [], vs, h => by unfold RqA at h; rw [h]; exact (show RqA K G H [] [] by unfold RqA; rfl)
  | d :: ds, vs, h => by
    unfold RqA at h
    obtain ⟨x, xs, rfl, a, b⟩ := h
    rw [List.reverse_cons, List.reverse_cons]
    exact b.reverse.append (by unfold RqA; exact ⟨x, [], rfl, a, by unfold RqA; rfl⟩)
theorem RqA.one {G H : Hp} {d : D} {v : V} (h : Rq K G H d v) : RqA K G H [d] [v] := by
  unfold RqA
  exact ⟨v, [], rfl, h, by unfold RqA; rfl⟩
theorem TrA.one {H : Hp} {d : D} {v : V} {A : Addr → Prop} (h : Tr K H d v A) : TrA K H [d] [v] A := by
  unfold TrA
  exact ⟨v, [], A, noA, rfl, h, by unfold TrA; exact ⟨rfl, fun _ z => z⟩, fun _ _ z => z, fun _ => ⟨.inl, fun z => z.elim id False.elim⟩⟩
theorem TrA.append {H : Hp} : ∀ {ds es : List D} {vs ws : List V} {A B : Addr → Prop}, TrA K H ds vs A → TrA K H es ws B → (∀ a, A a → B a → False) → TrA K H (ds ++ es) (vs ++ ws) (fun a => A a ∨ B a)
  | [], es, vs, ws, A, B, h, k, dj => by
    unfold TrA at h
    rw [h.1]
    exact k.congr fun a => ⟨.inr, fun z => z.elim (fun q => absurd q (h.2 a)) id⟩
  | d :: ds, es, vs, ws, A, B, h, k, dj => by
    unfold TrA at h
    obtain ⟨x, xs, A1, A2, rfl, a, b, dj', i⟩ := h
    show TrA K H (d :: (ds ++ es)) (x :: (xs ++ ws)) _
    unfold TrA
    refine ⟨x, xs ++ ws, A1, fun a => A2 a ∨ B a, rfl, a, b.append k (fun c h1 h2 => dj c ((i c).mpr (.inr h1)) h2), fun c h1 h2 => h2.elim (dj' c h1) (fun h3 => dj c ((i c).mpr (.inl h1)) h3), fun c => ?_⟩
    constructor
    · rintro (h1 | h2)
      · rcases (i c).mp h1 with q | q
        · exact .inl q
        · exact .inr (.inl q)
      · exact .inr (.inr h2)
    · rintro (h1 | h2 | h3)
      · exact .inl ((i c).mpr (.inl h1))
      · exact .inl ((i c).mpr (.inr h2))
      · exact .inr h3
end

/-- what a value is worth: shared, a new list of shared things, a new tree -/
def Own (K : PySem.W.Frag) (G H : Hp) (d : D) (lv : Lv) (v : V) (A : Addr → Prop) : Prop :=
  match lv with
  | .sh => (∀ a, ¬ A a) ∧ Rq K G H d v
  | .out => ∃ ds p vs, d = .lst ds ∧ v = .ref p ∧ H p = some (.lst vs) ∧ RqA K G H ds vs ∧ ∀ a, A a ↔ a = p
  | .full => Tr K H d v A
structure Ext (G H G' H' : Hp) : Prop where
  g : Same G G'
  h : Same H H'
  gh : Same G' H'
  av : ∀ a, H a ≠ none → G a = none → G' a = none
theorem Ext.refl {G H : Hp} (s : Same G H) : Ext G H G H := ⟨Same.refl _, Same.refl _, s, fun _ _ e => e⟩
theorem Ext.trans {G H G1 H1 G2 H2 : Hp} (a : Ext G H G1 H1) (b : Ext G1 H1 G2 H2) : Ext G H G2 H2 :=
  ⟨a.g.trans b.g, a.h.trans b.h, b.gh, fun p h1 h2 => b.av p (by
    intro z
    cases e : H p with
    | none => exact h1 e
    | some o => rw [a.h p o e] at z; cases z) (a.av p h1 h2)⟩
theorem Same.new {H : Hp} {p : Addr} {o : HO} (h : H p = none) : Same H (upd H p o) := fun a u e => by
  rw [upd_ne (ne_of_none e h)]; exact e
/-- something new that nobody shares -/
theorem Ext.new {G H : Hp} (s : Same G H) {p : Addr} {o : HO} (h : H p = none) : Ext G H G (upd H p o) :=
  ⟨Same.refl _, Same.new h, s.trans (Same.new h), fun _ _ e => e⟩
open Classical in
/-- G and what stands at A -/
noncomputable def glue (G H : Hp) (A : Addr → Prop) : Hp := fun a => if A a then H a else G a
theorem glue_at {G H : Hp} {A : Addr → Prop} {a : Addr} (h : A a) : glue G H A a = H a := by unfold glue; rw [if_pos h]
theorem glue_off {G H : Hp} {A : Addr → Prop} {a : Addr} (h : ¬ A a) : glue G H A a = G a := by unfold glue; rw [if_neg h]
theorem glue_ext {G H G1 H1 : Hp} {A : Addr → Prop} (e : Ext G H G1 H1) (fr : ∀ a, A a → H a = none ∧ G1 a = none) : Ext G H (glue G1 H1 A) H1 := by
  refine ⟨fun a o q => ?_, e.h, fun a o q => ?_, fun a h1 h2 => ?_⟩
  · by_cases ha : A a
    · have z := e.g a o q
      rw [(fr a ha).2] at z
      cases z
    · rw [glue_off ha]; exact e.g a o q
  · by_cases ha : A a
    · rw [glue_at ha] at q; exact q
    · rw [glue_off ha] at q; exact e.gh a o q
  · by_cases ha : A a
    · exact absurd (fr a ha).1 h1
    · rw [glue_off ha]; exact e.av a h1 h2
theorem glue_same {G H : Hp} {A : Addr → Prop} (fr : ∀ a, A a → G a = none) : Same G (glue G H A) := fun a o q => by
  by_cases ha : A a
  · rw [fr a ha] at q; cases q
  · rw [glue_off ha]; exact q
theorem Own.rq {K : PySem.W.Frag} {G H : Hp} {d : D} {lv : Lv} {v : V} {A : Addr → Prop} (fr : ∀ a, A a → G a = none) (h : Own K G H d lv v A) : Rq K (glue G H A) H d v := by
  cases lv with
  | sh => exact h.2.mono (glue_same fr) (Stay.refl _)
  | full => exact Tr.rq (fun a ha => glue_at ha) h
  | out =>
    obtain ⟨ds, p, vs, rfl, rfl, hp, r, i⟩ := h
    unfold Rq
    exact ⟨p, vs, rfl, (glue_at ((i p).mpr rfl)).trans hp, r.mono (glue_same fr) (Stay.refl _)⟩
theorem Own.lists {K : PySem.W.Frag} {G H : Hp} {d : D} {lv : Lv} {v : V} {A : Addr → Prop} (h : Own K G H d lv v A) : ∀ a, A a → ∃ xs, H a = some (.lst xs) := by
  cases lv with
  | sh => exact fun a ha => absurd ha (h.1 a)
  | full => exact Tr.lists h
  | out =>
    obtain ⟨ds, p, vs, rfl, rfl, hp, r, i⟩ := h
    intro a ha
    rw [(i a).mp ha]
    exact ⟨vs, hp⟩
theorem Own.mono {K : PySem.W.Frag} {G G' H H' : Hp} {d : D} {lv : Lv} {v : V} {A : Addr → Prop} (g : Same G G') (s : Stay H H') (k : ∀ a, A a → H' a = H a) (h : Own K G H d lv v A) : Own K G' H' d lv v A := by
  cases lv with
  | sh => exact ⟨h.1, h.2.mono g s⟩
  | full => exact Tr.mono s k h
  | out =>
    obtain ⟨ds, p, vs, rfl, rfl, hp, r, i⟩ := h
    exact ⟨ds, p, vs, rfl, rfl, (k p ((i p).mpr rfl)).trans hp, r.mono g s, i⟩
theorem Own.congr {K : PySem.W.Frag} {G H : Hp} {d : D} {lv : Lv} {v : V} {A B : Addr → Prop} (e : ∀ a, A a ↔ B a) (h : Own K G H d lv v A) : Own K G H d lv v B := by
  have : A = B := funext fun a => propext (e a)
  rwa [← this]
def lvS (d : D) : Lv := if flatD d = true then .full else .sh
theorem own_lvS {K : PySem.W.Frag} {G H : Hp} {d : D} {v : V} (h : Rq K G H d v) : Own K G H d (lvS d) v noA := by
  unfold lvS
  split
  · exact h.flat (by assumption)
  · exact ⟨fun _ z => z, h⟩
end PL

set_option Elab.async false
set_option linter.all false
set_option maxRecDepth 100000
set_option maxHeartbeats 2000000
/-! PL, part b: expressions. -/
namespace PL
open PySem PySem.Spec PyProof.Rows L2

abbrev Env := List (Option (D × Lv))
abbrev SE := Env → Option (D × Lv)
def Reps (K : PySem.W.Frag) (G H : Hp) (σ : L2.St) (env : Env) : Prop :=
  σ.length = env.length ∧ ∀ (i : Nat) (d : D) (lv : Lv), env[i]? = some (some (d, lv)) → ∃ v : V, σ[i]? = some (some v) ∧ Rq K G H d v
def Post (K : PySem.W.Frag) (G H : Hp) (d : D) (lv : Lv) (Q : VK) : Prop :=
  ∀ v G' H' A, Ext G H G' H' → (∀ a, A a → H a = none ∧ G' a = none) → Own K G' H' d lv v A → Q v H'
def Sm (K : PySem.W.Frag) (t : TE) (f : SE) : Prop := ∀ env σ G H d lv, Same G H → Reps K G H σ env → f env = some (d, lv) → ∀ Q, Post K G H d lv Q → t σ H Q
structure DE (X : Cx) (e : Expr) (t : TE) (f : SE) : Prop where
  pe : PE X e t
  sm : Sm X.K t f

section
variable {K : PySem.W.Frag} {G H G' H' : Hp} {σ : L2.St} {env : Env} {d : D} {lv : Lv} {Q : VK}
theorem Reps.mono (x : Ext G H G' H') (r : Reps K G H σ env) : Reps K G' H' σ env := ⟨r.1, fun i d lv e => by
  obtain ⟨v, h1, h2⟩ := r.2 i d lv e
  exact ⟨v, h1, h2.mono x.g (Stay.of x.h)⟩⟩
theorem Post.ext (x : Ext G H G' H') (p : Post K G H d lv Q) : Post K G' H' d lv Q := fun v G2 H2 A y fr o =>
  p v G2 H2 A (x.trans y) (fun a ha => ⟨x.h.free (fr a ha).1, (fr a ha).2⟩) o
theorem Sm.read {t : TE} {f : SE} (h : Sm K t f) (s : Same G H) (r : Reps K G H σ env) (e : f env = some (d, lv)) (q : ∀ v G' H', Ext G H G' H' → Rq K G' H' d v → Q v H') : t σ H Q :=
  h env σ G H d lv s r e Q fun v G' H' A x fr o => q v (glue G' H' A) H' (glue_ext x fr) (o.rq fun a ha => (fr a ha).2)
/-- a shared or flat answer, told at the level that it has by itself -/
theorem Post.rq (p : Post K G H d (lvS d) Q) {v : V} (x : Ext G H G' H') (h : Rq K G' H' d v) : Q v H' :=
  p v G' H' noA x (fun _ z => z.elim) (own_lvS h)
theorem Post.flat (p : Post K G H d .full Q) {v : V} (x : Ext G H G' H') (f : flatD d = true) (h : Rq K G' H' d v) : Q v H' :=
  p v G' H' noA x (fun _ z => z.elim) (h.flat f)
theorem Post.int {i : Int} (p : Post K G H (.int i) .full Q) (x : Ext G H G' H') : Q (.int i) H' := p.flat x rfl (by unfold Rq; rfl)
theorem Post.bl {b : Bool} (p : Post K G H (.bl b) .full Q) (x : Ext G H G' H') : Q (.bl b) H' := p.flat x rfl (by unfold Rq; rfl)
theorem Post.str {b : Str} (p : Post K G H (.str b) .full Q) (x : Ext G H G' H') : Q (.str b) H' := p.flat x rfl (by unfold Rq; rfl)
def lvL (ds : List D) : Lv := if flatA ds = true then .full else .out
/-- a new list of shared things -/
theorem Post.newL {ds : List D} (p : Post K G H (.lst ds) (lvL ds) Q) (x : Ext G H G' H') {vs : List V} (h : RqA K G' H' ds vs) {l : Addr} (hl : H' l = none) : Q (.ref l) (upd H' l (.lst vs)) := by
  have gl : G' l = none := x.gh.free hl
  have e : Ext G' H' G' (upd H' l (.lst vs)) := Ext.new x.gh hl
  refine p (.ref l) G' _ (fun a => a = l) (x.trans e) (fun a ha => ?_) ?_
  · rw [ha]; exact ⟨x.h.free hl, gl⟩
  · unfold lvL
    split
    · rename_i f
      have q := (h.mono (Same.refl G') (Stay.of e.h)).flat f
      unfold Own Tr
      exact ⟨l, vs, noA, rfl, upd_same, q, fun z => z, fun a => ⟨.inl, fun z => z.elim id False.elim⟩⟩
    · exact ⟨ds, l, vs, rfl, rfl, upd_same, h.mono (Same.refl _) (Stay.of e.h), fun a => Iff.rfl⟩
/-- a new tuple of flat things -/
theorem Post.newT {ds : List D} (p : Post K G H (.tup ds) .full Q) (x : Ext G H G' H') {vs : List V} (h : RqA K G' H' ds vs) (f : flatA ds = true) {l : Addr} (hl : H' l = none) : Q (.ref l) (upd H' l (.tup vs)) := by
  have e : Ext G' H' G' (upd H' l (.tup vs)) := Ext.new x.gh hl
  refine p.flat (x.trans e) f ?_
  unfold Rq
  exact ⟨l, vs, rfl, .inl (.inl upd_same), (h.fl f).mono (Stay.of e.h)⟩
end

namespace E
def var (i : Nat) : SE := fun env => match env[i]? with
  | some (some (d, _)) => some (d, lvS d)
  | _ => none
def c (d : D) : SE := fun _ => some (d, .full)
def un (op : D → Option (D × Lv)) (fa : SE) : SE := fun env => match fa env with
  | some (x, _) => op x
  | none => none
def bin (op : D → D → Option (D × Lv)) (fa fb : SE) : SE := fun env => match fa env, fb env with
  | some (x, _), some (y, _) => op x y
  | _, _ => none
end E

section
variable {X : Cx} {a b : Expr} {ta tb : TE} {fa fb : SE} {pos : Pos}
theorem Sm.var {K : PySem.W.Frag} (i : Nat) : Sm K (tVar i) (E.var i) := fun env σ G H d lv s r e Q p => by
  unfold E.var at e
  split at e
  · rename_i d' lv' he
    cases e
    obtain ⟨v, h1, h2⟩ := r.2 i _ _ he
    exact ⟨v, h1, p.rq (Ext.refl s) h2⟩
  · cases e
theorem DE.var (i : Nat) {x : Str} (hN : X.N[i]? = some x := by rfl) (hv : Vis X.env.scope x := by first | exact Or.inl rfl | exact Or.inr (Or.inl rfl) | exact Or.inr (Or.inr rfl)) (hd : (x == ("__debug__" : Str)) = false := by decide)
    (hcd : (x == ("__classdict__" : Str)) = false := by decide) : DE X (.Name x pos) (tVar i) (E.var i) := ⟨pe_var hN hv hd hcd, Sm.var i⟩
theorem Sm.c {K : PySem.W.Frag} {v : V} {d : D} (h : ∀ G H, Rq K G H d v) (f : flatD d = true) : Sm K (tC v) (E.c d) := fun env σ G H d' lv s r e Q p => by
  cases e
  exact p.flat (Ext.refl s) f (h G H)
theorem DE.int {i : Int} {j : Nat} : DE X (.Constant (.int i) j pos) (tC (.int i)) (E.c (.int i)) := ⟨pe_int, Sm.c (fun _ _ => by unfold Rq; rfl) rfl⟩
theorem DE.bl {i : Bool} {j : Nat} : DE X (.Constant (.bool i) j pos) (tC (.bl i)) (E.c (.bl i)) := ⟨pe_bl, Sm.c (fun _ _ => by unfold Rq; rfl) rfl⟩
theorem DE.non {j : Nat} : DE X (.Constant .none j pos) (tC .non) (E.c .non) := ⟨pe_non, Sm.c (fun _ _ => by unfold Rq; rfl) rfl⟩
theorem DE.str {i : Str} {j : Nat} : DE X (.Constant (.str i) j pos) (tC (.str i)) (E.c (.str i)) := ⟨pe_str, Sm.c (fun _ _ => by unfold Rq; rfl) rfl⟩
/-- a constant of the module -/
theorem DE.glob {x : Str} {u : Value} {v : V} {d : D} (hg : Gl X x) (hm : X.mg x = some u) (r : RelV v u) (h : ∀ G H, Rq X.K G H d v) (f : flatD d = true) (hd : (x == ("__debug__" : Str)) = false := by decide) :
    DE X (.Name x pos) (tC v) (E.c d) := ⟨pe_glob (hd := hd) hg hm r, Sm.c h f⟩

/-! operators by values -/
def R2Ok (K : PySem.W.Frag) (r : R2) (op : D → D → Option (D × Lv)) : Prop := ∀ G H x y d e z lv, Same G H → Rq K G H d x → Rq K G H e y → op d e = some (z, lv) → ∀ Q, Post K G H z lv Q → r x y H Q
def R1Ok (K : PySem.W.Frag) (r : V → Hp → VK → Prop) (op : D → Option (D × Lv)) : Prop := ∀ G H x d z lv, Same G H → Rq K G H d x → op d = some (z, lv) → ∀ Q, Post K G H z lv Q → r x H Q
theorem Sm.op {K : PySem.W.Frag} {r : R2} {op : D → D → Option (D × Lv)} (h : R2Ok K r op) (ha : Sm K ta fa) (hb : Sm K tb fb) : Sm K (tOp r ta tb) (E.bin op fa fb) := fun env σ G H d lv s rp e Q p => by
  unfold E.bin at e
  split at e
  · rename_i x lx y ly ea eb
    refine ha.read s rp ea fun v G1 H1 x1 r1 => hb.read x1.gh (rp.mono x1) eb fun u G2 H2 x2 r2 => ?_
    exact h G2 H2 v u x y d lv x2.gh (r1.mono x2.g (Stay.of x2.h)) r2 e Q (p.ext (x1.trans x2))
  · cases e
theorem Sm.un {K : PySem.W.Frag} {r : V → Hp → VK → Prop} {op : D → Option (D × Lv)} (h : R1Ok K r op) (ha : Sm K ta fa) : Sm K (tUn r ta) (E.un op fa) := fun env σ G H d lv s rp e Q p => by
  unfold E.un at e
  split at e
  · rename_i x lx ea
    exact ha.read s rp ea fun v G1 H1 x1 r1 => h G1 H1 v x d lv x1.gh r1 e Q (p.ext x1)
  · cases e
theorem DE.binop {o : Operator} {r : R2} {op : D → D → Option (D × Lv)} (ho : OpR X (binaryOp o) r) (h : R2Ok X.K r op) (ha : DE X a ta fa) (hb : DE X b tb fb) : DE X (.BinOp a o b pos) (tOp r ta tb) (E.bin op fa fb) :=
  ⟨pe_op ho ha.pe hb.pe, Sm.op h ha.sm hb.sm⟩
theorem DE.cmpop {o : CmpOp} {r : R2} {op : D → D → Option (D × Lv)} (ho : OpR X (compareOp o) r) (h : R2Ok X.K r op) (ha : DE X a ta fa) (hb : DE X b tb fb) (hm : behindInMarks o b = false := by first | exact nomark _ | rfl) : DE X (.Compare a [o] [b] pos) (tOp r ta tb) (E.bin op fa fb) :=
  ⟨pe_cmpR ho ha.pe hb.pe hm, Sm.op h ha.sm hb.sm⟩
theorem DE.unop {o : UnaryOp} {r : V → Hp → VK → Prop} {op : D → Option (D × Lv)} (ho : UnR X (unaryOp o) r) (h : R1Ok X.K r op) (ha : DE X a ta fa) : DE X (.UnaryOp o a pos) (tUn r ta) (E.un op fa) := ⟨pe_un ho ha.pe, Sm.un h ha.sm⟩
theorem R2Ok.or {K : PySem.W.Frag} {r r' : R2} {op op' : D → D → Option (D × Lv)} (h : R2Ok K r op) (h' : R2Ok K r' op') : R2Ok K (fun x y H Q => r x y H Q ∨ r' x y H Q) (fun d e => match op d e with | some z => some z | none => op' d e) := fun G H x y d e z lv s rx ry o Q p => by
  cases q : op d e with
  | some w =>
    simp only [q] at o
    cases o
    exact .inl (h G H x y d e _ _ s rx ry q Q p)
  | none =>
    simp only [q] at o
    exact .inr (h' G H x y d e _ _ s rx ry o Q p)
end

/-! ### numbers -/
def big : Nat := 2 ^ 250
def i2 (c : Int → Int → Bool) (g : Int → Int → D) : D → D → Option (D × Lv)
  | .int i, .int j => if c i j = true then some (g i j, .full) else none
  | _, _ => none
theorem rq_int {K : PySem.W.Frag} {G H : Hp} {i : Int} {x : V} (h : Rq K G H (.int i) x) : x = .int i := h
theorem r2_I0 {K : PySem.W.Frag} {g : Int → Int → Int} : R2Ok K (rI0 fun i j => .int (g i j)) (i2 (fun _ _ => true) fun i j => .int (g i j)) := fun G H x y d e z lv s rx ry o Q p => by
  unfold i2 at o
  split at o
  · rw [if_pos rfl] at o
    cases o
    cases rq_int rx
    cases rq_int ry
    exact ⟨_, _, rfl, rfl, p.int (Ext.refl s)⟩
  · cases o
theorem r2_B0 {K : PySem.W.Frag} {g : Int → Int → Bool} : R2Ok K (rI0 fun i j => .bl (g i j)) (i2 (fun _ _ => true) fun i j => .bl (g i j)) := fun G H x y d e z lv s rx ry o Q p => by
  unfold i2 at o
  split at o
  · rw [if_pos rfl] at o
    cases o
    cases rq_int rx
    cases rq_int ry
    exact ⟨_, _, rfl, rfl, p.bl (Ext.refl s)⟩
  · cases o
theorem r2_I {K : PySem.W.Frag} {C : Int → Int → Prop} {c : Int → Int → Bool} {g : Int → Int → Int} (hc : ∀ i j, c i j = true → C i j) : R2Ok K (rI C fun i j => .int (g i j)) (i2 c fun i j => .int (g i j)) := fun G H x y d e z lv s rx ry o Q p => by
  unfold i2 at o
  split at o
  · split at o
    · rename_i h
      cases o
      cases rq_int rx
      cases rq_int ry
      exact ⟨_, _, rfl, rfl, hc _ _ h, p.int (Ext.refl s)⟩
    · cases o
  · cases o
def mulOk (i j : Int) : Bool := decide (i.natAbs < big) && decide (j.natAbs < big)
theorem mulOk_w (i j : Int) (h : mulOk i j = true) : CMulW i j := by
  unfold mulOk at h
  simp only [Bool.and_eq_true, decide_eq_true_eq] at h
  exact wide_mul (a := 250) (b := 250) h.1 h.2 (by decide) (by decide) (by decide)
def divOk (_ j : Int) : Bool := decide (0 < j ∧ j < 1073741824)
def modOk (_ j : Int) : Bool := decide (0 < j)
def powOk (i j : Int) : Bool := decide (0 ≤ j ∧ j ≤ 1000 ∧ -1000 ≤ i ∧ i ≤ 1000)
def mulD : D → D → Option (D × Lv) := i2 mulOk fun i j => .int (i * j)
def subD : D → D → Option (D × Lv) := i2 (fun _ _ => true) fun i j => .int (i - j)
def fdivD : D → D → Option (D × Lv) := i2 divOk fun i j => .int (i / j)
def modD : D → D → Option (D × Lv) := i2 modOk fun i j => .int (i % j)
def powD : D → D → Option (D × Lv) := i2 powOk fun i j => .int (i ^ j.toNat)
def ltD : D → D → Option (D × Lv) := i2 (fun _ _ => true) fun i j => .bl (decide (i < j))
def leD : D → D → Option (D × Lv) := i2 (fun _ _ => true) fun i j => .bl (decide (i ≤ j))
def gtD : D → D → Option (D × Lv) := i2 (fun _ _ => true) fun i j => .bl (decide (j < i))
def geD : D → D → Option (D × Lv) := i2 (fun _ _ => true) fun i j => .bl (decide (j ≤ i))
def negD : D → Option (D × Lv)
  | .int i => some (.int (-i), .full)
  | _ => none
/-- + of ints, texts, lists -/
def addD : D → D → Option (D × Lv)
  | .int i, .int j => some (.int (i + j), .full)
  | .str x, .str y => if x.length + y.length ≤ 1000000 then some (.str (x ++ y), .full) else none
  | .lst xs, .lst ys => if xs.length + ys.length ≤ 1000000 then some (.lst (xs ++ ys), lvL (xs ++ ys)) else none
  | _, _ => none
theorem line_of {n : Nat} (h : n ≤ 1000000) : n ≤ sizeLine := Nat.le_trans h (by decide)
theorem line_lt {n : Nat} (h : n < 1000000) : n < sizeLine := Nat.lt_of_lt_of_le h (by decide)
abbrev rAddAll : R2 := fun x y H Q => (rI0 fun i j => .int (i + j)) x y H Q ∨ ((∃ i j, x = .str i ∧ y = .str j ∧ i.length + j.length ≤ sizeLine ∧ Q (.str (i ++ j)) H) ∨ rCat x y H Q)
theorem r2_add {K : PySem.W.Frag} : R2Ok K rAddAll addD := fun G H x y d e z lv s rx ry o Q p => by
  unfold addD at o
  split at o
  · cases o
    cases rq_int rx
    cases rq_int ry
    exact .inl ⟨_, _, rfl, rfl, p.int (Ext.refl s)⟩
  · split at o
    · rename_i h
      cases o
      cases (show x = .str _ from rx)
      cases (show y = .str _ from ry)
      exact .inr (.inl ⟨_, _, rfl, rfl, line_of h, p.str (Ext.refl s)⟩)
    · cases o
  · split at o
    · rename_i xs ys h
      cases o
      unfold Rq at rx ry
      obtain ⟨l, us, rfl, gl, ra⟩ := rx
      obtain ⟨m, ws, rfl, gm, rb⟩ := ry
      refine .inr (.inr ⟨l, m, us, ws, rfl, rfl, s _ _ gl, s _ _ gm, ?_, fun q hq => ?_⟩)
      · rw [ra.length, rb.length]
        exact line_of h
      · exact p.newL (Ext.refl s) (ra.append rb) hq
    · cases o
  · cases o
section
variable {X : Cx} {a b : Expr} {ta tb : TE} {fa fb : SE} {pos : Pos}
theorem DE.add (ha : DE X a ta fa) (hb : DE X b tb fb) : DE X (.BinOp a .Add b pos) (tOp rAddAll ta tb) (E.bin addD fa fb) := DE.binop (op_add.or (op_add_str.or op_cat)) r2_add ha hb
theorem DE.sub (ha : DE X a ta fa) (hb : DE X b tb fb) : DE X (.BinOp a .Sub b pos) (tOp (rI0 fun i j => .int (i - j)) ta tb) (E.bin subD fa fb) := DE.binop op_sub r2_I0 ha hb
theorem DE.mul (ha : DE X a ta fa) (hb : DE X b tb fb) : DE X (.BinOp a .Mult b pos) (tOp (rI CMulW fun i j => .int (i * j)) ta tb) (E.bin mulD fa fb) := DE.binop op_mulW (r2_I mulOk_w) ha hb
theorem DE.fdiv (ha : DE X a ta fa) (hb : DE X b tb fb) : DE X (.BinOp a .FloorDiv b pos) (tOp (rI CDiv fun i j => .int (i / j)) ta tb) (E.bin fdivD fa fb) := DE.binop op_fdiv (r2_I fun i j h => (of_decide_eq_true h : 0 < j ∧ j < 1073741824)) ha hb
theorem DE.mod (ha : DE X a ta fa) (hb : DE X b tb fb) : DE X (.BinOp a .Mod b pos) (tOp (rI (fun _ j => 0 < j) fun i j => .int (i % j)) ta tb) (E.bin modD fa fb) := DE.binop op_mod (r2_I fun i j h => of_decide_eq_true h) ha hb
theorem DE.pow (ha : DE X a ta fa) (hb : DE X b tb fb) : DE X (.BinOp a .Pow b pos) (tOp (rI CPow fun i j => .int (i ^ j.toNat)) ta tb) (E.bin powD fa fb) := DE.binop op_pow (r2_I fun i j h => by
  have q : 0 ≤ j ∧ j ≤ 1000 ∧ -1000 ≤ i ∧ i ≤ 1000 := of_decide_eq_true h
  have : (1000 : Nat) < 2 ^ 64 := by decide
  exact ⟨q.1, by omega, by omega⟩) ha hb
theorem DE.lt (ha : DE X a ta fa) (hb : DE X b tb fb) (hm : behindInMarks .Lt b = false := by first | exact nomark _ | rfl) : DE X (.Compare a [.Lt] [b] pos) (tOp (rI0 fun i j => .bl (decide (i < j))) ta tb) (E.bin ltD fa fb) := DE.cmpop op_lt r2_B0 ha hb hm
theorem DE.le (ha : DE X a ta fa) (hb : DE X b tb fb) (hm : behindInMarks .LtE b = false := by first | exact nomark _ | rfl) : DE X (.Compare a [.LtE] [b] pos) (tOp (rI0 fun i j => .bl (decide (i ≤ j))) ta tb) (E.bin leD fa fb) := DE.cmpop op_le r2_B0 ha hb hm
theorem DE.gt (ha : DE X a ta fa) (hb : DE X b tb fb) (hm : behindInMarks .Gt b = false := by first | exact nomark _ | rfl) : DE X (.Compare a [.Gt] [b] pos) (tOp (rI0 fun i j => .bl (decide (j < i))) ta tb) (E.bin gtD fa fb) := DE.cmpop op_gt r2_B0 ha hb hm
theorem DE.ge (ha : DE X a ta fa) (hb : DE X b tb fb) (hm : behindInMarks .GtE b = false := by first | exact nomark _ | rfl) : DE X (.Compare a [.GtE] [b] pos) (tOp (rI0 fun i j => .bl (decide (j ≤ i))) ta tb) (E.bin geD fa fb) := DE.cmpop op_ge r2_B0 ha hb hm
theorem r1_neg {K : PySem.W.Frag} : R1Ok K (rU fun i => .int (-i)) negD := fun G H x d z lv s rx o Q p => by
  unfold negD at o
  split at o
  · cases o
    cases rq_int rx
    exact ⟨_, rfl, p.int (Ext.refl s)⟩
  · cases o
theorem DE.neg (ha : DE X a ta fa) : DE X (.UnaryOp .USub a pos) (tUn (rU fun i => .int (-i)) ta) (E.un negD fa) := DE.unop un_neg r1_neg ha
end

/-! ### equality -/
mutual
def toPy : D → PyData
  | .non => .none
  | .bl b => .bool b
  | .int i => .int i
  | .str s => .str s
  | .lst xs => .list (toPyA xs)
  | .tup xs => .tuple (toPyA xs)
  | .ex _ _ => .none
  | .scr _ => .none
def toPyA : List D → List PyData
  | [] => []
  | x :: xs => toPy x :: toPyA xs
end
mutual
def noScr : D → Bool
  | .ex _ _ => false
  | .scr _ => false
  | .lst xs => noScrA xs
  | .tup xs => noScrA xs
  | .non => true
  | .bl _ => true
  | .int _ => true
  | .str s => SeqAt.shaped (.str s)
def noScrA : List D → Bool
  | [] => true
  | x :: xs => noScr x && noScrA xs
end
mutual
def dep : D → Nat
  | .lst xs => depA xs + 1
  | .tup xs => depA xs + 1
  | .ex _ _ => 0
  | .scr _ => 0
  | .non => 0
  | .bl _ => 0
  | .int _ => 0
  | .str _ => 0
def depA : List D → Nat
  | [] => 0
  | x :: xs => max (dep x) (depA xs)
end
def okd (d : D) : Bool := noScr d && decide (dep d ≤ 50)
section
variable {K : PySem.W.Frag} {G H : Hp}
mutual
theorem fl_dp : ∀ {d : D} {v : V}, Fl K H d v → Dp K H v (toPy d)
  | .non, _, h => by cases (show _ = V.non from h); exact .non
  | .bl b, _, h => by cases (show _ = V.bl b from h); exact .bl b
  | .int b, _, h => by cases (show _ = V.int b from h); exact .int b
  | .str b, _, h => by cases (show _ = V.str b from h); exact .str b
  | .tup ds, v, h => by
    unfold Fl at h
    obtain ⟨a, vs, rfl, t, f⟩ := h
    unfold toPy
    exact .tup t (flA_dp f)
  | .lst ds, v, h => by unfold Fl at h; exact h.elim
  | .ex _ _, v, h => by unfold Fl at h; exact h.elim
  | .scr ds, v, h => by unfold Fl at h; exact h.elim
theorem flA_dp : ∀ {ds : List D} {vs : List V}, FlA K H ds vs → DpAll K H vs (toPyA ds)
  | [], _, h => by cases (show _ = ([] : List V) from h); exact .nil
  | d :: ds, vs, h => by
    unfold FlA at h
    obtain ⟨x, xs, rfl, a, b⟩ := h
    unfold toPyA
    exact .cons (fl_dp a) (flA_dp b)
end
mutual
theorem rq_dp (s : Same G H) : ∀ {d : D} {v : V}, noScr d = true → Rq K G H d v → Dp K H v (toPy d)
  | .non, _, _, h => by cases (show _ = V.non from h); exact .non
  | .bl b, _, _, h => by cases (show _ = V.bl b from h); exact .bl b
  | .int b, _, _, h => by cases (show _ = V.int b from h); exact .int b
  | .str b, _, _, h => by cases (show _ = V.str b from h); exact .str b
  | .tup ds, v, n, h => by
    unfold Rq at h
    obtain ⟨a, vs, rfl, t, f⟩ := h
    unfold toPy
    exact .tup t (flA_dp f)
  | .lst ds, v, n, h => by
    unfold Rq at h
    obtain ⟨a, vs, rfl, t, f⟩ := h
    unfold toPy
    exact .lst (SqL.of (s _ _ t)) (rqA_dp s (by simpa [noScr] using n) f)
  | .ex _ _, v, n, h => by simp [noScr] at n
  | .scr ds, v, n, h => by simp [noScr] at n
theorem rqA_dp (s : Same G H) : ∀ {ds : List D} {vs : List V}, noScrA ds = true → RqA K G H ds vs → DpAll K H vs (toPyA ds)
  | [], _, _, h => by cases (show _ = ([] : List V) from h); exact .nil
  | d :: ds, vs, n, h => by
    unfold RqA at h
    obtain ⟨x, xs, rfl, a, b⟩ := h
    have n' : noScr d = true ∧ noScrA ds = true := by simpa [noScrA] using n
    unfold toPyA
    exact .cons (rq_dp s n'.1 a) (rqA_dp s n'.2 b)
end
mutual
theorem canLay_ok : ∀ d : D, noScr d = true → (toPy d).canLay0 = true
  | .non, _ => rfl
  | .bl _, _ => rfl
  | .int _, _ => rfl
  | .str s, h => by
    unfold toPy
    exact SeqAt.canLay_of_shaped (by simpa [noScr] using h)
  | .lst xs, h => by
    unfold toPy PyData.canLay0
    exact canLayA_ok xs (by simpa [noScr] using h)
  | .tup xs, h => by
    unfold toPy PyData.canLay0
    exact canLayA_ok xs (by simpa [noScr] using h)
  | .ex _ _, h => by simp [noScr] at h
  | .scr _, h => by simp [noScr] at h
theorem canLayA_ok : ∀ ds : List D, noScrA ds = true → PyData.canLayAll0 (toPyA ds) = true
  | [], _ => by unfold toPyA; rfl
  | d :: ds, h => by
    have n' : noScr d = true ∧ noScrA ds = true := by simpa [noScrA] using h
    unfold toPyA PyData.canLayAll0
    rw [canLay_ok d n'.1, canLayA_ok ds n'.2]
    rfl
end
mutual
theorem depth_ok : ∀ d : D, (toPy d).depth ≤ dep d + 1
  | .non => by unfold toPy PyData.depth; omega
  | .bl _ => by unfold toPy PyData.depth; omega
  | .int _ => by unfold toPy PyData.depth; omega
  | .str s => by unfold toPy PyData.depth; omega
  | .lst xs => by
    have := depthA_ok xs
    unfold toPy PyData.depth dep
    omega
  | .tup xs => by
    have := depthA_ok xs
    unfold toPy PyData.depth dep
    omega
  | .ex _ _ => by unfold toPy PyData.depth; omega
  | .scr _ => by unfold toPy PyData.depth; omega
theorem depthA_ok : ∀ ds : List D, PyData.depthAll (toPyA ds) ≤ depA ds + 1
  | [] => by unfold toPyA PyData.depthAll; omega
  | d :: ds => by
    have h1 := depth_ok d
    have h2 := depthA_ok ds
    unfold toPyA PyData.depthAll depA
    omega
end
end
theorem shaped_ok {d : D} (h : okd d = true) : SeqAt.shaped (toPy d) = true := by
  unfold okd at h
  simp only [Bool.and_eq_true, decide_eq_true_eq] at h
  have h2 := depth_ok d
  unfold SeqAt.shaped
  rw [canLay_ok d h.1, Bool.true_and, decide_eq_true_eq]
  omega
def eqB (d e : D) : Bool := PyData.eqv (toPy d) (toPy e)
/-- == -/
def eqO : D → D → Option Bool
  | .int i, .int j => some (decide (i = j))
  | .str x, .str y => some (decide (x = y))
  | d, e => if okd d = true ∧ okd e = true then some (eqB d e) else none
def eqD (d e : D) : Option (D × Lv) := match eqO d e with
  | some b => some (.bl b, .full)
  | none => none
def neD (d e : D) : Option (D × Lv) := match eqO d e with
  | some b => some (.bl (!b), .full)
  | none => none
theorem r2_eq {K : PySem.W.Frag} : R2Ok K (fun x y H Q => rEq x y H Q ∨ rEqD K x y H Q) eqD := fun G H x y d e z lv s rx ry o Q p => by
  unfold eqD eqO at o
  split at o
  · rename_i b eb
    cases o
    split at eb
    · cases eb
      cases rq_int rx
      cases rq_int ry
      refine .inl ⟨rfl, ?_⟩
      have := p.bl (Ext.refl s)
      rwa [show decide (V.int _ = V.int _) = _ from decide_eq_decide.mpr (by rw [V.int.injEq])]
    · cases eb
      cases (show x = .str _ from rx)
      cases (show y = .str _ from ry)
      refine .inl ⟨rfl, ?_⟩
      have := p.bl (Ext.refl s)
      rwa [show decide (V.str _ = V.str _) = _ from decide_eq_decide.mpr (by rw [V.str.injEq])]
    · split at eb
      · rename_i h
        cases eb
        exact .inr ⟨_, _, rq_dp s (Bool.and_eq_true_iff.mp h.1).1 rx, rq_dp s (Bool.and_eq_true_iff.mp h.2).1 ry, shaped_ok h.1, shaped_ok h.2, p.bl (Ext.refl s)⟩
      · cases eb
  · cases o
theorem r2_ne {K : PySem.W.Frag} : R2Ok K (fun x y H Q => rNe x y H Q ∨ rNeD K x y H Q) neD := fun G H x y d e z lv s rx ry o Q p => by
  unfold neD eqO at o
  split at o
  · rename_i b eb
    cases o
    split at eb
    · cases eb
      cases rq_int rx
      cases rq_int ry
      refine .inl ⟨rfl, ?_⟩
      have := p.bl (Ext.refl s)
      rwa [show decide (V.int _ = V.int _) = _ from decide_eq_decide.mpr (by rw [V.int.injEq])]
    · cases eb
      cases (show x = .str _ from rx)
      cases (show y = .str _ from ry)
      refine .inl ⟨rfl, ?_⟩
      have := p.bl (Ext.refl s)
      rwa [show decide (V.str _ = V.str _) = _ from decide_eq_decide.mpr (by rw [V.str.injEq])]
    · split at eb
      · rename_i h
        cases eb
        exact .inr ⟨_, _, rq_dp s (Bool.and_eq_true_iff.mp h.1).1 rx, rq_dp s (Bool.and_eq_true_iff.mp h.2).1 ry, shaped_ok h.1, shaped_ok h.2, p.bl (Ext.refl s)⟩
      · cases eb
  · cases o
section
variable {X : Cx} {a b : Expr} {ta tb : TE} {fa fb : SE} {pos : Pos}
theorem DE.eq (hu : X.A.units + 65 < cLine) (ha : DE X a ta fa) (hb : DE X b tb fb) (hm : behindInMarks .Eq b = false := by first | exact nomark _ | rfl) : DE X (.Compare a [.Eq] [b] pos) (tOp (fun x y H Q => rEq x y H Q ∨ rEqD X.K x y H Q) ta tb) (E.bin eqD fa fb) :=
  DE.cmpop (op_eq.or (op_eqD (by omega))) r2_eq ha hb hm
theorem DE.ne (hu : X.A.units + 65 < cLine) (ha : DE X a ta fa) (hb : DE X b tb fb) (hm : behindInMarks .NotEq b = false := by first | exact nomark _ | rfl) : DE X (.Compare a [.NotEq] [b] pos) (tOp (fun x y H Q => rNe x y H Q ∨ rNeD X.K x y H Q) ta tb) (E.bin neD fa fb) :=
  DE.cmpop (op_ne.or (op_neD (by omega))) r2_ne ha hb hm
end
end PL

set_option Elab.async false
set_option linter.all false
set_option maxRecDepth 100000
set_option maxHeartbeats 2000000
/-! PL, part c: tests, subscripts, displays, calls, comprehensions. -/
namespace PL
open PySem PySem.Spec PyProof.Rows L2

/-! ### tests, and, or, not, if-expressions, chains -/
def SmT (K : PySem.W.Frag) (t : TT) (f : SE) : Prop := ∀ env σ G H b lv, Same G H → Reps K G H σ env → f env = some (.bl b, lv) → ∀ Q : Bool → Hp → Prop, (∀ G' H', Ext G H G' H' → Q b H') → t σ H Q
structure DT (X : Cx) (e : Expr) (t : TT) (f : SE) : Prop where
  pt : PT X e t
  sm : SmT X.K t f
structure DW (X : Cx) (e : Expr) (t : TT) (f : SE) : Prop where
  pw : PW X e t
  sm : SmT X.K t f
namespace E
def and (fa fb : SE) : SE := fun env => match fa env with
  | some (.bl true, _) => fb env
  | some (.bl false, _) => some (.bl false, .full)
  | _ => none
def or (fa fb : SE) : SE := fun env => match fa env with
  | some (.bl true, _) => some (.bl true, .full)
  | some (.bl false, _) => fb env
  | _ => none
def not (fa : SE) : SE := fun env => match fa env with
  | some (.bl b, _) => some (.bl (!b), .full)
  | _ => none
def ite (ft fa fb : SE) : SE := fun env => match ft env with
  | some (.bl true, _) => fa env
  | some (.bl false, _) => fb env
  | _ => none
/-- a op b op' c -/
def chain (op op' : D → D → Option (D × Lv)) (fa fb fc : SE) : SE := fun env => match fa env, fb env with
  | some (x, _), some (y, _) => (match op x y with
    | some (.bl true, _) => (match fc env with
      | some (z, _) => op' y z
      | none => none)
    | some (.bl false, _) => some (.bl false, .full)
    | _ => none)
  | _, _ => none
end E
section
variable {X : Cx} {a b c : Expr} {ta tb tc : TE} {tA tB' : TT} {fa fb fc ft : SE} {pos : Pos} {rest : List Expr}
theorem rq_bl {K : PySem.W.Frag} {G H : Hp} {b : Bool} {x : V} (h : Rq K G H (.bl b) x) : x = .bl b := h
theorem DT.val (h : DE X a ta fa) (he : ∀ whole, isTrue a X.env whole = (do let v ← whole; standAt a.pos; holding [v] (truthy v)) := by intro _; rfl) : DT X a (tB ta) fa :=
  ⟨pt_val h.pe he, fun env σ G H b lv s r e Q q => h.sm.read s r e fun v G' H' x rv => ⟨b, rq_bl rv, q G' H' x⟩⟩
theorem DT.ofW (h : DW X a tA fa) : DT X a tA fa := ⟨PW.pt h.pw, h.sm⟩
theorem DW.and1 (h : DT X a tA fa) : DW X (.BoolOp .And [a] pos) tA fa := ⟨pw_and1 h.pt, h.sm⟩
theorem DW.or1 (h : DT X a tA fa) : DW X (.BoolOp .Or [a] pos) tA fa := ⟨pw_or1 h.pt, h.sm⟩
theorem DW.and (ha : DT X a tA fa) (hb : DW X (.BoolOp .And (b :: rest) pos) tB' fb) : DW X (.BoolOp .And (a :: b :: rest) pos) (tAnd tA tB') (E.and fa fb) :=
  ⟨pw_and ha.pt hb.pw, fun env σ G H k lv s r e Q q => by
    unfold E.and at e
    split at e
    · rename_i l el
      exact ha.sm env σ G H true l s r el _ fun G1 H1 x1 => iteT (hb.sm env σ G1 H1 k lv x1.gh (r.mono x1) e Q fun G2 H2 x2 => q G2 H2 (x1.trans x2))
    · rename_i l el
      cases e
      exact ha.sm env σ G H false l s r el _ fun G1 H1 x1 => iteF (q G1 H1 x1)
    · cases e⟩
theorem DW.or (ha : DT X a tA fa) (hb : DW X (.BoolOp .Or (b :: rest) pos) tB' fb) : DW X (.BoolOp .Or (a :: b :: rest) pos) (tOr tA tB') (E.or fa fb) :=
  ⟨pw_or ha.pt hb.pw, fun env σ G H k lv s r e Q q => by
    unfold E.or at e
    split at e
    · rename_i l el
      cases e
      exact ha.sm env σ G H true l s r el _ fun G1 H1 x1 => iteT (q G1 H1 x1)
    · rename_i l el
      exact ha.sm env σ G H false l s r el _ fun G1 H1 x1 => iteF (hb.sm env σ G1 H1 k lv x1.gh (r.mono x1) e Q fun G2 H2 x2 => q G2 H2 (x1.trans x2))
    · cases e⟩
theorem DT.not (ha : DT X a tA fa) : DT X (.UnaryOp .Not a pos) (tNot tA) (E.not fa) := ⟨pt_not ha.pt, fun env σ G H k lv s r e Q q => by
  unfold E.not at e
  split at e
  · rename_i k' l el
    cases e
    exact ha.sm env σ G H k' l s r el _ fun G1 H1 x1 => q G1 H1 x1
  · cases e⟩
theorem DE.one {op} (h : DE X a ta fa) : DE X (.BoolOp op [a] pos) ta fa := ⟨pe_one h.pe, h.sm⟩
theorem DE.and (ha : DE X a ta fa) (hb : DE X (.BoolOp .And (b :: rest) pos) tb fb) : DE X (.BoolOp .And (a :: b :: rest) pos) (tAndV ta tb) (E.and fa fb) :=
  ⟨pe_and ha.pe hb.pe, fun env σ G H d lv s r e Q p => by
    unfold E.and at e
    split at e
    · rename_i l el
      exact ha.sm.read s r el fun v G1 H1 x1 r1 => ⟨true, rq_bl r1, iteT (hb.sm env σ G1 H1 d lv x1.gh (r.mono x1) e Q (p.ext x1))⟩
    · rename_i l el
      cases e
      exact ha.sm.read s r el fun v G1 H1 x1 r1 => ⟨false, rq_bl r1, iteF (p.bl x1)⟩
    · cases e⟩
theorem DE.or (ha : DE X a ta fa) (hb : DE X (.BoolOp .Or (b :: rest) pos) tb fb) : DE X (.BoolOp .Or (a :: b :: rest) pos) (tOrV ta tb) (E.or fa fb) :=
  ⟨pe_or ha.pe hb.pe, fun env σ G H d lv s r e Q p => by
    unfold E.or at e
    split at e
    · rename_i l el
      cases e
      exact ha.sm.read s r el fun v G1 H1 x1 r1 => ⟨true, rq_bl r1, iteT (p.bl x1)⟩
    · rename_i l el
      exact ha.sm.read s r el fun v G1 H1 x1 r1 => ⟨false, rq_bl r1, iteF (hb.sm env σ G1 H1 d lv x1.gh (r.mono x1) e Q (p.ext x1))⟩
    · cases e⟩
theorem DE.not (ha : DE X a ta fa) : DE X (.UnaryOp .Not a pos) (tNotV ta) (E.not fa) := ⟨pe_not ha.pe, fun env σ G H d lv s r e Q p => by
  unfold E.not at e
  split at e
  · rename_i k l el
    cases e
    exact ha.sm.read s r el fun v G1 H1 x1 r1 => ⟨k, rq_bl r1, p.bl x1⟩
  · cases e⟩
theorem DE.ifExp (ht : DT X c tA ft) (ha : DE X a ta fa) (hb : DE X b tb fb) : DE X (.IfExp c a b pos) (tIf tA ta tb) (E.ite ft fa fb) :=
  ⟨pe_ifExp ht.pt ha.pe hb.pe, fun env σ G H d lv s r e Q p => by
    unfold E.ite at e
    split at e
    · rename_i l el
      exact ht.sm env σ G H true l s r el _ fun G1 H1 x1 => iteT (ha.sm env σ G1 H1 d lv x1.gh (r.mono x1) e Q (p.ext x1))
    · rename_i l el
      exact ht.sm env σ G H false l s r el _ fun G1 H1 x1 => iteF (hb.sm env σ G1 H1 d lv x1.gh (r.mono x1) e Q (p.ext x1))
    · cases e⟩
/-- an operator's answer where it is a bool -/
theorem R2Ok.bool {K : PySem.W.Frag} {G H : Hp} {r : R2} {op : D → D → Option (D × Lv)} {x y : V} {d e : D} {k : Bool} {lv : Lv} (h : R2Ok K r op) (s : Same G H) (rx : Rq K G H d x) (ry : Rq K G H e y) (o : op d e = some (.bl k, lv)) {Q : VK}
    (q : ∀ G' H', Ext G H G' H' → Q (.bl k) H') : r x y H Q := h G H x y d e _ _ s rx ry o Q fun v G' H' A x fr w => by
  have := rq_bl (w.rq fun a ha => (fr a ha).2)
  rw [this]
  exact q _ _ (glue_ext x fr)
theorem DE.chain {o o' : CmpOp} {r r' : R2} {op op' : D → D → Option (D × Lv)} (ho : OpR X (compareOp o) r) (ho' : OpR X (compareOp o') r') (h : R2Ok X.K r op) (h' : R2Ok X.K r' op') (ha : DE X a ta fa) (hb : DE X b tb fb) (hc : DE X c tc fc)
    (hm : lastMarks [o, o'] [b, c] = false := by with_unfolding_all rfl) : DE X (.Compare a [o, o'] [b, c] pos) (tChain r r' ta tb tc) (E.chain op op' fa fb fc) :=
  ⟨pe_chain ho ho' ha.pe hb.pe hc.pe hm, fun env σ G H d lv s rp e Q p => by
    unfold E.chain at e
    split at e
    · rename_i x lx y ly ea eb
      refine ha.sm.read s rp ea fun v G1 H1 x1 r1 => hb.sm.read x1.gh (rp.mono x1) eb fun u G2 H2 x2 r2 => ?_
      have r1' := r1.mono x2.g (Stay.of x2.h)
      have x12 := x1.trans x2
      split at e
      · rename_i l el
        refine h.bool x2.gh r1' r2 el fun G3 H3 x3 => ⟨true, rfl, iteT ?_⟩
        split at e
        · rename_i z lz ez
          exact hc.sm.read x3.gh (rp.mono (x12.trans x3)) ez fun w' G4 H4 x4 r4 => h' G4 H4 u w' y z d lv x4.gh ((r2.mono x3.g (Stay.of x3.h)).mono x4.g (Stay.of x4.h)) r4 e Q (p.ext ((x12.trans x3).trans x4))
        · cases e
      · rename_i l el
        cases e
        exact h.bool x2.gh r1' r2 el fun G3 H3 x3 => ⟨false, rfl, iteF (p.bl (x12.trans x3))⟩
      · cases e
    · cases e⟩
/-- a comparison as a test -/
theorem DT.cmpop {o : CmpOp} {r : R2} {op : D → D → Option (D × Lv)} (ho : OpR X (compareOp o) r) (h : R2Ok X.K r op) (ha : DE X a ta fa) (hb : DE X b tb fb) (hm : behindInMarks o b = false := by first | exact nomark _ | rfl) : DT X (.Compare a [o] [b] pos) (tTest (tOp r ta tb)) (E.bin op fa fb) :=
  ⟨pt_cmpR ho ha.pe hb.pe hm, fun env σ G H k lv s rp e Q q => (Sm.op h ha.sm hb.sm).read s rp e fun v G' H' x rv => ⟨k, rq_bl rv, q G' H' x⟩⟩
theorem DT.lt (ha : DE X a ta fa) (hb : DE X b tb fb) (hm : behindInMarks .Lt b = false := by first | exact nomark _ | rfl) : DT X (.Compare a [.Lt] [b] pos) (tTest (tOp (rI0 fun i j => .bl (decide (i < j))) ta tb)) (E.bin ltD fa fb) := DT.cmpop op_lt r2_B0 ha hb hm
theorem DT.le (ha : DE X a ta fa) (hb : DE X b tb fb) (hm : behindInMarks .LtE b = false := by first | exact nomark _ | rfl) : DT X (.Compare a [.LtE] [b] pos) (tTest (tOp (rI0 fun i j => .bl (decide (i ≤ j))) ta tb)) (E.bin leD fa fb) := DT.cmpop op_le r2_B0 ha hb hm
theorem DT.gt (ha : DE X a ta fa) (hb : DE X b tb fb) (hm : behindInMarks .Gt b = false := by first | exact nomark _ | rfl) : DT X (.Compare a [.Gt] [b] pos) (tTest (tOp (rI0 fun i j => .bl (decide (j < i))) ta tb)) (E.bin gtD fa fb) := DT.cmpop op_gt r2_B0 ha hb hm
theorem DT.ge (ha : DE X a ta fa) (hb : DE X b tb fb) (hm : behindInMarks .GtE b = false := by first | exact nomark _ | rfl) : DT X (.Compare a [.GtE] [b] pos) (tTest (tOp (rI0 fun i j => .bl (decide (j ≤ i))) ta tb)) (E.bin geD fa fb) := DT.cmpop op_ge r2_B0 ha hb hm
theorem DT.eq (hu : X.A.units + 65 < cLine) (ha : DE X a ta fa) (hb : DE X b tb fb) (hm : behindInMarks .Eq b = false := by first | exact nomark _ | rfl) : DT X (.Compare a [.Eq] [b] pos) (tTest (tOp (fun x y H Q => rEq x y H Q ∨ rEqD X.K x y H Q) ta tb)) (E.bin eqD fa fb) :=
  DT.cmpop (op_eq.or (op_eqD (by omega))) r2_eq ha hb hm
theorem DT.ne (hu : X.A.units + 65 < cLine) (ha : DE X a ta fa) (hb : DE X b tb fb) (hm : behindInMarks .NotEq b = false := by first | exact nomark _ | rfl) : DT X (.Compare a [.NotEq] [b] pos) (tTest (tOp (fun x y H Q => rNe x y H Q ∨ rNeD X.K x y H Q) ta tb)) (E.bin neD fa fb) :=
  DT.cmpop (op_ne.or (op_neD (by omega))) r2_ne ha hb hm
theorem DT.chain {o o' : CmpOp} {r r' : R2} {op op' : D → D → Option (D × Lv)} (ho : OpR X (compareOp o) r) (ho' : OpR X (compareOp o') r') (h : R2Ok X.K r op) (h' : R2Ok X.K r' op') (ha : DE X a ta fa) (hb : DE X b tb fb) (hc : DE X c tc fc)
    (hm : lastMarks [o, o'] [b, c] = false := by with_unfolding_all rfl) : DT X (.Compare a [o, o'] [b, c] pos) (tTest (tChain r r' ta tb tc)) (E.chain op op' fa fb fc) :=
  ⟨pt_chain ho ho' ha.pe hb.pe hc.pe hm, fun env σ G H k lv s rp e Q q => (DE.chain (pos := pos) ho ho' h h' ha hb hc hm).sm.read s rp e fun v G' H' x rv => ⟨k, rq_bl rv, q G' H' x⟩⟩
abbrev rLe : R2 := rI0 fun i j => .bl (decide (i ≤ j))
abbrev rLt : R2 := rI0 fun i j => .bl (decide (i < j))
abbrev rEqA (K : PySem.W.Frag) : R2 := fun x y H Q => rEq x y H Q ∨ rEqD K x y H Q
theorem DE.leLe (ha : DE X a ta fa) (hb : DE X b tb fb) (hc : DE X c tc fc) (hm : lastMarks [.LtE, .LtE] [b, c] = false := by with_unfolding_all rfl) : DE X (.Compare a [.LtE, .LtE] [b, c] pos) (tChain rLe rLe ta tb tc) (E.chain leD leD fa fb fc) := DE.chain op_le op_le r2_B0 r2_B0 ha hb hc hm
theorem DE.leLt (ha : DE X a ta fa) (hb : DE X b tb fb) (hc : DE X c tc fc) (hm : lastMarks [.LtE, .Lt] [b, c] = false := by with_unfolding_all rfl) : DE X (.Compare a [.LtE, .Lt] [b, c] pos) (tChain rLe rLt ta tb tc) (E.chain leD ltD fa fb fc) := DE.chain op_le op_lt r2_B0 r2_B0 ha hb hc hm
theorem DE.eqEq (hu : X.A.units + 65 < cLine) (ha : DE X a ta fa) (hb : DE X b tb fb) (hc : DE X c tc fc) (hm : lastMarks [.Eq, .Eq] [b, c] = false := by with_unfolding_all rfl) : DE X (.Compare a [.Eq, .Eq] [b, c] pos) (tChain (rEqA X.K) (rEqA X.K) ta tb tc) (E.chain eqD eqD fa fb fc) :=
  DE.chain (op_eq.or (op_eqD (by omega))) (op_eq.or (op_eqD (by omega))) r2_eq r2_eq ha hb hc hm
theorem DT.leLe (ha : DE X a ta fa) (hb : DE X b tb fb) (hc : DE X c tc fc) (hm : lastMarks [.LtE, .LtE] [b, c] = false := by with_unfolding_all rfl) : DT X (.Compare a [.LtE, .LtE] [b, c] pos) (tTest (tChain rLe rLe ta tb tc)) (E.chain leD leD fa fb fc) := DT.chain op_le op_le r2_B0 r2_B0 ha hb hc hm
theorem DT.leLt (ha : DE X a ta fa) (hb : DE X b tb fb) (hc : DE X c tc fc) (hm : lastMarks [.LtE, .Lt] [b, c] = false := by with_unfolding_all rfl) : DT X (.Compare a [.LtE, .Lt] [b, c] pos) (tTest (tChain rLe rLt ta tb tc)) (E.chain leD ltD fa fb fc) := DT.chain op_le op_lt r2_B0 r2_B0 ha hb hc hm
theorem DT.eqEq (hu : X.A.units + 65 < cLine) (ha : DE X a ta fa) (hb : DE X b tb fb) (hc : DE X c tc fc) (hm : lastMarks [.Eq, .Eq] [b, c] = false := by with_unfolding_all rfl) : DT X (.Compare a [.Eq, .Eq] [b, c] pos) (tTest (tChain (rEqA X.K) (rEqA X.K) ta tb tc)) (E.chain eqD eqD fa fb fc) :=
  DT.chain (op_eq.or (op_eqD (by omega))) (op_eq.or (op_eqD (by omega))) r2_eq r2_eq ha hb hc hm
end

/-! ### is None, in -/
def isNonD : D → Option (D × Lv)
  | .non => some (.bl true, .full)
  | .ex _ _ => none
  | .scr _ => none
  | _ => some (.bl false, .full)
theorem isNon_V {K : PySem.W.Frag} {G H : Hp} {d : D} {x : V} {b : Bool} {lv : Lv} (r : Rq K G H d x) (e : isNonD d = some (.bl b, lv)) : decide (x = .non) = b := by
  cases d with
  | non => cases (show x = .non from r); simp [isNonD] at e; simp [← e.1]
  | bl k => cases (show x = .bl k from r); simp [isNonD] at e; simp [← e.1]
  | int k => cases (show x = .int k from r); simp [isNonD] at e; simp [← e.1]
  | str k => cases (show x = .str k from r); simp [isNonD] at e; simp [← e.1]
  | lst k => unfold Rq at r; obtain ⟨a, vs, rfl, _⟩ := r; simp [isNonD] at e; simp [← e.1]
  | tup k => unfold Rq at r; obtain ⟨a, vs, rfl, _⟩ := r; simp [isNonD] at e; simp [← e.1]
  | ex k c => simp [isNonD] at e
  | scr k => simp [isNonD] at e
section
variable {X : Cx} {a b c : Expr} {ta tb tc : TE} {fa fb fc ft : SE} {pos pos' : Pos}
theorem isNonD_bl {d e : D} {lv : Lv} (h : isNonD d = some (e, lv)) : ∃ b, e = .bl b ∧ lv = .full := by
  unfold isNonD at h
  split at h <;> cases h <;> exact ⟨_, rfl, rfl⟩
theorem DE.isNon {j : Nat} (ha : DE X a ta fa) : DE X (.Compare a [.Is] [.Constant .none j pos'] pos) (tIsN ta) (E.un isNonD fa) := ⟨pe_cmp (pc_isN ha.pe) rfl, fun env σ G H d lv s r e Q p => by
  unfold E.un at e
  split at e
  · rename_i x lx ea
    obtain ⟨k, rfl, rfl⟩ := isNonD_bl e
    exact ha.sm.read s r ea fun v G1 H1 x1 r1 => by
      rw [isNon_V r1 e]
      exact p.bl x1
  · cases e⟩
end
section
variable {X : Cx} {a : Expr} {ta : TE} {fa : SE} {pos pos' : Pos}
theorem DT.isNon {j : Nat} (ha : DE X a ta fa) : DT X (.Compare a [.Is] [.Constant .none j pos'] pos) (tB (tIsN ta)) (E.un isNonD fa) := ⟨pt_cmp (pc_isN ha.pe), fun env σ G H k lv s rp e Q q => (DE.isNon (pos := pos) (pos' := pos') (j := j) ha).sm.read s rp e fun v G' H' x rv => ⟨k, rq_bl rv, q G' H' x⟩⟩
end
/-- x in a list (of any data), x in a tuple of ints -/
def anyEq (x : D) : List D → Option Bool
  | [] => some false
  | y :: ys => match eqO y x, anyEq x ys with
    | some b, some r => some (b || r)
    | _, _ => none
def inD (x c : D) : Option (D × Lv) := match c with
  | .lst ds => if okd x = true ∧ okd (.lst ds) = true then some (.bl (ds.any fun y => eqB y x), .full) else none
  | _ => none
def notInD (x c : D) : Option (D × Lv) := match c with
  | .lst ds => if okd x = true ∧ okd (.lst ds) = true then some (.bl (!ds.any fun y => eqB y x), .full) else none
  | _ => none
theorem toPyA_any (p : PyData → Bool) : ∀ ds : List D, (toPyA ds).any p = ds.any fun y => p (toPy y)
  | [] => by unfold toPyA; rfl
  | d :: ds => by unfold toPyA; rw [List.any_cons, List.any_cons, toPyA_any p ds]
theorem okd_ns {d : D} (h : okd d = true) : noScr d = true := (Bool.and_eq_true_iff.mp h).1
theorem r2_in {K : PySem.W.Frag} : R2Ok K (rInD K) inD := fun G H x y d e z lv s rx ry o Q p => by
  unfold inD at o
  split at o
  · rename_i ds
    split at o
    · rename_i h
      cases o
      have t : toPy (.lst ds) = .list (toPyA ds) := by unfold toPy; rfl
      refine ⟨toPy d, toPyA ds, rq_dp s (okd_ns h.1) rx, t ▸ rq_dp s (okd_ns h.2) ry, shaped_ok h.1, t ▸ shaped_ok h.2, ?_⟩
      rw [toPyA_any]
      exact p.bl (Ext.refl s)
    · cases o
  · cases o
theorem r2_notIn {K : PySem.W.Frag} : R2Ok K (rNotInD K) notInD := fun G H x y d e z lv s rx ry o Q p => by
  unfold notInD at o
  split at o
  · rename_i ds
    split at o
    · rename_i h
      cases o
      have t : toPy (.lst ds) = .list (toPyA ds) := by unfold toPy; rfl
      refine ⟨toPy d, toPyA ds, rq_dp s (okd_ns h.1) rx, t ▸ rq_dp s (okd_ns h.2) ry, shaped_ok h.1, t ▸ shaped_ok h.2, ?_⟩
      rw [toPyA_any]
      exact p.bl (Ext.refl s)
    · cases o
  · cases o
/-- ints and texts, flat for the library's in -/
def atomD : D → Bool
  | .int _ => true
  | .str _ => true
  | .bl _ => true
  | .non => true
  | _ => false
def vOf : D → V
  | .int i => .int i
  | .str s => .str s
  | .bl b => .bl b
  | _ => .non
theorem atom_V {K : PySem.W.Frag} {G H : Hp} {d : D} {x : V} (a : atomD d = true) (r : Rq K G H d x) : x = vOf d ∧ flatV x = true := by
  cases d with
  | non => cases (show x = .non from r); exact ⟨rfl, rfl⟩
  | bl k => cases (show x = .bl k from r); exact ⟨rfl, rfl⟩
  | int k => cases (show x = .int k from r); exact ⟨rfl, rfl⟩
  | str k => cases (show x = .str k from r); exact ⟨rfl, rfl⟩
  | lst k => simp [atomD] at a
  | tup k => simp [atomD] at a
  | ex k c => simp [atomD] at a
  | scr k => simp [atomD] at a
theorem atoms_V {K : PySem.W.Frag} {G H : Hp} : ∀ {ds : List D} {vs : List V}, ds.all atomD = true → RqA K G H ds vs → vs = ds.map vOf ∧ vs.all flatV = true
  | [], vs, _, h => by unfold RqA at h; rw [h]; exact ⟨rfl, rfl⟩
  | d :: ds, vs, a, h => by
    unfold RqA at h
    obtain ⟨x, xs, rfl, p, q⟩ := h
    have a' : atomD d = true ∧ ds.all atomD = true := by simpa using a
    obtain ⟨e1, f1⟩ := atom_V a'.1 p
    obtain ⟨e2, f2⟩ := atoms_V a'.2 q
    rw [e1, e2]
    refine ⟨rfl, ?_⟩
    rw [e1] at f1
    rw [e2] at f2
    rw [List.all_cons, f1, f2]; rfl
def inTD (neg : Bool) (x c : D) : Option (D × Lv) := match c with
  | .tup ds => if atomD x = true ∧ ds.all atomD = true then some (.bl (if neg then !inV (vOf x) (ds.map vOf) else inV (vOf x) (ds.map vOf)), .full) else none
  | .lst ds => if atomD x = true ∧ ds.all atomD = true then some (.bl (if neg then !inV (vOf x) (ds.map vOf) else inV (vOf x) (ds.map vOf)), .full) else none
  | _ => none
theorem r2_inT {K : PySem.W.Frag} {neg : Bool} : R2Ok K (rIn K neg) (inTD neg) := fun G H x y d e z lv s rx ry o Q p => by
  unfold inTD at o
  split at o
  · rename_i ds
    split at o
    · rename_i h
      cases o
      unfold Rq at ry
      obtain ⟨a, vs, rfl, t, f⟩ := ry
      obtain ⟨e1, f1⟩ := atom_V h.1 rx
      obtain ⟨e2, f2⟩ := atoms_V (G := G) h.2 (FlA.rq f)
      refine ⟨a, vs, rfl, .inr t, f1, f2, ?_⟩
      rw [e1, e2]
      exact p.bl (Ext.refl s)
    · cases o
  · rename_i ds
    split at o
    · rename_i h
      cases o
      unfold Rq at ry
      obtain ⟨a, vs, rfl, t, f⟩ := ry
      obtain ⟨e1, f1⟩ := atom_V h.1 rx
      obtain ⟨e2, f2⟩ := atoms_V h.2 f
      refine ⟨a, vs, rfl, .inl (SqL.of (s _ _ t)), f1, f2, ?_⟩
      rw [e1, e2]
      exact p.bl (Ext.refl s)
    · cases o
  · cases o
section
variable {X : Cx} {a b c : Expr} {ta tb tc : TE} {fa fb fc ft : SE} {pos : Pos}
theorem DE.inL (hu : X.A.units + 65 < cLine) (ha : DE X a ta fa) (hb : DE X b tb fb) (hm : behindInMarks .In b = false := by first | exact nomark _ | rfl) : DE X (.Compare a [.In] [b] pos) (tOp (rInD X.K) ta tb) (E.bin inD fa fb) := DE.cmpop (op_inD hu) r2_in ha hb hm
theorem DE.notInL (hu : X.A.units + 65 < cLine) (ha : DE X a ta fa) (hb : DE X b tb fb) (hm : behindInMarks .NotIn b = false := by first | exact nomark _ | rfl) : DE X (.Compare a [.NotIn] [b] pos) (tOp (rNotInD X.K) ta tb) (E.bin notInD fa fb) := DE.cmpop (op_notInD hu) r2_notIn ha hb hm
theorem DE.inT (ha : DE X a ta fa) (hb : DE X b tb fb) (hm : behindInMarks .In b = false := by first | exact nomark _ | rfl) : DE X (.Compare a [.In] [b] pos) (tOp (rIn X.K false) ta tb) (E.bin (inTD false) fa fb) := DE.cmpop op_in_seq r2_inT ha hb hm
theorem DT.inL (hu : X.A.units + 65 < cLine) (ha : DE X a ta fa) (hb : DE X b tb fb) (hm : behindInMarks .In b = false := by first | exact nomark _ | rfl) : DT X (.Compare a [.In] [b] pos) (tTest (tOp (rInD X.K) ta tb)) (E.bin inD fa fb) := DT.cmpop (op_inD hu) r2_in ha hb hm
theorem DT.notInL (hu : X.A.units + 65 < cLine) (ha : DE X a ta fa) (hb : DE X b tb fb) (hm : behindInMarks .NotIn b = false := by first | exact nomark _ | rfl) : DT X (.Compare a [.NotIn] [b] pos) (tTest (tOp (rNotInD X.K) ta tb)) (E.bin notInD fa fb) := DT.cmpop (op_notInD hu) r2_notIn ha hb hm
theorem DT.inT (ha : DE X a ta fa) (hb : DE X b tb fb) (hm : behindInMarks .In b = false := by first | exact nomark _ | rfl) : DT X (.Compare a [.In] [b] pos) (tTest (tOp (rIn X.K false) ta tb)) (E.bin (inTD false) fa fb) := DT.cmpop op_in_seq r2_inT ha hb hm
theorem DT.notInT (ha : DE X a ta fa) (hb : DE X b tb fb) (hm : behindInMarks .NotIn b = false := by first | exact nomark _ | rfl) : DT X (.Compare a [.NotIn] [b] pos) (tTest (tOp (rIn X.K true) ta tb)) (E.bin (inTD true) fa fb) := DT.cmpop op_notIn_seq r2_inT ha hb hm
theorem DE.notInT (ha : DE X a ta fa) (hb : DE X b tb fb) (hm : behindInMarks .NotIn b = false := by first | exact nomark _ | rfl) : DE X (.Compare a [.NotIn] [b] pos) (tOp (rIn X.K true) ta tb) (E.bin (inTD true) fa fb) := DE.cmpop op_notIn_seq r2_inT ha hb hm
end

/-! ### subscripts and slices -/
def ixD : D → D → Option (D × Lv)
  | .lst ds, .int i => match atI ds i with
    | some d => some (d, lvS d)
    | none => none
  | .tup ds, .int i => match atI ds i with
    | some d => some (d, lvS d)
    | none => none
  | .scr ns, .int i => match atI ns i with
    | some n => some (.int n, .full)
    | none => none
  | .str z, .int i => if z.length ≤ 1000000 then (match atI z.cps.toList i with
    | some c => some (.str ⟨#[c]⟩, .full)
    | none => none) else none
  | _, _ => none
theorem atI_rq {K : PySem.W.Frag} {G H : Hp} {ds : List D} {vs : List V} (r : RqA K G H ds vs) {i : Int} {d : D} (e : atI ds i = some d) : ∃ v, atI vs i = some v ∧ Rq K G H d v := by
  unfold atI at e ⊢
  rw [r.length]
  cases q : ixN ds.length i with
  | none => rw [q] at e; cases e
  | some j =>
    rw [q] at e
    exact r.get (show ds[j]? = some d from e)
theorem r2_ix {K : PySem.W.Frag} : R2Ok K (rIx K) ixD := fun G H x y d e z lv s rx ry o Q p => by
  unfold ixD at o
  split at o
  · rename_i ds i
    split at o
    · rename_i w hw
      cases o
      unfold Rq at rx
      obtain ⟨a, vs, rfl, t, f⟩ := rx
      cases rq_int ry
      obtain ⟨v, h1, h2⟩ := atI_rq f hw
      exact .inl ⟨a, vs, i, v, rfl, rfl, SqL.of (s _ _ t), h1, p.rq (Ext.refl s) h2⟩
    · cases o
  · rename_i ds i
    split at o
    · rename_i w hw
      cases o
      unfold Rq at rx
      obtain ⟨a, vs, rfl, t, f⟩ := rx
      cases rq_int ry
      obtain ⟨v, h1, h2⟩ := atI_rq (G := G) (FlA.rq f) hw
      exact .inr (.inl ⟨a, vs, i, v, rfl, rfl, t, h1, p.rq (Ext.refl s) h2⟩)
    · cases o
  · rename_i ns i
    split at o
    · rename_i w hw
      cases o
      unfold Rq at rx
      obtain ⟨a, rfl, t⟩ := rx
      cases rq_int ry
      refine .inl ⟨a, ns.map V.int, i, .int w, rfl, rfl, s.seq t, ?_, p.int (Ext.refl s)⟩
      unfold atI at hw ⊢
      rw [List.length_map]
      cases q : ixN ns.length i with
      | none => rw [q] at hw; cases hw
      | some j =>
        rw [q] at hw
        have hw' : ns[j]? = some w := hw
        show (ns.map V.int)[j]? = some (V.int w)
        rw [List.getElem?_map, hw']; rfl
    · cases o
  · rename_i z' i
    split at o
    · rename_i hl
      split at o
      · rename_i w hw
        cases o
        cases (show x = .str z' from rx)
        cases rq_int ry
        exact .inr (.inr ⟨z', i, w, rfl, rfl, line_of hl, hw, p.str (Ext.refl s)⟩)
      · cases o
    · cases o
  · cases o
def cutA {α : Type} (xs : List α) (lo hi : Option Int) : List α := (xs.drop (HT.sIx xs.length 0 lo)).take (HT.sIx xs.length xs.length hi - HT.sIx xs.length 0 lo)
theorem cut_rq {K : PySem.W.Frag} {G H : Hp} {ds : List D} {vs : List V} (r : RqA K G H ds vs) (lo hi : Option Int) : RqA K G H (cutA ds lo hi) (cutV vs lo hi) := by
  unfold cutA cutV
  rw [r.length]
  exact (r.drop _).take _
def sliceD (d : D) (lo hi : Option Int) : Option (D × Lv) := match d with
  | .lst ds => some (.lst (cutA ds lo hi), lvL (cutA ds lo hi))
  | .str z => if z.length ≤ 1000000 then some (.str (cutS z lo hi), .full) else none
  | .tup ds => if ¬ (HT.sIx ds.length 0 lo = 0 ∧ HT.sIx ds.length ds.length hi = ds.length) ∧ flatA (cutA ds lo hi) = true then some (.tup (cutA ds lo hi), .full) else none
  | _ => none
def SmO (K : PySem.W.Frag) (t : TO) (f : Env → Option (Option Int)) : Prop := ∀ env σ G H o, Same G H → Reps K G H σ env → f env = some o → ∀ Q : Option Int → Hp → Prop, (∀ G' H', Ext G H G' H' → Q o H') → t σ H Q
structure DO (X : Cx) (e : Option Expr) (t : TO) (f : Env → Option (Option Int)) : Prop where
  po : PO X e t
  sm : SmO X.K t f
namespace E
def noPart : Env → Option (Option Int) := fun _ => some none
def part (f : SE) : Env → Option (Option Int) := fun env => match f env with
  | some (.int i, _) => some (some i)
  | _ => none
def slice (fa : SE) (fl fh : Env → Option (Option Int)) : SE := fun env => match fa env, fl env, fh env with
  | some (d, _), some lo, some hi => sliceD d lo hi
  | _, _, _ => none
end E
section
variable {X : Cx} {a b c : Expr} {ta tb tc : TE} {fa fb fc ft : SE} {pos p2 : Pos} {lo hi : Option Expr} {tl th : TO} {fl fh : Env → Option (Option Int)}
theorem DE.ix (ha : DE X a ta fa) (hb : DE X b tb fb) (hs : PlainIx b := by exact fun _ _ => rfl) : DE X (.Subscript a b pos) (tOp (rIx X.K) ta tb) (E.bin ixD fa fb) := ⟨pe_ix ix_seq ha.pe hb.pe hs, Sm.op r2_ix ha.sm hb.sm⟩
theorem DO.non : DO X none tNoPart E.noPart := ⟨po_none, fun env σ G H o s r e Q q => by cases e; exact q G H (Ext.refl s)⟩
theorem DO.some (ha : DE X a ta fa) : DO X (some a) (tPart ta) (E.part fa) := ⟨po_some ha.pe, fun env σ G H o s r e Q q => by
  unfold E.part at e
  split at e
  · rename_i i l el
    cases e
    exact ha.sm.read s r el fun v G1 H1 x1 r1 => ⟨i, rq_int r1, q G1 H1 x1⟩
  · cases e⟩
abbrev rSlAll (K : PySem.W.Frag) : V → Option Int → Option Int → Hp → VK → Prop := fun x lo hi H Q => rSlL K x lo hi H Q ∨ (rSlS x lo hi H Q ∨ rSlT K x lo hi H Q)
theorem DE.slice (ha : DE X a ta fa) (hl : DO X lo tl fl) (hh : DO X hi th fh) : DE X (.Subscript a (.Slice lo hi none p2) pos) (tSl (rSlAll X.K) ta tl th) (E.slice fa fl fh) :=
  ⟨pe_slice (sl_list.or (sl_str.or sl_tup)) ha.pe hl.po hh.po, fun env σ G H d lv s r e Q p => by
    unfold E.slice at e
    split at e
    · rename_i x lx l u ea el eh
      refine ha.sm.read s r ea fun v G1 H1 x1 r1 => hl.sm env σ G1 H1 l x1.gh (r.mono x1) el _ fun G2 H2 x2 => hh.sm env σ G2 H2 u x2.gh (r.mono (x1.trans x2)) eh _ fun G3 H3 x3 => ?_
      have r3 := (r1.mono x2.g (Stay.of x2.h)).mono x3.g (Stay.of x3.h)
      have y3 := (x1.trans x2).trans x3
      unfold sliceD at e
      split at e
      · rename_i ds
        cases e
        unfold Rq at r3
        obtain ⟨a', vs, rfl, t, f⟩ := r3
        exact .inl ⟨a', vs, rfl, SqL.of (x3.gh _ _ t), fun q hq => p.newL y3 (cut_rq f l u) hq⟩
      · rename_i z
        split at e
        · rename_i hz
          cases e
          cases (show v = .str z from r3)
          exact .inr (.inl ⟨z, rfl, line_of hz, p.str y3⟩)
        · cases e
      · rename_i ds
        split at e
        · rename_i hz
          cases e
          unfold Rq at r3
          obtain ⟨a', vs, rfl, t, f⟩ := r3
          refine .inr (.inr ⟨a', vs, rfl, t, ?_, fun q hq => p.newT y3 (cut_rq (G := G3) (FlA.rq f) l u) hz.2 hq⟩)
          rw [f.length]
          exact hz.1
        · cases e
      · cases e
    · cases e⟩
end

/-! ### argument lists, displays -/
def evA : List SE → Env → Option (List D)
  | [], _ => some []
  | f :: fs, env => match f env with
    | some (d, _) => (match evA fs env with
      | some ds => some (d :: ds)
      | none => none)
    | none => none
/-- all new -/
def evF : List SE → Env → Option (List D)
  | [], _ => some []
  | f :: fs, env => match f env with
    | some (d, .full) => (match evF fs env with
      | some ds => some (d :: ds)
      | none => none)
    | _ => none
def SmA (K : PySem.W.Frag) (t : TA) (fs : List SE) : Prop := ∀ env σ G H ds, Same G H → Reps K G H σ env → evA fs env = some ds → ∀ Q : List V → Hp → Prop, (∀ vs G' H', Ext G H G' H' → RqA K G' H' ds vs → Q vs H') → t σ H Q
def SmF (K : PySem.W.Frag) (t : TA) (fs : List SE) : Prop := ∀ env σ G H ds, Same G H → Reps K G H σ env → evF fs env = some ds → ∀ Q : List V → Hp → Prop,
  (∀ vs G' H' A, Ext G H G' H' → (∀ a, A a → H a = none ∧ G' a = none) → TrA K H' ds vs A → Q vs H') → t σ H Q
structure DA (X : Cx) (es : List Expr) (t : TA) (fs : List SE) : Prop where
  pa : PA X es t
  sm : SmA X.K t fs
  smF : SmF X.K t fs
theorem evA_len : ∀ (fs : List SE) (env : Env) (ds : List D), evA fs env = some ds → ds.length = fs.length
  | [], _, _, e => by cases e; rfl
  | f :: fs, env, ds, e => by
    unfold evA at e
    split at e
    · split at e
      · rename_i h
        cases e
        rw [List.length_cons, List.length_cons, evA_len fs env _ h]
      · cases e
    · cases e
theorem evF_len : ∀ (fs : List SE) (env : Env) (ds : List D), evF fs env = some ds → ds.length = fs.length
  | [], _, _, e => by cases e; rfl
  | f :: fs, env, ds, e => by
    unfold evF at e
    split at e
    · split at e
      · rename_i h
        cases e
        rw [List.length_cons, List.length_cons, evF_len fs env _ h]
      · cases e
    · cases e
section
variable {X : Cx} {e : Expr} {es : List Expr} {te : TE} {ta : TA} {fe : SE} {fs : List SE} {pos : Pos}
theorem DA.nil : DA X [] tNil [] := ⟨pa_nil, fun env σ G H ds s r e Q q => (by cases e; exact q [] G H (Ext.refl s) (by unfold RqA; rfl)),
  fun env σ G H ds s r e Q q => by cases e; exact q [] G H noA (Ext.refl s) (fun _ z => z.elim) (by unfold TrA; exact ⟨rfl, fun _ z => z⟩)⟩
theorem DA.cons (h : DE X e te fe) (hr : DA X es ta fs) (hs : starEach (e :: es) X.env = (false, eval e X.env) :: starEach es X.env := by rfl) : DA X (e :: es) (tCons te ta) (fe :: fs) := by
  refine ⟨pa_cons h.pe hr.pa hs, ?_, ?_⟩
  · intro env σ G H ds s r e Q q
    unfold evA at e
    split at e
    · rename_i d l ed
      split at e
      · rename_i ds' eds
        cases e
        refine h.sm.read s r ed fun v G1 H1 x1 r1 => hr.sm env σ G1 H1 ds' x1.gh (r.mono x1) eds _ fun vs G2 H2 x2 r2 => q (v :: vs) G2 H2 (x1.trans x2) ?_
        unfold RqA
        exact ⟨v, vs, rfl, r1.mono x2.g (Stay.of x2.h), r2⟩
      · cases e
    · cases e
  · intro env σ G H ds s r e Q q
    unfold evF at e
    split at e
    · rename_i d ed
      split at e
      · rename_i ds' eds
        cases e
        refine h.sm env σ G H d .full s r ed _ fun v G1 H1 A x1 fr1 o1 => hr.smF env σ G1 H1 ds' x1.gh (r.mono x1) eds _ fun vs G2 H2 B x2 fr2 o2 => ?_
        have t1 : Tr X.K H1 d v A := o1
        have at1 : ∀ a, A a → H1 a ≠ none := fun a ha z => by
          obtain ⟨xs, hx⟩ := t1.lists a ha
          rw [hx] at z
          cases z
        refine q (v :: vs) G2 H2 (fun a => A a ∨ B a) (x1.trans x2) (fun a ha => ?_) ?_
        · rcases ha with ha | hb
          · exact ⟨(fr1 a ha).1, x2.av a (at1 a ha) (fr1 a ha).2⟩
          · exact ⟨x1.h.free (fr2 a hb).1, (fr2 a hb).2⟩
        · unfold TrA
          refine ⟨v, vs, A, B, rfl, t1.mono (Stay.of x2.h) (fun a ha => ?_), o2, fun a ha hb => at1 a ha (fr2 a hb).1, fun a => Iff.rfl⟩
          obtain ⟨xs, hx⟩ := t1.lists a ha
          rw [hx, x2.h _ _ hx]
      · cases e
    · cases e
namespace E
def list (fs : List SE) : SE := fun env => match evF fs env with
  | some ds => some (.lst ds, .full)
  | none => match evA fs env with
    | some ds => some (.lst ds, .out)
    | none => none
def tuple (fs : List SE) : SE := fun env => match evA fs env with
  | some ds => if flatA ds = true then some (.tup ds, .full) else none
  | none => none
end E
theorem Post.newTree {K : PySem.W.Frag} {G H G' H' : Hp} {ds : List D} {Q : VK} (p : Post K G H (.lst ds) .full Q) (x : Ext G H G' H') {vs : List V} {A : Addr → Prop} (fr : ∀ a, A a → H a = none ∧ G' a = none) (h : TrA K H' ds vs A) {l : Addr} (hl : H' l = none) : Q (.ref l) (upd H' l (.lst vs)) := by
  have gl : G' l = none := x.gh.free hl
  have e : Ext G' H' G' (upd H' l (.lst vs)) := Ext.new x.gh hl
  have ne : ∀ a, A a → a ≠ l := fun a ha z => by
    obtain ⟨xs, hx⟩ := h.lists a ha
    rw [z, hl] at hx
    cases hx
  refine p (.ref l) G' _ (fun a => a = l ∨ A a) (x.trans e) (fun a ha => ?_) ?_
  · rcases ha with rfl | ha
    · exact ⟨x.h.free hl, gl⟩
    · exact fr a ha
  · unfold Own Tr
    exact ⟨l, vs, A, rfl, upd_same, h.mono (Stay.of e.h) (fun a ha => upd_ne (ne a ha)), fun z => ne l z rfl, fun a => Iff.rfl⟩
theorem DE.list (ha : DA X es ta fs) (hl : fs.length ≤ 1000 := by first | decide | simp) : DE X (.List es pos) (tLst ta) (E.list fs) := ⟨pe_lst ha.pa, fun env σ G H d lv s r e Q p => by
  unfold E.list at e
  split at e
  · rename_i ds eds
    cases e
    refine ha.smF env σ G H ds s r eds _ fun vs G1 H1 A x1 fr t => ⟨?_, fun l hl' => p.newTree x1 fr t hl'⟩
    rw [t.length, evF_len fs env ds eds]
    exact line_of (by omega)
  · split at e
    · rename_i ds eds
      cases e
      refine ha.sm env σ G H ds s r eds _ fun vs G1 H1 x1 t => ⟨?_, fun l hl' => ?_⟩
      · rw [t.length, evA_len fs env ds eds]
        exact line_of (by omega)
      · have ex : Ext G1 H1 G1 (upd H1 l (.lst vs)) := Ext.new x1.gh hl'
        exact p (.ref l) G1 _ (fun a => a = l) (x1.trans ex) (fun a ha => by rw [ha]; exact ⟨x1.h.free hl', x1.gh.free hl'⟩) ⟨ds, l, vs, rfl, rfl, upd_same, t.mono (Same.refl _) (Stay.of ex.h), fun a => Iff.rfl⟩
    · cases e⟩
theorem DE.tuple {x1 : _} (ha : DA X es ta fs) (hl : fs.length ≤ 1000 := by first | decide | simp) : DE X (.Tuple es x1 pos) (tTup ta) (E.tuple fs) := ⟨pe_tup ha.pa, fun env σ G H d lv s r e Q p => by
  unfold E.tuple at e
  split at e
  · rename_i ds eds
    split at e
    · rename_i hf
      cases e
      refine ha.sm env σ G H ds s r eds _ fun vs G1 H1 x1 t => ⟨?_, fun l hl' => p.newT x1 t hf hl'⟩
      rw [t.length, evA_len fs env ds eds]
      exact line_of (by omega)
    · cases e
  · cases e⟩
end

/-! ### calls -/
inductive Out where
  | ok (d : D) (lv : Lv)
  | exc (c : Str)
def spD (K : PySem.W.Frag) (mg : Str → Option Value) (n : Nat) (F : List D → Option Out) : Sp := fun vs H Q E => vs.length = n ∧ ∃ G ds o, Same G H ∧ RqA K G H ds vs ∧ F ds = some o ∧
  match o with
  | .ok d lv => Post K G H d lv Q
  | .exc c => ∀ C H', mg c = some (.ref C) → Same H H' → E (.ref C) none H'
namespace E
def call (F : List D → Option Out) (fs : List SE) : SE := fun env => match evA fs env with
  | some ds => (match F ds with
    | some (.ok d lv) => some (d, lv)
    | _ => none)
  | none => none
def blt (op : List D → Option (D × Lv)) (fs : List SE) : SE := fun env => match evA fs env with
  | some ds => op ds
  | none => none
end E
section
variable {X : Cx} {e : Expr} {es : List Expr} {te : TE} {ta : TA} {fe : SE} {fs : List SE} {pos p : Pos} {x : Str}
theorem DE.call {k f : _} {fd : FuncData} {ps : List Str} {F : List D → Option Out} {W : WX} (Fk : FnOk X.prog X.w X.K X.mg X.base (L2N.CX X.prog X.w) k f fd ps (spD X.K X.mg ps.length F)) (hr : Room k X.A) (hg : Gl X x) (hm : X.mg x = some (.ref f)) (hk : PySem.W.keepIn X.K (.ref f) = true)
    (hb : Binds X.K fd ps []) (tk : L2N.Takes X W) (ha : DA X (e :: es) ta fs) (hn : fs.length = ps.length := by rfl) (hdb : (x == ("__debug__" : Str)) = false := by decide) (he : starEach (e :: es) X.env = (false, eval e X.env) :: starEach es X.env := by rfl) (hpl : (backTo pos (starEach es X.env)).any (·.1) = false := by rfl) :
    DE X (.Call (.Name x p) (e :: es) [] pos) (tCallS (spD X.K X.mg ps.length F) (WE W) ta) (E.call F fs) := ⟨pe_callS Fk hr hg hm hk hb (fun σ => L2N.passAt tk σ) ha.pa hdb he hpl, fun env σ G H d lv s r e Q q => by
  unfold E.call at e
  split at e
  · rename_i ds eds
    split at e
    · rename_i d' lv' ef
      cases e
      refine ha.sm env σ G H ds s r eds _ fun vs G1 H1 x1 t => ⟨?_, G1, ds, _, x1.gh, t, ef, q.ext x1⟩
      rw [t.length, evA_len fs env ds eds, hn]
    · cases e
  · cases e⟩
/-- a built-in by values -/
def CROk (K : PySem.W.Frag) (r : List V → Hp → VK → Prop) (op : List D → Option (D × Lv)) : Prop := ∀ G H vs ds z lv, Same G H → RqA K G H ds vs → op ds = some (z, lv) → ∀ Q, Post K G H z lv Q → r vs H Q
theorem SmB {K : PySem.W.Frag} {r : List V → Hp → VK → Prop} {op : List D → Option (D × Lv)} (h : CROk K r op) (ha : SmA K ta fs) : Sm K (tCB r ta) (E.blt op fs) := fun env σ G H d lv s rp e Q q => by
  unfold E.blt at e
  split at e
  · rename_i ds eds
    exact ha env σ G H ds s rp eds _ fun vs G1 H1 x1 t => h G1 H1 vs ds d lv x1.gh t e Q (q.ext x1)
  · cases e
theorem DE.blt {id : String} {r : List V → Hp → VK → Prop} {op : List D → Option (D × Lv)} (hc : CallR X (.builtin id) r) (h : CROk X.K r op) (hg : Gl X x) (hm : X.mg x = none) (hv : bootBuiltins x = some (.builtin id)) (ha : DA X (e :: es) ta fs) (hn : x ≠ "__name__" := by decide) (hdb : (x == ("__debug__" : Str)) = false := by decide)
    (he : starEach (e :: es) X.env = (false, eval e X.env) :: starEach es X.env := by rfl) (hpl : (backTo pos (starEach es X.env)).any (·.1) = false := by rfl) : DE X (.Call (.Name x p) (e :: es) [] pos) (tCB r ta) (E.blt op fs) :=
  ⟨pe_callB hc hg hm hv ha.pa hn hdb he hpl, SmB h ha.sm⟩
theorem DE.blT {T : String} {r : List V → Hp → VK → Prop} {op : List D → Option (D × Lv)} (hc : CallR X (.type T) r) (h : CROk X.K r op) (hg : Gl X x) (hm : X.mg x = none) (hv : bootBuiltins x = some (.type T)) (ha : DA X (e :: es) ta fs) (hn : x ≠ "__name__" := by decide) (hdb : (x == ("__debug__" : Str)) = false := by decide)
    (he : starEach (e :: es) X.env = (false, eval e X.env) :: starEach es X.env := by rfl) (hpl : (backTo pos (starEach es X.env)).any (·.1) = false := by rfl) : DE X (.Call (.Name x p) (e :: es) [] pos) (tCB r ta) (E.blt op fs) :=
  ⟨pe_callTy hc hg hm hv ha.pa hn hdb he hpl, SmB h ha.sm⟩
end
section
variable {K : PySem.W.Frag} {G H : Hp}
theorem rqA1 {d : D} {vs : List V} (h : RqA K G H [d] vs) : ∃ v, vs = [v] ∧ Rq K G H d v := by
  unfold RqA at h
  obtain ⟨x, xs, rfl, a, b⟩ := h
  unfold RqA at b
  rw [b]
  exact ⟨x, rfl, a⟩
theorem rqA2 {d e : D} {vs : List V} (h : RqA K G H [d, e] vs) : ∃ v u, vs = [v, u] ∧ Rq K G H d v ∧ Rq K G H e u := by
  unfold RqA at h
  obtain ⟨x, xs, rfl, a, b⟩ := h
  obtain ⟨y, rfl, c⟩ := rqA1 b
  exact ⟨x, y, rfl, a, c⟩
def lenD : List D → Option (D × Lv)
  | [.lst ds] => some (.int ds.length, .full)
  | [.tup ds] => some (.int ds.length, .full)
  | [.scr ds] => some (.int ds.length, .full)
  | [.str z] => if z.length ≤ 1000000 then some (.int z.length, .full) else none
  | _ => none
abbrev rLenA (K : PySem.W.Frag) : List V → Hp → VK → Prop := fun xs H Q => ∃ x n, xs = [x] ∧ LenV K x H n ∧ Q (.int (n : Nat)) H
theorem cr_len : CROk K (rLenA K) lenD := fun G H vs ds z lv s r o Q p => by
  unfold lenD at o
  split at o
  · cases o
    obtain ⟨v, rfl, h⟩ := rqA1 r
    unfold Rq at h
    obtain ⟨a, vs, rfl, t, f⟩ := h
    refine ⟨_, _, rfl, .inl ⟨vs, SqL.of (s _ _ t), rfl⟩, ?_⟩
    rw [f.length]
    exact p.int (Ext.refl s)
  · cases o
    obtain ⟨v, rfl, h⟩ := rqA1 r
    unfold Rq at h
    obtain ⟨a, vs, rfl, t, f⟩ := h
    refine ⟨_, _, rfl, .inr ⟨vs, t, rfl⟩, ?_⟩
    rw [f.length]
    exact p.int (Ext.refl s)
  · cases o
    obtain ⟨v, rfl, h⟩ := rqA1 r
    unfold Rq at h
    obtain ⟨a, rfl, t⟩ := h
    refine ⟨_, _, rfl, .inl ⟨_, s.seq t, rfl⟩, ?_⟩
    rw [List.length_map]
    exact p.int (Ext.refl s)
  · split at o
    · rename_i hz
      cases o
      obtain ⟨v, rfl, h⟩ := rqA1 r
      cases (show v = .str _ from h)
      exact ⟨_, _, rfl, ⟨line_of hz, rfl⟩, p.int (Ext.refl s)⟩
    · cases o
  · cases o
def intsOf : List D → Option (List Int)
  | [] => some []
  | .int i :: ds => match intsOf ds with
    | some ns => some (i :: ns)
    | none => none
  | _ :: _ => none
theorem ints_V : ∀ {ds : List D} {vs : List V} {ns : List Int}, intsOf ds = some ns → RqA K G H ds vs → vs = ns.map V.int
  | [], vs, ns, e, h => by cases e; unfold RqA at h; exact h
  | .int i :: ds, vs, ns, e, h => by
    unfold intsOf at e
    split at e
    · rename_i ms em
      cases e
      unfold RqA at h
      obtain ⟨x, xs, rfl, a, b⟩ := h
      rw [rq_int a, ints_V em b]
      rfl
    · cases e
  | .non :: _, _, _, e, _ => by cases e
  | .bl _ :: _, _, _, e, _ => by cases e
  | .str _ :: _, _, _, e, _ => by cases e
  | .lst _ :: _, _, _, e, _ => by cases e
  | .tup _ :: _, _, _, e, _ => by cases e
  | .ex _ _ :: _, _, _, e, _ => by cases e
  | .scr _ :: _, _, _, e, _ => by cases e
def blsOf : List D → Option (List Bool)
  | [] => some []
  | .bl i :: ds => match blsOf ds with
    | some ns => some (i :: ns)
    | none => none
  | _ :: _ => none
theorem bls_V : ∀ {ds : List D} {vs : List V} {ns : List Bool}, blsOf ds = some ns → RqA K G H ds vs → vs = ns.map V.bl
  | [], vs, ns, e, h => by cases e; unfold RqA at h; exact h
  | .bl i :: ds, vs, ns, e, h => by
    unfold blsOf at e
    split at e
    · rename_i ms em
      cases e
      unfold RqA at h
      obtain ⟨x, xs, rfl, a, b⟩ := h
      rw [rq_bl a, bls_V em b]
      rfl
    · cases e
  | .non :: _, _, _, e, _ => by cases e
  | .int _ :: _, _, _, e, _ => by cases e
  | .str _ :: _, _, _, e, _ => by cases e
  | .lst _ :: _, _, _, e, _ => by cases e
  | .tup _ :: _, _, _, e, _ => by cases e
  | .ex _ _ :: _, _, _, e, _ => by cases e
  | .scr _ :: _, _, _, e, _ => by cases e
def strsOf : List D → Option (List Str)
  | [] => some []
  | .str i :: ds => match strsOf ds with
    | some ns => some (i :: ns)
    | none => none
  | _ :: _ => none
theorem strs_V : ∀ {ds : List D} {vs : List V} {ns : List Str}, strsOf ds = some ns → RqA K G H ds vs → vs = ns.map V.str
  | [], vs, ns, e, h => by cases e; unfold RqA at h; exact h
  | .str i :: ds, vs, ns, e, h => by
    unfold strsOf at e
    split at e
    · rename_i ms em
      cases e
      unfold RqA at h
      obtain ⟨x, xs, rfl, a, b⟩ := h
      rw [show x = .str i from a, strs_V em b]
      rfl
    · cases e
  | .non :: _, _, _, e, _ => by cases e
  | .int _ :: _, _, _, e, _ => by cases e
  | .bl _ :: _, _, _, e, _ => by cases e
  | .lst _ :: _, _, _, e, _ => by cases e
  | .tup _ :: _, _, _, e, _ => by cases e
  | .ex _ _ :: _, _, _, e, _ => by cases e
  | .scr _ :: _, _, _, e, _ => by cases e
def sumD : List D → Option (D × Lv)
  | [.lst ds] => match intsOf ds with
    | some ns => some (.int ns.sum, .full)
    | none => none
  | _ => none
theorem cr_sumD : CROk K (rSum K) sumD := fun G H vs ds z lv s r o Q p => by
  unfold sumD at o
  split at o
  · split at o
    · rename_i ns en
      cases o
      obtain ⟨v, rfl, h⟩ := rqA1 r
      unfold Rq at h
      obtain ⟨a, vs, rfl, t, f⟩ := h
      refine ⟨a, ns, rfl, ?_, p.int (Ext.refl s)⟩
      rw [← ints_V en f]
      exact SqL.of (s _ _ t)
    · cases o
  · cases o
def allD : List D → Option (D × Lv)
  | [.lst ds] => match blsOf ds with
    | some ns => some (.bl (ns.all id), .full)
    | none => none
  | _ => none
theorem cr_allD : CROk K (rAll K) allD := fun G H vs ds z lv s r o Q p => by
  unfold allD at o
  split at o
  · split at o
    · rename_i ns en
      cases o
      obtain ⟨v, rfl, h⟩ := rqA1 r
      unfold Rq at h
      obtain ⟨a, vs, rfl, t, f⟩ := h
      refine ⟨a, ns, rfl, ?_, p.bl (Ext.refl s)⟩
      rw [← bls_V en f]
      exact SqL.of (s _ _ t)
    · cases o
  · cases o
def absD : List D → Option (D × Lv)
  | [.int i] => some (.int (if i < 0 then -i else i), .full)
  | _ => none
theorem cr_absD : CROk K (fun xs H Q => ∃ i, xs = [.int i] ∧ Q (.int (if i < 0 then -i else i)) H) absD := fun G H vs ds z lv s r o Q p => by
  unfold absD at o
  split at o
  · cases o
    obtain ⟨v, rfl, h⟩ := rqA1 r
    exact ⟨_, by rw [rq_int h], p.int (Ext.refl s)⟩
  · cases o
def max2D : List D → Option (D × Lv)
  | [.int i, .int j] => some (.int (if j > i then j else i), .full)
  | _ => none
theorem cr_max2D : CROk K (fun xs H Q => ∃ i j, xs = [.int i, .int j] ∧ Q (.int (if j > i then j else i)) H) max2D := fun G H vs ds z lv s r o Q p => by
  unfold max2D at o
  split at o
  · cases o
    obtain ⟨v, u, rfl, h, k⟩ := rqA2 r
    exact ⟨_, _, by rw [rq_int h, rq_int k], p.int (Ext.refl s)⟩
  · cases o
def min2D : List D → Option (D × Lv)
  | [.int i, .int j] => some (.int (if j < i then j else i), .full)
  | _ => none
theorem cr_min2D : CROk K (fun xs H Q => ∃ i j, xs = [.int i, .int j] ∧ Q (.int (if j < i then j else i)) H) min2D := fun G H vs ds z lv s r o Q p => by
  unfold min2D at o
  split at o
  · cases o
    obtain ⟨v, u, rfl, h, k⟩ := rqA2 r
    exact ⟨_, _, by rw [rq_int h, rq_int k], p.int (Ext.refl s)⟩
  · cases o
/-- int(i), int(flag) -/
def intC : List D → Option (D × Lv)
  | [.int i] => some (.int i, .full)
  | [.bl k] => some (.int (if k = true then 1 else 0), .full)
  | _ => none
theorem cr_intC : CROk K (fun xs H Q => (∃ i, xs = [.int i] ∧ Q (.int i) H) ∨ ∃ k : Bool, xs = [.bl k] ∧ Q (.int (if k = true then 1 else 0)) H) intC := fun G H vs ds z lv s r o Q p => by
  unfold intC at o
  split at o
  · cases o
    obtain ⟨v, rfl, h⟩ := rqA1 r
    exact .inl ⟨_, by rw [rq_int h], p.int (Ext.refl s)⟩
  · cases o
    obtain ⟨v, rfl, h⟩ := rqA1 r
    exact .inr ⟨_, by rw [rq_bl h], p.int (Ext.refl s)⟩
  · cases o
def listC : List D → Option (D × Lv)
  | [.lst ds] => some (.lst ds, lvL ds)
  | [.tup ds] => some (.lst ds, lvL ds)
  | _ => none
theorem cr_listC : CROk K (fun xs H Q => ∃ p ys, xs = [.ref p] ∧ (SqL K H p ys ∨ SqT K H p ys) ∧ ∀ l, H l = none → Q (.ref l) (upd H l (.lst ys))) listC := fun G H vs ds z lv s r o Q p => by
  unfold listC at o
  split at o
  · cases o
    obtain ⟨v, rfl, h⟩ := rqA1 r
    unfold Rq at h
    obtain ⟨a, vs, rfl, t, f⟩ := h
    exact ⟨a, vs, rfl, .inl (SqL.of (s _ _ t)), fun l hl => p.newL (Ext.refl s) f hl⟩
  · cases o
    obtain ⟨v, rfl, h⟩ := rqA1 r
    unfold Rq at h
    obtain ⟨a, vs, rfl, t, f⟩ := h
    exact ⟨a, vs, rfl, .inr t, fun l hl => p.newL (Ext.refl s) (FlA.rq f) hl⟩
  · cases o
end
section
variable {X : Cx} {e e2 : Expr} {te te2 : TE} {fe fe2 : SE} {pos p : Pos} {ta : TA} {fs : List SE}
theorem DE.len (hm : X.mg "len" = none) (ha : DA X [e] ta fs) (hg : Gl X "len" := by rfl) (he : starEach [e] X.env = (false, eval e X.env) :: starEach [] X.env := by rfl) : DE X (.Call (.Name "len" p) [e] [] pos) (tCB (rLenA X.K) ta) (E.blt lenD fs) := DE.blt call_len cr_len hg hm boot_len ha (he := he)
theorem DE.sum (hm : X.mg "sum" = none) (ha : DA X [e] ta fs) (hc : X.calm = true := by rfl) (hg : Gl X "sum" := by rfl) (he : starEach [e] X.env = (false, eval e X.env) :: starEach [] X.env := by rfl) : DE X (.Call (.Name "sum" p) [e] [] pos) (tCB (rSum X.K) ta) (E.blt sumD fs) := DE.blt (cr_sum hc) cr_sumD hg hm (by decide +kernel) ha (he := he)
theorem DE.all (hm : X.mg "all" = none) (ha : DA X [e] ta fs) (hc : X.calm = true := by rfl) (hg : Gl X "all" := by rfl) (he : starEach [e] X.env = (false, eval e X.env) :: starEach [] X.env := by rfl) : DE X (.Call (.Name "all" p) [e] [] pos) (tCB (rAll X.K) ta) (E.blt allD fs) := DE.blt (cr_all hc) cr_allD hg hm (by decide +kernel) ha (he := he)
theorem DE.abs (hm : X.mg "abs" = none) (ha : DA X [e] ta fs) (hg : Gl X "abs" := by rfl) (he : starEach [e] X.env = (false, eval e X.env) :: starEach [] X.env := by rfl) : DE X (.Call (.Name "abs" p) [e] [] pos) (tCB (fun xs H Q => ∃ i, xs = [.int i] ∧ Q (.int (if i < 0 then -i else i)) H) ta) (E.blt absD fs) := DE.blt call_abs cr_absD hg hm (by decide +kernel) ha (he := he)
theorem DE.max (hm : X.mg "max" = none) (ha : DA X [e, e2] ta fs) (hc : X.calm = true := by rfl) (hg : Gl X "max" := by rfl) (he : starEach [e, e2] X.env = (false, eval e X.env) :: starEach [e2] X.env := by rfl) (hpl : (backTo pos (starEach [e2] X.env)).any (·.1) = false := by rfl) :
    DE X (.Call (.Name "max" p) [e, e2] [] pos) (tCB (fun xs H Q => ∃ i j, xs = [.int i, .int j] ∧ Q (.int (if j > i then j else i)) H) ta) (E.blt max2D fs) := DE.blt (call_max2 hc) cr_max2D hg hm (by decide +kernel) ha (he := he) (hpl := hpl)
theorem DE.min (hm : X.mg "min" = none) (ha : DA X [e, e2] ta fs) (hc : X.calm = true := by rfl) (hg : Gl X "min" := by rfl) (he : starEach [e, e2] X.env = (false, eval e X.env) :: starEach [e2] X.env := by rfl) (hpl : (backTo pos (starEach [e2] X.env)).any (·.1) = false := by rfl) :
    DE X (.Call (.Name "min" p) [e, e2] [] pos) (tCB (fun xs H Q => ∃ i j, xs = [.int i, .int j] ∧ Q (.int (if j < i then j else i)) H) ta) (E.blt min2D fs) := DE.blt (call_min2 hc) cr_min2D hg hm (by decide +kernel) ha (he := he) (hpl := hpl)
theorem DE.intC (hm : X.mg "int" = none) (ha : DA X [e] ta fs) (hg : Gl X "int" := by rfl) (he : starEach [e] X.env = (false, eval e X.env) :: starEach [] X.env := by rfl) : DE X (.Call (.Name "int" p) [e] [] pos) (tCB (fun xs H Q => (∃ i, xs = [.int i] ∧ Q (.int i) H) ∨ ∃ k : Bool, xs = [.bl k] ∧ Q (.int (if k = true then 1 else 0)) H) ta) (E.blt PL.intC fs) := DE.blT call_int1 cr_intC hg hm (by decide +kernel) ha (he := he)
theorem DE.listC (hm : X.mg "list" = none) (ha : DA X [e] ta fs) (hg : Gl X "list" := by rfl) (he : starEach [e] X.env = (false, eval e X.env) :: starEach [] X.env := by rfl) : DE X (.Call (.Name "list" p) [e] [] pos) (tCB (fun xs H Q => ∃ p ys, xs = [.ref p] ∧ (SqL X.K H p ys ∨ SqT X.K H p ys) ∧ ∀ l, H l = none → Q (.ref l) (upd H l (.lst ys))) ta) (E.blt PL.listC fs) := DE.blT call_list_of cr_listC hg hm (by decide +kernel) ha (he := he)
end
end PL

set_option Elab.async false
set_option linter.all false
set_option maxRecDepth 100000
set_option maxHeartbeats 2000000
/-! PL, part d: what is walked; comprehensions. -/
namespace PL
open PySem PySem.Spec PyProof.Rows L2

def ItemV (K : PySem.W.Frag) (G H : Hp) : Bool → V → List D → Prop
  | false, x, ds => ∃ d, ds = [d] ∧ Rq K G H d x
  | true, x, ds => ∃ T x1 x2 d1 d2, ds = [d1, d2] ∧ x = .ref T ∧ SqT K H T [x1, x2] ∧ Rq K G H d1 x1 ∧ Rq K G H d2 x2
def ItOk (K : PySem.W.Frag) (J : It) (G H : Hp) (items : List (List D)) (two : Bool) : Prop :=
  ∃ (Gc : Hp → Prop) (Y : Nat → Hp → V → Hp → Prop), Walk J items.length Gc Y ∧ (∀ H1, Same G H1 → Stay H H1 → Gc H1) ∧
    ∀ i H1 x H2, i < items.length → Same G H1 → Stay H H1 → Y i H1 x H2 → Same H1 H2 ∧ ∃ ds, items[i]? = some ds ∧ ItemV K G H2 two x ds
theorem ItemV.mono {K : PySem.W.Frag} {G G' H H' : Hp} (g : Same G G') (s : Stay H H') {two : Bool} {x : V} {ds : List D} (h : ItemV K G H two x ds) : ItemV K G' H' two x ds := by
  cases two with
  | false =>
    obtain ⟨d, e, r⟩ := h
    exact ⟨d, e, r.mono g s⟩
  | true =>
    obtain ⟨T, x1, x2, d1, d2, e, e2, t, r1, r2⟩ := h
    exact ⟨T, x1, x2, d1, d2, e, e2, sqT_stay s t, r1.mono g s, r2.mono g s⟩
theorem ItOk.mono {K : PySem.W.Frag} {J : It} {G G' H H' : Hp} {items : List (List D)} {two : Bool} (g : Same G G') (s : Stay H H') (h : ItOk K J G H items two) : ItOk K J G' H' items two := by
  obtain ⟨Gc, Y, w, c, y⟩ := h
  refine ⟨Gc, Y, w, fun H1 q t => c H1 (g.trans q) (s.trans t), fun i H1 x H2 hi q t z => ?_⟩
  obtain ⟨a, ds, e, v⟩ := y i H1 x H2 hi (g.trans q) (s.trans t) z
  exact ⟨a, ds, e, v.mono g (Stay.refl _)⟩
def SmI (K : PySem.W.Frag) (wi : TI) (fi : Env → Option (List (List D))) (two : Bool) : Prop := ∀ env σ G H items, Same G H → Reps K G H σ env → fi env = some items → ∀ R : It → Hp → Prop, (∀ J G' H', Ext G H G' H' → ItOk K J G' H' items two → R J H') → wi σ H R
structure DI (X : Cx) (tg iter : Expr) (wi : TI) (fi : Env → Option (List (List D))) (two : Bool) : Prop where
  pi : PI X tg iter wi
  sm : SmI X.K wi fi two
abbrev noH : Hp := fun _ => none
/-- .. whose things lean on no list -/
def SmR (K : PySem.W.Frag) (wi : TI) (fi : Env → Option (List (List D))) : Prop := ∀ env σ G H items, Same G H → Reps K G H σ env → fi env = some items → ∀ R : It → Hp → Prop, (∀ J G' H', Ext G H G' H' → ItOk K J noH H' items false → R J H') → wi σ H R
structure DR (X : Cx) (tg iter : Expr) (wi : TI) (fi : Env → Option (List (List D))) : Prop where
  pi : PI X tg iter wi
  sm : SmR X.K wi fi
theorem DR.di {X : Cx} {tg iter : Expr} {wi : TI} {fi : Env → Option (List (List D))} (h : DR X tg iter wi fi) : DI X tg iter wi fi false :=
  ⟨h.pi, fun env σ G H items s r e R q => h.sm env σ G H items s r e R fun J G' H' x o => q J G' H' x (o.mono (fun _ _ z => by cases z) (Stay.refl _))⟩

namespace E
def iList (f : SE) : Env → Option (List (List D)) := fun env => match f env with
  | some (.lst ds, _) => some (ds.map fun d => [d])
  | _ => none
def iTup (f : SE) : Env → Option (List (List D)) := fun env => match f env with
  | some (.tup ds, _) => some (ds.map fun d => [d])
  | _ => none
def iRng1 (fs : List SE) : Env → Option (List (List D)) := fun env => match evA fs env with
  | some [.int n] => if n ≤ 1000000 ∧ -1000000 ≤ n then some ((List.range n.toNat).map fun (i : Nat) => [D.int (i : Int)]) else none
  | _ => none
def iRng2 (fs : List SE) : Env → Option (List (List D)) := fun env => match evA fs env with
  | some [.int a, .int b] => if (a ≤ 1000000 ∧ -1000000 ≤ a) ∧ (b ≤ 1000000 ∧ -1000000 ≤ b) then some ((List.range (b - a).toNat).map fun (i : Nat) => [D.int (a + (i : Int))]) else none
  | _ => none
def enumL (ds : List D) : List (List D) := ds.mapIdx fun i d => [D.int (i : Int), d]
def iEnum (fs : List SE) : Env → Option (List (List D)) := fun env => match evA fs env with
  | some [.lst ds] => some (enumL ds)
  | _ => none
def zipL (xs ys : List D) : List (List D) := (xs.zip ys).map fun p => [p.1, p.2]
def iZip (fs : List SE) : Env → Option (List (List D)) := fun env => match evA fs env with
  | some [.lst xs, .lst ys] => some (zipL xs ys)
  | _ => none
def iStr (f : SE) : Env → Option (List (List D)) := fun env => match f env with
  | some (.str z, _) => some (z.cps.toList.map fun c => [D.str ⟨#[c]⟩])
  | _ => none
def pairs : List D → Option (List (List D))
  | [] => some []
  | .tup [a, b] :: r => match pairs r with
    | some ps => some ([a, b] :: ps)
    | none => none
  | _ :: _ => none
def iTup2 (f : SE) : Env → Option (List (List D)) := fun env => match f env with
  | some (.tup ds, _) => pairs ds
  | _ => none
end E
section
variable {K : PySem.W.Frag} {G H : Hp}
theorem itok_list {a : Addr} {vs : List V} {ds : List D} (t : G a = some (.lst vs)) (f : RqA K G H ds vs) : ItOk K (Itl K a) G H (ds.map fun d => [d]) false := by
  refine ⟨fun H => SqL K H a vs, YAt vs, ?_, fun H2 s2 _ => SqL.of (s2 _ _ t), fun i H2 x H3 hi s2 t2 y => ?_⟩
  · have w := walk_list (K := K) (a := a) (xs := vs)
    rw [f.length] at w
    rw [List.length_map]
    exact w
  · obtain ⟨rfl, hx⟩ := y
    obtain ⟨d, h1, h2⟩ := f.getD hx
    exact ⟨Same.refl _, [d], by rw [List.getElem?_map, h1]; rfl, d, rfl, h2.mono (Same.refl _) t2⟩
theorem itok_tup {a : Addr} {vs : List V} {ds : List D} (t : SqT K H a vs) (f : RqA K G H ds vs) : ItOk K (Itt K a) G H (ds.map fun d => [d]) false := by
  refine ⟨fun H => SqT K H a vs, YAt vs, ?_, fun H2 s2 t2 => sqT_stay t2 t, fun i H2 x H3 hi s2 t2 y => ?_⟩
  · have w := walk_tup (K := K) (a := a) (xs := vs)
    rw [f.length] at w
    rw [List.length_map]
    exact w
  · obtain ⟨rfl, hx⟩ := y
    obtain ⟨d, h1, h2⟩ := f.getD hx
    exact ⟨Same.refl _, [d], by rw [List.getElem?_map, h1]; rfl, d, rfl, h2.mono (Same.refl _) t2⟩
theorem itok_range {lo : Int} {n : Nat} : ItOk K (Itr lo n) G H ((List.range n).map fun (i : Nat) => [D.int (lo + (i : Int))]) false := by
  have hl : ((List.range n).map fun (i : Nat) => [D.int (lo + (i : Int))]).length = n := by rw [List.length_map, List.length_range]
  refine ⟨fun _ => True, YFn fun i => .int (lo + (i : Int)), ?_, fun _ _ _ => True.intro, fun i H2 x H3 hi s2 t2 y => ?_⟩
  · rw [hl]
    exact walk_range
  · obtain ⟨rfl, rfl⟩ := y
    rw [hl] at hi
    exact ⟨Same.refl _, [.int (lo + (i : Int))], by rw [List.getElem?_map, List.getElem?_range hi]; rfl, _, rfl, by unfold Rq; rfl⟩
theorem itok_str {z : Str} : ItOk K (Its z) G H (z.cps.toList.map fun c => [D.str ⟨#[c]⟩]) false := by
  have hl : (z.cps.toList.map fun c => [D.str ⟨#[c]⟩]).length = z.cps.size := by rw [List.length_map, Array.length_toList]
  refine ⟨fun _ => True, fun i H v H' => H' = H ∧ ∃ c, z.cps[i]? = some c ∧ v = .str ⟨#[c]⟩, ?_, fun _ _ _ => True.intro, fun i H2 x H3 hi s2 t2 y => ?_⟩
  · rw [hl]
    exact walk_str
  · obtain ⟨rfl, c, hc, rfl⟩ := y
    refine ⟨Same.refl _, [.str ⟨#[c]⟩], ?_, _, rfl, by unfold Rq; rfl⟩
    rw [List.getElem?_map, Array.getElem?_toList, hc]
    rfl
theorem sqT_new {H : Hp} {T : Addr} {xs : List V} : SqT K (upd H T (.tup xs)) T xs := .inl (.inl upd_same)
theorem itok_enum {a : Addr} {vs : List V} {ds : List D} (t : G a = some (.lst vs)) (f : RqA K G H ds vs) : ItOk K (Ite K a) G H (E.enumL ds) true := by
  have hl : (E.enumL ds).length = vs.length := by unfold E.enumL; rw [List.length_mapIdx, f.length]
  refine ⟨fun H => SqL K H a vs, YPair (fun i => some (.int (i : Nat))) (fun i => vs[i]?), ?_, fun H2 s2 _ => SqL.of (s2 _ _ t), fun i H2 x H3 hi s2 t2 y => ?_⟩
  · rw [hl]
    exact walk_enum
  · obtain ⟨T, x1, x2, rfl, hT, rfl, e1, e2⟩ := y
    obtain ⟨d, h1, h2⟩ := f.getD e2
    cases e1
    refine ⟨Same.new hT, [.int (i : Int), d], ?_, T, _, x2, .int (i : Int), d, rfl, rfl, sqT_new, by unfold Rq; rfl, h2.mono (Same.refl _) (t2.trans (Stay.of (Same.new hT)))⟩
    unfold E.enumL
    rw [List.getElem?_mapIdx, h1]
    rfl
theorem itok_zip {a b : Addr} {us vs : List V} {ds es : List D} (t : G a = some (.lst us)) (f : RqA K G H ds us) (t' : G b = some (.lst vs)) (f' : RqA K G H es vs) : ItOk K (Itz K a b) G H (E.zipL ds es) true := by
  have hl : (E.zipL ds es).length = min us.length vs.length := by unfold E.zipL; rw [List.length_map, List.length_zip, f.length, f'.length]
  refine ⟨fun H => SqL K H a us ∧ SqL K H b vs, YPair (fun i => us[i]?) (fun i => vs[i]?), ?_, fun H2 s2 _ => ⟨SqL.of (s2 _ _ t), SqL.of (s2 _ _ t')⟩, fun i H2 x H3 hi s2 t2 y => ?_⟩
  · exact walk_zip hl
  · obtain ⟨T, x1, x2, rfl, hT, rfl, e1, e2⟩ := y
    obtain ⟨d, h1, h2⟩ := f.getD e1
    obtain ⟨d', h1', h2'⟩ := f'.getD e2
    have ss := t2.trans (Stay.of (Same.new (o := .tup [x1, x2]) hT))
    refine ⟨Same.new hT, [d, d'], ?_, T, x1, x2, d, d', rfl, rfl, sqT_new, h2.mono (Same.refl _) ss, h2'.mono (Same.refl _) ss⟩
    unfold E.zipL
    rw [List.getElem?_map, List.zip, List.getElem?_zipWith, h1, h1']
    rfl
theorem pairs_get : ∀ {ds : List D} {ps : List (List D)} {vs : List V}, E.pairs ds = some ps → FlA K H ds vs → ps.length = vs.length ∧ ∀ (i : Nat) (x : V), vs[i]? = some x → ∃ p, ps[i]? = some p ∧ ItemV K G H true x p
  | [], ps, vs, e, f => by
    cases e
    unfold FlA at f
    rw [f]
    exact ⟨rfl, fun i x h => by simp at h⟩
  | .tup [a, b] :: r, ps, vs, e, f => by
    unfold E.pairs at e
    split at e
    · rename_i qs eq
      cases e
      unfold FlA at f
      obtain ⟨x, xs, rfl, fx, fr⟩ := f
      obtain ⟨hl, hg⟩ := pairs_get eq fr
      refine ⟨by rw [List.length_cons, List.length_cons, hl], fun i y h => ?_⟩
      cases i with
      | zero =>
        simp at h
        subst h
        unfold Fl at fx
        obtain ⟨T, ws, rfl, t, g⟩ := fx
        obtain ⟨x1, x2, rfl, r1, r2⟩ := rqA2 (FlA.rq (G := G) g)
        exact ⟨_, rfl, T, x1, x2, a, b, rfl, rfl, t, r1, r2⟩
      | succ i =>
        exact hg i y (by simpa using h)
    · cases e
  | .non :: _, _, _, e, _ => by cases e
  | .int _ :: _, _, _, e, _ => by cases e
  | .bl _ :: _, _, _, e, _ => by cases e
  | .str _ :: _, _, _, e, _ => by cases e
  | .lst _ :: _, _, _, e, _ => by cases e
  | .ex _ _ :: _, _, _, e, _ => by cases e
  | .scr _ :: _, _, _, e, _ => by cases e
  | .tup [] :: _, _, _, e, _ => by cases e
  | .tup [_] :: _, _, _, e, _ => by cases e
  | .tup (_ :: _ :: _ :: _) :: _, _, _, e, _ => by cases e
theorem itok_tup2 {a : Addr} {vs : List V} {ds : List D} {ps : List (List D)} (t : SqT K H a vs) (e : E.pairs ds = some ps) (f : FlA K H ds vs) : ItOk K (Itt K a) G H ps true := by
  obtain ⟨hl, hg⟩ := pairs_get (G := G) e f
  refine ⟨fun H => SqT K H a vs, YAt vs, ?_, fun H2 s2 t2 => sqT_stay t2 t, fun i H2 x H3 hi s2 t2 y => ?_⟩
  · rw [hl]
    exact walk_tup
  · obtain ⟨rfl, hx⟩ := y
    obtain ⟨p, h1, h2⟩ := hg i x hx
    exact ⟨Same.refl _, p, h1, h2.mono (Same.refl _) t2⟩
end
section
variable {X : Cx} {tg e e2 : Expr} {te : TE} {fe : SE} {pos p tpos : Pos} {ta : TA} {fs : List SE} {elts : List Expr} {kk : Nat}
theorem DI.list (h : DE X e te fe) : DI X tg e (iList X.K te) (E.iList fe) false := ⟨pi_list h.pe, fun env σ G H items s r e R q => by
  unfold E.iList at e
  split at e
  · rename_i ds l el
    cases e
    refine h.sm.read s r el fun v G1 H1 x1 r1 => ?_
    unfold Rq at r1
    obtain ⟨a, vs, rfl, t, f⟩ := r1
    exact ⟨a, rfl, ⟨vs, SqL.of (x1.gh _ _ t)⟩, q _ G1 H1 x1 (itok_list t f)⟩
  · cases e⟩
theorem DI.tup (h : DE X e te fe) : DI X tg e (iTup X.K te) (E.iTup fe) false := ⟨pi_tup h.pe, fun env σ G H items s r e R q => by
  unfold E.iTup at e
  split at e
  · rename_i ds l el
    cases e
    refine h.sm.read s r el fun v G1 H1 x1 r1 => ?_
    unfold Rq at r1
    obtain ⟨a, vs, rfl, t, f⟩ := r1
    exact ⟨a, rfl, ⟨vs, t⟩, q _ G1 H1 x1 (itok_tup t (FlA.rq f))⟩
  · cases e⟩
theorem DI.tup2 (h : DE X e te fe) : DI X tg e (iTup X.K te) (E.iTup2 fe) true := ⟨pi_tup h.pe, fun env σ G H items s r e R q => by
  unfold E.iTup2 at e
  split at e
  · rename_i ds l el
    refine h.sm.read s r el fun v G1 H1 x1 r1 => ?_
    unfold Rq at r1
    obtain ⟨a, vs, rfl, t, f⟩ := r1
    exact ⟨a, rfl, ⟨vs, t⟩, q _ G1 H1 x1 (itok_tup2 t e f)⟩
  · cases e⟩
theorem DI.str (h : DE X e te fe) : DI X tg e (iStr te) (E.iStr fe) false := ⟨pi_str h.pe, fun env σ G H items s r e R q => by
  unfold E.iStr at e
  split at e
  · rename_i z l el
    cases e
    exact h.sm.read s r el fun v G1 H1 x1 r1 => ⟨z, r1, q _ G1 H1 x1 itok_str⟩
  · cases e⟩
theorem p62 : (1000000 : Int) < 2 ^ 62 := by decide
theorem DR.rng1 (hm : X.mg "range" = none) (h : DA X [e] ta fs) (hg : Gl X "range" := by rfl) (hs : starEach [e] X.env = [(false, eval e X.env)] := by rfl) : DR X tg (.Call (.Name "range" p) [e] [] pos) (iRng1 ta) (E.iRng1 fs) := ⟨pi_range1 hg hm h.pa hs, fun env σ G H items s r e R q => by
  unfold E.iRng1 at e
  split at e
  · rename_i n en
    split at e
    · rename_i hb
      cases e
      refine h.sm env σ G H _ s r en _ fun vs G1 H1 x1 r1 => ?_
      obtain ⟨v, rfl, r2⟩ := rqA1 r1
      have := p62
      refine ⟨n, by rw [rq_int r2], by omega, by omega, q _ G1 H1 x1 ?_⟩
      have z := itok_range (K := X.K) (G := noH) (H := H1) (lo := 0) (n := n.toNat)
      simpa only [Int.zero_add] using z
    · cases e
  · cases e⟩
theorem DR.rng2 (hm : X.mg "range" = none) (h : DA X [e, e2] ta fs) (hg : Gl X "range" := by rfl) (hs : starEach [e, e2] X.env = [(false, eval e X.env), (false, eval e2 X.env)] := by rfl) (hs2 : starEach [e2] X.env = [(false, eval e2 X.env)] := by rfl) : DR X tg (.Call (.Name "range" p) [e, e2] [] pos) (iRng2 ta) (E.iRng2 fs) := ⟨pi_range2 hg hm h.pa hs hs2, fun env σ G H items s r e R q => by
  unfold E.iRng2 at e
  split at e
  · rename_i a b en
    split at e
    · rename_i hb
      cases e
      refine h.sm env σ G H _ s r en _ fun vs G1 H1 x1 r1 => ?_
      obtain ⟨v, u, rfl, r2, r3⟩ := rqA2 r1
      have := p62
      exact ⟨a, b, by rw [rq_int r2, rq_int r3], ⟨by omega, by omega, by omega, by omega⟩, q _ G1 H1 x1 itok_range⟩
    · cases e
  · cases e⟩
theorem DI.enum (hm : X.mg "enumerate" = none) (h : DA X [e] ta fs) (hg : Gl X "enumerate" := by rfl) (hs : starEach [e] X.env = [(false, eval e X.env)] := by rfl) : DI X (.Tuple elts kk tpos) (.Call (.Name "enumerate" p) [e] [] pos) (iEnum X.K ta) (E.iEnum fs) true := ⟨pi_enum hg hm h.pa hs, fun env σ G H items s r e R q => by
  unfold E.iEnum at e
  split at e
  · rename_i ds en
    cases e
    refine h.sm env σ G H _ s r en _ fun vs G1 H1 x1 r1 => ?_
    obtain ⟨v, rfl, r2⟩ := rqA1 r1
    unfold Rq at r2
    obtain ⟨a, vs, rfl, t, f⟩ := r2
    exact ⟨a, vs, rfl, SqL.of (x1.gh _ _ t), q _ G1 H1 x1 (itok_enum t f)⟩
  · cases e⟩
theorem DI.zip (hm : X.mg "zip" = none) (h : DA X [e, e2] ta fs) (hg : Gl X "zip" := by rfl) (hs : starEach [e, e2] X.env = (false, eval e X.env) :: starEach [e2] X.env := by rfl) (hpl : (backTo pos (starEach [e2] X.env)).any (·.1) = false := by rfl) :
    DI X (.Tuple elts kk tpos) (.Call (.Name "zip" p) [e, e2] [] pos) (iZip X.K ta) (E.iZip fs) true := ⟨pi_zip hg hm h.pa hs hpl, fun env σ G H items s r e R q => by
  unfold E.iZip at e
  split at e
  · rename_i ds es en
    cases e
    refine h.sm env σ G H _ s r en _ fun vs G1 H1 x1 r1 => ?_
    obtain ⟨v, u, rfl, r2, r3⟩ := rqA2 r1
    unfold Rq at r2 r3
    obtain ⟨a, vs, rfl, t, f⟩ := r2
    obtain ⟨b, us, rfl, t', f'⟩ := r3
    exact ⟨a, b, vs, us, rfl, SqL.of (x1.gh _ _ t), SqL.of (x1.gh _ _ t'), q _ G1 H1 x1 (itok_zip t f t' f')⟩
  · cases e⟩
end

/-! ### targets -/
def setV (σ : L2.St) : List Nat → List V → L2.St
  | j :: js, v :: vs => setV (σ.set j (some v)) js vs
  | _, _ => σ
def setE (env : Env) : List Nat → List D → Env
  | j :: js, d :: ds => setE (env.set j (some (d, lvS d))) js ds
  | _, _ => env
theorem setV_len : ∀ (js : List Nat) (vs : List V) (σ : L2.St), (setV σ js vs).length = σ.length
  | [], _, _ => rfl
  | _ :: _, [], _ => rfl
  | j :: js, v :: vs, σ => by unfold setV; rw [setV_len js vs, List.length_set]
theorem setE_len : ∀ (js : List Nat) (vs : List D) (σ : Env), (setE σ js vs).length = σ.length
  | [], _, _ => rfl
  | _ :: _, [], _ => rfl
  | j :: js, v :: vs, σ => by unfold setE; rw [setE_len js vs, List.length_set]
theorem setV_off : ∀ (js : List Nat) (vs : List V) (σ : L2.St) (i : Nat), i ∉ js → (setV σ js vs)[i]? = σ[i]?
  | [], _, _, _, _ => rfl
  | _ :: _, [], _, _, _ => rfl
  | j :: js, v :: vs, σ, i, h => by
    unfold setV
    rw [setV_off js vs _ i (fun z => h (List.mem_cons_of_mem _ z)), List.getElem?_set_ne (fun z => h (by rw [z]; exact List.mem_cons_self))]
theorem Reps.set {K : PySem.W.Frag} {G H : Hp} {σ : L2.St} {env : Env} (r : Reps K G H σ env) {d : D} {v : V} (j : Nat) (h : Rq K G H d v) (lv : Lv) : Reps K G H (σ.set j (some v)) (env.set j (some (d, lv))) := by
  refine ⟨by rw [List.length_set, List.length_set, r.1], fun i d' lv' e => ?_⟩
  rw [List.getElem?_set] at e ⊢
  split at e
  · rename_i hj
    rw [if_pos hj]
    split at e
    · rename_i hl
      cases e
      rw [if_pos (by rw [r.1]; exact hl)]
      exact ⟨v, rfl, h⟩
    · cases e
  · rename_i hj
    rw [if_neg hj]
    exact r.2 i d' lv' e
theorem Reps.setV {K : PySem.W.Frag} {G H : Hp} : ∀ (js : List Nat) {ds : List D} {vs : List V} {σ : L2.St} {env : Env}, Reps K G H σ env → RqA K G H ds vs → Reps K G H (setV σ js vs) (setE env js ds)
  | [], _, _, _, _, r, _ => r
  | j :: js, [], vs, σ, env, r, f => by
    unfold RqA at f
    rw [f]
    exact r
  | j :: js, d :: ds, vs, σ, env, r, f => by
    unfold RqA at f
    obtain ⟨x, xs, rfl, a, b⟩ := f
    exact Reps.setV js (r.set j a _) b
def SmG (K : PySem.W.Frag) (g : TG) (js : List Nat) (two : Bool) : Prop := ∀ x ds σ G H (Q : L2.St → Hp → Prop), ItemV K G H two x ds → (∀ vs, RqA K G H ds vs → Q (setV σ js vs) H) → g x σ H Q
theorem smG_name {K : PySem.W.Frag} {j : Nat} : SmG K (gName j) [j] false := fun x ds σ G H Q h q => by
  obtain ⟨d, rfl, r⟩ := h
  exact q [x] (RqA.one r)
theorem smG_two {K : PySem.W.Frag} {j k : Nat} : SmG K (gTup K 2 (gCons (gName j) (gCons (gName k) gNil))) [j, k] true := fun x ds σ G H Q h q => by
  obtain ⟨T, x1, x2, d1, d2, rfl, rfl, t, r1, r2⟩ := h
  refine ⟨T, [x1, x2], rfl, t, rfl, x1, [x2], rfl, x2, [], rfl, rfl, q [x1, x2] ?_⟩
  exact (RqA.one r1).append (RqA.one r2)

/-! ### comprehensions -/
def wipeE (env : Env) : List Nat → Env
  | [] => env
  | v :: vs => (wipeE env vs).set v none
theorem wipe_len : ∀ (vs : List Nat) (σ : L2.St), (wipe σ vs).length = σ.length
  | [], _ => rfl
  | v :: vs, σ => by unfold wipe; rw [List.length_set, wipe_len vs]
theorem wipeE_len : ∀ (vs : List Nat) (σ : Env), (wipeE σ vs).length = σ.length
  | [], _ => rfl
  | v :: vs, σ => by unfold wipeE; rw [List.length_set, wipeE_len vs]
theorem wipe_off : ∀ (vs : List Nat) (σ : L2.St) (i : Nat), i ∉ vs → (wipe σ vs)[i]? = σ[i]?
  | [], _, _, _ => rfl
  | v :: vs, σ, i, h => by
    unfold wipe
    rw [List.getElem?_set_ne (fun z => h (by rw [z]; exact List.mem_cons_self)), wipe_off vs σ i (fun z => h (List.mem_cons_of_mem _ z))]
theorem wipeE_off : ∀ (vs : List Nat) (σ : Env) (i : Nat), i ∉ vs → (wipeE σ vs)[i]? = σ[i]?
  | [], _, _, _ => rfl
  | v :: vs, σ, i, h => by
    unfold wipeE
    rw [List.getElem?_set_ne (fun z => h (by rw [z]; exact List.mem_cons_self)), wipeE_off vs σ i (fun z => h (List.mem_cons_of_mem _ z))]
theorem wipe_on : ∀ (vs : List Nat) (σ : L2.St) (i : Nat), i ∈ vs → i < σ.length → (wipe σ vs)[i]? = some none
  | v :: vs, σ, i, h, hl => by
    unfold wipe
    by_cases hv : v = i
    · rw [hv, List.getElem?_set_self (by rw [wipe_len]; exact hl)]
    · rw [List.getElem?_set_ne hv]
      rcases List.mem_cons.mp h with h | h
      · exact absurd h.symm hv
      · exact wipe_on vs σ i h hl
theorem wipeE_on : ∀ (vs : List Nat) (σ : Env) (i : Nat), i ∈ vs → i < σ.length → (wipeE σ vs)[i]? = some none
  | v :: vs, σ, i, h, hl => by
    unfold wipeE
    by_cases hv : v = i
    · rw [hv, List.getElem?_set_self (by rw [wipeE_len]; exact hl)]
    · rw [List.getElem?_set_ne hv]
      rcases List.mem_cons.mp h with h | h
      · exact absurd h.symm hv
      · exact wipeE_on vs σ i h hl
theorem Reps.wipe {K : PySem.W.Frag} {G H : Hp} {σ : L2.St} {env : Env} (r : Reps K G H σ env) (vs : List Nat) : Reps K G H (L2.wipe σ vs) (wipeE env vs) := by
  refine ⟨by rw [wipe_len, wipeE_len, r.1], fun i d lv e => ?_⟩
  by_cases hi : i ∈ vs
  · have hl : i < env.length := by
      have := (List.getElem?_eq_some_iff.mp e).1
      rwa [wipeE_len] at this
    rw [wipeE_on vs env i hi hl] at e
    cases e
  · rw [wipeE_off vs env i hi] at e
    rw [wipe_off vs σ i hi]
    exact r.2 i d lv e
theorem wipe_setV (σ : L2.St) (vs js : List Nat) (xs : List V) (h : ∀ j ∈ js, j ∈ vs) : wipe (setV (wipe σ vs) js xs) vs = wipe σ vs := by
  refine List.ext_getElem? fun i => ?_
  by_cases hi : i ∈ vs
  · by_cases hl : i < σ.length
    · rw [wipe_on vs _ i hi (by rw [setV_len, wipe_len]; exact hl), wipe_on vs _ i hi hl]
    · rw [List.getElem?_eq_none_iff.mpr (by rw [wipe_len, setV_len, wipe_len]; omega), List.getElem?_eq_none_iff.mpr (by rw [wipe_len]; omega)]
  · rw [wipe_off vs _ i hi, setV_off js xs _ i (fun z => hi (h i z))]
/-- what a comprehension makes: the test, then the new thing -/
def compGo (env : Env) (js : List Nat) (ft fe : SE) : List (List D) → Option (List D)
  | [] => some []
  | it :: rest => match ft (setE env js it) with
    | some (.bl true, _) => (match fe (setE env js it) with
      | some (d, .full) => (match compGo env js ft fe rest with
        | some ds => some (d :: ds)
        | none => none)
      | _ => none)
    | some (.bl false, _) => compGo env js ft fe rest
    | _ => none
def E.comp (fi : Env → Option (List (List D))) (js vs : List Nat) (ft fe : SE) : SE := fun env => match fi env with
  | some items => if items.length ≤ 100000 then (match compGo (wipeE env vs) js ft fe items with
    | some ds => some (.lst ds, .full)
    | none => none) else none
  | none => none
/-- the state of a comprehension -/
structure CW (K : PySem.W.Frag) (G1 H1 : Hp) (L : Addr) (i : Nat) (env : Env) (js : List Nat) (ft fe : SE) (items : List (List D)) (fin : List D) (H : Hp) : Prop where
  ex : ∃ G A vs ds es, Ext G1 H1 G H ∧ G L = none ∧ H L = some (.lst vs) ∧ TrA K H ds vs A ∧ (∀ a, A a → H1 a = none ∧ G a = none ∧ a ≠ L) ∧ compGo env js ft fe (items.drop i) = some es ∧ ds ++ es = fin ∧ ds.length ≤ i
theorem Sm.comp {K : PySem.W.Frag} {wi : TI} {g : TG} {tt : TT} {te : TE} {vs js : List Nat} {fi : Env → Option (List (List D))} {ft fe : SE} {two : Bool} (hi : SmI K wi fi two) (hg : SmG K g js two) (hj : ∀ j ∈ js, j ∈ vs) (ht : SmT K tt ft) (he : Sm K te fe) :
    Sm K (tLc wi g tt te vs) (E.comp fi js vs ft fe) := fun env σ G H d lv s r e Q p => by
  unfold E.comp at e
  split at e
  · rename_i items ei
    split at e
    · rename_i hlen
      split at e
      · rename_i fin ef
        cases e
        refine hi env σ G H items s r ei _ fun J G1 H1 x1 ok => fun L hL => ?_
        obtain ⟨Gc, Y, w, hc, hy⟩ := ok
        have rw1 : Reps K G1 H1 (wipe σ vs) (wipeE env vs) := (r.mono x1).wipe vs
        have gL : G1 L = none := x1.gh.free hL
        refine lc_it w (CW K G1 H1 L · (wipeE env vs) js ft fe items fin ·) ?_ ?_ ?_ ?_
        · exact ⟨G1, noA, [], [], fin, Ext.new x1.gh hL, gL, upd_same, by unfold TrA; exact ⟨rfl, fun _ z => z⟩, fun _ z => z.elim, ef, rfl, Nat.le_refl _⟩
        · rintro i H2 hi2 ⟨G2, A, us, ds, es, x2, g2, h2, t2, f2, c2, c3, c4⟩
          exact hc H2 (x2.g.trans x2.gh) (Stay.of x2.h)
        · rintro i x H2 H3 hi2 ⟨G2, A, us, ds, es, x2, g2, h2, t2, f2, c2, c3, c4⟩ y
          obtain ⟨s3, it, eit, iv⟩ := hy i H2 x H3 hi2 (x2.g.trans x2.gh) (Stay.of x2.h) y
          have s23 : Ext G2 H2 G2 H3 := ⟨Same.refl _, s3, x2.gh.trans s3, fun _ _ z => z⟩
          have x3 := x2.trans s23
          have h3 : H3 L = some (.lst us) := s3 _ _ h2
          refine hg x it (wipe σ vs) G2 H3 _ (iv.mono x2.g (Stay.refl _)) fun xs rx => ⟨wipe_setV σ vs js xs hj, ?_⟩
          have r3 : Reps K G2 H3 (setV (wipe σ vs) js xs) (setE (wipeE env vs) js it) := (rw1.mono x3).setV js rx
          have dr : items.drop i = it :: items.drop (i + 1) := by
            obtain ⟨hlt, hv⟩ := List.getElem?_eq_some_iff.mp eit
            rw [List.drop_eq_getElem_cons hlt, hv]
          rw [dr] at c2
          unfold compGo at c2
          split at c2
          · rename_i l el
            split at c2
            · rename_i d ed
              split at c2
              · rename_i ds' eds
                cases c2
                refine ht _ _ G2 H3 true l x3.gh r3 el _ fun G4 H4 x4 => iteT ?_
                have x34 := x3.trans x4
                have h4 : H4 L = some (.lst us) := x4.h _ _ h3
                have g4 : G4 L = none := x4.av L (by rw [h3]; exact fun z => nomatch z) g2
                refine he _ _ G4 H4 d .full x4.gh (r3.mono x4) ed _ fun v G5 H5 B x5 fr5 o5 => ?_
                have x35 := x34.trans x5
                have h5 : H5 L = some (.lst us) := x5.h _ _ h4
                have g5 : G5 L = none := x5.av L (by rw [h4]; exact fun z => nomatch z) g4
                have t5 : Tr K H5 d v B := o5
                have ul : us.length ≤ i := by rw [t2.length]; exact c4
                refine ⟨us, h5, line_lt (by omega), ⟨G5, fun a => A a ∨ B a, us ++ [v], ds ++ [d], ds', ?_, g5, upd_same, ?_, ?_, eds, by rw [List.append_assoc]; exact c3, by rw [List.length_append, List.length_singleton]; omega⟩⟩
                · refine ⟨x35.g, fun a o q => ?_, fun a o q => ?_, x35.av⟩
                  · rw [upd_ne (ne_of_none q hL)]; exact x35.h a o q
                  · rw [upd_ne (ne_of_none q g5)]; exact x35.gh a o q
                · have bL : ∀ a, B a → a ≠ L := fun a ha z => by
                    have := (fr5 a ha).1
                    rw [z, h4] at this
                    cases this
                  have sk : ∀ a, A a → H5 a = H2 a := fun a ha => by
                    obtain ⟨zs, hz⟩ := t2.lists a ha
                    rw [hz]
                    exact x5.h _ _ (x4.h _ _ (s3 _ _ hz))
                  have tA : TrA K (upd H5 L (.lst (us ++ [v]))) ds us A := t2.mono (((Stay.of s3).trans (Stay.of x4.h)).trans ((Stay.of x5.h).trans (Stay.upd h5))) fun a ha => by
                    rw [upd_ne (f2 a ha).2.2]
                    exact sk a ha
                  have tB : Tr K (upd H5 L (.lst (us ++ [v]))) d v B := t5.mono (Stay.upd h5) fun a ha => upd_ne (bL a ha)
                  refine tA.append (TrA.one tB) fun a ha hb => ?_
                  obtain ⟨zs, hz⟩ := t2.lists a ha
                  have := (fr5 a hb).1
                  rw [x4.h _ _ (s3 _ _ hz)] at this
                  cases this
                · rintro a (ha | hb)
                  · obtain ⟨zs, hz⟩ := t2.lists a ha
                    have n3 : H3 a ≠ none := by rw [s3 _ _ hz]; exact fun z => nomatch z
                    have n4 : H4 a ≠ none := by rw [x4.h _ _ (s3 _ _ hz)]; exact fun z => nomatch z
                    exact ⟨(f2 a ha).1, x5.av a n4 (x4.av a n3 (f2 a ha).2.1), (f2 a ha).2.2⟩
                  · refine ⟨x34.h.free (fr5 a hb).1, (fr5 a hb).2, fun z => ?_⟩
                    have := (fr5 a hb).1
                    rw [z, h4] at this
                    cases this
              · cases c2
            · cases c2
          · rename_i l el
            refine ht _ _ G2 H3 false l x3.gh r3 el _ fun G4 H4 x4 => iteF ?_
            have h4 : H4 L = some (.lst us) := x4.h _ _ h3
            refine ⟨G4, A, us, ds, es, x3.trans x4, x4.av L (by rw [h3]; exact fun z => nomatch z) g2, h4, ?_, ?_, c2, c3, by omega⟩
            · refine t2.mono ((Stay.of s3).trans (Stay.of x4.h)) fun a ha => ?_
              obtain ⟨zs, hz⟩ := t2.lists a ha
              rw [hz]
              exact x4.h _ _ (s3 _ _ hz)
            · intro a ha
              obtain ⟨zs, hz⟩ := t2.lists a ha
              have n3 : H3 a ≠ none := by rw [s3 _ _ hz]; exact fun z => nomatch z
              exact ⟨(f2 a ha).1, x4.av a n3 (f2 a ha).2.1, (f2 a ha).2.2⟩
          · cases c2
        · rintro H2 ⟨G2, A, us, ds, es, x2, g2, h2, t2, f2, c2, c3, c4⟩
          rw [List.drop_length] at c2
          cases c2
          rw [List.append_nil] at c3
          subst c3
          refine p (.ref L) G2 H2 (fun a => a = L ∨ A a) (x1.trans x2) (fun a ha => ?_) ?_
          · rcases ha with rfl | ha
            · exact ⟨x1.h.free hL, g2⟩
            · exact ⟨x1.h.free (f2 a ha).1, (f2 a ha).2.1⟩
          · unfold Own Tr
            exact ⟨L, us, A, rfl, h2, t2, fun z => (f2 L z).2.2 rfl, fun a => Iff.rfl⟩
      · cases e
    · cases e
  · cases e
structure DTs (X : Cx) (ifs : List Expr) (t : TT) (f : SE) : Prop where
  pt : PTs X ifs t
  sm : SmT X.K t f
theorem DTs.nil {X : Cx} : DTs X [] tYes (E.c (.bl true)) := ⟨pts_nil, fun env σ G H b lv s r e Q q => by cases e; exact q G H (Ext.refl s)⟩
theorem DTs.one {X : Cx} {c : Expr} {t : TT} {f : SE} (h : DT X c t f) : DTs X [c] t f := ⟨pts_one h.pt, h.sm⟩
abbrev BT (α : Type) : Type := Shared → Hp → Addr → List (Str × Addr) → List Addr → α
abbrev at0 {α : Type} (X : Cx) (t : BT α) : α := t X.s_0 X.H_0 0 [] []
theorem DE.comp {X : Cx} {elt tg iter : Expr} {ifs : List Expr} {scope : Scope} {own : List (Str × Nat)} {pos : Pos} {wi : TI} {g : TG} {tt : BT TT} {te : BT TE} {js : List Nat} {fi : Env → Option (List (List D))} {ft fe : SE} {two : Bool}
    (own' : List (Str × Nat)) (ho : own' = own) (hN : X.N.Nodup) (hi : DI X tg iter wi fi two) (ok : BlkOk X.N X.env.scope scope own)
    (hg : ∀ (s : Shared) (H : Hp) (C : Addr) (cl : List (Str × Addr)) (fp : List Addr), PG (X.blk s H scope (compEnvC scope cl C X.env) fp) tg g) (hgs : SmG X.K g js two)
    (ht : ∀ (s : Shared) (H : Hp) (C : Addr) (cl : List (Str × Addr)) (fp : List Addr), DTs (X.blk s H scope (compEnvC scope cl C X.env) fp) ifs (tt s H C cl fp) ft)
    (he : ∀ (s : Shared) (H : Hp) (C : Addr) (cl : List (Str × Addr)) (fp : List Addr), DE (X.blk s H scope (compEnvC scope cl C X.env) fp) elt (te s H C cl fp) fe)
    (h1 : ∀ s H C cl fp, tt s H C cl fp = at0 X tt := by intros; rfl) (h2 : ∀ s H C cl fp, te s H C cl fp = at0 X te := by intros; rfl)
    (hj : ∀ j ∈ js, j ∈ own.map (·.2) := by decide) (hs : ∀ x, foldedSetIterable iter X.env x = pure x := by intro _; rfl) (hc : X.calm = true := by rfl) :
    DE X (.ListComp elt [⟨tg, iter, ifs, 0⟩] scope pos) (tLc wi g (at0 X tt) (at0 X te) (own.map (·.2))) (E.comp fi js (own.map (·.2)) ft fe) :=
  ⟨pe_lc hc hN hi.pi ok hg (fun s H C cl fp => by have := (ht s H C cl fp).pt; rwa [h1 s H C cl fp] at this) (fun s H C cl fp => by have := (he s H C cl fp).pe; rwa [h2 s H C cl fp] at this) hs,
   Sm.comp hi.sm hgs hj (ht X.s_0 X.H_0 0 [] []).sm (he X.s_0 X.H_0 0 [] []).sm⟩
end PL

set_option Elab.async false
set_option linter.all false
set_option maxRecDepth 100000
set_option maxHeartbeats 2000000
/-! PL, part e: statements. -/
namespace PL
open PySem PySem.Spec PyProof.Rows L2

abbrev SX := Env → Option Out
def Xo.of (f : SE) : SX := fun env => match f env with
  | some (d, lv) => some (.ok d lv)
  | none => none
def Xo.call (F : List D → Option Out) (fs : List SE) : SX := fun env => match evA fs env with
  | some ds => F ds
  | none => none
def Xo.ite (ft : SE) (fa fb : SX) : SX := fun env => match ft env with
  | some (.bl true, _) => fa env
  | some (.bl false, _) => fb env
  | _ => none
def OutOk (K : PySem.W.Frag) (mg : Str → Option Value) (W : WX) (σ : L2.St) (G H : Hp) (o : Out) (Q : VK) : Prop := match o with
  | .ok d lv => Post K G H d lv Q
  | .exc c => ∀ C H', mg c = some (.ref C) → Same H H' → W (.ref C) none σ H'
theorem OutOk.ext {K : PySem.W.Frag} {mg : Str → Option Value} {W : WX} {σ : L2.St} {G H G' H' : Hp} {o : Out} {Q : VK} (x : Ext G H G' H') (p : OutOk K mg W σ G H o Q) : OutOk K mg W σ G' H' o Q := by
  cases o with
  | ok d lv => exact Post.ext x p
  | exc c => exact fun C H2 m s => p C H2 m (x.h.trans s)
def SmX (K : PySem.W.Frag) (mg : Str → Option Value) (W : WX) (t : TE) (f : SX) : Prop := ∀ env σ G H o, Same G H → Reps K G H σ env → f env = some o → ∀ Q, OutOk K mg W σ G H o Q → t σ H Q
structure DX (X : Cx) (W : WX) (e : Expr) (t : TE) (f : SX) : Prop where
  pe : PE X e t
  sm : SmX X.K X.mg W t f
section
variable {X : Cx} {W : WX} {a b c e : Expr} {es : List Expr} {ta tb te : TE} {tA : TT} {ta' : TA} {fs : List SE} {fe ft : SE} {fa fb : SX} {pos p : Pos} {x : Str}
theorem DX.of (h : DE X e te fe) : DX X W e te (Xo.of fe) := ⟨h.pe, fun env σ G H o s r e Q q => by
  unfold Xo.of at e
  split at e
  · rename_i d lv ed
    cases e
    exact h.sm env σ G H d lv s r ed Q q
  · cases e⟩
theorem DX.call {k f : _} {fd : FuncData} {ps : List Str} {F : List D → Option Out} (Fk : FnOk X.prog X.w X.K X.mg X.base (L2N.CX X.prog X.w) k f fd ps (spD X.K X.mg ps.length F)) (hr : Room k X.A) (hg : Gl X x) (hm : X.mg x = some (.ref f)) (hk : PySem.W.keepIn X.K (.ref f) = true)
    (hb : Binds X.K fd ps []) (tk : L2N.Takes X W) (ha : DA X (e :: es) ta' fs) (hn : fs.length = ps.length := by rfl) (hdb : (x == ("__debug__" : Str)) = false := by decide) (he : starEach (e :: es) X.env = (false, eval e X.env) :: starEach es X.env := by rfl) (hpl : (backTo pos (starEach es X.env)).any (·.1) = false := by rfl) :
    DX X W (.Call (.Name x p) (e :: es) [] pos) (tCallS (spD X.K X.mg ps.length F) (WE W) ta') (Xo.call F fs) := ⟨pe_callS Fk hr hg hm hk hb (fun σ => L2N.passAt tk σ) ha.pa hdb he hpl, fun env σ G H o s r e Q q => by
  unfold Xo.call at e
  split at e
  · rename_i ds eds
    refine ha.sm env σ G H ds s r eds _ fun vs G1 H1 x1 t => ⟨?_, G1, ds, o, x1.gh, t, e, ?_⟩
    · rw [t.length, evA_len fs env ds eds, hn]
    · have q' := q.ext x1
      cases o with
      | ok d lv => exact q'
      | exc c => exact q'
  · cases e⟩
theorem DX.ifExp (ht : DT X c tA ft) (ha : DX X W a ta fa) (hb : DX X W b tb fb) : DX X W (.IfExp c a b pos) (tIf tA ta tb) (Xo.ite ft fa fb) := ⟨pe_ifExp ht.pt ha.pe hb.pe, fun env σ G H o s r e Q q => by
  unfold Xo.ite at e
  split at e
  · rename_i l el
    exact ht.sm env σ G H true l s r el _ fun G1 H1 x1 => iteT (ha.sm env σ G1 H1 o x1.gh (r.mono x1) e Q (q.ext x1))
  · rename_i l el
    exact ht.sm env σ G H false l s r el _ fun G1 H1 x1 => iteF (hb.sm env σ G1 H1 o x1.gh (r.mono x1) e Q (q.ext x1))
  · cases e⟩
end

/-! ### the state between statements -/
structure RelW (K : PySem.W.Frag) (G0 H0 Gm Hm H : Hp) (σ : L2.St) (env : Env) (G : Hp) (As : Nat → Addr → Prop) : Prop where
  ext : Ext G0 H0 G H
  gm : Same Gm G
  hm : Stay Hm H
  dj : ∀ i j a, As i a → As j a → i = j
  fr : ∀ i a, As i a → G a = none ∧ H0 a = none
  there : ∀ i a, As i a → ∃ xs, H a = some (.lst xs)
  len : σ.length = env.length
  own : ∀ (i : Nat) (d : D) (lv : Lv), env[i]? = some (some (d, lv)) → ∃ v : V, σ[i]? = some (some v) ∧ Own K G H d lv v (As i)
def Rel (K : PySem.W.Frag) (G0 H0 Gm Hm H : Hp) (σ : L2.St) (env : Env) : Prop := ∃ G As, RelW K G0 H0 Gm Hm H σ env G As
inductive Res where
  | next (env : Env)
  | ret (d : D) (lv : Lv)
  | exc (c : Str) (env : Env)
abbrev SS := Env → Option Res
def Fin (K : PySem.W.Frag) (mg : Str → Option Value) (W : WX) (G0 H0 Gm Hm : Hp) (Dn : Ends) (r : Res) : Prop := match r with
  | .next env' => ∀ σ' H', Rel K G0 H0 Gm Hm H' σ' env' → Dn.nx σ' H'
  | .ret d lv => ∀ v G' H' A, Ext G0 H0 G' H' → (∀ a, A a → H0 a = none ∧ G' a = none) → Own K G' H' d lv v A → Dn.rt v H'
  | .exc c env' => ∀ C σ' H', mg c = some (.ref C) → Rel K G0 H0 Gm Hm H' σ' env' → W (.ref C) none σ' H'
def SmS (K : PySem.W.Frag) (mg : Str → Option Value) (W : WX) (t : TS) (g : SS) : Prop := ∀ (Dn : Ends) G0 H0 Gm Hm σ H env r, Rel K G0 H0 Gm Hm H σ env → g env = some r → Fin K mg W G0 H0 Gm Hm Dn r → t Dn σ H
structure DS (X : Cx) (W : WX) (st : Stmt) (t : TS) (g : SS) : Prop where
  ps : PS X st t
  sm : SmS X.K X.mg W t g
structure DSs (X : Cx) (W : WX) (st : List Stmt) (t : TS) (g : SS) : Prop where
  pss : PSs X st t
  sm : SmS X.K X.mg W t g

section
variable {K : PySem.W.Frag} {G0 H0 Gm Hm H H' G G' : Hp} {σ : L2.St} {env : Env} {As : Nat → Addr → Prop} {d : D} {lv : Lv} {v : V} {A : Addr → Prop}
theorem Own.borrow (s : Same G H) (h : Own K G H d lv v A) : Rq K H H d v := by
  cases lv with
  | sh => exact h.2.mono s (Stay.refl _)
  | full => exact Tr.rq (fun _ _ => rfl) h
  | out =>
    obtain ⟨ds, p, vs, rfl, rfl, hp, r, i⟩ := h
    unfold Rq
    exact ⟨p, vs, rfl, hp, r.mono s (Stay.refl _)⟩
theorem RelW.borrow (R : RelW K G0 H0 Gm Hm H σ env G As) : Reps K H H σ env := ⟨R.len, fun i d lv e => by
  obtain ⟨v, h1, h2⟩ := R.own i d lv e
  exact ⟨v, h1, h2.borrow R.ext.gh⟩⟩
/-- only what is shared, or flat -/
def shOnly (env : Env) : Env := env.map fun c => match c with
  | some (d, lv) => if lv = .sh ∨ flatD d = true then some (d, lv) else none
  | none => none
theorem Tr.flat_rq {H : Hp} {d : D} {v : V} {A : Addr → Prop} (f : flatD d = true) (h : Tr K H d v A) {G : Hp} : Rq K G H d v := by
  cases d with
  | non => exact h.1
  | bl b => exact h.1
  | int b => exact h.1
  | str b => exact h.1
  | tup b => exact h.1
  | lst b => simp [flatD] at f
  | ex b c => simp [flatD] at f
  | scr b => simp [flatD] at f
theorem RelW.shared (R : RelW K G0 H0 Gm Hm H σ env G As) : Reps K G H σ (shOnly env) := by
  refine ⟨by unfold shOnly; rw [List.length_map]; exact R.len, fun i d lv e => ?_⟩
  unfold shOnly at e
  rw [List.getElem?_map] at e
  cases q : env[i]? with
  | none => rw [q] at e; cases e
  | some c =>
    rw [q] at e
    cases c with
    | none => cases e
    | some dl =>
      obtain ⟨d', lv'⟩ := dl
      have e' : (if lv' = .sh ∨ flatD d' = true then some (d', lv') else none) = some (d, lv) := Option.some.inj e
      split at e'
      · rename_i h
        cases e'
        obtain ⟨v, h1, h2⟩ := R.own i _ _ q
        refine ⟨v, h1, ?_⟩
        cases lv with
        | sh => exact h2.2
        | full =>
          rcases h with h | h
          · cases h
          · exact Tr.flat_rq h h2
        | out =>
          rcases h with h | h
          · cases h
          · obtain ⟨ds, p, vs, rfl, _⟩ := h2
            simp [flatD] at h
      · cases e'
/-- the heap grows -/
theorem RelW.grow (R : RelW K G0 H0 Gm Hm H σ env G As) (x : Ext G H G' H') : RelW K G0 H0 Gm Hm H' σ env G' As where
  ext := R.ext.trans x
  gm := R.gm.trans x.g
  hm := R.hm.trans (Stay.of x.h)
  dj := R.dj
  fr := fun i a ha => by
    obtain ⟨xs, hx⟩ := R.there i a ha
    exact ⟨x.av a (by rw [hx]; exact fun z => nomatch z) (R.fr i a ha).1, (R.fr i a ha).2⟩
  there := fun i a ha => by
    obtain ⟨xs, hx⟩ := R.there i a ha
    exact ⟨xs, x.h _ _ hx⟩
  len := R.len
  own := fun i d lv e => by
    obtain ⟨v, h1, h2⟩ := R.own i d lv e
    refine ⟨v, h1, h2.mono x.g (Stay.of x.h) fun a ha => ?_⟩
    obtain ⟨xs, hx⟩ := R.there i a ha
    rw [hx, x.h _ _ hx]
theorem RelW.heap (R : RelW K G0 H0 Gm Hm H σ env G As) (s : Same H H') : RelW K G0 H0 Gm Hm H' σ env G As :=
  R.grow ⟨Same.refl _, s, R.ext.gh.trans s, fun _ _ z => z⟩
/-- slot i gets a new value with its own footprint -/
theorem RelW.put (R : RelW K G0 H0 Gm Hm H σ env G As) (i : Nat) (x : Ext G H G' H') (fr : ∀ a, A a → H a = none ∧ G' a = none) (o : Own K G' H' d lv v A) :
    RelW K G0 H0 Gm Hm H' (σ.set i (some v)) (env.set i (some (d, lv))) G' (fun j => if j = i then A else As j) := by
  have R' := R.grow x
  have th : ∀ j a, As j a → A a → False := fun j a h1 h2 => by
    obtain ⟨xs, hx⟩ := R.there j a h1
    rw [(fr a h2).1] at hx
    cases hx
  refine ⟨R'.ext, R'.gm, R'.hm, fun j k a h1 h2 => ?_, fun j a h => ?_, fun j a h => ?_, by rw [List.length_set, List.length_set, R.len], fun j d' lv' e => ?_⟩
  · by_cases hj : j = i
    · by_cases hk : k = i
      · rw [hj, hk]
      · simp only [if_pos hj, if_neg hk] at h1 h2
        exact (th k a h2 h1).elim
    · by_cases hk : k = i
      · simp only [if_neg hj, if_pos hk] at h1 h2
        exact (th j a h1 h2).elim
      · simp only [if_neg hj, if_neg hk] at h1 h2
        exact R.dj j k a h1 h2
  · by_cases hj : j = i
    · simp only [if_pos hj] at h
      exact ⟨(fr a h).2, R.ext.h.free (fr a h).1⟩
    · simp only [if_neg hj] at h
      exact R'.fr j a h
  · by_cases hj : j = i
    · simp only [if_pos hj] at h
      exact o.lists a h
    · simp only [if_neg hj] at h
      exact R'.there j a h
  · rw [List.getElem?_set] at e ⊢
    by_cases hj : i = j
    · rw [if_pos hj] at e
      rw [if_pos hj]
      split at e
      · rename_i hl
        cases e
        rw [if_pos (by rw [R.len]; exact hl)]
        exact ⟨v, rfl, by simp only [if_pos hj.symm]; exact o⟩
      · cases e
    · rw [if_neg hj] at e
      rw [if_neg hj]
      obtain ⟨u, h1, h2⟩ := R'.own j d' lv' e
      exact ⟨u, h1, by simp only [if_neg (Ne.symm hj)]; exact h2⟩
/-- a slot is forgotten -/
theorem RelW.kill (R : RelW K G0 H0 Gm Hm H σ env G As) (i : Nat) : RelW K G0 H0 Gm Hm H σ (env.set i none) G (fun j => if j = i then noA else As j) := by
  refine ⟨R.ext, R.gm, R.hm, fun j k a h1 h2 => ?_, fun j a h => ?_, fun j a h => ?_, by rw [List.length_set, R.len], fun j d' lv' e => ?_⟩
  · by_cases hj : j = i
    · simp only [if_pos hj] at h1
      exact h1.elim
    · by_cases hk : k = i
      · simp only [if_pos hk] at h2
        exact h2.elim
      · simp only [if_neg hj, if_neg hk] at h1 h2
        exact R.dj j k a h1 h2
  · by_cases hj : j = i
    · simp only [if_pos hj] at h
      exact h.elim
    · simp only [if_neg hj] at h
      exact R.fr j a h
  · by_cases hj : j = i
    · simp only [if_pos hj] at h
      exact h.elim
    · simp only [if_neg hj] at h
      exact R.there j a h
  · rw [List.getElem?_set] at e
    by_cases hj : i = j
    · rw [if_pos hj] at e
      split at e <;> cases e
    · rw [if_neg hj] at e
      obtain ⟨u, h1, h2⟩ := R.own j d' lv' e
      exact ⟨u, h1, by simp only [if_neg (Ne.symm hj)]; exact h2⟩
/-- the list at p, of slot i's tree, is changed -/
theorem RelW.mut (R : RelW K G0 H0 Gm Hm H σ env G As) {i : Nat} {p : Addr} {ys : List V} (hi : σ[i]? = some (some v)) (hp : As i p) (hA : ∀ a, A a → As i a ∨ (H a ≠ none ∧ H0 a = none ∧ G a = none ∧ ∀ j, ¬ As j a)) (o : Own K G (upd H p (.lst ys)) d lv v A) :
    RelW K G0 H0 Gm Hm (upd H p (.lst ys)) σ (env.set i (some (d, lv))) G (fun j => if j = i then A else As j) := by
  obtain ⟨zs, hz⟩ := R.there i p hp
  have st : Stay H (upd H p (.lst ys)) := Stay.upd hz
  have off : ∀ j a, j ≠ i → As j a → a ≠ p := fun j a hj ha z => hj (R.dj j i a ha (z ▸ hp))
  have dis : ∀ j a, j ≠ i → As j a → A a → False := fun j a hj h1 h2 => by
    rcases hA a h2 with q | q
    · exact hj (R.dj j i a h1 q)
    · exact q.2.2.2 j h1
  refine ⟨⟨R.ext.g, fun a o q => ?_, fun a o q => ?_, R.ext.av⟩, R.gm, R.hm.trans st, fun j k a h1 h2 => ?_, fun j a h => ?_, fun j a h => ?_, by rw [List.length_set, R.len], fun j d' lv' e => ?_⟩
  · rw [upd_ne (ne_of_none q (R.fr i p hp).2)]; exact R.ext.h a o q
  · rw [upd_ne (ne_of_none q (R.fr i p hp).1)]; exact R.ext.gh a o q
  · by_cases hj : j = i
    · by_cases hk : k = i
      · rw [hj, hk]
      · simp only [if_pos hj, if_neg hk] at h1 h2
        exact (dis k a hk h2 h1).elim
    · by_cases hk : k = i
      · simp only [if_neg hj, if_pos hk] at h1 h2
        exact (dis j a hj h1 h2).elim
      · simp only [if_neg hj, if_neg hk] at h1 h2
        exact R.dj j k a h1 h2
  · by_cases hj : j = i
    · simp only [if_pos hj] at h
      rcases hA a h with q | q
      · exact R.fr i a q
      · exact ⟨q.2.2.1, q.2.1⟩
    · simp only [if_neg hj] at h
      exact R.fr j a h
  · by_cases hj : j = i
    · simp only [if_pos hj] at h
      exact o.lists a h
    · simp only [if_neg hj] at h
      obtain ⟨xs, hx⟩ := R.there j a h
      exact ⟨xs, by rw [upd_ne (off j a hj h)]; exact hx⟩
  · rw [List.getElem?_set] at e
    by_cases hj : i = j
    · rw [if_pos hj] at e
      split at e
      · rename_i hl
        cases e
        subst hj
        exact ⟨v, hi, by simp only [if_true]; exact o⟩
      · cases e
    · rw [if_neg hj] at e
      obtain ⟨u, h1, h2⟩ := R.own j d' lv' e
      refine ⟨u, h1, ?_⟩
      simp only [if_neg (Ne.symm hj)]
      exact h2.mono (Same.refl _) st fun a ha => upd_ne (off j a (Ne.symm hj) ha)
end

/-! ### statements -/
namespace S
def nxt : SS := fun env => some (.next env)
def seq (g1 g2 : SS) : SS := fun env => match g1 env with
  | some (.next e) => g2 e
  | r => r
def set (i : Nat) (f : SX) : SS := fun env => match f env with
  | some (.ok d .full) => some (.next (env.set i (some (d, .full))))
  | some (.ok _ _) => (match f (shOnly env) with
    | some (.ok d lv) => some (.next (env.set i (some (d, lv))))
    | _ => none)
  | some (.exc c) => some (.exc c env)
  | none => none
def ret (f : SX) : SS := fun env => match f env with
  | some (.ok d .full) => some (.ret d .full)
  | some (.ok _ _) => (match f (shOnly env) with
    | some (.ok d lv) => some (.ret d lv)
    | _ => none)
  | some (.exc c) => some (.exc c env)
  | none => none
/-- return x -/
def retN (i : Nat) : SS := fun env => match env[i]? with
  | some (some (d, lv)) => some (.ret d lv)
  | _ => none
def drop (f : SX) : SS := fun env => match f env with
  | some (.ok _ _) => some (.next env)
  | some (.exc c) => some (.exc c env)
  | none => none
def ite (ft : SE) (g1 g2 : SS) : SS := fun env => match ft env with
  | some (.bl true, _) => g1 env
  | some (.bl false, _) => g2 env
  | _ => none
/-- slots forgotten -/
def kill (env : Env) : List Nat → Env
  | [] => env
  | k :: ks => kill (env.set k none) ks
def forGo (js ks : List Nat) (g : SS) : List (List D) → Env → Option Res
  | [], env => some (.next env)
  | it :: rest, env => match g (setE env js it) with
    | some (.next e) => forGo js ks g rest (kill e ks)
    | r => r
def forR (fi : Env → Option (List (List D))) (js ks : List Nat) (g : SS) : SS := fun env => match fi env with
  | some items => forGo js ks g items (kill env ks)
  | none => none
def forL (fi : Env → Option (List (List D))) (js ks : List Nat) (g : SS) : SS := fun env => match fi (shOnly env) with
  | some items => forGo js ks g items (kill env ks)
  | none => none
def whileGo (ft : SE) (g : SS) : Nat → Env → Option Res
  | 0, _ => none
  | n + 1, env => match ft env with
    | some (.bl true, _) => (match g env with
      | some (.next e) => whileGo ft g n e
      | r => r)
    | some (.bl false, _) => some (.next env)
    | _ => none
/-- slot i is shared from now on -/
def frz (i : Nat) (g : SS) : SS := fun env => match env[i]? with
  | some (some (d, _)) => g (env.set i (some (d, lvS d)))
  | _ => none
def raise (c : Str) : SS := fun env => some (.exc c env)
end S

section
variable {X : Cx} {W : WX} {a b c e : Expr} {st : Stmt} {rest body els : List Stmt} {ta tb te : TE} {tA : TT} {t u : TS} {g g1 g2 : SS} {f : SX} {ft : SE} {pos p : Pos} {x : Str}
theorem DSs.nil : DSs X W [] tNext S.nxt := ⟨pss_nil, fun Dn G0 H0 Gm Hm σ H env r R e F => by cases e; exact F σ H R⟩
theorem DSs.one (h : DS X W st t g) : DSs X W [st] t g := ⟨pss_one h.ps, h.sm⟩
theorem SmS.seq {K : PySem.W.Frag} {mg : Str → Option Value} (h1 : SmS K mg W t g1) (h2 : SmS K mg W u g2) : SmS K mg W (tSeq t u) (S.seq g1 g2) := fun Dn G0 H0 Gm Hm σ H env r R e F => by
  unfold S.seq at e
  split at e
  · rename_i e1 he
    exact h1 _ G0 H0 Gm Hm σ H env _ R he fun σ' H' R' => h2 Dn G0 H0 Gm Hm σ' H' e1 r R' e F
  · refine h1 _ G0 H0 Gm Hm σ H env r R e ?_
    cases r with
    | next e1 => rename_i hn; exact (hn e1 e).elim
    | ret d lv => exact F
    | exc c e1 => exact F
theorem DSs.cons (h1 : DS X W st t g1) (h2 : DSs X W rest u g2) : DSs X W (st :: rest) (tSeq t u) (S.seq g1 g2) := ⟨pss_cons h1.ps h2.pss, h1.sm.seq h2.sm⟩
theorem DS.pass : DS X W (.Pass pos) tNext S.nxt := ⟨ps_pass, fun Dn G0 H0 Gm Hm σ H env r R e F => by cases e; exact F σ H R⟩
/-- an expression's end, at the level of statements: both ways of reading it -/
theorem SmX.stm {K : PySem.W.Frag} {mg : Str → Option Value} (h : SmX K mg W te f) {G0 H0 Gm Hm H G : Hp} {σ : L2.St} {env : Env} {As : Nat → Addr → Prop} (R : RelW K G0 H0 Gm Hm H σ env G As) {Q : VK} {d : D} {o : Out} (e : f env = some o)
    (q : match o with
      | .ok d .full => ∀ v H' A, Same H H' → (∀ a, A a → H a = none) → Own K G H' d .full v A → Q v H'
      | .ok _ _ => ∃ d lv, f (shOnly env) = some (.ok d lv) ∧ ∀ v G' H' A, Ext G H G' H' → (∀ a, A a → H a = none ∧ G' a = none) → Own K G' H' d lv v A → Q v H'
      | .exc c => ∀ C H', mg c = some (.ref C) → Same H H' → W (.ref C) none σ H') : te σ H Q := by
  have bor := h env σ H H o (Same.refl H) R.borrow e Q
  cases o with
  | exc c => exact bor fun C H' m s => q C H' m s
  | ok d lv =>
    cases lv with
    | full => exact bor fun v G' H' A x fr o => q v H' A x.h (fun a ha => (fr a ha).1) o
    | sh =>
      obtain ⟨d', lv', e', k⟩ := q
      exact h (shOnly env) σ G H _ R.ext.gh R.shared e' Q k
    | out =>
      obtain ⟨d', lv', e', k⟩ := q
      exact h (shOnly env) σ G H _ R.ext.gh R.shared e' Q k
theorem SmS.set {K : PySem.W.Frag} {mg : Str → Option Value} {i : Nat} (h : SmX K mg W te f) : SmS K mg W (tAsg te (gName i)) (S.set i f) := fun Dn G0 H0 Gm Hm σ H env r R e F => by
  obtain ⟨G, As, R⟩ := R
  unfold S.set at e
  split at e
  · rename_i d ed
    cases e
    exact h.stm R (d := d) ed fun v H' A s fr o => F _ _ ⟨_, _, R.put i ⟨Same.refl _, s, R.ext.gh.trans s, fun _ _ z => z⟩ (fun a ha => ⟨fr a ha, R.ext.gh.free (fr a ha)⟩) o⟩
  · rename_i d lv hn ed
    split at e
    · rename_i d' lv' ed'
      cases e
      refine h.stm R (d := d) ed ?_
      cases lv with
      | full => exact (hn rfl).elim
      | sh => exact ⟨d', lv', ed', fun v G' H' A x fr o => F _ _ ⟨_, _, R.put i x fr o⟩⟩
      | out => exact ⟨d', lv', ed', fun v G' H' A x fr o => F _ _ ⟨_, _, R.put i x fr o⟩⟩
    · cases e
  · rename_i c ec
    cases e
    exact h.stm R (d := .non) ec fun C H' m s => F C σ H' m ⟨G, As, R.heap s⟩
  · cases e
theorem SmS.ret {K : PySem.W.Frag} {mg : Str → Option Value} (h : SmX K mg W te f) : SmS K mg W (tRet te) (S.ret f) := fun Dn G0 H0 Gm Hm σ H env r R e F => by
  obtain ⟨G, As, R⟩ := R
  unfold S.ret at e
  split at e
  · rename_i d ed
    cases e
    exact h.stm R (d := d) ed fun v H' A s fr o => F v G H' A (R.heap s).ext (fun a ha => ⟨R.ext.h.free (fr a ha), R.ext.gh.free (fr a ha)⟩) o
  · rename_i d lv hn ed
    split at e
    · rename_i d' lv' ed'
      cases e
      refine h.stm R (d := d) ed ?_
      cases lv with
      | full => exact (hn rfl).elim
      | sh => exact ⟨d', lv', ed', fun v G' H' A x fr o => F v G' H' A (R.ext.trans x) (fun a ha => ⟨R.ext.h.free (fr a ha).1, (fr a ha).2⟩) o⟩
      | out => exact ⟨d', lv', ed', fun v G' H' A x fr o => F v G' H' A (R.ext.trans x) (fun a ha => ⟨R.ext.h.free (fr a ha).1, (fr a ha).2⟩) o⟩
    · cases e
  · rename_i c ec
    cases e
    exact h.stm R (d := .non) ec fun C H' m s => F C σ H' m ⟨G, As, R.heap s⟩
  · cases e
theorem DS.set (i : Nat) (h : DX X W e te f) (hN : X.N.Nodup) (hi : X.N[i]? = some x := by rfl) (hx : Loc X.env.scope x := by first | exact Or.inl rfl | exact Or.inr rfl) (hs : swapsWith e (some (.Name x p)) pos.line X.env = pure false := by rfl) (hf : X.fn x = true ∨ X.env.scope.names.lookup x = some .local := by first | exact .inl rfl | exact .inr rfl) :
    DS X W (.Assign [.Name x p] e pos) (tAsg te (gName i)) (S.set i f) := ⟨ps_set hN hi hx h.pe hs hf, SmS.set h.sm⟩
theorem DS.setC {own : List (Str × Nat)} {elt tg iter : Expr} {ifs : List Expr} {scope : Scope} {wi : TI} {gt : TG} {tt : BT TT} {te : BT TE} {js : List Nat} {fi : Env → Option (List (List D))} {ft fe : SE} {two : Bool} {pos2 : Pos} (i : Nat)
    (hN : X.N.Nodup) (hi : DI X tg iter wi fi two) (ok : BlkOk X.N X.env.scope scope own)
    (hg : ∀ (s : Shared) (H : Hp) (C : Addr) (cl : List (Str × Addr)) (fp : List Addr), PG (X.blk s H scope (compEnvC scope cl C X.env) fp) tg gt) (hgs : SmG X.K gt js two)
    (ht : ∀ (s : Shared) (H : Hp) (C : Addr) (cl : List (Str × Addr)) (fp : List Addr), DTs (X.blk s H scope (compEnvC scope cl C X.env) fp) ifs (tt s H C cl fp) ft)
    (he : ∀ (s : Shared) (H : Hp) (C : Addr) (cl : List (Str × Addr)) (fp : List Addr), DE (X.blk s H scope (compEnvC scope cl C X.env) fp) elt (te s H C cl fp) fe)
    (hsw : swapsWith (.ListComp elt [⟨tg, iter, ifs, 0⟩] scope pos2) (some (.Name x p)) pos.line X.env = pure true)
    (h1 : ∀ s H C cl fp, tt s H C cl fp = at0 X tt := by intros; rfl) (h2 : ∀ s H C cl fp, te s H C cl fp = at0 X te := by intros; rfl)
    (hj : ∀ j ∈ js, j ∈ own.map (·.2) := by decide) (hs : ∀ x, foldedSetIterable iter X.env x = pure x := by intro _; rfl) (hc : X.calm = true := by rfl) (hy : X.N[i]? = some x := by rfl) (hyl : X.env.scope.names.lookup x = some .local := by rfl) :
    DS X W (.Assign [.Name x p] (.ListComp elt [⟨tg, iter, ifs, 0⟩] scope pos2) pos) (tAsg (tLc wi gt (at0 X tt) (at0 X te) (own.map (·.2))) (gName i)) (S.set i (Xo.of (E.comp fi js (own.map (·.2)) ft fe))) :=
  ⟨ps_setLc hc hN hy hyl hsw hi.pi ok hg (fun s H C cl fp => by have := (ht s H C cl fp).pt; rwa [h1 s H C cl fp] at this) (fun s H C cl fp => by have := (he s H C cl fp).pe; rwa [h2 s H C cl fp] at this) hs,
   SmS.set (DX.of (X := X) (W := W) (DE.comp own rfl hN hi ok hg hgs ht he h1 h2 hj hs hc (pos := pos2))).sm⟩
theorem DS.ret (h : DX X W e te f) : DS X W (.Return (some e) pos) (tRet te) (S.ret f) := ⟨ps_ret h.pe, SmS.ret h.sm⟩
theorem DS.retN (i : Nat) (hN : X.N[i]? = some x := by rfl) (hv : Vis X.env.scope x := by first | exact Or.inl rfl | exact Or.inr (Or.inl rfl) | exact Or.inr (Or.inr rfl)) (hd : (x == ("__debug__" : Str)) = false := by decide)
    (hcd : (x == ("__classdict__" : Str)) = false := by decide) : DS X W (.Return (some (.Name x p)) pos) (tRet (tVar i)) (S.retN i) := ⟨ps_ret (pe_var hN hv hd hcd), fun Dn G0 H0 Gm Hm σ H env r R e F => by
  obtain ⟨G, As, R⟩ := R
  unfold S.retN at e
  split at e
  · rename_i d lv ed
    cases e
    obtain ⟨v, h1, h2⟩ := R.own i d lv ed
    exact ⟨v, h1, F v G H (As i) R.ext (fun a ha => ⟨(R.fr i a ha).2, (R.fr i a ha).1⟩) h2⟩
  · cases e⟩
theorem DS.drop (h : DX X W e te f) (hs : swapsWith e none pos.line X.env = pure false := by rfl) : DS X W (.Expr e pos) (tDrop te) (S.drop f) := ⟨ps_expr h.pe hs, fun Dn G0 H0 Gm Hm σ H env r R e F => by
  obtain ⟨G, As, R⟩ := R
  unfold S.drop at e
  have bor := fun o eo Q => h.sm env σ H H o (Same.refl H) R.borrow eo Q
  split at e
  · rename_i d lv ed
    cases e
    exact bor _ ed _ fun v G' H' A x fr o => F σ H' ⟨G, As, R.heap x.h⟩
  · rename_i c ec
    cases e
    exact bor _ ec _ fun C H' m s => F C σ H' m ⟨G, As, R.heap s⟩
  · cases e⟩
theorem DS.ite (hc : DT X c tA ft) (ha : DSs X W body t g1) (hb : DSs X W els u g2) : DS X W (.If c body els pos) (tIfS tA t u) (S.ite ft g1 g2) := ⟨ps_if hc.pt ha.pss hb.pss, fun Dn G0 H0 Gm Hm σ H env r R e F => by
  obtain ⟨G, As, R⟩ := R
  unfold S.ite at e
  split at e
  · rename_i l el
    exact hc.sm env σ H H true l (Same.refl H) R.borrow el _ fun G1 H1 x1 => iteT (ha.sm Dn G0 H0 Gm Hm σ H1 env r ⟨G, As, R.heap x1.h⟩ e F)
  · rename_i l el
    exact hc.sm env σ H H false l (Same.refl H) R.borrow el _ fun G1 H1 x1 => iteF (hb.sm Dn G0 H0 Gm Hm σ H1 env r ⟨G, As, R.heap x1.h⟩ e F)
  · cases e⟩
end
end PL

set_option Elab.async false
set_option linter.all false
set_option maxRecDepth 100000
set_option maxHeartbeats 2000000
/-! PL, part f: loops, lists changed in place, defs. -/
namespace PL
open PySem PySem.Spec PyProof.Rows L2

section
variable {K : PySem.W.Frag} {mg : Str → Option Value} {W : WX} {G0 H0 Gm Hm Gn Hn H H' G G' : Hp} {σ : L2.St} {env : Env} {As : Nat → Addr → Prop} {d : D} {lv : Lv} {v : V} {A : Addr → Prop}
theorem Rel.weak (g : Same Gm Gn) (h : Stay Hm Hn) (R : Rel K G0 H0 Gn Hn H σ env) : Rel K G0 H0 Gm Hm H σ env := by
  obtain ⟨G, As, R⟩ := R
  exact ⟨G, As, R.ext, g.trans R.gm, h.trans R.hm, R.dj, R.fr, R.there, R.len, R.own⟩
theorem Fin.weak (g : Same Gm Gn) (h : Stay Hm Hn) {Dn : Ends} {r : Res} (F : Fin K mg W G0 H0 Gm Hm Dn r) : Fin K mg W G0 H0 Gn Hn Dn r := by
  cases r with
  | next e => exact fun σ' H' R => F σ' H' (R.weak g h)
  | ret d lv => exact F
  | exc c e => exact fun C σ' H' m R => F C σ' H' m (R.weak g h)
theorem RelW.bind : ∀ (js : List Nat) {ds : List D} {vs : List V} {σ : L2.St} {env : Env} {As : Nat → Addr → Prop}, RelW K G0 H0 Gm Hm H σ env G As → RqA K G H ds vs → Rel K G0 H0 Gm Hm H (setV σ js vs) (setE env js ds)
  | [], _, _, _, _, As, R, _ => ⟨G, As, R⟩
  | j :: js, [], vs, σ, env, As, R, f => by
    unfold RqA at f
    rw [f]
    exact ⟨G, As, R⟩
  | j :: js, d :: ds, vs, σ, env, As, R, f => by
    unfold RqA at f
    obtain ⟨x, xs, rfl, a, b⟩ := f
    exact RelW.bind js (R.put j (Ext.refl R.ext.gh) (A := noA) (fun _ z => z.elim) (own_lvS a)) b
theorem RelW.kills : ∀ (ks : List Nat) {env : Env} {As : Nat → Addr → Prop}, RelW K G0 H0 Gm Hm H σ env G As → Rel K G0 H0 Gm Hm H σ (S.kill env ks)
  | [], _, As, R => ⟨G, As, R⟩
  | k :: ks, _, As, R => RelW.kills ks (R.kill k)
theorem Rel.kills (ks : List Nat) (R : Rel K G0 H0 Gm Hm H σ env) : Rel K G0 H0 Gm Hm H σ (S.kill env ks) := by
  obtain ⟨G, As, R⟩ := R
  exact R.kills ks
/-- a loop over what is known -/
theorem SmS.loop {J : It} {items : List (List D)} {two : Bool} {gt : TG} {js ks : List Nat} {tb : TS} {g : SS} {Gs Hs : Hp} (ok : ItOk K J Gs Hs items two) (hg : SmG K gt js two) (hb : SmS K mg W tb g) {Dn : Ends} {r : Res}
    (gs : Same Gs Gn) (hs : Stay Hs Hn) (R : Rel K G0 H0 Gn Hn H σ env) (e : S.forGo js ks g items env = some r) (F : Fin K mg W G0 H0 Gn Hn Dn r) :
    ∃ Wp : Nat → Nat → L2.St → Hp → Prop, (∃ m, Wp 0 m σ H) ∧ ∀ i m σ H, Wp i m σ H →
      (J.stop i H ∧ Dn.nx σ H) ∨ (J.go i H ∧ ∃ N : L2.St → Hp → Prop, (∀ σ' H', N σ' H' → ∃ m', m' < m ∧ Wp (i + 1) m' σ' H') ∧ ∀ x H', J.yld i H x H' → gt x σ H' fun σ2 H2 => tb { Dn with nx := N, ct := N, bk := Dn.nx } σ2 H2) := by
  obtain ⟨Gc, Y, w, hc, hy⟩ := ok
  refine for_it w (fun i σ H => ∃ env, Rel K G0 H0 Gn Hn H σ env ∧ S.forGo js ks g (items.drop i) env = some r) ⟨env, R, e⟩ ?_ ?_ ?_
  · rintro i σ H _ ⟨env, ⟨G, As, R⟩, _⟩
    exact hc H ((gs.trans R.gm).trans R.ext.gh) (hs.trans R.hm)
  · rintro i x σ H H2 hi ⟨env, ⟨G, As, R⟩, e⟩ y
    obtain ⟨s2, it, eit, iv⟩ := hy i H x H2 hi ((gs.trans R.gm).trans R.ext.gh) (hs.trans R.hm) y
    have R2 := R.heap s2
    refine hg x it σ G H2 _ (iv.mono (gs.trans R.gm) (Stay.refl _)) fun vs rv => ?_
    have R3 := R2.bind js rv
    obtain ⟨hlt, hv⟩ := List.getElem?_eq_some_iff.mp eit
    rw [List.drop_eq_getElem_cons hlt, hv] at e
    unfold S.forGo at e
    split at e
    · rename_i e1 he
      exact hb _ G0 H0 Gn Hn _ H2 _ _ R3 he fun σ' H' R' => ⟨_, R'.kills ks, e⟩
    · rename_i hn
      refine hb _ G0 H0 Gn Hn _ H2 _ r R3 e ?_
      cases r with
      | next e1 => exact (hn e1 e).elim
      | ret d lv => exact F
      | exc c e1 => exact F
  · rintro σ H ⟨env, R, e⟩
    rw [List.drop_length] at e
    cases e
    exact F σ H R
theorem RelW.frz (R : RelW K G0 H0 Gm Hm H σ env G As) (i : Nat) (hi : env[i]? = some (some (d, lv))) : Rel K G0 H0 Gm Hm H σ (env.set i (some (d, lvS d))) := by
  refine ⟨glue G H (As i), fun j => if j = i then noA else As j, ⟨R.ext.g.trans (glue_same fun a ha => (R.fr i a ha).1), R.ext.h, fun a o q => ?_, fun a h1 h2 => ?_⟩, R.gm.trans (glue_same fun a ha => (R.fr i a ha).1), R.hm, fun j k a h1 h2 => ?_, fun j a h => ?_, fun j a h => ?_, by rw [List.length_set, R.len], fun j d' lv' e => ?_⟩
  · by_cases ha : As i a
    · rw [glue_at ha] at q; exact q
    · rw [glue_off ha] at q; exact R.ext.gh a o q
  · by_cases ha : As i a
    · exact absurd (R.fr i a ha).2 h1
    · rw [glue_off ha]; exact R.ext.av a h1 h2
  · by_cases hj : j = i
    · simp only [if_pos hj] at h1
      exact h1.elim
    · by_cases hk : k = i
      · simp only [if_pos hk] at h2
        exact h2.elim
      · simp only [if_neg hj, if_neg hk] at h1 h2
        exact R.dj j k a h1 h2
  · by_cases hj : j = i
    · simp only [if_pos hj] at h
      exact h.elim
    · simp only [if_neg hj] at h
      refine ⟨?_, (R.fr j a h).2⟩
      rw [glue_off (fun z => hj (R.dj j i a h z))]
      exact (R.fr j a h).1
  · by_cases hj : j = i
    · simp only [if_pos hj] at h
      exact h.elim
    · simp only [if_neg hj] at h
      exact R.there j a h
  · rw [List.getElem?_set] at e
    by_cases hj : i = j
    · rw [if_pos hj] at e
      split at e
      · cases e
        subst hj
        obtain ⟨v, h1, h2⟩ := R.own i _ _ hi
        refine ⟨v, h1, ?_⟩
        simp only [if_true]
        exact own_lvS (h2.rq fun a ha => (R.fr i a ha).1)
      · cases e
    · rw [if_neg hj] at e
      obtain ⟨u, h1, h2⟩ := R.own j d' lv' e
      refine ⟨u, h1, ?_⟩
      simp only [if_neg (Ne.symm hj)]
      exact h2.mono (glue_same fun a ha => (R.fr i a ha).1) (Stay.refl _) fun _ _ => rfl
end
section
variable {X : Cx} {W : WX} {a b c e tg iter : Expr} {st : Stmt} {rest body els : List Stmt} {ta tb te : TE} {tA : TT} {t u tS : TS} {g g1 g2 : SS} {f : SX} {ft fe : SE} {pos p : Pos} {x : Str} {wi : TI} {gt : TG} {js ks : List Nat} {fi : Env → Option (List (List D))} {two : Bool}
theorem DS.forR (hp : PassesOwn (model X.prog X.w) X.A X.env X.xe) (hi : DR X tg iter wi fi) (hg : PG X tg gt) (hgs : SmG X.K gt js false) (hb : DSs X W body tS g) (hs : ∀ x, foldedSetIterable iter X.env x = pure x := by intro _; rfl) (hc : X.calm = true := by rfl) :
    DS X W (.For tg iter body [] pos) (tFor wi gt tS) (S.forR fi js ks g) := ⟨ps_for hp hc hi.pi hg hb.pss hs, fun Dn G0 H0 Gm Hm σ H env r R e F => by
  obtain ⟨G, As, R⟩ := R
  unfold S.forR at e
  split at e
  · rename_i items ei
    refine hi.sm env σ H H items (Same.refl H) R.borrow ei _ fun J G1 H1 x1 ok => ?_
    have R1 := R.heap x1.h
    have R2 : RelW X.K G0 H0 Gm H1 H1 σ env G As := ⟨R1.ext, R1.gm, Stay.refl _, R1.dj, R1.fr, R1.there, R1.len, R1.own⟩
    exact SmS.loop ok hgs hb.sm (Gn := Gm) (Hn := H1) (fun _ _ z => by cases z) (Stay.refl _) (R2.kills ks) e (F.weak (Same.refl _) (R.hm.trans (Stay.of x1.h)))
  · cases e⟩
theorem DS.forL (hp : PassesOwn (model X.prog X.w) X.A X.env X.xe) (hi : DI X tg iter wi fi two) (hg : PG X tg gt) (hgs : SmG X.K gt js two) (hb : DSs X W body tS g) (hs : ∀ x, foldedSetIterable iter X.env x = pure x := by intro _; rfl) (hc : X.calm = true := by rfl) :
    DS X W (.For tg iter body [] pos) (tFor wi gt tS) (S.forL fi js ks g) := ⟨ps_for hp hc hi.pi hg hb.pss hs, fun Dn G0 H0 Gm Hm σ H env r R e F => by
  obtain ⟨G, As, R⟩ := R
  unfold S.forL at e
  split at e
  · rename_i items ei
    refine hi.sm (shOnly env) σ G H items R.ext.gh R.shared ei _ fun J G1 H1 x1 ok => ?_
    have R1 := R.grow x1
    have R2 : RelW X.K G0 H0 G1 H1 H1 σ env G1 As := ⟨R1.ext, Same.refl _, Stay.refl _, R1.dj, R1.fr, R1.there, R1.len, R1.own⟩
    exact SmS.loop ok hgs hb.sm (Gn := G1) (Hn := H1) (Same.refl _) (Stay.refl _) (R2.kills ks) e (F.weak (R.gm.trans x1.g) (R.hm.trans (Stay.of x1.h)))
  · cases e⟩
theorem DS.while (n : Nat) (hp : PassesOwn (model X.prog X.w) X.A X.env X.xe) (hc : DT X c tA ft) (hb : DSs X W body tS g) : DS X W (.While c body [] pos) (tWhile tA tS) (S.whileGo ft g n) := ⟨ps_while hp hc.pt hb.pss, fun Dn G0 H0 Gm Hm σ H env r R e F => by
  refine ⟨fun m σ H => ∃ env, Rel X.K G0 H0 Gm Hm H σ env ∧ S.whileGo ft g m env = some r, ⟨n, env, R, e⟩, ?_⟩
  rintro m σ H ⟨env, ⟨G, As, R⟩, e⟩
  cases m with
  | zero => cases e
  | succ m =>
    unfold S.whileGo at e
    split at e
    · rename_i l el
      refine hc.sm env σ H H true l (Same.refl H) R.borrow el _ fun G1 H1 x1 => iteT ?_
      refine ⟨fun σ' H' => ∃ env, Rel X.K G0 H0 Gm Hm H' σ' env ∧ S.whileGo ft g m env = some r, fun σ' H' h => ⟨m, Nat.lt_succ_self m, h⟩, ?_⟩
      split at e
      · rename_i e1 he
        exact hb.sm _ G0 H0 Gm Hm σ H1 env _ ⟨G, As, R.heap x1.h⟩ he fun σ' H' R' => ⟨e1, R', e⟩
      · rename_i hn
        refine hb.sm _ G0 H0 Gm Hm σ H1 env r ⟨G, As, R.heap x1.h⟩ e ?_
        cases r with
        | next e1 => exact (hn e1 e).elim
        | ret d lv => exact F
        | exc c e1 => exact F
    · rename_i l el
      cases e
      exact hc.sm env σ H H false l (Same.refl H) R.borrow el _ fun G1 H1 x1 => iteF (F σ H1 ⟨G, As, R.heap x1.h⟩)
    · cases e⟩
theorem DS.frz (i : Nat) (h : DS X W st t g) : DS X W st t (S.frz i g) := ⟨h.ps, fun Dn G0 H0 Gm Hm σ H env r R e F => by
  obtain ⟨G, As, R⟩ := R
  unfold S.frz at e
  split at e
  · rename_i d lv ed
    exact h.sm Dn G0 H0 Gm Hm σ H _ r (R.frz i ed) e F
  · cases e⟩
end

/-! ### lists changed in place -/
section
variable {K : PySem.W.Frag} {G0 H0 Gm Hm H H' G G' : Hp} {σ : L2.St} {env : Env} {As : Nat → Addr → Prop} {d : D} {lv : Lv} {v : V} {A : Addr → Prop}
theorem TrA.lens {H : Hp} : ∀ {ds : List D} {vs : List V} {A : Addr → Prop}, TrA K H ds vs A → ∀ {k : Nat} {d : D}, ds[k]? = some d → ∃ v B, vs[k]? = some v ∧ Tr K H d v B ∧ (∀ a, B a → A a) ∧
    ∀ H' d' v' B', Stay H H' → (∀ a, A a → ¬ B a → H' a = H a) → Tr K H' d' v' B' → (∀ a, B' a → B a ∨ ¬ A a) → TrA K H' (ds.set k d') (vs.set k v') (fun a => (A a ∧ ¬ B a) ∨ B' a)
  | [], vs, A, h, k, d, e => by simp at e
  | d0 :: ds, vs, A, h, 0, d, e => by
    unfold TrA at h
    obtain ⟨x, xs, B, C, rfl, a, b, dj, i⟩ := h
    simp at e
    subst e
    refine ⟨x, B, rfl, a, fun c hc => (i c).mpr (.inl hc), fun H' d' v' B' s k t f => ?_⟩
    show TrA K H' (d' :: ds) (v' :: xs) _
    unfold TrA
    refine ⟨v', xs, B', C, rfl, t, b.mono s (fun c hc => k c ((i c).mpr (.inr hc)) (fun z => dj c z hc)), fun c h1 h2 => ?_, fun c => ⟨?_, ?_⟩⟩
    · rcases f c h1 with q | q
      · exact dj c q h2
      · exact q ((i c).mpr (.inr h2))
    · rintro (⟨h1, h2⟩ | h1)
      · rcases (i c).mp h1 with q | q
        · exact (h2 q).elim
        · exact .inr q
      · exact .inl h1
    · rintro (h1 | h1)
      · exact .inr h1
      · exact .inl ⟨(i c).mpr (.inr h1), fun z => dj c z h1⟩
  | d0 :: ds, vs, A, h, k + 1, d, e => by
    unfold TrA at h
    obtain ⟨x, xs, B, C, rfl, a, b, dj, i⟩ := h
    obtain ⟨v, B2, h1, h2, h3, h4⟩ := TrA.lens b (k := k) (d := d) (by simpa using e)
    refine ⟨v, B2, by simpa using h1, h2, fun c hc => (i c).mpr (.inr (h3 c hc)), fun H' d' v' B' s kk t f => ?_⟩
    show TrA K H' (d0 :: ds.set k d') (x :: xs.set k v') _
    unfold TrA
    refine ⟨x, xs.set k v', B, fun c => (C c ∧ ¬ B2 c) ∨ B' c, rfl, a.mono s (fun c hc => kk c ((i c).mpr (.inl hc)) (fun z => dj c hc (h3 c z))), h4 H' d' v' B' s (fun c hc hn => kk c ((i c).mpr (.inr hc)) hn) t (fun c hc => ?_), fun c h1 h2 => ?_, fun c => ⟨?_, ?_⟩⟩
    · rcases f c hc with q | q
      · exact .inl q
      · exact .inr fun z => q ((i c).mpr (.inr z))
    · rcases h2 with ⟨q, _⟩ | q
      · exact dj c h1 q
      · rcases f c q with z | z
        · exact dj c h1 (h3 c z)
        · exact z ((i c).mpr (.inl h1))
    · rintro (⟨q1, q2⟩ | q)
      · rcases (i c).mp q1 with z | z
        · exact .inl z
        · exact .inr (.inl ⟨z, q2⟩)
      · exact .inr (.inr q)
    · rintro (q | ⟨q1, q2⟩ | q)
      · exact .inl ⟨(i c).mpr (.inl q), fun z => dj c q (h3 c z)⟩
      · exact .inl ⟨(i c).mpr (.inr q1), q2⟩
      · exact .inr q
theorem TrA.split {H : Hp} : ∀ (n : Nat) {ds : List D} {vs : List V} {A : Addr → Prop}, TrA K H ds vs A → ∃ B C, TrA K H (ds.take n) (vs.take n) B ∧ TrA K H (ds.drop n) (vs.drop n) C ∧ (∀ a, B a → C a → False) ∧ ∀ a, A a ↔ (B a ∨ C a)
  | 0, ds, vs, A, h => ⟨noA, A, by show TrA K H [] [] _; unfold TrA; exact ⟨rfl, fun _ z => z⟩, h, fun _ z => z.elim, fun a => ⟨.inr, fun z => z.elim False.elim id⟩⟩
  | n + 1, [], vs, A, h => by
    unfold TrA at h
    rw [h.1]
    exact ⟨noA, noA, by show TrA K H [] [] _; unfold TrA; exact ⟨rfl, fun _ z => z⟩, by show TrA K H [] [] _; unfold TrA; exact ⟨rfl, fun _ z => z⟩, fun _ z => z.elim, fun a => ⟨fun z => (h.2 a z).elim, fun z => z.elim False.elim False.elim⟩⟩
  | n + 1, d :: ds, vs, A, h => by
    unfold TrA at h
    obtain ⟨x, xs, B, C, rfl, a, b, dj, i⟩ := h
    obtain ⟨B2, C2, h1, h2, h3, h4⟩ := TrA.split n b
    refine ⟨fun c => B c ∨ B2 c, C2, ?_, h2, fun c p q => ?_, fun c => ⟨?_, ?_⟩⟩
    · show TrA K H (d :: ds.take n) (x :: xs.take n) _
      unfold TrA
      exact ⟨x, _, B, B2, rfl, a, h1, fun c p q => dj c p ((h4 c).mpr (.inl q)), fun c => Iff.rfl⟩
    · rcases p with p | p
      · exact dj c p ((h4 c).mpr (.inr q))
      · exact h3 c p q
    · intro p
      rcases (i c).mp p with q | q
      · exact .inl (.inl q)
      · rcases (h4 c).mp q with z | z
        · exact .inl (.inr z)
        · exact .inr z
    · rintro ((p | p) | p)
      · exact (i c).mpr (.inl p)
      · exact (i c).mpr (.inr ((h4 c).mpr (.inl p)))
      · exact (i c).mpr (.inr ((h4 c).mpr (.inr p)))
/-- a value of one's own comes -/
theorem Sm.full {te : TE} {fe : SE} (h : Sm K te fe) (R : RelW K G0 H0 Gm Hm H σ env G As) (e : fe env = some (d, .full)) {Q : VK} (q : ∀ v H' A, Same H H' → (∀ a, A a → H a = none) → Tr K H' d v A → Q v H') : te σ H Q :=
  h env σ H H d .full (Same.refl H) R.borrow e Q fun v G' H' A x fr o => q v H' A x.h (fun a ha => (fr a ha).1) o
theorem Sm.int {te : TE} {fe : SE} (h : Sm K te fe) (R : RelW K G0 H0 Gm Hm H σ env G As) {i : Int} (e : fe env = some (.int i, lv)) {Q : VK} (q : ∀ H', Same H H' → Q (.int i) H') : te σ H Q :=
  h.read (Same.refl H) R.borrow e fun v G' H' x r => by
    cases rq_int r
    exact q H' x.h
/-- what is new stands in nobody's tree -/
theorem RelW.new (R : RelW K G0 H0 Gm Hm H σ env G As) (s : Same H H') {a : Addr} (h1 : H a = none) (h2 : H' a ≠ none) : H' a ≠ none ∧ H0 a = none ∧ G a = none ∧ ∀ j, ¬ As j a :=
  ⟨h2, R.ext.h.free h1, R.ext.gh.free h1, fun j ha => by
    obtain ⟨xs, hx⟩ := R.there j a ha
    rw [h1] at hx
    cases hx⟩
theorem Tr.there {H : Hp} {d : D} {v : V} {A : Addr → Prop} (t : Tr K H d v A) {a : Addr} (ha : A a) : H a ≠ none := by
  obtain ⟨xs, hx⟩ := t.lists a ha
  rw [hx]
  exact fun z => nomatch z
theorem TrA.there {H : Hp} {d : List D} {v : List V} {A : Addr → Prop} (t : TrA K H d v A) {a : Addr} (ha : A a) : H a ≠ none := by
  obtain ⟨xs, hx⟩ := t.lists a ha
  rw [hx]
  exact fun z => nomatch z
theorem Tr.same {H H' : Hp} {d : D} {v : V} {A : Addr → Prop} (s : Same H H') (t : Tr K H d v A) : Tr K H' d v A := t.mono (Stay.of s) fun a ha => by
  obtain ⟨xs, hx⟩ := t.lists a ha
  rw [hx]
  exact s _ _ hx
theorem TrA.same {H H' : Hp} {d : List D} {v : List V} {A : Addr → Prop} (s : Same H H') (t : TrA K H d v A) : TrA K H' d v A := t.mono (Stay.of s) fun a ha => by
  obtain ⟨xs, hx⟩ := t.lists a ha
  rw [hx]
  exact s _ _ hx
/-- a tree elsewhere, behind a change at p -/
theorem Tr.upd {H : Hp} {d : D} {v : V} {A : Addr → Prop} {p : Addr} {xs ys : List V} (hp : H p = some (.lst xs)) (t : Tr K H d v A) (n : ¬ A p) : Tr K (upd H p (.lst ys)) d v A := t.mono (Stay.upd hp) fun a ha => upd_ne fun z => n (z ▸ ha)
theorem TrA.upd {H : Hp} {d : List D} {v : List V} {A : Addr → Prop} {p : Addr} {xs ys : List V} (hp : H p = some (.lst xs)) (t : TrA K H d v A) (n : ¬ A p) : TrA K (upd H p (.lst ys)) d v A := t.mono (Stay.upd hp) fun a ha => upd_ne fun z => n (z ▸ ha)
end
namespace S
/-- x.append(e) -/
def app (i : Nat) (f : SE) : SS := fun env => match env[i]?, f env with
  | some (some (.lst ds, .full)), some (d, .full) => if ds.length < 1000000 then some (.next (env.set i (some (.lst (ds ++ [d]), .full)))) else none
  | _, _ => none
/-- x.append(y), y a list of one's own, given away -/
def appN (i j : Nat) : SS := fun env => match env[i]?, env[j]? with
  | some (some (.lst ds, .full)), some (some (d, .full)) => if ds.length < 1000000 ∧ i ≠ j then some (.next ((env.set j none).set i (some (.lst (ds ++ [d]), .full)))) else none
  | _, _ => none
/-- x.append(y), y shared -/
def appS (i j : Nat) : SS := fun env => match env[i]?, env[j]? with
  | some (some (.lst ds, lv)), some (some (d, .sh)) => if ds.length < 1000000 ∧ (lv = .out ∨ (lv = .full ∧ flatA ds = true)) then some (.next (env.set i (some (.lst (ds ++ [d]), .out)))) else none
  | _, _ => none
/-- x.insert(k, e) -/
def ins (i : Nat) (fk f : SE) : SS := fun env => match env[i]?, fk env, f env with
  | some (some (.lst ds, .full)), some (.int k, _), some (d, .full) => if ds.length < 1000000 ∧ 0 ≤ k ∧ k < 1000000 then some (.next (env.set i (some (.lst (ds.take k.toNat ++ [d] ++ ds.drop k.toNat), .full)))) else none
  | _, _, _ => none
/-- x.extend(ys) -/
def ext (i : Nat) (f : SE) : SS := fun env => match env[i]?, f env with
  | some (some (.lst ds, .full)), some (.lst es, .full) => if ds.length + es.length < 1000000 then some (.next (env.set i (some (.lst (ds ++ es), .full)))) else none
  | _, _ => none
/-- x.pop() -/
def pop (i : Nat) : SS := fun env => match env[i]? with
  | some (some (.lst ds, .full)) => if 0 < ds.length then some (.next (env.set i (some (.lst ds.dropLast, .full)))) else none
  | _ => none
/-- x.pop(k) -/
def popAt (i : Nat) (fk : SE) : SS := fun env => match env[i]?, fk env with
  | some (some (.lst ds, .full)), some (.int k, _) => if 0 ≤ k ∧ k < (ds.length : Int) ∧ k < 1000000 then some (.next (env.set i (some (.lst (ds.eraseIdx k.toNat), .full)))) else none
  | _, _ => none
/-- x[k] = e -/
def setIx (i : Nat) (fk fv : SE) : SS := fun env => match env[i]?, fv env, fk env with
  | some (some (.lst ds, .full)), some (d, .full), some (.int k, _) => (match ixN ds.length k with
    | some j => some (.next (env.set i (some (.lst (ds.set j d), .full))))
    | none => none)
  | some (some (.lst ds, .out)), some _, some (.int k, _) => (match ixN ds.length k, fv (shOnly env) with
    | some j, some (d, _) => some (.next (env.set i (some (.lst (ds.set j d), .out))))
    | _, _ => none)
  | _, _, _ => none
/-- x[k][l] = e -/
def setIx2 (i : Nat) (fk fl fv : SE) : SS := fun env => match env[i]?, fv env, fk env, fl env with
  | some (some (.lst ds, .full)), some (d, .full), some (.int k, _), some (.int l, _) => (match ixN ds.length k with
    | some j => (match ds[j]? with
      | some (.lst es) => (match ixN es.length l with
        | some m => some (.next (env.set i (some (.lst (ds.set j (.lst (es.set m d))), .full))))
        | none => none)
      | _ => none)
    | none => none)
  | _, _, _, _ => none
/-- x[k].append(e) -/
def app2 (i : Nat) (fk fv : SE) : SS := fun env => match env[i]?, fk env, fv env with
  | some (some (.lst ds, .full)), some (.int k, _), some (d, .full) => (match ixN ds.length k with
    | some j => (match ds[j]? with
      | some (.lst es) => if es.length < 1000000 then some (.next (env.set i (some (.lst (ds.set j (.lst (es ++ [d]))), .full)))) else none
      | _ => none)
    | none => none)
  | _, _, _ => none
/-- x[k].pop(l) -/
def popAt2 (i : Nat) (fk fl : SE) : SS := fun env => match env[i]?, fk env, fl env with
  | some (some (.lst ds, .full)), some (.int k, _), some (.int l, _) => (match ixN ds.length k with
    | some j => (match ds[j]? with
      | some (.lst es) => if 0 ≤ l ∧ l < (es.length : Int) ∧ l < 1000000 then some (.next (env.set i (some (.lst (ds.set j (.lst (es.eraseIdx l.toNat))), .full)))) else none
      | _ => none)
    | none => none)
  | _, _, _ => none
end S
section
variable {K : PySem.W.Frag} {mg : Str → Option Value} {W : WX} {te tk tl : TE} {fe fk fl : SE} {i j : Nat}
theorem own_tree {G H : Hp} {ds : List D} {v : V} {A : Addr → Prop} (o : Own K G H (.lst ds) .full v A) : ∃ p vs B, v = .ref p ∧ H p = some (.lst vs) ∧ TrA K H ds vs B ∧ ¬ B p ∧ ∀ a, A a ↔ (a = p ∨ B a) := by
  have t : Tr K H (.lst ds) v A := o
  unfold Tr at t
  exact t
theorem tree_own {G H : Hp} {ds : List D} {p : Addr} {vs : List V} {A B : Addr → Prop} (hp : H p = some (.lst vs)) (t : TrA K H ds vs B) (n : ¬ B p) (i : ∀ a, A a ↔ (a = p ∨ B a)) : Own K G H (.lst ds) .full (.ref p) A := by
  show Tr K H (.lst ds) (.ref p) A
  unfold Tr
  exact ⟨p, vs, B, rfl, hp, t, n, i⟩
theorem SmS.app (he : Sm K te fe) : SmS K mg W (tDrop (tBM K "list" rAppend (tVar i) (tCons te tNil))) (S.app i fe) := fun Dn G0 H0 Gm Hm σ H env r R e F => by
  obtain ⟨G, As, R⟩ := R
  unfold S.app at e
  split at e
  · rename_i ds d ei ed
    split at e
    · rename_i hl
      cases e
      obtain ⟨v, h1, o⟩ := R.own i _ _ ei
      obtain ⟨p, vs, B, rfl, hp, t, nb, ia⟩ := own_tree o
      refine ⟨.ref p, h1, .inl ⟨rfl, vs, SqL.of hp⟩, he.full R ed fun u H1 A s fr tu => ?_⟩
      have hp1 := s _ _ hp
      have ap : ¬ A p := fun z => by have := fr p z; rw [hp] at this; cases this
      have vl : vs.length = ds.length := t.length
      refine ⟨p, vs, u, rfl, rfl, hp1, line_lt (by omega), F σ _ ⟨G, _, (R.heap s).mut (A := fun a => a = p ∨ (B a ∨ A a)) h1 ((ia p).mpr (.inl rfl)) (fun a ha => ?_) (tree_own upd_same (TrA.append ((t.same s).upd hp1 nb) (TrA.one (tu.upd hp1 ap)) fun a hb ha => ?_) (fun z => z.elim nb ap) (fun a => Iff.rfl))⟩⟩
      · rcases ha with ha | ha | ha
        · exact .inl ((ia a).mpr (.inl ha))
        · exact .inl ((ia a).mpr (.inr ha))
        · exact .inr (R.new s (fr a ha) (tu.there ha))
      · exact t.there hb (fr a ha)
    · cases e
  · cases e
theorem SmS.ext (he : Sm K te fe) : SmS K mg W (tDrop (tBM K "list" rExtend (tVar i) (tCons te tNil))) (S.ext i fe) := fun Dn G0 H0 Gm Hm σ H env r R e F => by
  obtain ⟨G, As, R⟩ := R
  unfold S.ext at e
  split at e
  · rename_i ds es ei ed
    split at e
    · rename_i hl
      cases e
      obtain ⟨v, h1, o⟩ := R.own i _ _ ei
      obtain ⟨p, vs, B, rfl, hp, t, nb, ia⟩ := own_tree o
      refine ⟨.ref p, h1, .inl ⟨rfl, vs, SqL.of hp⟩, he.full R ed fun u H1 A s fr tu => ?_⟩
      unfold Tr at tu
      obtain ⟨q, us, C, rfl, hq, tu, nc, ic⟩ := tu
      have hp1 := s _ _ hp
      have ap : ¬ C p := fun z => by have := fr p ((ic p).mpr (.inr z)); rw [hp] at this; cases this
      have vl : vs.length = ds.length := t.length
      have ul : us.length = es.length := tu.length
      refine ⟨p, q, vs, us, rfl, rfl, hp1, hq, line_of (by omega), F σ _ ⟨G, _, (R.heap s).mut (A := fun a => a = p ∨ (B a ∨ C a)) h1 ((ia p).mpr (.inl rfl)) (fun a ha => ?_) (tree_own upd_same (TrA.append ((t.same s).upd hp1 nb) (tu.upd hp1 ap) fun a hb ha => ?_) (fun z => z.elim nb ap) (fun a => Iff.rfl))⟩⟩
      · rcases ha with ha | ha | ha
        · exact .inl ((ia a).mpr (.inl ha))
        · exact .inl ((ia a).mpr (.inr ha))
        · exact .inr (R.new s (fr a ((ic a).mpr (.inr ha))) (tu.there ha))
      · exact t.there hb (fr a ((ic a).mpr (.inr ha)))
    · cases e
  · cases e
theorem SmS.appN : SmS K mg W (tDrop (tBM K "list" rAppend (tVar i) (tCons (tVar j) tNil))) (S.appN i j) := fun Dn G0 H0 Gm Hm σ H env r R e F => by
  obtain ⟨G, As, R⟩ := R
  unfold S.appN at e
  split at e
  · rename_i ds d ei ej
    split at e
    · rename_i hl
      cases e
      obtain ⟨v, h1, o⟩ := R.own i _ _ ei
      obtain ⟨u, h2, o2⟩ := R.own j _ _ ej
      have tu : Tr K H d u (As j) := o2
      obtain ⟨p, vs, B, rfl, hp, t, nb, ia⟩ := own_tree o
      have vl : vs.length = ds.length := t.length
      have pj : ¬ As j p := fun z => hl.2 (R.dj i j p ((ia p).mpr (.inl rfl)) z)
      have Rk := R.kill j
      refine ⟨.ref p, h1, .inl ⟨rfl, vs, SqL.of hp⟩, u, h2, p, vs, u, rfl, rfl, hp, line_lt (by omega), F σ _ ⟨G, _, Rk.mut (A := fun a => a = p ∨ (B a ∨ As j a)) h1 (by simp only [if_neg hl.2]; exact (ia p).mpr (.inl rfl)) (fun a ha => ?_) (tree_own upd_same (TrA.append (t.upd hp nb) (TrA.one (tu.upd hp pj)) fun a hb ha => ?_) (fun z => z.elim nb pj) (fun a => Iff.rfl))⟩⟩
      · rcases ha with ha | ha | ha
        · exact .inl (by simp only [if_neg hl.2]; exact (ia a).mpr (.inl ha))
        · exact .inl (by simp only [if_neg hl.2]; exact (ia a).mpr (.inr ha))
        · refine .inr ⟨tu.there ha, (R.fr j a ha).2, (R.fr j a ha).1, fun k hk => ?_⟩
          by_cases hkj : k = j
          · simp only [if_pos hkj] at hk
            exact hk.elim
          · simp only [if_neg hkj] at hk
            exact hkj (R.dj k j a hk ha)
      · exact hl.2 (R.dj i j a ((ia a).mpr (.inr hb)) ha)
    · cases e
  · cases e
theorem SmS.appS : SmS K mg W (tDrop (tBM K "list" rAppend (tVar i) (tCons (tVar j) tNil))) (S.appS i j) := fun Dn G0 H0 Gm Hm σ H env r R e F => by
  obtain ⟨G, As, R⟩ := R
  unfold S.appS at e
  split at e
  · rename_i ds lv d ei ej
    split at e
    · rename_i hl
      cases e
      obtain ⟨v, h1, o⟩ := R.own i _ _ ei
      obtain ⟨u, h2, o2⟩ := R.own j _ _ ej
      have ru : Rq K G H d u := o2.2
      have q : ∃ p vs, v = .ref p ∧ H p = some (.lst vs) ∧ RqA K G H ds vs ∧ As i p := by
        rcases hl.2 with h | ⟨h, hf⟩
        · subst h
          obtain ⟨ds', p, vs, e', rfl, hp, r, ia⟩ := o
          cases e'
          exact ⟨p, vs, rfl, hp, r, (ia p).mpr rfl⟩
        · subst h
          obtain ⟨p, vs, B, rfl, hp, t, nb, ia⟩ := own_tree o
          refine ⟨p, vs, rfl, hp, ?_, (ia p).mpr (.inl rfl)⟩
          have r0 : RqA K H H ds vs := t.rq (G := H) fun _ _ => rfl
          exact FlA.rq (r0.fl hf)
      obtain ⟨p, vs, rfl, hp, r, ap⟩ := q
      have vl : vs.length = ds.length := r.length
      have st : Stay H (upd H p (.lst (vs ++ [u]))) := Stay.upd hp
      refine ⟨.ref p, h1, .inl ⟨rfl, vs, SqL.of hp⟩, u, h2, p, vs, u, rfl, rfl, hp, line_lt (by omega), F σ _ ⟨G, _, R.mut (A := fun a => a = p) h1 ap (fun a ha => .inl (ha ▸ ap)) ⟨_, p, _, rfl, rfl, upd_same, (r.mono (Same.refl _) st).append (RqA.one (ru.mono (Same.refl _) st)), fun a => Iff.rfl⟩⟩⟩
    · cases e
  · cases e
abbrev rInsert : V → List V → Hp → VK → Prop := fun x vs H Q => ∃ (l : Addr) (xs : List V) (i : Int) (y : V), x = .ref l ∧ vs = [.int i, y] ∧ H l = some (.lst xs) ∧ xs.length < sizeLine ∧ 0 ≤ i ∧ i < 2 ^ 63 ∧
    Q .non (upd H l (.lst (xs.take i.toNat ++ [y] ++ xs.drop i.toNat)))
theorem p63 : (1000000 : Int) < 2 ^ 63 := by decide
theorem SmS.ins (hk : Sm K tk fk) (he : Sm K te fe) : SmS K mg W (tDrop (tBM K "list" rInsert (tVar i) (tCons tk (tCons te tNil)))) (S.ins i fk fe) := fun Dn G0 H0 Gm Hm σ H env r R e F => by
  obtain ⟨G, As, R⟩ := R
  unfold S.ins at e
  split at e
  · rename_i ds k lk d ei ek ed
    split at e
    · rename_i hl
      cases e
      obtain ⟨v, h1, o⟩ := R.own i _ _ ei
      obtain ⟨p, vs, B, rfl, hp, t, nb, ia⟩ := own_tree o
      refine ⟨.ref p, h1, .inl ⟨rfl, vs, SqL.of hp⟩, hk.int R ek fun H1 s1 => ?_⟩
      have R1 := R.heap s1
      refine he.full R1 ed fun u H2 A s fr tu => ?_
      have s2 := s1.trans s
      have hp1 := s2 _ _ hp
      have ap : ¬ A p := fun z => by have := fr p z; rw [s1 _ _ hp] at this; cases this
      have vl : vs.length = ds.length := t.length
      obtain ⟨B1, B2, t1, t2, dj, iB⟩ := TrA.split k.toNat t
      have n1 : ¬ B1 p := fun z => nb ((iB p).mpr (.inl z))
      have n2 : ¬ B2 p := fun z => nb ((iB p).mpr (.inr z))
      have := p63
      refine ⟨p, vs, k, u, rfl, rfl, hp1, line_lt (by omega), hl.2.1, by omega, F σ _ ⟨G, _, (R.heap s2).mut (A := fun a => a = p ∨ ((B1 a ∨ A a) ∨ B2 a)) h1 ((ia p).mpr (.inl rfl)) (fun a ha => ?_)
        (tree_own upd_same (TrA.append (TrA.append ((t1.same s2).upd hp1 n1) (TrA.one (tu.upd hp1 ap)) fun a hb ha => ?_) ((t2.same s2).upd hp1 n2) fun a hb ha => ?_) (fun z => z.elim (fun z => z.elim n1 ap) n2) (fun a => Iff.rfl))⟩⟩
      · rcases ha with ha | (ha | ha) | ha
        · exact .inl ((ia a).mpr (.inl ha))
        · exact .inl ((ia a).mpr (.inr ((iB a).mpr (.inl ha))))
        · exact .inr (R1.new s (fr a ha) (tu.there ha))
        · exact .inl ((ia a).mpr (.inr ((iB a).mpr (.inr ha))))
      · exact (t1.same s1).there hb (fr a ha)
      · rcases hb with hb | hb
        · exact dj a hb ha
        · exact (t2.same s1).there ha (fr a hb)
    · cases e
  · cases e
theorem SmS.pop : SmS K mg W (tDrop (tBM0 K "list" rPop (tVar i))) (S.pop i) := fun Dn G0 H0 Gm Hm σ H env r R e F => by
  obtain ⟨G, As, R⟩ := R
  unfold S.pop at e
  split at e
  · rename_i ds ei
    split at e
    · rename_i hl
      cases e
      obtain ⟨v, h1, o⟩ := R.own i _ _ ei
      obtain ⟨p, vs, B, rfl, hp, t, nb, ia⟩ := own_tree o
      have vl : vs.length = ds.length := t.length
      obtain ⟨B1, B2, t1, t2, dj, iB⟩ := TrA.split (ds.length - 1) t
      have n1 : ¬ B1 p := fun z => nb ((iB p).mpr (.inl z))
      refine ⟨.ref p, h1, .inl ⟨rfl, vs, SqL.of hp⟩, p, vs, vs[vs.length - 1]'(by omega), rfl, rfl, hp, List.getElem?_eq_getElem (by omega), ?_⟩
      show Dn.nx σ (upd H p (.lst vs.dropLast))
      have e1 : vs.dropLast = vs.take (ds.length - 1) := by rw [List.dropLast_eq_take, vl]
      rw [e1]
      rw [List.dropLast_eq_take] at F
      exact F σ _ ⟨G, _, R.mut (A := fun a => a = p ∨ B1 a) h1 ((ia p).mpr (.inl rfl)) (fun a ha => .inl (ha.elim (fun z => (ia a).mpr (.inl z)) fun z => (ia a).mpr (.inr ((iB a).mpr (.inl z))))) (tree_own upd_same (t1.upd hp n1) n1 (fun a => Iff.rfl))⟩
    · cases e
  · cases e
theorem TrA.erase {H : Hp} {ds : List D} {vs : List V} {A : Addr → Prop} (t : TrA K H ds vs A) (k : Nat) : ∃ B, TrA K H (ds.eraseIdx k) (vs.eraseIdx k) B ∧ ∀ a, B a → A a := by
  obtain ⟨B1, B2, t1, t2, dj, iB⟩ := TrA.split k t
  obtain ⟨C1, C2, u1, u2, dj2, iC⟩ := TrA.split 1 t2
  rw [List.drop_drop, List.drop_drop] at u2
  refine ⟨fun a => B1 a ∨ C2 a, ?_, fun a ha => (iB a).mpr (ha.elim .inl fun z => .inr ((iC a).mpr (.inr z)))⟩
  rw [List.eraseIdx_eq_take_drop_succ, List.eraseIdx_eq_take_drop_succ]
  exact t1.append u2 fun a h1 h2 => dj a h1 ((iC a).mpr (.inr h2))
theorem seqIx {k : Int} {n : Nat} (h0 : 0 ≤ k) (h1 : k < (n : Int)) : seqIndex? k n = some k.toNat := by
  have : ¬ k < 0 := by omega
  simp [seqIndex?, this, h0, h1]
theorem SmS.popAt (hk : Sm K tk fk) : SmS K mg W (tDrop (tBM K "list" rPopAt (tVar i) (tCons tk tNil))) (S.popAt i fk) := fun Dn G0 H0 Gm Hm σ H env r R e F => by
  obtain ⟨G, As, R⟩ := R
  unfold S.popAt at e
  split at e
  · rename_i ds k lk ei ek
    split at e
    · rename_i hl
      cases e
      obtain ⟨v, h1, o⟩ := R.own i _ _ ei
      obtain ⟨p, vs, B, rfl, hp, t, nb, ia⟩ := own_tree o
      have vl : vs.length = ds.length := t.length
      refine ⟨.ref p, h1, .inl ⟨rfl, vs, SqL.of hp⟩, hk.int R ek fun H1 s1 => ?_⟩
      obtain ⟨B1, t1, iB⟩ := TrA.erase t k.toNat
      have n1 : ¬ B1 p := fun z => nb (iB p z)
      have hp1 := s1 _ _ hp
      have := p63
      exact ⟨p, vs, k, k.toNat, vs[k.toNat]'(by omega), rfl, rfl, hp1, by omega, by omega, seqIx hl.1 (by omega), List.getElem?_eq_getElem (by omega), F σ _ ⟨G, _, (R.heap s1).mut (A := fun a => a = p ∨ B1 a) h1 ((ia p).mpr (.inl rfl)) (fun a ha => .inl (ha.elim (fun z => (ia a).mpr (.inl z)) fun z => (ia a).mpr (.inr (iB a z)))) (tree_own upd_same ((t1.same s1).upd hp1 n1) n1 (fun a => Iff.rfl))⟩⟩
    · cases e
  · cases e
theorem ixN_lt {n : Nat} {k : Int} {j : Nat} (h : ixN n k = some j) : j < n := by
  unfold ixN at h
  split at h
  · split at h
    · cases h; omega
    · cases h
  · split at h
    · cases h; omega
    · cases h
theorem SmS.setIx (hk : Sm K tk fk) (he : Sm K te fe) : SmS K mg W (tAsg te (gSub (tVar i) tk rSetL)) (S.setIx i fk fe) := fun Dn G0 H0 Gm Hm σ H env r R e F => by
  obtain ⟨G, As, R⟩ := R
  unfold S.setIx at e
  split at e
  · rename_i ds d k lk ei ed ek
    split at e
    · rename_i j ej
      cases e
      have hj := ixN_lt ej
      obtain ⟨v, h1, o⟩ := R.own i _ _ ei
      obtain ⟨p, vs, B, rfl, hp, t, nb, ia⟩ := own_tree o
      have vl : vs.length = ds.length := t.length
      refine he.full R ed fun u H1 A s fr tu => ⟨.ref p, h1, hk.int (R.heap s) ek fun H2 s1 => ?_⟩
      have s2 := s.trans s1
      have hp2 := s2 _ _ hp
      have ap : ¬ A p := fun z => by have := fr p z; rw [hp] at this; cases this
      obtain ⟨w, C, hw, tw, ic, lens⟩ := TrA.lens (t.same s2) (k := j) (d := ds[j]) (List.getElem?_eq_getElem hj)
      refine ⟨p, vs, k, j, rfl, rfl, hp2, by rw [vl]; exact ej, F σ _ ⟨G, _, (R.heap s2).mut (A := fun a => a = p ∨ ((B a ∧ ¬ C a) ∨ A a)) h1 ((ia p).mpr (.inl rfl)) (fun a ha => ?_)
        (tree_own upd_same (lens _ d u A (Stay.upd hp2) (fun a ha _ => upd_ne fun z => nb (z ▸ ha)) ((tu.same s1).upd hp2 ap) fun a ha => .inr fun z => t.there z (fr a ha)) (fun z => z.elim (fun z => nb z.1) ap) (fun a => Iff.rfl))⟩⟩
      rcases ha with ha | ⟨ha, _⟩ | ha
      · exact .inl ((ia a).mpr (.inl ha))
      · exact .inl ((ia a).mpr (.inr ha))
      · exact .inr (R.new s2 (fr a ha) ((tu.same s1).there ha))
    · cases e
  · rename_i ds dv k lk ei ed ek
    split at e
    · rename_i j d lv ej ed2
      cases e
      have hj := ixN_lt ej
      obtain ⟨v, h1, o⟩ := R.own i _ _ ei
      refine he.read R.ext.gh R.shared ed2 fun u G1 H1 x1 ru => ?_
      have R1 := R.grow x1
      obtain ⟨v', h1', o⟩ := R1.own i _ _ ei
      rw [h1] at h1'
      cases h1'
      obtain ⟨ds', p, vs, e', rfl, hp, ra, ia⟩ := o
      cases e'
      have vl : vs.length = ds.length := ra.length
      refine ⟨.ref p, h1, hk.int R1 ek fun H2 s1 => ?_⟩
      have hp2 := s1 _ _ hp
      have st : Stay H1 (upd H2 p (.lst (vs.set j u))) := (Stay.of s1).trans (Stay.upd hp2)
      refine ⟨p, vs, k, j, rfl, rfl, hp2, by rw [vl]; exact ej, F σ _ ⟨G1, _, (R1.heap s1).mut (A := fun a => a = p) h1 ((ia p).mpr rfl) (fun a ha => .inl (ha ▸ (ia p).mpr rfl)) ⟨_, p, _, rfl, rfl, upd_same, ?_, fun a => Iff.rfl⟩⟩⟩
      have ra' := ra.mono (Same.refl _) st
      have ru' := ru.mono (Same.refl _) st
      have e1 : ds.set j d = ds.take j ++ [d] ++ ds.drop (j + 1) := by rw [List.set_eq_take_append_cons_drop, if_pos hj, List.append_assoc]; rfl
      have e2 : vs.set j u = vs.take j ++ [u] ++ vs.drop (j + 1) := by rw [List.set_eq_take_append_cons_drop, if_pos (by omega), List.append_assoc]; rfl
      have z := ((ra'.take j).append (RqA.one ru')).append (ra'.drop (j + 1))
      rw [← e1, ← e2] at z
      exact z
    · cases e
  · cases e
theorem atI_of {α : Type} {xs : List α} {k : Int} {j : Nat} {x : α} (h : ixN xs.length k = some j) (e : xs[j]? = some x) : atI xs k = some x := by
  unfold atI
  rw [h]
  exact e
theorem SmS.setIx2 (hk : Sm K tk fk) (hl : Sm K tl fl) (he : Sm K te fe) : SmS K mg W (tAsg te (gSub (tOp (rIx K) (tVar i) tk) tl rSetL)) (S.setIx2 i fk fl fe) := fun Dn G0 H0 Gm Hm σ H env r R e F => by
  obtain ⟨G, As, R⟩ := R
  unfold S.setIx2 at e
  split at e
  · rename_i ds d k lk l ll ei ed ek el
    split at e
    · rename_i j ej
      split at e
      · rename_i es edj
        split at e
        · rename_i m em
          cases e
          have hm := ixN_lt em
          obtain ⟨v, h1, o⟩ := R.own i _ _ ei
          obtain ⟨p, vs, B, rfl, hp, t, nb, ia⟩ := own_tree o
          have vl : vs.length = ds.length := t.length
          refine he.full R ed fun u H1 A s fr tu => ⟨.ref p, h1, hk.int (R.heap s) ek fun H2 s1 => ?_⟩
          have s2 := s.trans s1
          have hp2 := s2 _ _ hp
          obtain ⟨w, C, hw, tw, ic, lens⟩ := TrA.lens (t.same s2) (k := j) (d := .lst es) edj
          have ci : ∀ a, C a → As i a := fun a ha => (ia a).mpr (.inr (ic a ha))
          unfold Tr at tw
          obtain ⟨q, ws, E, rfl, hq, tq, nq, iq⟩ := tw
          refine .inl ⟨p, vs, k, .ref q, rfl, rfl, SqL.of hp2, atI_of (by rw [vl]; exact ej) hw, hl.int (R.heap s2) el fun H3 s3 => ?_⟩
          have s4 := s2.trans s3
          have hp3 := s4 _ _ hp
          have hq3 := s3 _ _ hq
          have wl : ws.length = es.length := tq.length
          have cq : C q := (iq q).mpr (.inl rfl)
          have qA : ¬ A q := fun z => t.there (ic q cq) (fr q z)
          have pq : p ≠ q := fun z => nb (z ▸ ic q cq)
          obtain ⟨z, E2, hz, tz, iz, lens2⟩ := TrA.lens (tq.same s3) (k := m) (d := es[m]) (List.getElem?_eq_getElem hm)
          have ap : ¬ A p := fun z => by have := fr p z; rw [hp] at this; cases this
          have inner : Tr K (upd H3 q (.lst (ws.set m u))) (.lst (es.set m d)) (.ref q) (fun a => a = q ∨ ((E a ∧ ¬ E2 a) ∨ A a)) := by
            unfold Tr
            refine ⟨q, _, _, rfl, upd_same, lens2 _ d u A (Stay.upd hq3) (fun a ha _ => upd_ne fun z => nq (z ▸ ha)) ((tu.same (s1.trans s3)).upd hq3 qA) (fun a ha => .inr fun z => ?_), fun z => z.elim (fun z => nq z.1) qA, fun a => Iff.rfl⟩
            exact t.there (ic a ((iq a).mpr (.inr z))) (fr a ha)
          have outer := lens (upd H3 q (.lst (ws.set m u))) (.lst (es.set m d)) (.ref q) _ ((Stay.of s3).trans (Stay.upd hq3)) (fun a ha hn => by
            have aq : a ≠ q := fun z => hn (by rw [z]; exact cq)
            rw [upd_ne aq]
            obtain ⟨xs, hx⟩ := (t.same s2).lists a ha
            rw [hx]; exact s3 _ _ hx) inner (fun a ha => by
              rcases ha with rfl | ⟨ha, _⟩ | ha
              · exact .inl cq
              · exact .inl ((iq a).mpr (.inr ha))
              · exact .inr fun z => t.there z (fr a ha))
          have vq : vs.set j (.ref q) = vs := by
            refine List.ext_getElem? fun n => ?_
            rw [List.getElem?_set]
            split
            · rename_i hn; subst hn; rw [if_pos (by rw [vl]; exact ixN_lt ej), hw]
            · rfl
          rw [vq] at outer
          refine ⟨q, ws, l, m, rfl, rfl, hq3, by rw [wl]; exact em, F σ _ ⟨G, _, (R.heap s4).mut h1 (ci q cq) (fun a ha => ?_) (tree_own (B := fun a => (B a ∧ ¬ C a) ∨ (a = q ∨ ((E a ∧ ¬ E2 a) ∨ A a))) (by rw [upd_ne pq]; exact hp3) outer (fun z => ?_) (fun a => Iff.rfl))⟩⟩
          · rcases ha with ha | ⟨ha, _⟩ | ha | ⟨ha, _⟩ | ha
            · exact .inl ((ia a).mpr (.inl ha))
            · exact .inl ((ia a).mpr (.inr ha))
            · exact .inl (ci a ((iq a).mpr (.inl ha)))
            · exact .inl (ci a ((iq a).mpr (.inr ha)))
            · exact .inr (R.new s4 (fr a ha) ((tu.same (s1.trans s3)).there ha))
          · rcases z with ⟨z, _⟩ | z | ⟨z, _⟩ | z
            · exact nb z
            · exact pq z
            · exact nb (ic p ((iq p).mpr (.inr z)))
            · exact ap z
        · cases e
      · cases e
    · cases e
  · cases e

/-- a list within a list of one's own is changed -/
theorem RelW.inner {G0 H0 Gm Hm H G : Hp} {σ : L2.St} {env : Env} {As : Nat → Addr → Prop} (R : RelW K G0 H0 Gm Hm H σ env G As) {ds es : List D} {v : V} {j : Nat} (h1 : σ[i]? = some (some v)) (o : Own K G H (.lst ds) .full v (As i)) (edj : ds[j]? = some (.lst es)) :
    ∃ p vs q ws E, v = .ref p ∧ H p = some (.lst vs) ∧ vs.length = ds.length ∧ vs[j]? = some (.ref q) ∧ H q = some (.lst ws) ∧ TrA K H es ws E ∧ ¬ E q ∧ As i q ∧ (∀ a, E a → As i a) ∧
      ∀ es' ws' E', TrA K (upd H q (.lst ws')) es' ws' E' → ¬ E' q → (∀ a, E' a → E a ∨ (H a ≠ none ∧ H0 a = none ∧ G a = none ∧ ∀ k, ¬ As k a)) →
        Rel K G0 H0 Gm Hm (upd H q (.lst ws')) σ (env.set i (some (.lst (ds.set j (.lst es')), .full))) := by
  obtain ⟨p, vs, B, rfl, hp, t, nb, ia⟩ := own_tree o
  obtain ⟨w, C, hw, tw, ic, lens⟩ := TrA.lens t (k := j) (d := .lst es) edj
  unfold Tr at tw
  obtain ⟨q, ws, E, rfl, hq, tq, nq, iq⟩ := tw
  have cq : C q := (iq q).mpr (.inl rfl)
  have ci : ∀ a, C a → As i a := fun a ha => (ia a).mpr (.inr (ic a ha))
  have pq : p ≠ q := fun z => nb (z ▸ ic q cq)
  have vl : vs.length = ds.length := t.length
  refine ⟨p, vs, q, ws, E, rfl, hp, vl, hw, hq, tq, nq, ci q cq, fun a ha => ci a ((iq a).mpr (.inr ha)), fun es' ws' E' t' n' f' => ?_⟩
  have fB : ∀ a, E' a → E a ∨ ¬ B a := fun a ha => (f' a ha).imp id fun z y => z.2.2.2 i ((ia a).mpr (.inr y))
  have inner : Tr K (upd H q (.lst ws')) (.lst es') (.ref q) (fun a => a = q ∨ E' a) := by
    unfold Tr
    exact ⟨q, _, _, rfl, upd_same, t', n', fun a => Iff.rfl⟩
  have outer := lens (upd H q (.lst ws')) (.lst es') (.ref q) _ (Stay.upd hq) (fun a ha hn => by
    have aq : a ≠ q := fun z => hn (by rw [z]; exact cq)
    rw [upd_ne aq]) inner (fun a ha => by
      rcases ha with rfl | ha
      · exact .inl cq
      · exact (fB a ha).imp (fun z => (iq a).mpr (.inr z)) id)
  have vq : vs.set j (.ref q) = vs := by
    refine List.ext_getElem? fun n => ?_
    rw [List.getElem?_set]
    split
    · rename_i hn
      subst hn
      rw [if_pos (List.getElem?_eq_some_iff.mp hw).1, hw]
    · rfl
  rw [vq] at outer
  refine ⟨G, _, R.mut h1 (ci q cq) (A := fun a => a = p ∨ ((B a ∧ ¬ C a) ∨ (a = q ∨ E' a))) (fun a ha => ?_) (tree_own (by rw [upd_ne pq]; exact hp) outer (fun z => ?_) (fun a => Iff.rfl))⟩
  · rcases ha with ha | ⟨ha, _⟩ | ha | ha
    · exact .inl ((ia a).mpr (.inl ha))
    · exact .inl ((ia a).mpr (.inr ha))
    · exact .inl (ci a ((iq a).mpr (.inl ha)))
    · exact (f' a ha).imp (fun z => ci a ((iq a).mpr (.inr z))) id
  · rcases z with ⟨z, _⟩ | z | z
    · exact nb z
    · exact pq z
    · rcases f' p z with y | y
      · exact nb (ic p ((iq p).mpr (.inr y)))
      · exact y.2.2.2 i ((ia p).mpr (.inl rfl))
theorem SmS.app2 (hk : Sm K tk fk) (he : Sm K te fe) : SmS K mg W (tDrop (tBM K "list" rAppend (tOp (rIx K) (tVar i) tk) (tCons te tNil))) (S.app2 i fk fe) := fun Dn G0 H0 Gm Hm σ H env r R e F => by
  obtain ⟨G, As, R⟩ := R
  unfold S.app2 at e
  split at e
  · rename_i ds k lk d ei ek ed
    split at e
    · rename_i j ej
      split at e
      · rename_i es edj
        split at e
        · rename_i hl
          cases e
          obtain ⟨v, h1, o⟩ := R.own i _ _ ei
          obtain ⟨p, vs, B, rfl, hp, t, nb, ia⟩ := own_tree o
          have vl : vs.length = ds.length := t.length
          refine ⟨.ref p, h1, hk.int R ek fun H1 s1 => ?_⟩
          have R1 := R.heap s1
          obtain ⟨v', h1', o1⟩ := R1.own i _ _ ei
          rw [h1] at h1'
          cases h1'
          obtain ⟨p', vs', q, ws, E, e', hp', vl', hw, hq, tq, nq, aq, eA, k1⟩ := R1.inner h1 o1 edj
          cases e'
          refine .inl ⟨p, vs', k, .ref q, rfl, rfl, SqL.of hp', atI_of (by rw [vl']; exact ej) hw, .inl ⟨rfl, ws, SqL.of hq⟩, he.full R1 ed fun u H2 A s fr tu => ?_⟩
          have R2 := R1.heap s
          obtain ⟨v', h1', o2⟩ := R2.own i _ _ ei
          rw [h1] at h1'
          cases h1'
          obtain ⟨p2, vs2, q2, ws2, E2, e', hp2, vl2, hw2, hq2, tq2, nq2, aq2, eA2, k2⟩ := R2.inner h1 o2 edj
          cases e'
          have ev : vs2 = vs' := by
            have := s _ _ hp'
            rw [hp2] at this
            cases this
            rfl
          subst ev
          rw [hw2] at hw
          cases hw
          have ew : ws2 = ws := by
            have := s _ _ hq
            rw [hq2] at this
            cases this
            rfl
          subst ew
          have qA : ¬ A q := fun z => by
            have := fr q z
            rw [hq] at this
            cases this
          have wl : ws2.length = es.length := tq2.length
          refine ⟨q, ws2, u, rfl, rfl, hq2, line_lt (by omega), F σ _ (k2 _ _ (fun a => E2 a ∨ A a) (TrA.append (tq2.upd hq2 nq2) (TrA.one (tu.upd hq2 qA)) fun a h1 h2 => ?_) (fun z => z.elim nq2 qA) fun a ha => ?_)⟩
          · obtain ⟨xs, hx⟩ := R1.there i a (eA2 a h1)
            rw [fr a h2] at hx
            cases hx
          · rcases ha with ha | ha
            · exact .inl ha
            · exact .inr (R1.new s (fr a ha) (tu.there ha))
        · cases e
      · cases e
    · cases e
  · cases e
theorem SmS.popAt2 (hk : Sm K tk fk) (hl : Sm K tl fl) : SmS K mg W (tDrop (tBM K "list" rPopAt (tOp (rIx K) (tVar i) tk) (tCons tl tNil))) (S.popAt2 i fk fl) := fun Dn G0 H0 Gm Hm σ H env r R e F => by
  obtain ⟨G, As, R⟩ := R
  unfold S.popAt2 at e
  split at e
  · rename_i ds k lk l ll ei ek el
    split at e
    · rename_i j ej
      split at e
      · rename_i es edj
        split at e
        · rename_i hb
          cases e
          obtain ⟨v, h1, o⟩ := R.own i _ _ ei
          obtain ⟨p, vs, B, rfl, hp, t, nb, ia⟩ := own_tree o
          refine ⟨.ref p, h1, hk.int R ek fun H1 s1 => ?_⟩
          have R1 := R.heap s1
          obtain ⟨v', h1', o1⟩ := R1.own i _ _ ei
          rw [h1] at h1'
          cases h1'
          obtain ⟨p', vs', q, ws, E, e', hp', vl', hw, hq, tq, nq, aq, eA, k1⟩ := R1.inner h1 o1 edj
          cases e'
          refine .inl ⟨p, vs', k, .ref q, rfl, rfl, SqL.of hp', atI_of (by rw [vl']; exact ej) hw, .inl ⟨rfl, ws, SqL.of hq⟩, hl.int R1 el fun H2 s => ?_⟩
          have R2 := R1.heap s
          obtain ⟨v', h1', o2⟩ := R2.own i _ _ ei
          rw [h1] at h1'
          cases h1'
          obtain ⟨p2, vs2, q2, ws2, E2, e', hp2, vl2, hw2, hq2, tq2, nq2, aq2, eA2, k2⟩ := R2.inner h1 o2 edj
          cases e'
          have ev : vs2 = vs' := by
            have := s _ _ hp'
            rw [hp2] at this
            cases this
            rfl
          subst ev
          rw [hw2] at hw
          cases hw
          have ew : ws2 = ws := by
            have := s _ _ hq
            rw [hq2] at this
            cases this
            rfl
          subst ew
          have wl : ws2.length = es.length := tq2.length
          obtain ⟨B1, t1, iB⟩ := TrA.erase tq2 l.toNat
          have := p63
          have n1 : ¬ B1 q := fun z => nq2 (iB q z)
          exact ⟨q, ws2, l, l.toNat, ws2[l.toNat]'(by omega), rfl, rfl, hq2, by omega, by omega, seqIx hb.1 (by omega), List.getElem?_eq_getElem (by omega), F σ _ (k2 _ _ B1 (t1.upd hq2 n1) n1 fun a ha => .inl (iB a ha))⟩
        · cases e
      · cases e
    · cases e
  · cases e
end
section
variable {X : Cx} {W : WX} {e ek el : Expr} {st : Stmt} {te tk tl : TE} {fe fk fl : SE} {i j : Nat}
theorem DS.app (he : DE X e te fe) (ps : PE X e te → PS X st (tDrop (tBM X.K "list" rAppend (tVar i) (tCons te tNil)))) : DS X W st (tDrop (tBM X.K "list" rAppend (tVar i) (tCons te tNil))) (S.app i fe) := ⟨ps he.pe, SmS.app he.sm⟩
theorem DS.ext (he : DE X e te fe) (ps : PE X e te → PS X st (tDrop (tBM X.K "list" rExtend (tVar i) (tCons te tNil)))) : DS X W st (tDrop (tBM X.K "list" rExtend (tVar i) (tCons te tNil))) (S.ext i fe) := ⟨ps he.pe, SmS.ext he.sm⟩
theorem DS.appN (ps : PS X st (tDrop (tBM X.K "list" rAppend (tVar i) (tCons (tVar j) tNil)))) : DS X W st (tDrop (tBM X.K "list" rAppend (tVar i) (tCons (tVar j) tNil))) (S.appN i j) := ⟨ps, SmS.appN⟩
theorem DS.appS (ps : PS X st (tDrop (tBM X.K "list" rAppend (tVar i) (tCons (tVar j) tNil)))) : DS X W st (tDrop (tBM X.K "list" rAppend (tVar i) (tCons (tVar j) tNil))) (S.appS i j) := ⟨ps, SmS.appS⟩
theorem DS.ins (hk : DE X ek tk fk) (he : DE X e te fe) (ps : PE X ek tk → PE X e te → PS X st (tDrop (tBM X.K "list" rInsert (tVar i) (tCons tk (tCons te tNil))))) : DS X W st (tDrop (tBM X.K "list" rInsert (tVar i) (tCons tk (tCons te tNil)))) (S.ins i fk fe) := ⟨ps hk.pe he.pe, SmS.ins hk.sm he.sm⟩
theorem DS.pop (ps : PS X st (tDrop (tBM0 X.K "list" rPop (tVar i)))) : DS X W st (tDrop (tBM0 X.K "list" rPop (tVar i))) (S.pop i) := ⟨ps, SmS.pop⟩
theorem DS.popAt (hk : DE X ek tk fk) (ps : PE X ek tk → PS X st (tDrop (tBM X.K "list" rPopAt (tVar i) (tCons tk tNil)))) : DS X W st (tDrop (tBM X.K "list" rPopAt (tVar i) (tCons tk tNil))) (S.popAt i fk) := ⟨ps hk.pe, SmS.popAt hk.sm⟩
theorem DS.setIx (hk : DE X ek tk fk) (he : DE X e te fe) (ps : PE X ek tk → PE X e te → PS X st (tAsg te (gSub (tVar i) tk rSetL))) : DS X W st (tAsg te (gSub (tVar i) tk rSetL)) (S.setIx i fk fe) := ⟨ps hk.pe he.pe, SmS.setIx hk.sm he.sm⟩
theorem DS.setIx2 (hk : DE X ek tk fk) (hl : DE X el tl fl) (he : DE X e te fe) (ps : PE X ek tk → PE X el tl → PE X e te → PS X st (tAsg te (gSub (tOp (rIx X.K) (tVar i) tk) tl rSetL))) : DS X W st (tAsg te (gSub (tOp (rIx X.K) (tVar i) tk) tl rSetL)) (S.setIx2 i fk fl fe) := ⟨ps hk.pe hl.pe he.pe, SmS.setIx2 hk.sm hl.sm he.sm⟩
theorem DS.app2 (hk : DE X ek tk fk) (he : DE X e te fe) (ps : PE X ek tk → PE X e te → PS X st (tDrop (tBM X.K "list" rAppend (tOp (rIx X.K) (tVar i) tk) (tCons te tNil)))) : DS X W st (tDrop (tBM X.K "list" rAppend (tOp (rIx X.K) (tVar i) tk) (tCons te tNil))) (S.app2 i fk fe) := ⟨ps hk.pe he.pe, SmS.app2 hk.sm he.sm⟩
theorem DS.popAt2 (hk : DE X ek tk fk) (hl : DE X el tl fl) (ps : PE X ek tk → PE X el tl → PS X st (tDrop (tBM X.K "list" rPopAt (tOp (rIx X.K) (tVar i) tk) (tCons tl tNil)))) : DS X W st (tDrop (tBM X.K "list" rPopAt (tOp (rIx X.K) (tVar i) tk) (tCons tl tNil))) (S.popAt2 i fk fl) := ⟨ps hk.pe hl.pe, SmS.popAt2 hk.sm hl.sm⟩
end

/-! ### defs -/
def env0 (n : Nat) (ds : List D) : Env := ds.map (fun d => some (d, lvS d)) ++ List.replicate (n - ds.length) none
def runB (g : SS) (n : Nat) (ds : List D) : Option Out := match g (env0 n ds) with
  | some (.ret d lv) => some (.ok d lv)
  | some (.next _) => some (.ok .non .full)
  | some (.exc c _) => some (.exc c)
  | none => none
theorem rel0 {K : PySem.W.Frag} {G H : Hp} {N : List Str} {ds : List D} {vs : List V} (s : Same G H) (r : RqA K G H ds vs) : Rel K G H G H H (L2.start N vs) (env0 N.length ds) := by
  refine ⟨G, fun _ => noA, Ext.refl s, Same.refl _, Stay.refl _, fun _ _ _ z => z.elim, fun _ _ z => z.elim, fun _ _ z => z.elim, ?_, fun i d lv e => ?_⟩
  · unfold L2.start env0
    rw [List.length_append, List.length_append, List.length_map, List.length_map, List.length_replicate, List.length_replicate, r.length]
  · unfold env0 at e
    by_cases hi : i < ds.length
    · rw [List.getElem?_append_left (by rw [List.length_map]; exact hi), List.getElem?_map, List.getElem?_eq_getElem hi] at e
      cases e
      obtain ⟨v, h1, h2⟩ := r.get (List.getElem?_eq_getElem hi)
      refine ⟨v, ?_, own_lvS h2⟩
      unfold L2.start
      rw [List.getElem?_append_left (by rw [List.length_map, r.length]; exact hi), List.getElem?_map, h1]
      rfl
    · rw [List.getElem?_append_right (by rw [List.length_map]; omega), List.getElem?_replicate] at e
      split at e <;> cases e
section
variable {P : Program} {w : World} {K : PySem.W.Frag} {mg : Str → Option Value} {base : Heap}
theorem mkOk {x qual : Str} {st : Stmt} {f : Addr} {fd : FuncData} {N ps : List Str} {k : Nat} {g : SS} (F : Fun K x qual st f fd) (S : FnScope N ps (defScope st))
    (hbody : ∀ (cdv : Value) (A : Around) (outer : List PySem.Env) (s : Shared) (H : Hp) (E : XK), Room k (A.deeper (envOfC qual (defScope st) s.heap.objs.size f cdv)) →
      L2N.Takes (cxOf (L2N.CX P w) P w K mg base N qual (defScope st) f cdv A outer s H E) (fun cls d _ H' => E cls d H') →
      PassesOwn (model P w) (A.deeper (envOfC qual (defScope st) s.heap.objs.size f cdv)) (envOfC qual (defScope st) s.heap.objs.size f cdv) (cxOf (L2N.CX P w) P w K mg base N qual (defScope st) f cdv A outer s H E).xe →
      ∃ t, DSs (cxOf (L2N.CX P w) P w K mg base N qual (defScope st) f cdv A outer s H E) (fun cls d _ H' => E cls d H') (defBody st) t g) :
    FnOk P w K mg base (L2N.CX P w) (k + 1) f fd ps (spD K mg ps.length (runB g N.length)) := by
  obtain ⟨oc, od, kV, doc, pm, an, cdv, ct, osl, rfl, lk, hcd⟩ := F.ex
  refine fn_of lk hcd S (fun vs H Q E h => h.1) fun A outer s H vs Q E hr hsp => ?_
  obtain ⟨hl, G, ds, o, sm, rq, eo, post⟩ := hsp
  obtain ⟨t, hb⟩ := hbody cdv A outer s H E hr (L2N.takes_of rfl rfl rfl rfl) (passes_of rfl)
  refine ⟨t, hb.pss, ?_⟩
  unfold runB at eo
  have R := rel0 (N := N) sm rq
  split at eo
  · rename_i d lv eg
    cases eo
    exact hb.sm _ G H G H _ H _ _ R eg fun v G' H' A x fr ow => post v G' H' A x fr ow
  · rename_i e' eg
    cases eo
    exact hb.sm _ G H G H _ H _ _ R eg fun σ' H' ⟨G', As, R'⟩ => post .non G' H' noA R'.ext (fun _ z => z.elim) ⟨rfl, fun _ z => z⟩
  · rename_i c e' eg
    cases eo
    exact hb.sm _ G H G H _ H _ _ R eg fun C σ' H' m ⟨G', As, R'⟩ => post C H' m R'.ext.h
  · cases eo
def spLaw (K : PySem.W.Frag) : Sp := fun vs H Q _ => ∃ (a : Addr) (ns : List Int), vs = [.ref a] ∧ SqL K H a (ns.map V.int) ∧ ns.length ≤ 63 ∧ ∀ H', Q (.bl true) H'
abbrev noW : WX := fun _ _ _ _ => False
theorem takesN {X : Cx} : L2N.Takes X noW := fun u s' ⟨a, B, sI, pins, σ, H, cls, d, e, I, nb, up, sky, na, os, ag, w⟩ => w.elim
theorem mkLaw {st : Stmt} {f : Addr} {fd : FuncData} {N : List Str} {k : Nat} {g : SS} (F : Fun K "law" "law" st f fd) (S : FnScope N ["script"] (defScope st))
    (hbody : ∀ (cdv : Value) (A : Around) (outer : List PySem.Env) (s : Shared) (H : Hp) (E : XK), Room k (A.deeper (envOfC "law" (defScope st) s.heap.objs.size f cdv)) →
      ∃ t, DSs (cxOf CX0 P w K mg base N "law" (defScope st) f cdv A outer s H E).nox noW (defBody st) t g)
    (sem : ∀ ns : List Int, ns.length ≤ 63 → runB g N.length [.scr ns] = some (.ok (.bl true) .full)) :
    FnOk P w K mg base CX0 (k + 1) f fd ["script"] (spLaw K) := by
  obtain ⟨oc, od, kV, doc, pm, an, cdv, ct, osl, rfl, lk, hcd⟩ := F.ex
  refine fn_of lk hcd S (fun vs H Q E h => by obtain ⟨a, ns, rfl, _⟩ := h; rfl) fun A outer s H vs Q E hr hsp => ?_
  obtain ⟨a, ns, rfl, hS, hl, q⟩ := hsp
  obtain ⟨t, hb⟩ := hbody cdv A outer s H E hr
  refine ⟨t, hb.pss.nox, ?_⟩
  have eo := sem ns hl
  unfold runB at eo
  have rq : RqA K H H [.scr ns] [.ref a] := RqA.one (by unfold Rq; exact ⟨a, rfl, hS⟩)
  have R := rel0 (N := N) (Same.refl H) rq
  split at eo
  · rename_i d lv eg
    cases eo
    exact hb.sm _ H H H H _ H _ _ R eg fun v G' H' A x fr ow => by
      have t : Tr K H' (.bl true) v A := ow
      cases (show v = .bl true from t.1)
      exact q H'
  · cases eo
  · cases eo
  · cases eo
end
end PL

set_option Elab.async false
set_option linter.all false
set_option maxRecDepth 100000
set_option maxHeartbeats 2000000
/-! PL, part g: short words for a program's defs. -/
namespace PL
open PySem PySem.Spec PyProof.Rows L2

structure Has (P : Program) (w : World) (K : PySem.W.Frag) (mg : Str → Option Value) (base : Heap) (k : Nat) (x : Str) (ps : List Str) (F : List D → Option Out) : Prop where
  ex : ∃ f fd, FnOk P w K mg base (L2N.CX P w) k f fd ps (spD K mg ps.length F) ∧ mg x = some (.ref f) ∧ PySem.W.keepIn K (.ref f) = true ∧ Binds K fd ps []
section
variable {X : Cx} {W : WX} {e : Expr} {es : List Expr} {ta : TA} {fs : List SE} {pos p : Pos} {x : Str} {k : Nat} {ps : List Str} {F : List D → Option Out}
theorem DE.callH (h : Has X.prog X.w X.K X.mg X.base k x ps F) (hr : Room k X.A) (ha : DA X (e :: es) ta fs) (hg : Gl X x := by rfl) (hn : fs.length = ps.length := by rfl) (hdb : (x == ("__debug__" : Str)) = false := by decide) (he : starEach (e :: es) X.env = (false, eval e X.env) :: starEach es X.env := by rfl) (hpl : (backTo pos (starEach es X.env)).any (·.1) = false := by rfl) :
    DE X (.Call (.Name x p) (e :: es) [] pos) (tCallS (spD X.K X.mg ps.length F) (WE noW) ta) (E.call F fs) := by
  obtain ⟨f, fd, G, hm, hk, hb⟩ := h.ex
  exact DE.call G hr hg hm hk hb takesN ha hn hdb he hpl
theorem DX.callH (h : Has X.prog X.w X.K X.mg X.base k x ps F) (hr : Room k X.A) (tk : L2N.Takes X W) (ha : DA X (e :: es) ta fs) (hg : Gl X x := by rfl) (hn : fs.length = ps.length := by rfl) (hdb : (x == ("__debug__" : Str)) = false := by decide) (he : starEach (e :: es) X.env = (false, eval e X.env) :: starEach es X.env := by rfl) (hpl : (backTo pos (starEach es X.env)).any (·.1) = false := by rfl) :
    DX X W (.Call (.Name x p) (e :: es) [] pos) (tCallS (spD X.K X.mg ps.length F) (WE W) ta) (Xo.call F fs) := by
  obtain ⟨f, fd, G, hm, hk, hb⟩ := h.ex
  exact DX.call G hr hg hm hk hb tk ha hn hdb he hpl
theorem DE.globI {i : Int} (h : ∃ t, X.mg x = some (.int i t)) (hg : Gl X x := by rfl) (hd : (x == ("__debug__" : Str)) = false := by decide) : DE X (.Name x pos) (tC (.int i)) (E.c (.int i)) := by
  obtain ⟨t, h⟩ := h
  exact DE.glob hg h ⟨t, rfl⟩ (fun _ _ => by unfold Rq; rfl) rfl hd
end
theorem hu65 {A : Around} {k : Nat} (hr : Room k A) : A.units + 65 < cLine := by
  have := hr.un
  omega
section
variable {P : Program} {w : World} {K : PySem.W.Frag} {mg : Str → Option Value} {base : Heap}
theorem mkHas {x : Str} {st : Stmt} {N ps : List Str} {k : Nat} {g : SS} (T : ∃ f fd, Fun K x x st f fd ∧ mg x = some (.ref f)) (S : FnScope N ps (defScope st)) (hb : ∀ f fd, Fun K x x st f fd → Binds K fd ps [])
    (hbody : ∀ (cdv : Value) (f : Addr) (A : Around) (outer : List PySem.Env) (s : Shared) (H : Hp) (E : XK), Room k (A.deeper (envOfC x (defScope st) s.heap.objs.size f cdv)) →
      L2N.Takes (cxOf (L2N.CX P w) P w K mg base N x (defScope st) f cdv A outer s H E) (fun cls d _ H' => E cls d H') →
      PassesOwn (model P w) (A.deeper (envOfC x (defScope st) s.heap.objs.size f cdv)) (envOfC x (defScope st) s.heap.objs.size f cdv) (cxOf (L2N.CX P w) P w K mg base N x (defScope st) f cdv A outer s H E).xe →
      ∃ t, DSs (cxOf (L2N.CX P w) P w K mg base N x (defScope st) f cdv A outer s H E) (fun cls d _ H' => E cls d H') (defBody st) t g) :
    Has P w K mg base (k + 1) x ps (runB g N.length) := by
  obtain ⟨f, fd, F, hg⟩ := T
  exact ⟨f, fd, mkOk F S (fun cdv A outer s H E => hbody cdv f A outer s H E), hg, F.kp, hb f fd F⟩
end
end PL

set_option Elab.async false
set_option linter.all false
set_option maxRecDepth 100000
set_option maxHeartbeats 2000000
/-! PL, part h: isinstance, count, index, join, split, is. -/
namespace PL
open PySem PySem.Spec PyProof.Rows L2

/-! isinstance -/
def tyD : D → String
  | .non => "NoneType"
  | .bl _ => "bool"
  | .int _ => "int"
  | .str _ => "str"
  | .lst _ => "list"
  | .tup _ => "tuple"
  | .scr _ => "list"
  | .ex _ _ => "object"
def noEx : D → Bool
  | .ex _ _ => false
  | _ => true
def isT (a b : String) : Bool := decide (a = b) || (decide (a = "bool") && decide (b = "int"))
def isTys : List String := ["list", "int", "bool", "tuple", "str"]
def isiD (T : String) (d : D) : Option (D × Lv) := if T ∈ isTys ∧ noEx d = true then some (.bl (isT (tyD d) T), .full) else none
theorem kitB_all : ∀ a ∈ ["NoneType", "bool", "int", "str", "list", "tuple"], ∀ T ∈ isTys, kitB a T = some (isT a T) := by decide +kernel
theorem tyD_mem (d : D) (h : noEx d = true) : tyD d ∈ ["NoneType", "bool", "int", "str", "list", "tuple"] := by cases d <;> simp_all [tyD, noEx]
theorem tyX_of {K : PySem.W.Frag} {G H : Hp} {d : D} {x : V} (s : Same G H) (h : noEx d = true) (r : Rq K G H d x) : TyX K H x (.type (tyD d)) := by
  cases d with
  | non => cases (show x = .non from r); exact .base .non
  | bl b => cases (show x = .bl b from r); exact .base (.bl b)
  | int b => cases (show x = .int b from r); exact .base (.int b)
  | str b => cases (show x = .str b from r); exact .base (.str b)
  | lst ds =>
    unfold Rq at r
    obtain ⟨a, vs, rfl, t, f⟩ := r
    exact .base (.lst (s _ _ t))
  | tup ds =>
    unfold Rq at r
    obtain ⟨a, vs, rfl, t, f⟩ := r
    rcases t with (t | ⟨o, t⟩) | ⟨o, its, n, t, c, _⟩
    · exact .base (.tup t)
    · exact .fTuple t
    · exact .kTuple t c
  | ex a c => simp [noEx] at h
  | scr ns =>
    unfold Rq at r
    obtain ⟨a, rfl, t⟩ := r
    rcases s.seq t with (t | ⟨o, t⟩) | ⟨o, its, n, t, c, _⟩
    · exact .base (.lst t)
    · exact .base (.frz t)
    · exact .kList t c
section
variable {X : Cx} {W : WX} {e o ex : Expr} {te to : TE} {fe fo : SE} {pos p p2 : Pos} {x : Str}
theorem DE.isi (T : String) (hm : X.mg "isinstance" = none) (hm2 : X.mg x = none) (ha : DE X e te fe) (hg : Gl X "isinstance" := by rfl) (hg2 : Gl X x := by rfl) (hv2 : bootBuiltins x = some (.type T) := by decide +kernel) (hn : x ≠ "__name__" := by decide) (hd : (x == ("__debug__" : Str)) = false := by decide)
    (he : starEach [e, .Name x p2] X.env = (false, eval e X.env) :: starEach [.Name x p2] X.env := by rfl) (he2 : starEach [.Name x p2] X.env = (false, eval (.Name x p2) X.env) :: starEach [] X.env := by rfl) (hpl : (backTo pos (starEach [.Name x p2] X.env)).any (·.1) = false := by rfl) :
    DE X (.Call (.Name "isinstance" p) [e, .Name x p2] [] pos) (tCB (rIsi X.K) (tCons te (tCons (tC (.ty T)) tNil))) (E.un (isiD T) fe) :=
  ⟨pe_callB call_isi hg hm (by decide +kernel) (pa_cons ha.pe (pa_cons (pe_bltn hg2 hm2 hv2 (v := .ty T) rfl hn hd) pa_nil he2) he) (by decide) (by decide) he hpl, fun env σ G H d lv s r e Q q => by
    unfold E.un at e
    split at e
    · rename_i d' l ed
      unfold isiD at e
      split at e
      · rename_i hT
        cases e
        exact ha.sm.read s r ed fun v G1 H1 x1 rv => ⟨v, .ty T, _, _, _, rfl, .ty T, tyX_of x1.gh hT.2 rv, kit_ty (kitB_all _ (tyD_mem d' hT.2) T hT.1), q.bl x1⟩
      · cases e
    · cases e⟩
def mcountD : D → D → Option (D × Lv)
  | .lst ds, .int k => match intsOf ds with
    | some ns => some (.int (ns.count k : Nat), .full)
    | none => none
  | _, _ => none
theorem DE.mcount (ho : DE X o to fo) (ha : DE X e te fe) (pe : PE X o to → PE X e te → PE X ex (tBM X.K "list" (rCntI X.K) to (tCons te tNil))) : DE X ex (tBM X.K "list" (rCntI X.K) to (tCons te tNil)) (E.bin mcountD fo fe) :=
  ⟨pe ho.pe ha.pe, fun env σ G H d lv s r e Q q => by
    unfold E.bin at e
    split at e
    · rename_i d1 l1 d2 l2 e1 e2
      unfold mcountD at e
      split at e
      · rename_i ds k
        split at e
        · rename_i ns en
          cases e
          refine ho.sm.read s r e1 fun v G1 H1 x1 r1 => ?_
          have r1' := r1
          unfold Rq at r1
          obtain ⟨a, vs, rfl, t, f⟩ := r1
          refine ⟨.inl ⟨rfl, vs, SqL.of (x1.gh _ _ t)⟩, ha.sm.read x1.gh (r.mono x1) e2 fun u G2 H2 x2 r2 => ?_⟩
          cases rq_int r2
          refine ⟨a, ns, k, rfl, rfl, ?_, q.int (x1.trans x2)⟩
          rw [← ints_V en f]
          exact SqL.of (x2.h _ _ (x1.gh _ _ t))
        · cases e
      · cases e
    · cases e⟩
end
end PL

set_option Elab.async false
set_option linter.all false
set_option maxRecDepth 100000
set_option maxHeartbeats 2000000
/-! PL, part i: more operators and methods; raise. -/
namespace PL
open PySem PySem.Spec PyProof.Rows L2

/-! // by any number but nought -/
def fdivWOk (_ j : Int) : Bool := decide (j ≠ 0) && decide (j.natAbs < big)
def fdivWD : D → D → Option (D × Lv) := i2 fdivWOk fun i j => .int (i.fdiv j)
def CDivA (_ j : Int) : Prop := j ≠ 0 ∧ j.natAbs.log2 < 9000
theorem fdivW_ok (i j : Int) (h : fdivWOk i j = true) : CDivA i j := by
  unfold fdivWOk at h
  simp only [Bool.and_eq_true, decide_eq_true_eq] at h
  exact ⟨h.1, Nat.lt_of_lt_of_le (PySem.Flt.log2_lt_of (show 0 < 250 by decide) h.2) (by decide : 250 ≤ 9000)⟩
section
variable {X : Cx} {W : WX} {a b c d e o ex : Expr} {ta tb tc td te to : TE} {fa fb fc fd' fe fo : SE} {pos p p2 : Pos} {x : Str}
theorem op_fdivA : OpR X (binaryOp .FloorDiv) (rI CDivA fun i j => .int (i.fdiv j)) := opI fun _ _ _ _ _ _ _ hc q => floordiv_int hc.1 q (.inl (PyProof.noPylong_of_log2 hc.2))
theorem DE.fdivW (ha : DE X a ta fa) (hb : DE X b tb fb) : DE X (.BinOp a .FloorDiv b pos) (tOp (rI CDivA fun i j => .int (i.fdiv j)) ta tb) (E.bin fdivWD fa fb) := DE.binop op_fdivA (r2_I fdivW_ok) ha hb

/-! a text so many times -/
def isNotBD : D → D → Option (D × Lv)
  | .bl a, .bl b => some (.bl (!decide (a = b)), .full)
  | _, _ => none
theorem r2_isNotB {K : PySem.W.Frag} : R2Ok K rNotB isNotBD := fun G H x y d e z lv s rx ry o Q p => by
  unfold isNotBD at o
  split at o
  · cases o
    cases rq_bl rx
    cases rq_bl ry
    exact ⟨_, _, rfl, rfl, p.bl (Ext.refl s)⟩
  · cases o
theorem DE.isNotB (ha : DE X a ta fa) (hb : DE X b tb fb) (hm : behindInMarks .IsNot b = false := by first | exact nomark _ | rfl) : DE X (.Compare a [.IsNot] [b] pos) (tOp rNotB ta tb) (E.bin isNotBD fa fb) := DE.cmpop op_notBl r2_isNotB ha hb hm
theorem DT.isNotB (ha : DE X a ta fa) (hb : DE X b tb fb) (hm : behindInMarks .IsNot b = false := by first | exact nomark _ | rfl) : DT X (.Compare a [.IsNot] [b] pos) (tTest (tOp rNotB ta tb)) (E.bin isNotBD fa fb) := DT.cmpop op_notBl r2_isNotB ha hb hm

/-! a <= b < c < d -/
def tChain3 (r r' r'' : R2) (ta tb tc td : TE) : TE := fun σ H Q => ta σ H fun x H1 => tb σ H1 fun y H2 => r x y H2 fun z H3 => ∃ k, z = .bl k ∧
  (if k = true then tc σ H3 fun w' H4 => r' y w' H4 fun z' H5 => ∃ k', z' = .bl k' ∧ (if k' = true then td σ H5 fun v' H6 => r'' w' v' H6 Q else Q (.bl false) H5) else Q (.bl false) H3)
theorem pe_chain3 {op op' op'' : CmpOp} {r r' r'' : R2} (ho : OpR X (compareOp op) r) (ho' : OpR X (compareOp op') r') (ho'' : OpR X (compareOp op'') r'') (ha : PE X a ta) (hb : PE X b tb) (hc : PE X c tc) (hd : PE X d td)
    (hm : lastMarks [op, op', op''] [b, c, d] = false := by with_unfolding_all rfl) : PE X (.Compare a [op, op', op''] [b, c, d] pos) (tChain3 r r' r'' ta tb tc td) := by
  refine ⟨fun pins s σ H Q I h => ?_⟩
  refine Compare_chain (thn (ha.run pins s σ H _ I h) fun v s1 ⟨x, H1, I1, r1, q1⟩ => chain_link (thn (hb.run pins s1 σ H1 _ I1 q1) fun u s2 ⟨y, H2, I2, r2, q2⟩ =>
    thn (ho pins s2 σ H2 x y v u _ I2 r1 r2 q2) fun d s3 ⟨z, H3, I3, r3, k, e, q3⟩ => ?_)) hm
  subst e
  cases r3
  refine wpAny_truthy_bool ?_
  cases k with
  | false => exact ite_ff ⟨.bl false, H3, I3, rfl, q3⟩
  | true =>
    refine ite_tt (chain_link (thn (hc.run pins s3 σ H3 _ I3 q3) fun w' s4 ⟨z', H4, I4, r4, q4⟩ => thn (ho' pins s4 σ H4 y z' u w' _ I4 r2 r4 q4) fun d' s5 ⟨z5, H5, I5, r5, k', e', q5⟩ => ?_))
    subst e'
    cases r5
    refine wpAny_truthy_bool ?_
    cases k' with
    | false => exact ite_ff ⟨.bl false, H5, I5, rfl, q5⟩
    | true => exact ite_tt (chain_last (thn (hd.run pins s5 σ H5 _ I5 q5) fun w6 s6 ⟨z6, H6, I6, r6, q6⟩ => ho'' pins s6 σ H6 z' z6 w' w6 Q I6 r4 r6 q6))
def E.chain3 (op op' op'' : D → D → Option (D × Lv)) (fa fb fc fd' : SE) : SE := fun env => match fa env, fb env with
  | some (x, _), some (y, _) => (match op x y with
    | some (.bl true, _) => (match fc env with
      | some (z, _) => (match op' y z with
        | some (.bl true, _) => (match fd' env with
          | some (w, _) => op'' z w
          | none => none)
        | some (.bl false, _) => some (.bl false, .full)
        | _ => none)
      | none => none)
    | some (.bl false, _) => some (.bl false, .full)
    | _ => none)
  | _, _ => none
theorem DE.chain3 {o o' o'' : CmpOp} {r r' r'' : R2} {op op' op'' : D → D → Option (D × Lv)} (ho : OpR X (compareOp o) r) (ho' : OpR X (compareOp o') r') (ho'' : OpR X (compareOp o'') r'') (h : R2Ok X.K r op) (h' : R2Ok X.K r' op') (h'' : R2Ok X.K r'' op'') (ha : DE X a ta fa) (hb : DE X b tb fb) (hc : DE X c tc fc) (hd : DE X d td fd')
    (hm : lastMarks [o, o', o''] [b, c, d] = false := by with_unfolding_all rfl) : DE X (.Compare a [o, o', o''] [b, c, d] pos) (tChain3 r r' r'' ta tb tc td) (E.chain3 op op' op'' fa fb fc fd') :=
  ⟨pe_chain3 ho ho' ho'' ha.pe hb.pe hc.pe hd.pe hm, fun env σ G H d lv s rp e Q p => by
    unfold E.chain3 at e
    split at e
    · rename_i x lx y ly ea eb
      refine ha.sm.read s rp ea fun v G1 H1 x1 r1 => hb.sm.read x1.gh (rp.mono x1) eb fun u G2 H2 x2 r2 => ?_
      have r1' := r1.mono x2.g (Stay.of x2.h)
      have x12 := x1.trans x2
      split at e
      · rename_i l el
        refine h.bool x2.gh r1' r2 el fun G3 H3 x3 => ⟨true, rfl, iteT ?_⟩
        have x123 := x12.trans x3
        split at e
        · rename_i z lz ez
          refine hc.sm.read x3.gh (rp.mono x123) ez fun w' G4 H4 x4 r4 => ?_
          have x14 := x123.trans x4
          have r2' := (r2.mono x3.g (Stay.of x3.h)).mono x4.g (Stay.of x4.h)
          split at e
          · rename_i l' el'
            refine h'.bool x4.gh r2' r4 el' fun G5 H5 x5 => ⟨true, rfl, iteT ?_⟩
            split at e
            · rename_i w lw ew
              exact hd.sm.read x5.gh (rp.mono (x14.trans x5)) ew fun v6 G6 H6 x6 r6 => h'' G6 H6 w' v6 z w d lv x6.gh ((r4.mono x5.g (Stay.of x5.h)).mono x6.g (Stay.of x6.h)) r6 e Q (p.ext ((x14.trans x5).trans x6))
            · cases e
          · rename_i l' el'
            cases e
            exact h'.bool x4.gh r2' r4 el' fun G5 H5 x5 => ⟨false, rfl, iteF (p.bl (x14.trans x5))⟩
          · cases e
        · cases e
      · rename_i l el
        cases e
        exact h.bool x2.gh r1' r2 el fun G3 H3 x3 => ⟨false, rfl, iteF (p.bl (x12.trans x3))⟩
      · cases e
    · cases e⟩
theorem DE.leLtLt (ha : DE X a ta fa) (hb : DE X b tb fb) (hc : DE X c tc fc) (hd : DE X d td fd') (hm : lastMarks [.LtE, .Lt, .Lt] [b, c, d] = false := by with_unfolding_all rfl) : DE X (.Compare a [.LtE, .Lt, .Lt] [b, c, d] pos) (tChain3 rLe rLt rLt ta tb tc td) (E.chain3 leD ltD ltD fa fb fc fd') := DE.chain3 op_le op_lt op_lt r2_B0 r2_B0 r2_B0 ha hb hc hd hm

/-! list.index, join, split -/
def mindexD : D → D → Option (D × Lv)
  | .lst ds, d => if atomD d = true ∧ ds.all atomD = true then (match ds.findIdx? fun z => eqV (vOf z) (vOf d) with
    | some j => some (.int (j : Nat), .full)
    | none => none) else none
  | _, _ => none
theorem DE.mindex (ho : DE X o to fo) (ha : DE X e te fe) (pe : PE X o to → PE X e te → PE X ex (tBM X.K "list" (rIndex X.K) to (tCons te tNil))) : DE X ex (tBM X.K "list" (rIndex X.K) to (tCons te tNil)) (E.bin mindexD fo fe) :=
  ⟨pe ho.pe ha.pe, fun env σ G H d lv s r e Q q => by
    unfold E.bin at e
    split at e
    · rename_i d1 l1 d2 l2 e1 e2
      unfold mindexD at e
      split at e
      · rename_i ds
        split at e
        · rename_i hat
          split at e
          · rename_i j ej
            cases e
            refine ho.sm.read s r e1 fun v G1 H1 x1 r1 => ?_
            unfold Rq at r1
            obtain ⟨a, vs, rfl, t, f⟩ := r1
            refine ⟨.inl ⟨rfl, vs, SqL.of (x1.gh _ _ t)⟩, ha.sm.read x1.gh (r.mono x1) e2 fun u G2 H2 x2 r2 => ?_⟩
            obtain ⟨eu, fu⟩ := atom_V hat.1 r2
            obtain ⟨ev, fv⟩ := atoms_V hat.2 f
            obtain ⟨hj, hz, hno⟩ := List.findIdx?_eq_some_iff_getElem.mp ej
            refine ⟨a, vs, u, j, vOf ds[j], rfl, rfl, SqL.of (x2.h _ _ (x1.gh _ _ t)), fu, fv, ?_, by rw [eu]; exact hz, fun m z' hm hz' => ?_, q.int (x1.trans x2)⟩
            · rw [ev, List.getElem?_map, List.getElem?_eq_getElem hj]
              rfl
            · rw [ev, List.getElem?_map] at hz'
              have hml : m < ds.length := by omega
              rw [List.getElem?_eq_getElem hml] at hz'
              cases hz'
              rw [eu]
              simpa using hno m hm
          · cases e
        · cases e
      · cases e
    · cases e⟩
def mjoinD : D → D → Option (D × Lv)
  | .str a, .lst ds => match strsOf ds with
    | some ys => if (ys.map (·.length)).sum + ys.length * a.length ≤ 1000000 then some (.str (Txt.join a ys), .full) else none
    | none => none
  | _, _ => none
abbrev rJoin (K : PySem.W.Frag) : V → List V → Hp → VK → Prop := fun x xs H Q => ∃ a p, ∃ ys : List Str, x = .str a ∧ xs = [.ref p] ∧ (SqL K H p (ys.map V.str) ∨ SqT K H p (ys.map V.str)) ∧
    (ys.map (·.length)).sum + ys.length * a.length ≤ 16777216 ∧ Q (.str (Txt.join a ys)) H
theorem DE.mjoin (ho : DE X o to fo) (ha : DE X e te fe) (pe : PE X o to → PE X e te → PE X ex (tM1 (rJoin X.K) to te)) : DE X ex (tM1 (rJoin X.K) to te) (E.bin mjoinD fo fe) :=
  ⟨pe ho.pe ha.pe, fun env σ G H d lv s r e Q q => by
    unfold E.bin at e
    split at e
    · rename_i d1 l1 d2 l2 e1 e2
      unfold mjoinD at e
      split at e
      · rename_i a ds
        split at e
        · rename_i ys en
          split at e
          · rename_i hl
            cases e
            refine ho.sm.read s r e1 fun v G1 H1 x1 r1 => ?_
            cases (show v = .str a from r1)
            refine ⟨⟨a, rfl⟩, ha.sm.read x1.gh (r.mono x1) e2 fun u G2 H2 x2 r2 => ?_⟩
            unfold Rq at r2
            obtain ⟨p, vs, rfl, t, f⟩ := r2
            refine ⟨a, p, ys, rfl, rfl, .inl ?_, by omega, q.str (x1.trans x2)⟩
            rw [← strs_V en f]
            exact SqL.of (x2.gh _ _ t)
          · cases e
        · cases e
      · cases e
    · cases e⟩
def msplitD : D → D → Option (D × Lv)
  | .str a, .str b => if (b.length == 0) = false ∧ a.length ≤ 1000000 then some (.lst ((Txt.split a b).map D.str), .full) else none
  | _, _ => none
theorem strs_rq {K : PySem.W.Frag} {G H : Hp} : ∀ ys : List Str, RqA K G H (ys.map D.str) (ys.map V.str)
  | [] => by show RqA K G H [] []; unfold RqA; rfl
  | y :: ys => by
    show RqA K G H (D.str y :: ys.map D.str) (V.str y :: ys.map V.str)
    unfold RqA
    exact ⟨_, _, rfl, by unfold Rq; rfl, strs_rq ys⟩
theorem strs_flat : ∀ ys : List Str, flatA (ys.map D.str) = true
  | [] => rfl
  | y :: ys => by
    show flatA (D.str y :: ys.map D.str) = true
    unfold flatA
    rw [strs_flat ys]
    rfl
abbrev rSplit : V → List V → Hp → VK → Prop := fun x xs H Q => ∃ a b, x = .str a ∧ xs = [.str b] ∧ (b.length == 0) = false ∧ a.length + 2 ≤ sizeLine ∧ rNewStrs (Txt.split a b) H Q
theorem DE.msplit (ho : DE X o to fo) (ha : DE X e te fe) (pe : PE X o to → PE X e te → PE X ex (tM1 rSplit to te)) : DE X ex (tM1 rSplit to te) (E.bin msplitD fo fe) :=
  ⟨pe ho.pe ha.pe, fun env σ G H d lv s r e Q q => by
    unfold E.bin at e
    split at e
    · rename_i d1 l1 d2 l2 e1 e2
      unfold msplitD at e
      split at e
      · rename_i a b
        split at e
        · rename_i hl
          cases e
          refine ho.sm.read s r e1 fun v G1 H1 x1 r1 => ?_
          cases (show v = .str a from r1)
          refine ⟨⟨a, rfl⟩, ha.sm.read x1.gh (r.mono x1) e2 fun u G2 H2 x2 r2 => ?_⟩
          cases (show u = .str b from r2)
          have lq : lvL ((Txt.split a b).map D.str) = .full := by unfold lvL; rw [if_pos (strs_flat _)]
          exact ⟨a, b, rfl, rfl, hl.1, by have : (1000002 : Nat) ≤ sizeLine := by decide
                                          omega, fun l hl => Post.newL (by rw [lq]; exact q) (x1.trans x2) (strs_rq _) hl⟩
        · cases e
      · cases e
    · cases e⟩
end

/-! raise -/
/-- what is known of an own error's class -/
structure ExcF (K : PySem.W.Frag) (mg : Str → Option Value) (x : Str) : Prop where
  ex : ∃ C, mg x = some (.ref C) ∧ PySem.W.excIn K C [.type "ValueError", .type "Exception", .type "BaseException", .type "object"] "ValueError.__new__" = true ∧ PySem.W.keepIn K (.ref C) = true ∧
    PySem.W.subIn K (.ref C) (.type "BaseException") = some true ∧ PySem.W.typeIn K (.ref C) = some (.type "type")
def tRaise (mg : Str → Option Value) (x : Str) (W : WX) : TS := fun _ σ H => ∀ C, mg x = some (.ref C) → W (.ref C) none σ H
section
variable {X : Cx} {W : WX} {pos p p2 pos2 : Pos} {x m : Str} {j : Nat}
theorem DS.raise (h : ExcF X.K X.mg x) (tk : L2N.Takes X W) (hc : X.calm = true := by rfl) (hg : Gl X x := by rfl) (hdb : (x == ("__debug__" : Str)) = false := by decide) :
    DS X W (.Raise (some (.Call (.Name x p) [.Constant (.str m) j p2] [] pos2)) none pos) (tRaise X.mg x W) (S.raise x) := by
  obtain ⟨C, gC, q, kC, b, t⟩ := h.ex
  have P := L2N.ps_raise (pos := pos) hc tk (L2N.pmk_own (x := x) (m := m) (j := j) (p := p) (p2 := p2) (pos := pos2) PySem.F.excBase_ValueError q gC kC (raises_own b t) hg hdb)
  refine ⟨⟨fun pins s σ H D I h => P.run pins s σ H D I (h C gC)⟩, fun Dn G0 H0 Gm Hm σ H env r R e F => ?_⟩
  cases e
  exact fun C m => F C σ H m R
end
def distinct (ns : List Int) : Nat := (PyProof.Rows.firstMet (fun i => ns.getD i 0) ns.length).length
def lenSetD : D → Option (D × Lv)
  | .lst ds => match intsOf ds with
    | some ns => if ns.length ≤ 4000 then some (.int (distinct ns : Nat), .full) else none
    | none => none
  | _ => none
def listRevD : D → Option (D × Lv)
  | .lst ds => some (.lst ds.reverse, lvL ds.reverse)
  | _ => none
def k_SMALL : D := .tup [.tup [.int 1, .int 1], .tup [.int 1, .int (-1)]]
def k_PRIMES : D := .tup [.tup [.int 12, .int 11], .tup [.int 20, .int 19], .tup [.int 24, .int 23]]
end PL

set_option Elab.async false
set_option linter.all false
set_option maxRecDepth 100000
set_option maxHeartbeats 4000000
/-! PL, part j: errors caught, and asked of which class they are. -/
namespace PL
open PySem PySem.Spec PyProof.Rows L2

/-! ### how often a flat thing stands in a list -/
section
variable {X : Cx} {W : WX} {a b c d e o ex : Expr} {ta tb tc td te to : TE} {fa fb fc fd' fe fo : SE} {pos p p2 : Pos} {x : Str}
def rCntV (K : PySem.W.Frag) : V → List V → Hp → VK → Prop := fun x xs H Q => ∃ (p : Addr) (ys : List V) (y : V), x = .ref p ∧ xs = [y] ∧ SqL K H p ys ∧ flatV y = true ∧ ys.all flatV = true ∧ Q (.int (ys.countP fun z => eqV z y : Nat)) H
theorem countP_eqU {x : V} : ∀ {ys : List V} {us : List Value}, Vals ys us → ys.all flatV = true → us.countP (eqU x) = ys.countP fun z => eqV z x := by
  intro ys us r
  induction r with
  | nil => intro _; rfl
  | @cons y u ys us ru t ih =>
    intro f
    have f' : flatV y = true ∧ ys.all flatV = true := by simpa using f
    rw [List.countP_cons, List.countP_cons, ih f'.2, eqU_of ru f'.1]
theorem mt_cntV : MtR X "list.count" (rCntV X.K) := by
  intro pins s σ H x0 xs v us Q I rx rxs hh
  obtain ⟨p, ys, y, rfl, rfl, hs, fy, fys, q⟩ := hh
  cases rx
  obtain ⟨u, rfl, ru⟩ := rxs.one
  obtain ⟨its, rv, ⟨⟨cls, dd, data, sl⟩, n, ho, hc0, hdn, hd0⟩, hlen⟩ := I.list hs
  simp only at hc0 hd0
  subst hc0 hd0
  refine call_meets PySem.F.slot_list_count ⟨_, ho, rfl⟩ PySem.F.entry_list_count (PySem.F.args_list_count_2 _ _) (SeqAt.list_countAt p its.toArray n dd sl u (eqU y)) ⟨ho, fun w hw => mem_eqAt ru fy rv fys w (by simpa using hw), ?_⟩
  have ec : its.toArray.toList.countP (eqU y) = ys.countP fun z => eqV z y := countP_eqU rv fys
  refine ⟨.int (ys.countP fun z => eqV z y : Nat), H, I.tok _, ⟨s.toks, ?_⟩, q⟩
  show Value.int ((its.toArray.toList.countP (eqU y) : Nat) : Int) s.toks = Value.int ((ys.countP fun z => eqV z y : Nat) : Int) s.toks
  rw [ec]
def mcountVD : D → D → Option (D × Lv)
  | .lst ds, d => if atomD d = true ∧ ds.all atomD = true then some (.int ((ds.map vOf).countP fun z => eqV z (vOf d) : Nat), .full) else none
  | _, _ => none
theorem DE.mcountV (ho : DE X o to fo) (ha : DE X e te fe) (pe : PE X o to → PE X e te → PE X ex (tBM X.K "list" (rCntV X.K) to (tCons te tNil))) : DE X ex (tBM X.K "list" (rCntV X.K) to (tCons te tNil)) (E.bin mcountVD fo fe) :=
  ⟨pe ho.pe ha.pe, fun env σ G H d lv s r e Q q => by
    unfold E.bin at e
    split at e
    · rename_i d1 l1 d2 l2 e1 e2
      unfold mcountVD at e
      split at e
      · rename_i ds
        split at e
        · rename_i hat
          cases e
          refine ho.sm.read s r e1 fun v G1 H1 x1 r1 => ?_
          unfold Rq at r1
          obtain ⟨a, vs, rfl, t, f⟩ := r1
          refine ⟨.inl ⟨rfl, vs, SqL.of (x1.gh _ _ t)⟩, ha.sm.read x1.gh (r.mono x1) e2 fun u G2 H2 x2 r2 => ?_⟩
          obtain ⟨eu, fu⟩ := atom_V hat.1 r2
          obtain ⟨ev, fv⟩ := atoms_V hat.2 f
          refine ⟨a, vs, u, rfl, rfl, SqL.of (x2.h _ _ (x1.gh _ _ t)), fu, fv, ?_⟩
          rw [eu, ev]
          exact q.int (x1.trans x2)
        · cases e
      · cases e
    · cases e⟩

/-! ### isinstance of the error that is handled -/
def allX : List Str := ["NoMove", "NoNote", "NoNumbers", "NoSize", "NoSquare", "NoTable", "TooGreat", "Unlike"]
/-- what is known of an error's class D, of name c -/
structure ErrC (K : PySem.W.Frag) (mg : Str → Option Value) (c : Str) (D : Addr) : Prop where
  name : mg c = some (.ref D)
  exc : ExcC K D
  own : ∀ x ∈ allX, ∀ C, mg x = some (.ref C) → PySem.W.kitOne K (.ref D) (.ref C) = some (decide (c = x))
  val : PySem.W.kitOne K (.ref D) (.type "ValueError") = some true
  up : ∀ C, mg "PlusError" = some (.ref C) → PySem.W.subIn K (.ref D) (.ref C) = some true
structure ErrTab (K : PySem.W.Frag) (mg : Str → Option Value) (L : List Str) : Prop where
  plus : ∃ C, mg "PlusError" = some (.ref C) ∧ PySem.W.subIn K (.ref C) (.type "BaseException") = some true ∧ PySem.W.typeIn K (.ref C) = some (.type "type") ∧ PySem.W.hasDictIn K C = true
  row : ∀ c ∈ L, ∃ D, ErrC K mg c D
theorem kit_own {K : PySem.W.Frag} {C : Addr} {t : Value} {b : Bool} (h : PySem.W.subIn K t (.ref C) = some b) (self : PySem.W.subIn K (.ref C) (.ref C) = some true) (hd : PySem.W.hasDictIn K C = true) (ht : PySem.W.typeIn K (.ref C) = some (.type "type")) : PySem.W.kitOne K t (.ref C) = some b := by
  unfold PySem.W.kitOne
  split
  · rename_i e
    have e2 : t = .ref C := eq_of_beq e
    rw [e2, self] at h
    exact h
  · obtain ⟨cd, hc, _⟩ := PySem.W.any_some hd
    have e2 : ((PySem.W.clsIn K C).isSome && PySem.W.typeIn K (.ref C) == some (.type "type")) = true := by rw [hc, ht] <;> rfl
    show (if ((PySem.W.clsIn K C).isSome && PySem.W.typeIn K (.ref C) == some (.type "type")) = true then PySem.W.subIn K t (.ref C) else none) = some b
    rw [if_pos e2]
    exact h
/-- the context holds the error: at a, of class D -/
structure HotE (X : Cx) (a : Addr) (c : Str) (D : Addr) : Prop where
  pin : ∃ oe, (a, oe) ∈ X.pn ∧ Zc (.ref D) none oe ∧ ∃ vs, oe.data = .fields vs
  err : ErrC X.K X.mg c D
def isED (a : Addr) (c x : Str) : D → Option (D × Lv)
  | .ex a' c' => if a' = a ∧ c' = c then some (.bl (decide (c = x)), .full) else none
  | _ => none
def isEV (a : Addr) (c : Str) : D → Option (D × Lv)
  | .ex a' c' => if a' = a ∧ c' = c then some (.bl true, .full) else none
  | _ => none
theorem callR_isE {a D : Addr} (h : ∃ oe, (a, oe) ∈ X.pn ∧ Zc (.ref D) none oe ∧ ∃ vs, oe.data = .fields vs) (C : ExcC X.K D) : CallR X (.builtin "isinstance") (rIsE X.K D a) := by
  intro pins s σ H xs us Q I r hh
  obtain ⟨oe, hp, hz, vs, hv⟩ := h
  obtain ⟨c0, cv, b0, rfl, hcv, e0, q⟩ := hh
  cases r with
  | cons rx rr => cases rr with
    | cons rt rr =>
      cases rr
      cases rx
      cases hcv _ rt
      obtain ⟨hget, _⟩ := I.pin (a, oe) (List.mem_append.mpr (.inl hp))
      have J : PySem.W.InstAt s.heap a oe D none := by
        obtain ⟨oc, od, oda, osl⟩ := oe
        obtain ⟨h1, h2⟩ := hz
        dsimp only at h1 h2 hv
        subst h1 h2 hv
        exact ⟨hget, rfl, rfl, trivial⟩
      refine PySem.W.kia_one (PySem.W.handS_kitx_exc C.hg C.hk C.hs C.hd C.ha C.hn C.ht C.hm) I.kIn J e0 (fun z => nomatch z) fun tk => ?_
      exact ⟨.bl b0, H, I.kept (t' := tk) fun _ _ z => z, rfl, q⟩
theorem DE.isE {A D C : Addr} {cn : Str} (h : HotE X A cn D) (hx : x ∈ allX) (hm : X.mg "isinstance" = none) (gx : X.mg x = some (.ref C)) (ha : DE X e te fe) (hg : Gl X "isinstance" := by rfl) (hg2 : Gl X x := by rfl) (hd : (x == ("__debug__" : Str)) = false := by decide)
    (he : starEach [e, .Name x p2] X.env = (false, eval e X.env) :: starEach [.Name x p2] X.env := by rfl) (he2 : starEach [.Name x p2] X.env = (false, eval (.Name x p2) X.env) :: starEach [] X.env := by rfl) (hpl : (backTo pos (starEach [.Name x p2] X.env)).any (·.1) = false := by rfl) :
    DE X (.Call (.Name "isinstance" p) [e, .Name x p2] [] pos) (tCB (rIsE X.K D A) (tCons te (tCons (tC (.ref C)) tNil))) (E.un (isED A cn x) fe) :=
  ⟨pe_callB (callR_isE h.pin h.err.exc) hg hm (by decide +kernel) (pa_cons ha.pe (pa_cons (pe_glob (hd := hd) hg2 gx rfl) pa_nil he2) he) (by decide) (by decide) he hpl, fun env σ G H d lv s r e Q q => by
    unfold E.un at e
    split at e
    · rename_i d' l ed
      unfold isED at e
      split at e
      · split at e
        · rename_i hT
          cases e
          obtain ⟨rfl, rfl⟩ := hT
          refine ha.sm.read s r ed fun v G1 H1 x1 rv => ?_
          cases (show v = .ref _ from rv)
          exact ⟨.ref C, .ref C, _, rfl, fun u hu => hu, h.err.own x hx C gx, q.bl x1⟩
        · cases e
      · cases e
    · cases e⟩
theorem DE.isEV {A D : Addr} {cn : Str} (h : HotE X A cn D) (hm : X.mg "isinstance" = none) (hm2 : X.mg "ValueError" = none) (ha : DE X e te fe) (hg : Gl X "isinstance" := by rfl) (hg2 : Gl X "ValueError" := by rfl)
    (he : starEach [e, .Name "ValueError" p2] X.env = (false, eval e X.env) :: starEach [.Name "ValueError" p2] X.env := by rfl) (he2 : starEach [.Name "ValueError" p2] X.env = (false, eval (.Name "ValueError" p2) X.env) :: starEach [] X.env := by rfl) (hpl : (backTo pos (starEach [.Name "ValueError" p2] X.env)).any (·.1) = false := by rfl) :
    DE X (.Call (.Name "isinstance" p) [e, .Name "ValueError" p2] [] pos) (tCB (rIsE X.K D A) (tCons te (tCons (tC (.ty "ValueError")) tNil))) (E.un (isEV A cn) fe) :=
  ⟨pe_callB (callR_isE h.pin h.err.exc) hg hm (by decide +kernel) (pa_cons ha.pe (pa_cons (pe_bltn hg2 hm2 (by decide +kernel : bootBuiltins "ValueError" = some (.type "ValueError")) (v := .ty "ValueError") rfl (by decide) (by decide)) pa_nil he2) he) (by decide) (by decide) he hpl, fun env σ G H d lv s r e Q q => by
    unfold E.un at e
    split at e
    · rename_i d' l ed
      unfold PL.isEV at e
      split at e
      · split at e
        · rename_i hT
          cases e
          obtain ⟨rfl, rfl⟩ := hT
          refine ha.sm.read s r ed fun v G1 H1 x1 rv => ?_
          cases (show v = .ref _ from rv)
          exact ⟨.ty "ValueError", .type "ValueError", _, rfl, fun u hu => hu, h.err.val, q.bl x1⟩
        · cases e
      · cases e
    · cases e⟩
end

/-! ### a def called within an except suite, on the error -/
open L2H in
/-- the promise: sp may lean on the error's address, class, dict -/
structure FnE (P : Program) (w : World) (K : PySem.W.Frag) (mg : Str → Option Value) (base : Heap) (k : Nat) (f : Addr) (fd : FuncData) (ps : List Str) (sp : Addr → Value → Option Addr → Sp) : Prop where
  len : ∀ a cls d vs H Q E, sp a cls d vs H Q E → vs.length = ps.length
  run : ∀ (A : Around) (outer : List PySem.Env) (s : Shared) (H : Hp) (us : List Value) (vs : List V) (Q : VK) (E : XK) (p : Addr × Obj) (cls : Value) (d : Option Addr), RoomH k A → Hot1 A p → L2N.Zn cls d p.2 → (∃ xs, p.2.data = .fields xs) → PinOk outer H s p →
    Env0 P w K mg base A outer s H → BindsTo s fd ⟨us, []⟩ (ps.zip us) → Vals vs us → sp p.1 cls d vs H Q E → codeAny (model P w) A (.call (.ref f) ⟨us, []⟩) (CR (L2N.CX P w) outer P w H s Q E) s
section
open L2H
variable {P : Program} {w : World} {K : PySem.W.Frag} {mg : Str → Option Value} {base : Heap}
theorem fnE_of {x : Str} {st : Stmt} {f : Addr} {fd : FuncData} {N ps : List Str} {k : Nat} {sp : Addr → Value → Option Addr → Sp} (F : Fun K x x st f fd) (S : FnScope N ps (defScope st)) (len : ∀ a cls d vs H Q E, sp a cls d vs H Q E → vs.length = ps.length)
    (hbody : ∀ (cdv : Value) (A : Around) (outer : List PySem.Env) (s : Shared) (H : Hp) (vs : List V) (Q : VK) (E : XK) (p : Addr × Obj) (cls : Value) (d : Option Addr), L2N.Zn cls d p.2 → (∃ xs, p.2.data = .fields xs) → RoomH k (A.deeper (envOfC x (defScope st) s.heap.objs.size f cdv)) → sp p.1 cls d vs H Q E →
      ∃ t, PSs (cxH (L2N.CX P w) P w K mg base N x (defScope st) f cdv A outer s H E p) (defBody st) t ∧ t { nx := fun _ H' => Q .non H', rt := Q } (L2.start N vs) H) : FnE P w K mg base (k + 1) f fd ps sp := by
  obtain ⟨oc, od, kV, doc, pm, an, cdv, ct, osl, rfl, lk, hcd⟩ := F.ex
  refine ⟨len, fun A outer s H us vs Q E p cls d hr hot hz hf hpin e0 hb r hsp => ?_⟩
  have hl := len _ _ _ _ _ _ _ hsp
  have KX : K.In s.heap := e0.mod.kin.keeps fun b o e => (e0.bs b o e).1
  have lim : s.heap.NoLimit := e0.mod.nolimit.keeps fun b o e => (e0.bs b o e).1
  have kinds : ∀ y ∈ ps.zip us, (defScope st).names.lookup y.1 = some .local ∨ ((defScope st).names.lookup y.1 = some .cell ∧ ((cellsFrom (s.heap.objs.size + 1) (defScope st).names []).lookup y.1).isSome = true) := by
    rintro ⟨m, v⟩ hy
    rcases S.par m (List.of_mem_zip hy).1 with q | q
    · exact .inl q
    · exact .inr ⟨q, PySem.W.cellsFrom_some _ _ _ (.inl q)⟩
  refine codeAny_call_function hr.depth (KX _ _ lk) rfl S.co S.gen rfl (PySem.W.codeRec_of KX hcd) (hb _ _ _ _ (wpAny_newFunctionEnv_cells S.kind kinds fun env he s1 x1 => ?_))
  subst he
  refine ⟨lim.keeps x1.toInCall.keep, codeAny_func ?_⟩
  obtain ⟨t, ht, hq⟩ := hbody cdv A outer s H vs Q E p cls d hz hf (hr.deeper _) hsp
  have I0 : Inv (cxH (L2N.CX P w) P w K mg base N x (defScope st) f cdv A outer s H E p) [] (L2.start N vs) H s1 := inv_startH S hpin e0 hl r x1
  refine wpAny_mono (ht.run [] s1 (L2.start N vs) H _ I0 hq) (fun fl s' hs => ?_) fun e s' hs => hs
  cases fl with
  | ret u =>
    obtain ⟨v, σ', H', J, rv, q⟩ := hs
    exact ⟨v, H', J.os, J.bare, J.base, J.hok, rv, q⟩
  | next =>
    obtain ⟨σ', H', J, q⟩ := hs
    exact ⟨V.non, H', J.os, J.bare, J.base, J.hok, rfl, q⟩
  | brk =>
    obtain ⟨_, _, _, q⟩ := hs
    exact q.elim
  | cont =>
    obtain ⟨_, _, _, q⟩ := hs
    exact q.elim
theorem pe_callE {X : Cx} {k : Nat} {f a : Addr} {oe : Obj} {cls : Value} {d : Option Addr} {pn : List (Addr × Obj)} {fd : FuncData} {ps : List Str} {sp : Addr → Value → Option Addr → Sp} {x : Str} {q pos : Pos} {e : Expr} {es : List Expr} {t : TA}
    (F : FnE X.prog X.w X.K X.mg X.base k f fd ps sp) (hr : Room k X.A) (hz : L2N.Zn cls d oe) (hf : ∃ vs, oe.data = .fields vs) (hg : Gl (X.suite a ((a, oe) :: pn)) x) (hm : X.mg x = some (.ref f)) (hk : PySem.W.keepIn X.K (.ref f) = true) (hb : Binds X.K fd ps [])
    (ha : PA (X.suite a ((a, oe) :: pn)) (e :: es) t) (hdb : (x == ("__debug__" : Str)) = false := by decide) (he : starEach (e :: es) X.env = (false, eval e X.env) :: starEach es X.env := by rfl) (hpl : (backTo pos (starEach es X.env)).any (·.1) = false := by rfl) :
    PE (X.suite a ((a, oe) :: pn)) (.Call (.Name x q) (e :: es) [] pos) (tCallS (sp a cls d) (WE noW) t) := by
  refine ⟨fun pins s σ H Q I h => ?_⟩
  refine wpAny_Call_Name_kw (ld_glob I hg hm ?_ hdb)
  refine PySem.W.callWith_K (h₀ := X.base) I.ok.mod.kin hk (thn (ha.run pos pins s σ H _ I h) fun us s1 ⟨vs, H1, I1, r, q1⟩ => ⟨I1.kIn, ?_⟩) he hpl
  have hl : us.length = ps.length := by rw [← r.length]; exact F.len _ _ _ _ _ _ _ q1
  have b := hb s1 us I1.kIn (by rw [List.append_nil]; exact hl)
  rw [List.append_nil] at b
  have P1 := I1.pin (a, oe) (List.mem_append_left _ List.mem_cons_self)
  have hpin : PinOk (X.suite a ((a, oe) :: pn)).stack H1 s1 (a, oe) := ⟨P1.1, P1.2.1, fun hm => (List.mem_cons.mp (I1.stkSub a hm)).elim P1.2.2.1 P1.2.2.2.1, P1.2.2.2.2⟩
  obtain ⟨xs, hx⟩ := hf
  have hot : Hot1 (X.suite a ((a, oe) :: pn)).A (a, oe) := ⟨rfl, xs, hx, hz.2.2 xs hx⟩
  have tkx : L2N.Takes (X.suite a ((a, oe) :: pn)) noW := takesN
  refine wpAny_call (codeAny_mono (F.run _ _ s1 H1 us vs Q (WE noW σ) (a, oe) cls d (⟨hr.dp, hr.un⟩ : RoomH k (X.suite a ((a, oe) :: pn)).A) hot hz ⟨xs, hx⟩ hpin I1.env0 b r q1) fun rs s' hq => ?_)
  cases rs with
  | error e => exact L2N.passAt tkx σ pins H1 s1 e s' I1 hq
  | ok fl => cases fl with
    | ret u => exact I1.after hq
    | next => exact hq.elim
    | brk => exact hq.elim
    | cont => exact hq.elim
end
end PL

set_option Elab.async false
set_option linter.all false
set_option maxRecDepth 100000
set_option maxHeartbeats 4000000
/-! PL, part k: try .. except PlusError as e: told = _law_which(e). -/
namespace PL
open PySem PySem.Spec PyProof.Rows L2
def whichS (c : Str) : Str :=
  if c = "NoMove" then "move" else if c = "NoNote" then "note" else if c = "NoNumbers" then "numbers" else if c = "NoSize" then "size" else
  if c = "NoSquare" then "square" else if c = "NoTable" then "table" else if c = "TooGreat" then "great" else "unlike"
def spE (K : PySem.W.Frag) (mg : Str → Option Value) (L : List Str) (F : Addr → Str → List D → Option Out) : Addr → Value → Option Addr → Sp := fun a cls d vs H Q E =>
  vs.length = 1 ∧ ∃ c D, c ∈ L ∧ ErrC K mg c D ∧ cls = .ref D ∧ d = none ∧ ∃ G ds z lv, Same G H ∧ RqA K G H ds vs ∧ F a c ds = some (.ok z lv) ∧ Post K G H z lv Q
structure HasE (P : Program) (w : World) (K : PySem.W.Frag) (mg : Str → Option Value) (base : Heap) (k : Nat) (x : Str) (L : List Str) (F : Addr → Str → List D → Option Out) : Prop where
  ex : ∃ f fd, FnE P w K mg base k f fd ["e"] (spE K mg L F) ∧ mg x = some (.ref f) ∧ PySem.W.keepIn K (.ref f) = true ∧ Binds K fd ["e"] []
section
variable {P : Program} {w : World} {K : PySem.W.Frag} {mg : Str → Option Value} {base : Heap}
theorem mkHasE {x : Str} {st : Stmt} {N : List Str} {k : Nat} {L : List Str} {g : Addr → Str → SS} (T : ∃ f fd, Fun K x x st f fd ∧ mg x = some (.ref f)) (S : FnScope N ["e"] (defScope st)) (hb : ∀ f fd, Fun K x x st f fd → Binds K fd ["e"] [])
    (hbody : ∀ (cdv : Value) (f : Addr) (A : Around) (outer : List PySem.Env) (s : Shared) (H : Hp) (E : XK) (p : Addr × Obj) (c : Str) (D : Addr), HotE (L2H.cxH (L2N.CX P w) P w K mg base N x (defScope st) f cdv A outer s H E p) p.1 c D → L2H.RoomH k (A.deeper (envOfC x (defScope st) s.heap.objs.size f cdv)) →
      ∃ t, DSs (L2H.cxH (L2N.CX P w) P w K mg base N x (defScope st) f cdv A outer s H E p) noW (defBody st) t (g p.1 c)) : HasE P w K mg base (k + 1) x L (fun a c => runB (g a c) N.length) := by
  obtain ⟨f, fd, F, hg⟩ := T
  refine ⟨f, fd, fnE_of F S (fun a cls d vs H Q E h => h.1) (fun cdv A outer s H vs Q E p cls d hz hf hr hsp => ?_), hg, F.kp, hb f fd F⟩
  obtain ⟨_, c, D, hc, he, rfl, rfl, G, ds, z, lz, sm, rq, eo, post⟩ := hsp
  obtain ⟨t, hd⟩ := hbody cdv f A outer s H E p c D ⟨⟨p.2, List.mem_cons_self, hz.zc, hf⟩, he⟩ hr
  refine ⟨t, hd.pss, ?_⟩
  have eo : runB (g p.1 c) N.length ds = some (.ok z lz) := eo
  unfold runB at eo
  have R := rel0 (N := N) sm rq
  split at eo
  · rename_i d lv eg
    cases eo
    exact hd.sm _ G H G H _ H _ _ R eg fun v G' H' A x fr ow => post v G' H' A x fr ow
  · rename_i e' eg
    cases eo
    exact hd.sm _ G H G H _ H _ _ R eg fun σ' H' ⟨G', As, R'⟩ => post .non G' H' noA R'.ext (fun _ z => z.elim) ⟨rfl, fun _ z => z⟩
  · cases eo
  · cases eo
end

def S.tryW (L : List Str) (i j : Nat) (gb : SS) : SS := fun env => match gb env with
  | some (.exc c e1) => if c ∈ L ∧ i < e1.length ∧ i ≠ j then some (.next ((e1.set j (some (.str (whichS c), .full))).set i none)) else none
  | r => r
theorem Rel.kill2 {K : PySem.W.Frag} {G0 H0 Gm Hm H : Hp} {σ : L2.St} {env : Env} (R : Rel K G0 H0 Gm Hm H σ env) (i : Nat) : Rel K G0 H0 Gm Hm H (σ.set i none) (env.set i none) := by
  obtain ⟨G, As, R⟩ := R
  have q := R.kill i
  refine ⟨G, _, q.ext, q.gm, q.hm, q.dj, q.fr, q.there, by rw [List.length_set, List.length_set, R.len], fun k d lv e => ?_⟩
  obtain ⟨v, h1, h2⟩ := q.own k d lv e
  refine ⟨v, ?_, h2⟩
  by_cases hk : i = k
  · rw [List.getElem?_set, if_pos hk] at e
    split at e <;> cases e
  · rw [List.getElem?_set_ne hk]
    exact h1
section
variable {X : Cx} {W : WX} {pos pos' np q q2 cpos apos tp : Pos} {n told : Str} {i j : Nat} {body : List Stmt} {tb : WX → List (Addr × Obj) → (Value → Shared → Prop) → TS} {gb : SS} {L : List Str} {F : Addr → Str → List D → Option Out} {k : Nat}
theorem DS.tryW {PA0 : Addr} (T : ErrTab X.K X.mg L) (TP : X.mg "PlusError" = some (.ref PA0) ∧ PySem.W.subIn X.K (.ref PA0) (.type "BaseException") = some true ∧ PySem.W.typeIn X.K (.ref PA0) = some (.type "type") ∧ PySem.W.hasDictIn X.K PA0 = true) (h : HasE X.prog X.w X.K X.mg X.base k "_law_which" L F) (hF : ∀ a c, c ∈ L → F a c [.ex a c] = some (.ok (.str (whichS c)) .full)) (hr : Room k X.A) (nd : X.N.Nodup) (tk : L2N.Takes X W)
    (hb : ∀ (W' : WX) (pn : List (Addr × Obj)) (xe : Value → Shared → Prop), L2N.Takes (X.tr pn xe) W' → DSs (X.tr pn xe) W' body (tb W' pn xe) gb)
    (hin : ∀ W' pn xe, tb W' pn xe = tb W' [] (fun _ _ => True) := by exact fun _ _ _ => rfl) (hs : X.stack = X.env :: X.outer := by rfl) (hf : X.env.frame = some X.env.locals := by rfl) (hi : X.N[i]? = some n := by rfl) (hj : X.N[j]? = some told := by rfl) (hln : X.env.kindOf n = some .local := by rfl) (gP : Gl X "PlusError" := by rfl) (gW : Gl X "_law_which" := by rfl)
    (hlt : X.env.scope.names.lookup told = some .local := by rfl) (hdn : (n == ("__debug__" : Str)) = false := by decide) (hcd : (n == ("__classdict__" : Str)) = false := by decide) (hsw : swapsWith (.Call (.Name "_law_which" q) [.Name n q2] [] cpos) (some (.Name told tp)) apos.line X.env = pure false := by rfl)
    (he : starEach [.Name n q2] X.env = (false, eval (.Name n q2) X.env) :: starEach [] X.env := by rfl) :
    DS X W (.Try body [.ExceptHandler (some (.Name "PlusError" np)) (some n) [.Assign [.Name told tp] (.Call (.Name "_law_which" q) [.Name n q2] [] cpos) apos] pos'] [] [] pos) (fun D σ H => tb (wAs X.K (.ref PA0) i (fun a cls d => tAsg (tCallS (spE X.K X.mg L F a cls d) (WE noW) (tCons (tVar i) tNil)) (gName j)) W D) [] (fun _ _ => True) D σ H) (S.tryW L i j gb) := by
  obtain ⟨gp, pb, pt, ph⟩ := TP
  obtain ⟨f, fd, FE, hm, hk, hbd⟩ := h.ex
  have P := L2N.ps_try_as (X := X) (n := n) (np := np) (pos := pos) (pos' := pos') (i := i) (x := "PlusError") (c := .ref PA0) (Wout := W) (body := body) (suite := []) (b₀ := .Assign [.Name told tp] (.Call (.Name "_law_which" q) [.Name n q2] [] cpos) apos) (tb := fun W' => tb W' [] (fun _ _ => True))
    (ts := fun a cls d => tAsg (tCallS (spE X.K X.mg L F a cls d) (WE noW) (tCons (tVar i) tNil)) (gName j)) hs hf nd hi hln ⟨gP, by decide, .inl gp⟩ tk (fun W' pn xe t' _ => by have q := (hb W' pn xe t').pss; rw [hin W' pn xe] at q; exact q) fun a oe cls d pn hz hfl =>
      pss_one (ps_set (X := X.suite a ((a, oe) :: pn)) nd hj (.inl hlt) (pe_callE FE hr hz hfl gW hm hk hbd (pa_cons (pe_var (X := X.suite a ((a, oe) :: pn)) hi (.inl hln) hdn hcd) pa_nil he) (he := he)) hsw (.inr hlt))
  refine ⟨P, fun Dn G0 H0 Gm Hm σ H env r R e Fn => ?_⟩
  have hbs : ∀ W', SmS X.K X.mg W' (tb W' [] (fun _ _ => True)) gb := fun W' => (hb W' [] (fun _ _ => True) (fun _ _ _ => trivial)).sm
  unfold S.tryW at e
  split at e
  · rename_i c e1 eg
    split at e
    · rename_i hc
      cases e
      obtain ⟨hc, hil, hij⟩ := hc
      refine hbs _ Dn G0 H0 Gm Hm σ H env _ R eg fun C σ' H' m R' => ?_
      obtain ⟨D, er⟩ := T.row c hc
      have eC : C = D := by
        have := m.symm.trans er.name
        cases this
        rfl
      subst eC
      refine ⟨true, PySem.W.exm_ref pb ph pt (er.up PA0 gp), fun _ a ha => ?_, fun z => nomatch z⟩
      obtain ⟨G1, As1, R1⟩ := R'
      have R2 := R1.put (v := .ref a) (d := .ex a c) (lv := .sh) (A := noA) i (Ext.refl R1.ext.gh) (fun _ z => z.elim) ⟨fun _ z => z, rfl⟩
      -- the suite's reading
      show (tVar i (σ'.set i (some (.ref a))) H' fun x H1 => _)
      have hls : i < σ'.length := by rw [R1.len]; exact hil
      refine ⟨.ref a, List.getElem?_set_self hls, ?_⟩
      refine ⟨rfl, c, C, hc, er, rfl, rfl, G1, [.ex a c], .str (whichS c), .full, R1.ext.gh, RqA.one rfl, hF a c hc, ?_⟩
      intro v G2 H2 A2 x2 fr2 ow
      have R3 := R2.put (v := v) (d := .str (whichS c)) (lv := .full) (A := A2) j x2 fr2 ow
      have R4 : Rel X.K G0 H0 Gm Hm H2 (((σ'.set i (some (.ref a))).set j (some v))) (((e1.set i (some (.ex a c, .sh))).set j (some (.str (whichS c), .full)))) := ⟨_, _, R3⟩
      have R5 := R4.kill2 i
      have ee : (((e1.set i (some (D.ex a c, Lv.sh))).set j (some (.str (whichS c), .full))).set i none) = ((e1.set j (some (.str (whichS c), .full))).set i none) := by
        rw [List.set_comm _ _ (Ne.symm hij), List.set_set, List.set_comm _ _ (Ne.symm hij)]
      rw [ee] at R5
      exact Fn _ _ R5
    · cases e
  · refine hbs _ Dn G0 H0 Gm Hm σ H env r R e ?_
    cases r with
    | next e1 => exact Fn
    | ret d lv => exact Fn
    | exc c e1 => rename_i hn; exact (hn c e1 e).elim
end
end PL

set_option Elab.async false
set_option linter.all false
set_option maxRecDepth 100000
set_option maxHeartbeats 4000000
/-! PL, part l: len(set(ints)), tuples of the module. -/
namespace PL
open PySem PySem.Spec PyProof.Rows L2
def tLenSetN (K : PySem.W.Frag) (ta : TE) : TE := fun σ H Q => ta σ H fun x H1 => ∃ (l : Addr) (ns : List Int), x = .ref l ∧ SqL K H1 l (ns.map V.int) ∧ ns.length ≤ 4000 ∧ Q (.int (distinct ns : Nat)) H1
theorem vals_ints : ∀ {ns : List Int} {us : List Value}, Vals (ns.map V.int) us → PyProof.Rows.IntsAre us ns
  | [], _, .nil => .nil
  | m :: ns, _, .cons r t => by
    obtain ⟨j, rfl⟩ := r
    exact .cons m j (vals_ints t)
section
variable {X : Cx} {a e : Expr} {ta te : TE} {fe : SE} {p p2 q pos : Pos} {x : Str}
theorem pe_lenSetN (hg : Gl X "len") (hm : X.mg "len" = none) (hg2 : Gl X "set") (hm2 : X.mg "set" = none) (ha : PE X a ta) (hc : X.calm = true) (na : starEach [a] X.env = (false, eval a X.env) :: starEach [] X.env) :
    PE X (.Call (.Name "len" p) [.Call (.Name "set" p2) [a] [] q] [] pos) (tLenSetN X.K ta) := by
  refine ⟨fun pins s σ H Q I h => ?_⟩
  refine Call_ (ld_blt I hg hm boot_len (PyProof.Rows.callWith_builtin1 (PyProof.Rows.args_cons ?_ rfl) rfl rfl))
  refine Call_ (ld_blt I hg2 hm2 PyProof.Rows.boot_set (PyProof.Rows.callWith_type1 (PyProof.Rows.args_cons (thn (ha.run pins s σ H _ I h) fun v s1 ⟨y, H1, I1, r1, q1⟩ => PyProof.Rows.args_nil ?_) na) na rfl))
  obtain ⟨l, ns, rfl, hq, hl, q1⟩ := q1
  cases r1
  obtain ⟨its, r, pl, hz⟩ := I1.list hq
  have hlen : its.toArray.size = ns.length := by rw [List.size_toArray, ← r.length, List.length_map]
  refine call_set_list (I1.ok.hd hc) pl.isList (by simpa using vals_ints r) (by rw [hlen]; unfold scanBound; omega) fun h' tk hS hk => PyProof.Rows.args_nil ?_
  rw [hlen] at hS
  have hd4 : distinct ns ≤ ns.length := PyProof.Rows.firstMet_length_le _ _
  obtain ⟨o, es, ep, t, ho, hex, hd, _, _, _, hf, hn⟩ := hS
  have hn2 : es.size = distinct ns := hn
  have I2 : Inv X pins σ H1 { s1 with heap := h', toks := tk } := I1.kept fun b o e => hk b o (Heap.lt_size e) e
  exact call_len_set ho hex hd hf (by rw [hn2] <;> omega) ⟨.int (distinct ns : Nat), H1, I2.tok _, ⟨_, by rw [hn2]⟩, q1⟩
theorem DE.lenSet (hm : X.mg "len" = none) (hm2 : X.mg "set" = none) (ha : DE X a ta fe) (hg : Gl X "len" := by rfl) (hg2 : Gl X "set" := by rfl) (hc : X.calm = true := by rfl) (na : starEach [a] X.env = (false, eval a X.env) :: starEach [] X.env := by rfl) :
    DE X (.Call (.Name "len" p) [.Call (.Name "set" p2) [a] [] q] [] pos) (tLenSetN X.K ta) (E.un lenSetD fe) := ⟨pe_lenSetN hg hm hg2 hm2 ha.pe hc na, fun env σ G H d lv s r e Q k => by
  unfold E.un at e
  split at e
  · rename_i d' l ed
    unfold lenSetD at e
    split at e
    · rename_i ds
      split at e
      · rename_i ns en
        split at e
        · rename_i hl
          cases e
          refine ha.sm.read s r ed fun v G1 H1 x1 rv => ?_
          unfold Rq at rv
          obtain ⟨b, vs, rfl, t, f⟩ := rv
          refine ⟨b, ns, rfl, ?_, hl, k.int x1⟩
          rw [← ints_V en f]
          exact SqL.of (x1.gh _ _ t)
        · cases e
      · cases e
    · cases e
  · cases e⟩
theorem DE.globT {A : Addr} {d : D} (g : X.mg x = some (.ref A)) (r : ∀ G H, Rq X.K G H d (.ref A)) (f : flatD d = true) (hg : Gl X x := by rfl) (hd : (x == ("__debug__" : Str)) = false := by decide) : DE X (.Name x pos) (tC (.ref A)) (E.c d) :=
  DE.glob hg g rfl r f hd
end
section
variable {K : PySem.W.Frag}
theorem fl_pairK {H : Hp} {b : Addr} {i j : Int} {t u : Tok} {dd : Option Addr} {n : Nat} {sl : Array (Option Value)} (h : K.lookup b = some ⟨.type "tuple", dd, .seq #[.int i t, .int j u] n, sl⟩) : Fl K H (.tup [.int i, .int j]) (.ref b) := by
  unfold Fl
  refine ⟨b, [.int i, .int j], rfl, .inr ⟨_, _, _, h, rfl, rfl, (by decide : 2 ≤ sizeLine), .cons ⟨t, rfl⟩ (.cons ⟨u, rfl⟩ .nil)⟩, ?_⟩
  unfold FlA
  refine ⟨.int i, [.int j], rfl, by unfold Fl; rfl, ?_⟩
  unfold FlA
  exact ⟨.int j, [], rfl, by unfold Fl; rfl, by unfold FlA; rfl⟩
theorem rq_two {G H : Hp} {a b c : Addr} {p q : D} {dd : Option Addr} {n : Nat} {sl : Array (Option Value)} (h : K.lookup a = some ⟨.type "tuple", dd, .seq #[.ref b, .ref c] n, sl⟩) (hb : Fl K H p (.ref b)) (hc : Fl K H q (.ref c)) : Rq K G H (.tup [p, q]) (.ref a) := by
  unfold Rq
  refine ⟨a, [.ref b, .ref c], rfl, .inr ⟨_, _, _, h, rfl, rfl, (by decide : 2 ≤ sizeLine), .cons rfl (.cons rfl .nil)⟩, ?_⟩
  unfold FlA
  refine ⟨_, _, rfl, hb, ?_⟩
  unfold FlA
  exact ⟨_, _, rfl, hc, by unfold FlA; rfl⟩
theorem rq_three {G H : Hp} {a b c e : Addr} {p q r : D} {dd : Option Addr} {n : Nat} {sl : Array (Option Value)} (h : K.lookup a = some ⟨.type "tuple", dd, .seq #[.ref b, .ref c, .ref e] n, sl⟩) (hb : Fl K H p (.ref b)) (hc : Fl K H q (.ref c)) (he : Fl K H r (.ref e)) : Rq K G H (.tup [p, q, r]) (.ref a) := by
  unfold Rq
  refine ⟨a, [.ref b, .ref c, .ref e], rfl, .inr ⟨_, _, _, h, rfl, rfl, (by decide : 3 ≤ sizeLine), .cons rfl (.cons rfl (.cons rfl .nil))⟩, ?_⟩
  unfold FlA
  refine ⟨_, _, rfl, hb, ?_⟩
  unfold FlA
  refine ⟨_, _, rfl, hc, ?_⟩
  unfold FlA
  exact ⟨_, _, rfl, he, by unfold FlA; rfl⟩
end
end PL

set_option Elab.async false
set_option linter.all false
set_option maxRecDepth 100000
set_option maxHeartbeats 4000000
/-! PL, part m: a place in a script, moved by a def that is handed it. -/
namespace PL
open PySem PySem.Spec PyProof.Rows L2
def cellZ (ns : List Int) (k : Int) : Int := ns.getD k.toNat 0
/-- only the list at p is changed -/
def Ch (p : Addr) (ys : List V) (H H' : Hp) : Prop := H' p = some (.lst ys) ∧ ∀ b o, b ≠ p → H b = some o → H' b = some o
def spNext (K : PySem.W.Frag) : Sp := fun vs H Q _ => vs.length = 2 ∧ ∃ (a p : Addr) (ns : List Int) (k : Int), vs = [.ref a, .ref p] ∧ (∃ G, Same G H ∧ G p = none ∧ SqL K G a (ns.map V.int)) ∧ H p = some (.lst [.int k]) ∧ 0 ≤ k ∧ k ≤ 1000 ∧ ∀ H', Ch p [.int (k + 1)] H H' → Q (.int (cellZ ns k)) H'
abbrev nextV : SE := E.bin addD (E.bin ixD (E.var 1) (E.c (.int 0))) (E.c (.int 1))
abbrev nextR (F : List D → Option Out) : SX := Xo.call F [(E.var 0), (E.bin subD (E.bin ixD (E.var 1) (E.c (.int 0))) (E.c (.int 1)))]
def NextB (F : List D → Option Out) (X : Cx) (W : WX) (body : List Stmt) : Prop := ∃ te tk tr, Sm X.K tk (E.c (.int 0)) ∧ Sm X.K te nextV ∧ SmX X.K X.mg W tr (nextR F) ∧ PSs X body (tSeq (tAsg te (gSub (tVar 1) tk rSetL)) (tRet tr))
theorem mkNextB {F : List D → Option Out} {X : Cx} {W : WX} {body : List Stmt} {ek ev er : Expr} {tk te tr : TE} (hk : DE X ek tk (E.c (.int 0))) (he : DE X ev te nextV) (hr : DX X W er tr (nextR F)) (ps : PE X ek tk → PE X ev te → PE X er tr → PSs X body (tSeq (tAsg te (gSub (tVar 1) tk rSetL)) (tRet tr))) : NextB F X W body :=
  ⟨te, tk, tr, hk.sm, he.sm, hr.sm, ps hk.pe he.pe hr.pe⟩
structure HasN (P : Program) (w : World) (K : PySem.W.Frag) (mg : Str → Option Value) (base : Heap) (k : Nat) (x : Str) : Prop where
  ex : ∃ f fd, FnOk P w K mg base (L2N.CX P w) k f fd ["script", "spot"] (spNext K) ∧ mg x = some (.ref f) ∧ PySem.W.keepIn K (.ref f) = true ∧ Binds K fd ["script", "spot"] []
theorem rq_one {K : PySem.W.Frag} {G H : Hp} {p : Addr} {k : Int} (h : G p = some (.lst [.int k])) : Rq K G H (.lst [.int k]) (.ref p) := by
  unfold Rq
  refine ⟨p, [.int k], rfl, h, RqA.one ?_⟩
  unfold Rq; rfl
section
variable {P : Program} {w : World} {K : PySem.W.Frag} {mg : Str → Option Value} {base : Heap}
theorem next_read {F : List D → Option Out} (hF : ∀ ns (k : Int), 0 ≤ k → k ≤ 1000 → F [.scr ns, .int k] = some (.ok (.int (cellZ ns k)) .full)) {W : WX} {te tk tr : TE} (sk : Sm K tk (E.c (.int 0))) (se : Sm K te nextV) (sr : SmX K mg W tr (nextR F))
    {σ : L2.St} {H G : Hp} {a p : Addr} {ns : List Int} {k : Int} (hσ : σ = [some (.ref a), some (.ref p)]) (hG : Same G H) (hGp : G p = none) (ha : SqL K G a (ns.map V.int)) (hp : H p = some (.lst [.int k])) (h0 : 0 ≤ k) (h1 : k ≤ 1000) {Q : VK} (q : ∀ H', Ch p [.int (k + 1)] H H' → Q (.int (cellZ ns k)) H') :
    tSeq (tAsg te (gSub (tVar 1) tk rSetL)) (tRet tr) { nx := fun _ H' => Q .non H', rt := Q } σ H := by
  subst hσ
  have reps : ∀ (H : Hp) (k : Int), Same G H → H p = some (.lst [.int k]) → Reps K H H [some (.ref a), some (.ref p)] [some (.scr ns, .sh), some (.lst [.int k], .full)] := fun H k hG hp => by
    refine ⟨rfl, fun i d lv e => ?_⟩
    match i, e with
    | 0, e =>
      cases e
      exact ⟨.ref a, rfl, by unfold Rq; exact ⟨a, rfl, hG.seq ha⟩⟩
    | 1, e =>
      cases e
      exact ⟨.ref p, rfl, rq_one hp⟩
    | n + 2, e => cases e
  have ev : nextV [some (.scr ns, .sh), some (.lst [.int k], .full)] = some (.int (k + 1), .full) := rfl
  refine se.read (Same.refl H) (reps H k hG hp) ev fun v G1 H1 x1 r1 => ?_
  cases rq_int r1
  refine ⟨.ref p, rfl, ?_⟩
  have ek : (E.c (.int 0)) [some (.scr ns, .sh), some (.lst [.int k], .full)] = some (.int 0, .full) := rfl
  have hp1 : H1 p = some (.lst [.int k]) := x1.h _ _ hp
  refine sk.read (Same.refl H1) (reps H1 k (hG.trans x1.h) hp1) ek fun v2 G2 H2 x2 r2 => ?_
  cases rq_int r2
  have hp2 : H2 p = some (.lst [.int k]) := x2.h _ _ hp1
  refine ⟨p, [.int k], 0, 0, rfl, rfl, hp2, rfl, ?_⟩
  have s02 : Same H H2 := x1.h.trans x2.h
  have hG3 : Same G (upd H2 p (.lst [.int (k + 1)])) := fun b o e => by
    rw [upd_ne (ne_of_none e hGp)]
    exact s02 _ _ (hG _ _ e)
  have er : nextR F [some (.scr ns, .sh), some (.lst [.int (k + 1)], .full)] = some (.ok (.int (cellZ ns k)) .full) := by
    have e1 : evA [(E.var 0), (E.bin subD (E.bin ixD (E.var 1) (E.c (.int 0))) (E.c (.int 1)))] [some (.scr ns, .sh), some (.lst [.int (k + 1)], .full)] = some [.scr ns, .int (k + 1 - 1)] := rfl
    have e2 : k + 1 - 1 = k := by omega
    show (match evA [(E.var 0), (E.bin subD (E.bin ixD (E.var 1) (E.c (.int 0))) (E.c (.int 1)))] [some (.scr ns, .sh), some (.lst [.int (k + 1)], .full)] with | some ds => F ds | none => none) = _
    rw [e1, e2]
    exact hF ns k h0 h1
  have W2 := sr [some (.scr ns, .sh), some (.lst [.int (k + 1)], .full)] [some (.ref a), some (.ref p)] (upd H2 p (.lst [.int (k + 1)])) (upd H2 p (.lst [.int (k + 1)])) _ (Same.refl _) (reps _ (k + 1) hG3 upd_same) er Q
  refine W2 fun v G4 H4 A x4 fr ow => ?_
  have t : Tr K H4 (.int (cellZ ns k)) v A := ow
  cases (show v = .int _ from t.1)
  refine q H4 ⟨x4.h _ _ upd_same, fun b o hb e => x4.h _ _ ?_⟩
  rw [upd_ne hb]
  exact s02 _ _ e
theorem mkHasN {x : Str} {st : Stmt} {k : Nat} {F : List D → Option Out} (hF : ∀ ns (k : Int), 0 ≤ k → k ≤ 1000 → F [.scr ns, .int k] = some (.ok (.int (cellZ ns k)) .full)) (T : ∃ f fd, Fun K x x st f fd ∧ mg x = some (.ref f)) (S : FnScope ["script", "spot"] ["script", "spot"] (defScope st)) (hb : ∀ f fd, Fun K x x st f fd → Binds K fd ["script", "spot"] [])
    (hbody : ∀ (cdv : Value) (f : Addr) (A : Around) (outer : List PySem.Env) (s : Shared) (H : Hp) (E : XK), Room k (A.deeper (envOfC x (defScope st) s.heap.objs.size f cdv)) →
      L2N.Takes (cxOf (L2N.CX P w) P w K mg base ["script", "spot"] x (defScope st) f cdv A outer s H E) (fun cls d _ H' => E cls d H') →
      NextB F (cxOf (L2N.CX P w) P w K mg base ["script", "spot"] x (defScope st) f cdv A outer s H E) (fun cls d _ H' => E cls d H') (defBody st)) : HasN P w K mg base (k + 1) x := by
  obtain ⟨f, fd, Fu, hg⟩ := T
  refine ⟨f, fd, ?_, hg, Fu.kp, hb f fd Fu⟩
  obtain ⟨oc, od, kV, doc, pm, an, cdv, ct, osl, rfl, lk, hcd⟩ := Fu.ex
  refine fn_of lk hcd S (fun vs H Q E h => h.1) fun A outer s H vs Q E hr hsp => ?_
  obtain ⟨_, a, p, ns, i, rfl, ⟨G, hG, hGp, ha⟩, hp, h0, h1, q⟩ := hsp
  obtain ⟨te, tk, tr, sk, se, sr, ps⟩ := hbody cdv f A outer s H E hr (L2N.takes_of rfl rfl rfl rfl)
  exact ⟨_, ps, next_read hF sk se sr rfl hG hGp ha hp h0 h1 q⟩
end

/-! ### cell = _law_next(script, spot), spot a list of one's own -/
namespace S
def nextC (i j m : Nat) : SS := fun env => match env[i]?, env[j]? with
  | some (some (.scr ns, _)), some (some (.lst [.int k], .full)) => if 0 ≤ k ∧ k ≤ 1000 ∧ i ≠ j then some (.next ((env.set j (some (.lst [.int (k + 1)], .full))).set m (some (.int (cellZ ns k), .full)))) else none
  | _, _ => none
end S
section
variable {X : Cx} {W : WX} {i j m k : Nat} {x sn pn cn : Str} {p1 p2 p3 pos cpos tp : Pos}
theorem tr_one {K : PySem.W.Frag} {H : Hp} {k : Int} {v : V} {A : Addr → Prop} (t : Tr K H (.lst [.int k]) v A) : ∃ p, v = .ref p ∧ H p = some (.lst [.int k]) ∧ ∀ a, A a ↔ a = p := by
  unfold Tr at t
  obtain ⟨p, vs, B, e, hp, ta, nb, ia⟩ := t
  unfold TrA at ta
  obtain ⟨y, ys, B1, C1, e1, ty, ts, dj, ib⟩ := ta
  have e2 : y = .int k ∧ ∀ a, ¬ B1 a := ty
  have e3 : ys = [] ∧ ∀ a, ¬ C1 a := by
    unfold TrA at ts
    exact ts
  refine ⟨p, e, by rw [hp, e1, e2.1, e3.1], fun a => (ia a).trans ⟨fun z => z.elim id fun q => ?_, .inl⟩⟩
  rcases (ib a).mp q with q | q
  · exact absurd q (e2.2 a)
  · exact absurd q (e3.2 a)
theorem one_tr {K : PySem.W.Frag} {H : Hp} {k : Int} {p : Addr} (h : H p = some (.lst [.int k])) : Tr K H (.lst [.int k]) (.ref p) (fun a => a = p) := by
  unfold Tr
  refine ⟨p, [.int k], noA, rfl, h, TrA.one ⟨rfl, fun _ z => z⟩, fun z => z, fun a => ⟨.inl, fun z => z.elim id False.elim⟩⟩
theorem DS.nextC (i j m : Nat) (h : HasN X.prog X.w X.K X.mg X.base k x) (hr : Room k X.A) (tk : L2N.Takes X W) (nd : X.N.Nodup) (hg : Gl X x := by rfl) (hi : X.N[i]? = some sn := by rfl) (hj : X.N[j]? = some pn := by rfl) (hm : X.N[m]? = some cn := by rfl)
    (vi : Vis X.env.scope sn := by first | exact Or.inl rfl | exact Or.inr (Or.inl rfl) | exact Or.inr (Or.inr rfl)) (vj : Vis X.env.scope pn := by first | exact Or.inl rfl | exact Or.inr (Or.inl rfl) | exact Or.inr (Or.inr rfl)) (lm : Loc X.env.scope cn := by first | exact Or.inl rfl | exact Or.inr rfl)
    (d1 : (sn == ("__debug__" : Str)) = false := by decide) (d2 : (sn == ("__classdict__" : Str)) = false := by decide) (d3 : (pn == ("__debug__" : Str)) = false := by decide) (d4 : (pn == ("__classdict__" : Str)) = false := by decide) (d5 : (x == ("__debug__" : Str)) = false := by decide)
    (hs : swapsWith (.Call (.Name x p1) [.Name sn p2, .Name pn p3] [] cpos) (some (.Name cn tp)) pos.line X.env = pure false := by rfl) (hf : X.fn cn = true ∨ X.env.scope.names.lookup cn = some .local := by first | exact .inl rfl | exact .inr rfl)
    (he : starEach [.Name sn p2, .Name pn p3] X.env = (false, eval (.Name sn p2) X.env) :: starEach [.Name pn p3] X.env := by rfl) (he2 : starEach [.Name pn p3] X.env = (false, eval (.Name pn p3) X.env) :: starEach [] X.env := by rfl) (hpl : (backTo cpos (starEach [.Name pn p3] X.env)).any (·.1) = false := by rfl) :
    DS X W (.Assign [.Name cn tp] (.Call (.Name x p1) [.Name sn p2, .Name pn p3] [] cpos) pos) (tAsg (tCallS (spNext X.K) (WE W) (tCons (tVar i) (tCons (tVar j) tNil))) (gName m)) (S.nextC i j m) := by
  obtain ⟨f, fd, Fk, hmg, hk, hb⟩ := h.ex
  refine ⟨ps_set nd hm lm (pe_callS Fk hr hg hmg hk hb (fun σ => L2N.passAt tk σ) (pa_cons (pe_var hi vi d1 d2) (pa_cons (pe_var hj vj d3 d4) pa_nil he2) he) d5 he hpl) hs hf, fun Dn G0 H0 Gm Hm σ H env r R e Fn => ?_⟩
  obtain ⟨G, As, R⟩ := R
  unfold S.nextC at e
  split at e
  · rename_i ns lv z ei ej
    split at e
    · rename_i hc
      cases e
      obtain ⟨h0, h1, hij⟩ := hc
      obtain ⟨vi', hi1, oi⟩ := R.own i _ _ ei
      obtain ⟨vj', hj1, oj⟩ := R.own j _ _ ej
      obtain ⟨p, rfl, hp, ia⟩ := tr_one oj
      have ri : Rq X.K G H (.scr ns) vi' := by
        cases lv with
        | sh => exact oi.2
        | out =>
          obtain ⟨ds, _, _, e1, _⟩ := oi
          cases e1
        | full =>
          have oi : Tr X.K H (.scr ns) vi' (As i) := oi
          unfold Tr at oi
          exact oi.elim
      unfold Rq at ri
      obtain ⟨a, rfl, ha⟩ := ri
      have gp := (R.fr j p ((ia p).mpr rfl)).1
      refine ⟨.ref a, hi1, .ref p, hj1, ?_⟩
      refine ⟨rfl, a, p, ns, z, rfl, ⟨G, R.ext.gh, gp, ha⟩, hp, h0, h1, fun H' ch => ?_⟩
      have R1 := R.mut (ys := [.int (z + 1)]) (A := fun a => a = p) (d := .lst [.int (z + 1)]) (lv := .full) hj1 ((ia p).mpr rfl) (fun a ha => .inl ((ia a).mpr ha)) (one_tr upd_same)
      have s1 : Same (upd H p (.lst [.int (z + 1)])) H' := fun b o q => by
        by_cases hb : b = p
        · subst hb
          rw [upd_same] at q
          cases q
          exact ch.1
        · rw [upd_ne hb] at q
          exact ch.2 b o hb q
      have R2 := R1.heap s1
      have R3 := R2.put (v := .int (cellZ ns z)) (d := .int (cellZ ns z)) (lv := .full) (A := noA) m (Ext.refl R2.ext.gh) (fun _ q => q.elim) ⟨rfl, fun _ q => q⟩
      exact Fn _ _ ⟨_, _, R3⟩
    · cases e
  · cases e
end
end PL

set_option Elab.async false
set_option linter.all false
set_option maxRecDepth 100000
set_option maxHeartbeats 4000000
/-! PL, part n: defs that are handed a place in a script, and move it. -/
namespace PL
open PySem PySem.Spec PyProof.Rows L2
open Classical in
noncomputable def rem (H : Hp) (p : Addr) : Hp := fun a => if a = p then none else H a
theorem rem_at {H : Hp} {p : Addr} : rem H p p = none := by unfold rem; rw [if_pos rfl]
theorem rem_off {H : Hp} {p a : Addr} (h : a ≠ p) : rem H p a = H a := by unfold rem; rw [if_neg h]
def spM (K : PySem.W.Frag) (n : Nat) (F : List D → Option Out) : Sp := fun vs H Q _ => vs.length = n ∧ ∃ (a p : Addr) (G : Hp) (ns : List Int) (k : Int) (rest : List V) (ds : List D) (z : D) (lv : Lv), vs = .ref a :: .ref p :: rest ∧ Same G H ∧ G p = none ∧ SqL K G a (ns.map V.int) ∧ H p = some (.lst [.int k]) ∧ RqA K G H ds rest ∧
  F (.scr ns :: .lst [.int k] :: ds) = some (.ok z lv) ∧ ∀ v G' H' A, Ext G (rem H p) G' H' → (∀ a, A a → rem H p a = none ∧ G' a = none) → Own K G' H' z lv v A → Q v H'
def envM (n : Nat) (ds : List D) : Env := (env0 n ds).set 1 (match ds[1]? with
  | some d => some (d, .full)
  | none => none)
def runM (g : SS) (n : Nat) (ds : List D) : Option Out := match g (envM n ds) with
  | some (.ret d lv) => some (.ok d lv)
  | some (.next _) => some (.ok .non .full)
  | some (.exc c _) => some (.exc c)
  | none => none
structure HasM (P : Program) (w : World) (K : PySem.W.Frag) (mg : Str → Option Value) (base : Heap) (k : Nat) (x : Str) (ps : List Str) (F : List D → Option Out) : Prop where
  ex : ∃ f fd, FnOk P w K mg base (L2N.CX P w) k f fd ps (spM K ps.length F) ∧ mg x = some (.ref f) ∧ PySem.W.keepIn K (.ref f) = true ∧ Binds K fd ps []
section
variable {P : Program} {w : World} {K : PySem.W.Frag} {mg : Str → Option Value} {base : Heap}
theorem relM {G H : Hp} {N : List Str} {a p : Addr} {ns : List Int} {k : Int} {ds : List D} {rest : List V} (hG : Same G H) (gp : G p = none) (ha : SqL K G a (ns.map V.int)) (hp : H p = some (.lst [.int k])) (r : RqA K G H ds rest) :
    Rel K G (rem H p) G H H (L2.start N (.ref a :: .ref p :: rest)) (envM N.length (.scr ns :: .lst [.int k] :: ds)) := by
  have all : RqA K G H (.scr ns :: ds) (.ref a :: rest) := by
    unfold RqA
    exact ⟨_, _, rfl, by unfold Rq; exact ⟨a, rfl, ha⟩, r⟩
  refine ⟨G, fun i b => i = 1 ∧ b = p, ⟨Same.refl _, fun b o e => ?_, hG, fun b h1 h2 => h2⟩, Same.refl _, Stay.refl _, fun i j b h1 h2 => by rw [h1.1, h2.1], fun i b h => by rw [h.2]; exact ⟨gp, rem_at⟩, fun i b h => by rw [h.2]; exact ⟨_, hp⟩, ?_, fun i d lv e => ?_⟩
  · by_cases hb : b = p
    · rw [hb, rem_at] at e; cases e
    · rw [rem_off hb] at e; exact e
  · unfold L2.start envM env0
    rw [List.length_set, List.length_append, List.length_append, List.length_map, List.length_map, List.length_replicate, List.length_replicate]
    simp only [List.length_cons]
    rw [r.length]
  · have e0 : envM N.length (.scr ns :: .lst [.int k] :: ds) = some (.scr ns, .sh) :: some (.lst [.int k], .full) :: (ds.map (fun d => some (d, lvS d)) ++ List.replicate (N.length - (ds.length + 2)) none) := rfl
    rw [e0] at e
    have s0 : L2.start N (.ref a :: .ref p :: rest) = some (.ref a) :: some (.ref p) :: (rest.map some ++ List.replicate (N.length - (rest.length + 2)) none) := rfl
    rw [s0]
    match i, e with
    | 0, e =>
      cases e
      refine ⟨.ref a, rfl, ?_⟩
      exact ⟨fun b hb => absurd hb.1 (by decide), by unfold Rq; exact ⟨a, rfl, ha⟩⟩
    | 1, e =>
      cases e
      refine ⟨.ref p, rfl, ?_⟩
      show Tr K H (.lst [.int k]) (.ref p) (fun b => (1 : Nat) = 1 ∧ b = p)
      exact Tr.congr (A := fun b => b = p) (fun b => ⟨fun z => ⟨rfl, z⟩, fun z => z.2⟩) (one_tr hp)
    | i + 2, e =>
      have e : (ds.map (fun d => some (d, lvS d)) ++ List.replicate (N.length - (ds.length + 2)) none)[i]? = some (some (d, lv)) := e
      by_cases hi : i < ds.length
      · rw [List.getElem?_append_left (by rw [List.length_map]; exact hi), List.getElem?_map, List.getElem?_eq_getElem hi] at e
        cases e
        obtain ⟨v, h1, h2⟩ := r.get (List.getElem?_eq_getElem hi)
        refine ⟨v, ?_, Own.congr (fun b => ⟨fun z => z.elim, fun z => absurd z.1 (by omega)⟩) (own_lvS h2)⟩
        show (rest.map some ++ List.replicate (N.length - (rest.length + 2)) none)[i]? = _
        rw [List.getElem?_append_left (by rw [List.length_map, r.length]; exact hi), List.getElem?_map, h1]
        rfl
      · rw [List.getElem?_append_right (by rw [List.length_map]; omega), List.getElem?_replicate] at e
        split at e <;> cases e
theorem mkHasM {x : Str} {st : Stmt} {N ps : List Str} {k : Nat} {g : SS} (T : ∃ f fd, Fun K x x st f fd ∧ mg x = some (.ref f)) (S : FnScope N ps (defScope st)) (hb : ∀ f fd, Fun K x x st f fd → Binds K fd ps [])
    (hbody : ∀ (cdv : Value) (f : Addr) (A : Around) (outer : List PySem.Env) (s : Shared) (H : Hp) (E : XK), Room k (A.deeper (envOfC x (defScope st) s.heap.objs.size f cdv)) →
      L2N.Takes (cxOf (L2N.CX P w) P w K mg base N x (defScope st) f cdv A outer s H E) (fun cls d _ H' => E cls d H') →
      PassesOwn (model P w) (A.deeper (envOfC x (defScope st) s.heap.objs.size f cdv)) (envOfC x (defScope st) s.heap.objs.size f cdv) (cxOf (L2N.CX P w) P w K mg base N x (defScope st) f cdv A outer s H E).xe →
      ∃ t, DSs (cxOf (L2N.CX P w) P w K mg base N x (defScope st) f cdv A outer s H E) (fun cls d _ H' => E cls d H') (defBody st) t g) :
    HasM P w K mg base (k + 1) x ps (runM g N.length) := by
  obtain ⟨f, fd, Fu, hg⟩ := T
  refine ⟨f, fd, ?_, hg, Fu.kp, hb f fd Fu⟩
  obtain ⟨oc, od, kV, doc, pm, an, cdv, ct, osl, rfl, lk, hcd⟩ := Fu.ex
  refine fn_of lk hcd S (fun vs H Q E h => h.1) fun A outer s H vs Q E hr hsp => ?_
  obtain ⟨_, a, p, G, ns, i, rest, ds, z, lz, rfl, hG, gp, ha, hp, r, eo, post⟩ := hsp
  obtain ⟨t, hd⟩ := hbody cdv f A outer s H E hr (L2N.takes_of rfl rfl rfl rfl) (passes_of rfl)
  refine ⟨t, hd.pss, ?_⟩
  have R := relM (N := N) hG gp ha hp r
  unfold runM at eo
  split at eo
  · rename_i d lv eg
    cases eo
    exact hd.sm _ G (rem H p) G H _ H _ _ R eg fun v G' H' A x fr ow => post v G' H' A x fr ow
  · rename_i e' eg
    cases eo
    exact hd.sm _ G (rem H p) G H _ H _ _ R eg fun σ' H' ⟨G', As, R'⟩ => post .non G' H' noA R'.ext (fun _ z => z.elim) ⟨rfl, fun _ z => z⟩
  · cases eo
  · cases eo
end

/-! ### calls: the place is a new list; the place is a list of one's own -/
def Xo.callM (F : List D → Option Out) (i : Nat) (k : Int) (fs : List SE) : SX := fun env => match env[i]?, evA fs env with
  | some (some (.scr ns, _)), some ds => (match F (.scr ns :: .lst [.int k] :: ds) with
    | some (.ok d lv) => some (.ok d lv)
    | _ => none)
  | _, _ => none
def S.callM (F : List D → Option Out) (m i j : Nat) (fs : List SE) : SS := fun env => match env[i]?, env[j]?, evA fs env with
  | some (some (.scr ns, .sh)), some (some (.lst [.int k], .full)), some ds => (match F (.scr ns :: .lst [.int k] :: ds) with
    | some (.ok d lv) => if flatA ds = true ∧ i ≠ j ∧ m ≠ j then some (.next ((env.set j none).set m (some (d, lv)))) else none
    | _ => none)
  | _, _, _ => none
section
variable {X : Cx} {W : WX} {e0 el : Expr} {es : List Expr} {t0 tl : TE} {ta : TA} {fs : List SE} {pos p : Pos} {x : Str} {k i : Nat} {n : Int} {ps : List Str} {F : List D → Option Out}
theorem DX.callM (h : HasM X.prog X.w X.K X.mg X.base k x ps F) (hr : Room k X.A) (tk : L2N.Takes X W) (h0 : DE X e0 t0 (E.var i)) (hl : DE X el tl (E.list [(E.c (.int n))])) (ha : DA X es ta fs) (hg : Gl X x := by rfl) (hn : fs.length + 2 = ps.length := by rfl) (hdb : (x == ("__debug__" : Str)) = false := by decide)
    (he : starEach (e0 :: el :: es) X.env = (false, eval e0 X.env) :: starEach (el :: es) X.env := by rfl) (he2 : starEach (el :: es) X.env = (false, eval el X.env) :: starEach es X.env := by rfl) (hpl : (backTo pos (starEach (el :: es) X.env)).any (·.1) = false := by rfl) :
    DX X W (.Call (.Name x p) (e0 :: el :: es) [] pos) (tCallS (spM X.K ps.length F) (WE W) (tCons t0 (tCons tl ta))) (Xo.callM F i n fs) := by
  obtain ⟨f, fd, Fk, hm, hk, hb⟩ := h.ex
  refine ⟨pe_callS Fk hr hg hm hk hb (fun σ => L2N.passAt tk σ) (pa_cons h0.pe (pa_cons hl.pe ha.pa he2) he) hdb he hpl, fun env σ G H o s r e Q q => ?_⟩
  unfold Xo.callM at e
  split at e
  · rename_i ns lv ds ei eds
    split at e
    · rename_i d lv' ef
      cases e
      have ev0 : E.var i env = some (.scr ns, lvS (.scr ns)) := by unfold E.var; rw [ei]
      refine h0.sm.read s r ev0 fun v G1 H1 x1 r1 => ?_
      have evl : E.list [(E.c (.int n))] env = some (.lst [.int n], .full) := rfl
      refine hl.sm env σ G1 H1 _ _ x1.gh (r.mono x1) evl _ fun v2 G2 H2 A2 x2 fr2 ow2 => ?_
      obtain ⟨pp, rfl, hp, ia⟩ := tr_one (show Tr X.K H2 (.lst [.int n]) v2 A2 from ow2)
      have fp := fr2 pp ((ia pp).mpr rfl)
      have x12 := x1.trans x2
      refine ha.sm env σ G2 H2 ds x2.gh (r.mono x12) eds _ fun vs G3 H3 x3 r3 => ?_
      have r1' := (r1.mono x2.g (Stay.of x2.h)).mono x3.g (Stay.of x3.h)
      unfold Rq at r1'
      obtain ⟨a, rfl, ha'⟩ := r1'
      have x13 := x12.trans x3
      have hpH : H pp = none := x1.h.free fp.1
      have gp3 : G3 pp = none := x3.av pp (by rw [hp]; intro z; cases z) fp.2
      refine ⟨?_, a, pp, G3, ns, n, vs, ds, d, lv', rfl, x3.gh, gp3, ha', x3.h _ _ hp, r3, ef, fun v' G' H' A' x' fr' ow' => ?_⟩
      · simp only [List.length_cons]
        rw [r3.length, evA_len fs env ds eds]; omega
      · refine q v' G' H' A' ⟨x13.g.trans x'.g, fun b o eb => ?_, x'.gh, fun b h1 h2 => ?_⟩ (fun b hb => ?_) ow'
        · refine x'.h b o ?_
          rw [rem_off (fun z => by rw [z, hpH] at eb; cases eb)]
          exact x13.h b o eb
        · have hb3 := x13.av b h1 h2
          refine x'.av b ?_ hb3
          rw [rem_off (fun z => h1 (by rw [z]; exact hpH))]
          intro z
          cases eb : H b with
          | none => exact h1 eb
          | some o => rw [x13.h b o eb] at z; cases z
        · refine ⟨?_, (fr' b hb).2⟩
          cases eb : H b with
          | none => rfl
          | some o =>
            have z := (fr' b hb).1
            rw [rem_off (fun y => by rw [y, hpH] at eb; cases eb), x13.h b o eb] at z
            cases z
    · cases e
  · cases e
theorem DS.callM {sn pn cn : Str} {p1 p2 p3 cpos tp : Pos} (m i j : Nat) (h : HasM X.prog X.w X.K X.mg X.base k x ps F) (hr : Room k X.A) (tk : L2N.Takes X W) (nd : X.N.Nodup) (ha : DA X es ta fs) (hg : Gl X x := by rfl) (hi : X.N[i]? = some sn := by rfl) (hj : X.N[j]? = some pn := by rfl) (hm : X.N[m]? = some cn := by rfl) (hn : fs.length + 2 = ps.length := by rfl)
    (vi : Vis X.env.scope sn := by first | exact Or.inl rfl | exact Or.inr (Or.inl rfl) | exact Or.inr (Or.inr rfl)) (vj : Vis X.env.scope pn := by first | exact Or.inl rfl | exact Or.inr (Or.inl rfl) | exact Or.inr (Or.inr rfl)) (lm : Loc X.env.scope cn := by first | exact Or.inl rfl | exact Or.inr rfl)
    (d1 : (sn == ("__debug__" : Str)) = false := by decide) (d2 : (sn == ("__classdict__" : Str)) = false := by decide) (d3 : (pn == ("__debug__" : Str)) = false := by decide) (d4 : (pn == ("__classdict__" : Str)) = false := by decide) (d5 : (x == ("__debug__" : Str)) = false := by decide)
    (hs : swapsWith (.Call (.Name x p1) (.Name sn p2 :: .Name pn p3 :: es) [] cpos) (some (.Name cn tp)) pos.line X.env = pure false := by rfl) (hf : X.fn cn = true ∨ X.env.scope.names.lookup cn = some .local := by first | exact .inl rfl | exact .inr rfl)
    (he : starEach (.Name sn p2 :: .Name pn p3 :: es) X.env = (false, eval (.Name sn p2) X.env) :: starEach (.Name pn p3 :: es) X.env := by rfl) (he2 : starEach (.Name pn p3 :: es) X.env = (false, eval (.Name pn p3) X.env) :: starEach es X.env := by rfl) (hpl : (backTo cpos (starEach (.Name pn p3 :: es) X.env)).any (·.1) = false := by rfl) :
    DS X W (.Assign [.Name cn tp] (.Call (.Name x p1) (.Name sn p2 :: .Name pn p3 :: es) [] cpos) pos) (tAsg (tCallS (spM X.K ps.length F) (WE W) (tCons (tVar i) (tCons (tVar j) ta))) (gName m)) (S.callM F m i j fs) := by
  obtain ⟨f, fd, Fk, hmg, hk, hb⟩ := h.ex
  refine ⟨ps_set nd hm lm (pe_callS Fk hr hg hmg hk hb (fun σ => L2N.passAt tk σ) (pa_cons (pe_var hi vi d1 d2) (pa_cons (pe_var hj vj d3 d4) ha.pa he2) he) d5 he hpl) hs hf, fun Dn G0 H0 Gm Hm σ H env r R e Fn => ?_⟩
  obtain ⟨G, As, R⟩ := R
  unfold S.callM at e
  split at e
  · rename_i ns z ds ei ej eds
    split at e
    · rename_i d lv ef
      split at e
      · rename_i hc
        cases e
        obtain ⟨hfl, hij, hmj⟩ := hc
        obtain ⟨vi', hi1, oi⟩ := R.own i _ _ ei
        obtain ⟨vj', hj1, oj⟩ := R.own j _ _ ej
        obtain ⟨pp, rfl, hp, ia⟩ := tr_one oj
        have ri : Rq X.K G H (.scr ns) vi' := oi.2
        unfold Rq at ri
        obtain ⟨a, rfl, hsa⟩ := ri
        have fpp := R.fr j pp ((ia pp).mpr rfl)
        refine ⟨.ref a, hi1, .ref pp, hj1, ?_⟩
        refine ha.sm env σ H H ds (Same.refl H) R.borrow eds _ fun vs G1 H1 x1 r1 => ?_
        have R1 := R.heap x1.h
        have hp1 : H1 pp = some (.lst [.int z]) := x1.h _ _ hp
        refine ⟨?_, a, pp, G, ns, z, vs, ds, d, lv, rfl, R1.ext.gh, fpp.1, hsa, hp1, FlA.rq (RqA.fl hfl r1), ef, fun v' G' H' A' x' fr' ow' => ?_⟩
        · simp only [List.length_cons]
          rw [r1.length, evA_len fs env ds eds]; omega
        · have keep : ∀ q o, q ≠ pp → H1 q = some o → H' q = some o := fun q o hq e2 => x'.h q o (by rw [rem_off hq]; exact e2)
          have offp : ∀ l q, l ≠ j → As l q → q ≠ pp := fun l q hl hq e2 => hl (R.dj l j q hq (by rw [e2]; exact (ia pp).mpr rfl))
          have there1 : ∀ l q, As l q → ∃ xs, H1 q = some (.lst xs) := R1.there
          have dis : ∀ l q, l ≠ j → As l q → A' q → False := fun l q hl hq ha' => by
            obtain ⟨xs, hx⟩ := there1 l q hq
            have w := (fr' q ha').1
            rw [rem_off (offp l q hl hq), hx] at w
            cases w
          refine Fn (σ.set m (some v')) H' ⟨G', fun l q => if l = m then A' q else if l = j then False else As l q, ⟨⟨R.ext.g.trans x'.g, fun q o e2 => ?_, x'.gh, fun q h1 h2 => ?_⟩, R.gm.trans x'.g, ⟨fun q o e2 => ?_, fun q o u e2 => ?_⟩, fun l1 l2 q h1 h2 => ?_, fun l q hq => ?_, fun l q hq => ?_, by rw [List.length_set, List.length_set, List.length_set, R.len], fun l d' lv' e2 => ?_⟩⟩
          · exact keep q o (ne_of_none e2 fpp.2) (R1.ext.h q o e2)
          · refine x'.av q ?_ (R.ext.av q h1 h2)
            cases e2 : H0 q with
            | none => exact absurd e2 h1
            | some o =>
              rw [rem_off (ne_of_none e2 fpp.2), R1.ext.h q o e2]
              intro y; cases y
          · have w := R1.hm.tup q o e2
            exact keep q _ (ne_of w hp1 (by intro y; cases y)) w
          · have w := R1.hm.frz q o u e2
            exact keep q _ (ne_of w hp1 (by intro y; cases y)) w
          · by_cases c1 : l1 = m
            · by_cases c2 : l2 = m
              · rw [c1, c2]
              · simp only [if_pos c1, if_neg c2] at h1 h2
                by_cases c3 : l2 = j
                · simp only [if_pos c3] at h2
                · simp only [if_neg c3] at h2
                  exact (dis l2 q c3 h2 h1).elim
            · simp only [if_neg c1] at h1
              by_cases c4 : l1 = j
              · simp only [if_pos c4] at h1
              · simp only [if_neg c4] at h1
                by_cases c2 : l2 = m
                · simp only [if_pos c2] at h2
                  exact (dis l1 q c4 h1 h2).elim
                · simp only [if_neg c2] at h2
                  by_cases c3 : l2 = j
                  · simp only [if_pos c3] at h2
                  · simp only [if_neg c3] at h2
                    exact R.dj l1 l2 q h1 h2
          · by_cases c1 : l = m
            · simp only [if_pos c1] at hq
              refine ⟨(fr' q hq).2, ?_⟩
              cases e2 : H0 q with
              | none => rfl
              | some o =>
                have w := (fr' q hq).1
                rw [rem_off (ne_of_none e2 fpp.2), R1.ext.h q o e2] at w
                cases w
            · simp only [if_neg c1] at hq
              by_cases c3 : l = j
              · simp only [if_pos c3] at hq
              · simp only [if_neg c3] at hq
                have w := R.fr l q hq
                refine ⟨x'.av q ?_ w.1, w.2⟩
                obtain ⟨xs, hx⟩ := there1 l q hq
                rw [rem_off (offp l q c3 hq), hx]
                intro y; cases y
          · by_cases c1 : l = m
            · simp only [if_pos c1] at hq
              exact ow'.lists q hq
            · simp only [if_neg c1] at hq
              by_cases c3 : l = j
              · simp only [if_pos c3] at hq
              · simp only [if_neg c3] at hq
                obtain ⟨xs, hx⟩ := there1 l q hq
                exact ⟨xs, keep q _ (offp l q c3 hq) hx⟩
          · by_cases c1 : m = l
            · subst c1
              rw [List.getElem?_set] at e2
              rw [if_pos rfl] at e2
              split at e2
              · rename_i hlt
                cases e2
                refine ⟨v', ?_, by simp only [if_true]; exact ow'⟩
                rw [List.getElem?_set_self (by rw [List.length_set] at hlt; rw [R.len]; exact hlt)]
              · cases e2
            · rw [List.getElem?_set_ne c1] at e2
              by_cases c3 : j = l
              · rw [List.getElem?_set, if_pos c3] at e2
                split at e2 <;> cases e2
              · rw [List.getElem?_set_ne c3] at e2
                obtain ⟨u, h1, h2⟩ := R1.own l d' lv' e2
                refine ⟨u, by rw [List.getElem?_set_ne c1]; exact h1, ?_⟩
                simp only [if_neg (Ne.symm c1), if_neg (Ne.symm c3)]
                refine h2.mono x'.g ⟨fun q o e3 => ?_, fun q o u' e3 => ?_⟩ fun q hq => ?_
                · exact keep q _ (ne_of e3 hp1 (by intro y; cases y)) e3
                · exact keep q _ (ne_of e3 hp1 (by intro y; cases y)) e3
                · obtain ⟨xs, hx⟩ := there1 l q hq
                  rw [hx]
                  exact keep q _ (offp l q (Ne.symm c3) hq) hx
      · cases e
    · cases e
  · cases e
end
end PL

set_option Elab.async false
set_option linter.all false
set_option maxRecDepth 100000
set_option maxHeartbeats 4000000
/-! PL, part o: a list of a list gone through from its end. -/
namespace PL
open PySem PySem.Spec PyProof.Rows L2 RT
section
variable {prog : Program} {w : World} {A : Around} {E : Value → Shared → Prop} {s : Shared}
theorem init_lrev {R : Result → Shared → Prop} {it l S : Addr} {xs : Array Value} (hh : A.handled = none) (hit : s.heap.IsRevIter it l ((xs.size : Int) - 1)) (hl : s.heap.IsList l xs) (hne : l ≠ it) (hn : xs.size ≤ sizeLine) (hSi : S ≠ it) (hSl : S ≠ l)
    (hS : s.heap.get? S = some { cls := .type "list", data := .seq #[] })
    (hR : ∀ (h' : Heap) (tk c : Nat) (acc : Array Value), (∀ b o, b ≠ it → b ≠ S → s.heap.get? b = some o → h'.get? b = some o) → h'.get? S = some { cls := .type "list", dict := none, data := .seq acc c, slots := #[] } → ItemsOf (fun i v => xs[xs.size - 1 - i]? = some v) acc xs.size → R (.ok (.ret .none)) { s with heap := h', toks := tk }) :
    wpAny (model prog w) A.in1 (Builtin.«list.__init__» ⟨[.ref S, .ref it], []⟩)
      (fun fin s' => match fin with | .done f => R (.ok f) s' | .again c' => c'.quiet = true ∧ codeAny (model prog w) A c' R s') (fun e s' => R (.error e) s') s := by
  have hW := (Walks.listRev (prog := prog) (w := w) (A := A.in1) hh it l hne xs).toS
  have hnot : S ∉ [it, l] := by simp only [List.mem_cons, List.not_mem_nil, or_false, not_or]; exact ⟨hSi, hSl⟩
  show wpAny _ A.in1 (do let old ← Builtin.List.listItems (.ref S); Builtin.List.listUpdate (.ref S) (fun _ => #[]); letGo old.toList.reverse; Builtin.List.listExtendWith (.ref S) (.ref it) .none) _ _ s
  refine wpAny_bind ?_
  unfold Builtin.List.listItems
  refine wpAny_bind (wpAny_seqItems hS rfl (wpAny_pure ?_))
  show wpAny _ A.in1 (updateSeq S (fun _ => #[]) >>= fun _ => letGo (#[] : Array Value).toList.reverse >>= fun _ => Builtin.List.listExtendWith (.ref S) (.ref it) .none) _ _ s
  refine wpAny_bind (wpAny_updateSeq hS rfl ?_)
  have hS2 := Heap.get?_update_self (Obj.mapSeq (fun _ => (#[] : Array Value))) hS rfl
  have oth : ∀ b o, b ≠ S → s.heap.get? b = some o → (s.heap.update S (Obj.mapSeq (fun _ => (#[] : Array Value)))).get? b = some o := fun b o hb e => (Heap.get?_update_other _ _ (Ne.symm hb)).trans e
  refine wpAny_bind (wpAny_letGo ?_)
  have hit1 : (s.heap.update S (Obj.mapSeq (fun _ => (#[] : Array Value)))).IsRevIter it l ((xs.size : Int) - 1) := hit.at fun o e => oth it o (Ne.symm hSi) e
  have hl1 : (s.heap.update S (Obj.mapSeq (fun _ => (#[] : Array Value)))).IsList l xs := by
    obtain ⟨o, e, r⟩ := hl
    exact ⟨o, oth l o (Ne.symm hSl) e, r⟩
  have hT := Heap.IsRevIter.typeIs (s := { s with heap := s.heap.update S (Obj.mapSeq (fun _ => (#[] : Array Value))) }) hit1
  have hsame : Builtin.List.listSameRef (.ref S) (.ref it) = false := by simp [Builtin.List.listSameRef, hSi]
  unfold Builtin.List.listExtendWith
  refine wpAny_bind (wpAny_typeOf hT ?_)
  rw [if_neg (by rw [hsame]; decide)]
  refine wpAny_bind (wpAny_pyIter_revIter (s := { s with heap := s.heap.update S (Obj.mapSeq (fun _ => (#[] : Array Value))) }) hit1 ?_)
  refine wpAny_bind (wpAny_holding ?_)
  unfold Builtin.List.listLengthHint
  refine wpAny_bind (wpAny_specialOf hT nolen_lri ?_)
  show wpAny _ A.in1 (specialOf (Value.ref it) (Str.ofString "__length_hint__") >>= _) _ _ _
  refine wpAny_bind (wpAny_specialOf hT hint_lri ?_)
  generalize hid : ("list_reverseiterator.__length_hint__" : String) = id0
  wp_delta
  rw [show splitId id0 = some ("list_reverseiterator", "__length_hint__") from by subst hid; decide +kernel]
  subst hid
  refine wpAny_bind (wpAny_isInstance (b := true) hT (by rw [isSubtype_type]; kernel_rfl) ?_)
  refine wpAny_pure ?_
  rw [if_neg (by decide)]
  have e0 : ((xs.size : Nat) : Int) - 1 - ((0 : Nat) : Int) = (xs.size : Int) - 1 := by omega
  refine wpAny_pure ⟨plainId_quiet F.plain_extend_loop _, codeAny_extend_loopS hW hn _ hnot _ xs.size 0 _ _ _ rfl (Nat.zero_le _) ⟨Nat.zero_le _, by rw [e0]; exact hit1, hl1⟩ hS2 (ItemsOf.nil _) fun s' acc' c' hm hS' hacc => ?_⟩
  rw [Moved.eq_with hm]
  refine hR s'.heap s'.toks c' acc' (fun b o hb hbS e => hm.heap b o (fun hmem => ?_) (oth b o hbS e)) hS' hacc
  rcases List.mem_cons.mp hmem with e' | hmem
  · exact hbS e'
  · exact hb (List.mem_singleton.mp hmem)
theorem call_lrev {it l : Addr} {xs : Array Value} {Q : Value → Shared → Prop} (hh : A.handled = none) (hit : s.heap.IsRevIter it l ((xs.size : Int) - 1)) (hl : s.heap.IsList l xs) (hne : l ≠ it) (hn : xs.size ≤ sizeLine)
    (hQ : ∀ (h' : Heap) (tk c : Nat) (acc : Array Value), (∀ b o, b ≠ it → s.heap.get? b = some o → h'.get? b = some o) → h'.get? s.heap.objs.size = some { cls := .type "list", dict := none, data := .seq acc c, slots := #[] } → ItemsOf (fun i v => xs[xs.size - 1 - i]? = some v) acc xs.size → Q (.ref s.heap.objs.size) { s with heap := h', toks := tk }) :
    wpAny (model prog w) A (call (.type "list") [.ref it]) Q E s := by
  obtain ⟨oi, hoi, _⟩ := id hit
  obtain ⟨ol, hol, _⟩ := id hl
  have n1 : s.heap.objs.size ≠ it := Nat.ne_of_gt (Heap.lt_size hoi)
  have n2 : s.heap.objs.size ≠ l := Nat.ne_of_gt (Heap.lt_size hol)
  refine callType_codes (Q₁ := fun v s1 => v = .ref s.heap.objs.size ∧ s1 = { s with heap := s.heap.push { cls := .type "list", data := .seq #[] } }) F.called_list (F.typeCall_list_1 _) F.entry_list_init (code_list_new _ ⟨rfl, rfl⟩) fun v s1 e => ?_
  obtain ⟨rfl, rfl⟩ := e
  have g0 : (s.heap.push { cls := .type "list", data := .seq #[] }).get? s.heap.objs.size = some { cls := .type "list", data := .seq #[] } := Heap.get?_push_size _ rfl
  refine ⟨⟨_, g0, rfl⟩, F.args_list_init_2 _ _, init_lrev (A := A.in1) hh (hit.at fun o e => Heap.get?_push_of_some _ e) (hl.push _) hne hn n1 n2 g0 fun h' tk c acc k g i => ⟨rfl, hQ h' tk c acc (fun b o hb e => k b o hb (Nat.ne_of_lt (Heap.lt_size e)) (Heap.get?_push_of_some _ e)) g i⟩⟩
end
def tLRev (K : PySem.W.Frag) (te : TE) : TE := fun σ H Q => te σ H fun v H1 => ∃ (a : Addr) (ys : List V), v = .ref a ∧ SqL K H1 a ys ∧ ∀ q, H1 q = none → Q (.ref q) (upd H1 q (.lst ys.reverse))
section
variable {X : Cx} {e : Expr} {te : TE} {fe : SE} {p p2 pos pos2 : Pos}
theorem pe_listRev (hc : X.calm = true) (hg : Gl X "list") (hm : X.mg "list" = none) (hg2 : Gl X "reversed") (hm2 : X.mg "reversed" = none) (he : PE X e te) (hs : starEach [e] X.env = (false, eval e X.env) :: starEach [] X.env)
    (hs2 : starEach [.Call (.Name "reversed" p2) [e] [] pos2] X.env = (false, eval (.Call (.Name "reversed" p2) [e] [] pos2) X.env) :: starEach [] X.env) : PE X (.Call (.Name "list" p) [.Call (.Name "reversed" p2) [e] [] pos2] [] pos) (tLRev X.K te) := by
  refine ⟨fun pins s σ H Q I h => ?_⟩
  refine Call_ (ld_blt I hg hm boot_list (PyProof.Rows.callWith_type1 (args_cons (Call_ (ld_blt I hg2 hm2 PyProof.Rows.boot_reversed (PyProof.Rows.callWith_type1 (args_cons (thn (he.run pins s σ H _ I h) fun u s1 ⟨v, H1, I1, r1, q1⟩ => args_nil ?_) hs) hs rfl))) hs2) hs2 rfl))
  obtain ⟨a, ys, rfl, hq, q⟩ := q1
  obtain rfl : u = Value.ref a := r1
  obtain ⟨us, rv, p', hz⟩ := I1.list hq
  refine call_reversed_list p'.isList (args_nil ?_)
  have I2 : Inv X pins σ H1 { s1 with heap := s1.heap.push (revObj a ((us.toArray.size : Int) - 1)) } := I1.kept (t' := s1.toks) fun b o e => Heap.get?_push_of_some _ e
  obtain ⟨f0, f1, f2, f3, f4, f5⟩ := I1.fpOk (H' := H1) (b := s1.heap.objs.size) (Nat.le_refl _) (I1.hok.fresh (Nat.le_refl _))
  have hl := p'.isList
  obtain ⟨ol, hol, _⟩ := id hl
  have hne : a ≠ s1.heap.objs.size := Nat.ne_of_lt (Heap.lt_size hol)
  have hn : us.toArray.size ≤ sizeLine := by rw [List.size_toArray, ← rv.length]; exact hz
  refine call_lrev (s := { s1 with heap := s1.heap.push (revObj a ((us.toArray.size : Int) - 1)) }) (I1.ok.hd hc) ⟨_, Heap.get?_push_size _ rfl, rfl, rfl⟩ (hl.push _) hne hn fun h' tk c acc hk hg' hi => ?_
  have fr : H1 (s1.heap.push (revObj a ((us.toArray.size : Int) - 1))).objs.size = none := I2.hok.fresh (Nat.le_refl _)
  refine ⟨.ref (s1.heap.push (revObj a ((us.toArray.size : Int) - 1))).objs.size, upd H1 (s1.heap.push (revObj a ((us.toArray.size : Int) - 1))).objs.size (.lst ys.reverse), ?_, rfl, q _ fr⟩
  refine I2.turnedNew (t' := tk) (ch := [s1.heap.objs.size]) (fun b o hb eb => hk b o (fun z => hb (by rw [z]; exact List.mem_singleton.mpr rfl)) eb) (fun b hb => ?_) (Nat.le_refl _) ?_
  · rw [List.mem_singleton.mp hb]
    exact ⟨f0, f1, f2, f3, f4, f5⟩
  · exact (show ObjOk X.prog X.w _ h' _ (.lst ys.reverse) from ⟨by rw [List.length_reverse]; exact hz, acc.toList, c, vals_rev rv hi, by rw [Array.toArray_toList]; exact hg'⟩)
theorem DE.listRev (hm : X.mg "list" = none) (hm2 : X.mg "reversed" = none) (he : DE X e te fe) (hc : X.calm = true := by rfl) (hg : Gl X "list" := by rfl) (hg2 : Gl X "reversed" := by rfl) (hs : starEach [e] X.env = (false, eval e X.env) :: starEach [] X.env := by rfl)
    (hs2 : starEach [.Call (.Name "reversed" p2) [e] [] pos2] X.env = (false, eval (.Call (.Name "reversed" p2) [e] [] pos2) X.env) :: starEach [] X.env := by rfl) :
    DE X (.Call (.Name "list" p) [.Call (.Name "reversed" p2) [e] [] pos2] [] pos) (tLRev X.K te) (E.un listRevD fe) := ⟨pe_listRev hc hg hm hg2 hm2 he.pe hs hs2, fun env σ G H d lv s r ef Q k => by
  unfold E.un at ef
  split at ef
  · rename_i d' l ed
    unfold listRevD at ef
    split at ef
    · rename_i ds
      cases ef
      refine he.sm.read s r ed fun v G1 H1 x1 rv => ?_
      unfold Rq at rv
      obtain ⟨b, vs, rfl, t, f⟩ := rv
      exact ⟨b, vs, rfl, SqL.of (x1.gh _ _ t), fun q hq => k.newL x1 f.reverse hq⟩
    · cases ef
  · cases ef⟩
end
end PL

set_option Elab.async false
set_option linter.all false
set_option maxRecDepth 100000
set_option maxHeartbeats 4000000
/-! PL, part p: two rows of a list of one's own changed about. -/
namespace PL
open PySem PySem.Spec PyProof.Rows L2
section
variable {K : PySem.W.Frag} {G0 H0 Gm Hm H G : Hp} {σ : L2.St} {env : Env} {As : Nat → Addr → Prop}
/-- a list that no slot owns is changed -/
theorem RelW.updF (R : RelW K G0 H0 Gm Hm H σ env G As) {p : Addr} {xs ys : List V} (hp : H p = some (.lst xs)) (h0 : H0 p = none) (hg : G p = none) (hn : ∀ j, ¬ As j p) : RelW K G0 H0 Gm Hm (upd H p (.lst ys)) σ env G As := by
  have st : Stay H (upd H p (.lst ys)) := Stay.upd hp
  have off : ∀ j a, As j a → upd H p (.lst ys) a = H a := fun j a h => upd_ne fun z => hn j (z ▸ h)
  refine ⟨⟨R.ext.g, fun a o q => ?_, fun a o q => ?_, R.ext.av⟩, R.gm, R.hm.trans st, R.dj, R.fr, fun j a h => ?_, R.len, fun j d lv e => ?_⟩
  · rw [upd_ne (ne_of_none q h0)]; exact R.ext.h a o q
  · rw [upd_ne (ne_of_none q hg)]; exact R.ext.gh a o q
  · rw [off j a h]; exact R.there j a h
  · obtain ⟨v, h1, h2⟩ := R.own j d lv e
    exact ⟨v, h1, h2.mono (Same.refl _) st fun a ha => off j a ha⟩
/-- a slot of which nothing is known may hold anything -/
theorem RelW.junk (R : RelW K G0 H0 Gm Hm H σ env G As) {m : Nat} (hm : ∀ d lv, env[m]? ≠ some (some (d, lv))) (v : V) : RelW K G0 H0 Gm Hm H (σ.set m (some v)) env G As := by
  refine ⟨R.ext, R.gm, R.hm, R.dj, R.fr, R.there, by rw [List.length_set]; exact R.len, fun j d lv e => ?_⟩
  obtain ⟨u, h1, h2⟩ := R.own j d lv e
  refine ⟨u, ?_, h2⟩
  rw [List.getElem?_set_ne fun z => hm d lv (by rw [z]; exact e)]
  exact h1
theorem TrA.swap {H : Hp} {ds : List D} {vs : List V} {A : Addr → Prop} (t : TrA K H ds vs A) {k l : Nat} {dk dl : D} (hk : ds[k]? = some dk) (hl : ds[l]? = some dl) (hkl : k ≠ l) :
    ∃ vk vl B, vs[k]? = some vk ∧ vs[l]? = some vl ∧ TrA K H ((ds.set k dl).set l dk) ((vs.set k vl).set l vk) B ∧ ∀ a, B a → A a := by
  obtain ⟨vk, Bk, e1, tk, ik, put1⟩ := TrA.lens t hk
  have t1 := put1 H (.int 0) (.int 0) noA (Stay.refl _) (fun _ _ _ => rfl) ⟨rfl, fun _ z => z⟩ fun a z => z.elim
  have hl1 : (ds.set k (.int 0))[l]? = some dl := by rw [List.getElem?_set_ne hkl]; exact hl
  obtain ⟨vl, Bl, e2, tl, il, put2⟩ := TrA.lens t1 hl1
  have t2 := put2 H dk vk Bk (Stay.refl _) (fun _ _ _ => rfl) tk fun a ha => .inr fun z => z.elim (fun q => q.2 ha) id
  have hk2 : ((ds.set k (.int 0)).set l dk)[k]? = some (.int 0) := by
    rw [List.getElem?_set_ne (Ne.symm hkl), List.getElem?_set_self (List.getElem?_eq_some_iff.mp hk).1]
  have ll : ∀ a, Bl a → A a ∧ ¬ Bk a := fun a ha => (il a ha).elim id False.elim
  obtain ⟨v0, B0, e3, t0, i0, put3⟩ := TrA.lens t2 hk2
  have n0 : ∀ a, ¬ B0 a := t0.2
  have t3 := put3 H dl vl Bl (Stay.refl _) (fun _ _ _ => rfl) tl fun a ha => .inr fun z => z.elim (fun q => q.2 ha) fun q => (ll a ha).2 q
  have sw : ∀ {α : Type} (xs : List α) (z x y : α), ((xs.set k z).set l x).set k y = (xs.set k y).set l x := fun xs z x y => by
    rw [List.set_comm _ _ (Ne.symm hkl), List.set_set]
  rw [sw, sw] at t3
  have e2' : vs[l]? = some vl := by rwa [List.getElem?_set_ne hkl] at e2
  refine ⟨vk, vl, _, e1, e2', t3, fun a ha => ?_⟩
  rcases ha with ⟨ha, _⟩ | ha
  · rcases ha with ⟨ha, _⟩ | ha
    · exact ha.elim And.left False.elim
    · exact ik a ha
  · exact (ll a ha).1
end
namespace S
/-- y = x[k]; x[k] = x[l]; x[l] = y -/
def swap3 (i m : Nat) (fk fl : SE) : SS := fun env => match env[i]?, fk ((env.set m none).set i none), fl ((env.set m none).set i none) with
  | some (some (.lst ds, .full)), some (.int k, _), some (.int l, _) => (match ixN ds.length k, ixN ds.length l with
    | some a, some b => (match ds[a]?, ds[b]? with
      | some x, some y => if a ≠ b ∧ i ≠ m ∧ m < env.length then some (.next ((env.set m none).set i (some (.lst ((ds.set a y).set b x), .full)))) else none
      | _, _ => none)
    | _, _ => none)
  | _, _, _ => none
end S
section
variable {K : PySem.W.Frag} {mg : Str → Option Value} {W : WX} {tk tl : TE} {fk fl : SE} {i m : Nat}
theorem upd_upd {H : Hp} {p : Addr} {a b : HO} : upd (upd H p a) p b = upd H p b := by
  funext q
  by_cases h : q = p
  · subst h; rw [upd_same, upd_same]
  · rw [upd_ne h, upd_ne h, upd_ne h]
theorem SmS.swap3 (hk : Sm K tk fk) (hl : Sm K tl fl) : SmS K mg W (tSeq (tAsg (tOp (rIx K) (tVar i) tk) (gName m)) (tSeq (tAsg (tOp (rIx K) (tVar i) tl) (gSub (tVar i) tk rSetL)) (tAsg (tVar m) (gSub (tVar i) tl rSetL)))) (S.swap3 i m fk fl) := fun Dn G0 H0 Gm Hm σ H env r R e F => by
  obtain ⟨G, As, R⟩ := R
  unfold S.swap3 at e
  split at e
  · rename_i ds k lk l ll ei ek el
    split at e
    · rename_i a b ea eb
      split at e
      · rename_i x y ex ey
        split at e
        · rename_i hc
          obtain ⟨hab, him, hml⟩ := hc
          cases e
          have R1 := R.kill m
          have ei1 : (env.set m none)[i]? = some (some (.lst ds, .full)) := by rw [List.getElem?_set_ne (Ne.symm him)]; exact ei
          obtain ⟨v, h1, o⟩ := R1.own i _ _ ei1
          obtain ⟨p, vs, B, rfl, hp, t, nb, ia⟩ := own_tree o
          have vl : vs.length = ds.length := t.length
          obtain ⟨vx, vy, B', hx, hy, tsw, ib⟩ := TrA.swap t ex ey hab
          have pA : As i p := by have := (ia p).mpr (.inl rfl); simpa only [if_neg him] using this
          have Rk : RelW K G0 H0 Gm Hm H σ ((env.set m none).set i none) G _ := R1.kill i
          refine ⟨.ref p, h1, hk.int Rk ek fun H1 s1 => .inl ⟨p, vs, k, vx, rfl, rfl, SqL.of (s1 _ _ hp), atI_of (by rw [vl]; exact ea) hx, ?_⟩⟩
          have jk : ∀ d lv, ((env.set m none).set i none)[m]? ≠ some (some (d, lv)) := fun d lv z => by
            rw [List.getElem?_set_ne him] at z
            rw [List.getElem?_set] at z
            rw [if_pos rfl] at z
            split at z <;> cases z
          have R2 := (Rk.heap s1).junk jk vx
          have h2 : (σ.set m (some vx))[i]? = some (some (.ref p)) := by rw [List.getElem?_set_ne (Ne.symm him)]; exact h1
          have h3 : (σ.set m (some vx))[m]? = some (some vx) := List.getElem?_set_self (by rw [R.len]; exact hml)
          refine ⟨.ref p, h2, hl.int R2 el fun H2 s2 => .inl ⟨p, vs, l, vy, rfl, rfl, SqL.of (s2 _ _ (s1 _ _ hp)), atI_of (by rw [vl]; exact eb) hy, .ref p, h2, hk.int (R2.heap s2) ek fun H3 s3 => ⟨p, vs, k, a, rfl, rfl, s3 _ _ (s2 _ _ (s1 _ _ hp)), by rw [vl]; exact ea, ?_⟩⟩⟩
          have s13 := (s1.trans s2).trans s3
          have R3 := ((R2.heap s2).heap s3).updF (ys := vs.set a vy) (s13 _ _ hp) (R.fr i p pA).2 (R.fr i p pA).1 (fun j z => by
            by_cases hj : j = i
            · simp only [if_pos hj] at z
              exact z
            · simp only [if_neg hj] at z
              by_cases hm : j = m
              · simp only [if_pos hm] at z
                exact z
              · simp only [if_neg hm] at z
                exact hj (R.dj j i p z pA))
          refine ⟨vx, h3, .ref p, h2, hl.int R3 el fun H4 s4 => ?_⟩
          have hp4 : H4 p = some (.lst (vs.set a vy)) := s4 _ _ upd_same
          have s5 : Same H (upd H4 p (.lst vs)) := fun c o' q => by
            by_cases hcp : c = p
            · subst hcp
              rw [upd_same]
              rw [hp] at q
              exact q
            · rw [upd_ne hcp]
              exact s4 _ _ (by rw [upd_ne hcp]; exact s13 _ _ q)
          have jk1 : ∀ d lv, (env.set m none)[m]? ≠ some (some (d, lv)) := fun d lv z => by
            rw [List.getElem?_set] at z
            rw [if_pos rfl] at z
            split at z <;> cases z
          have R5 := (R1.heap s5).junk jk1 vx
          have R6 := R5.mut (i := i) (p := p) (ys := (vs.set a vy).set b vx) (d := .lst ((ds.set a y).set b x)) (lv := .full) (A := fun c => c = p ∨ B' c) h2 ((ia p).mpr (.inl rfl)) (fun c hc => .inl ((ia c).mpr (hc.elim .inl fun q => .inr (ib c q)))) (tree_own upd_same ((TrA.same s5 tsw).upd upd_same fun z => nb (ib p z)) (fun z => nb (ib p z)) (fun c => Iff.rfl))
          rw [upd_upd] at R6
          exact ⟨p, vs.set a vy, l, b, rfl, rfl, hp4, by rw [List.length_set, vl]; exact eb, F _ _ ⟨G, _, R6⟩⟩
        · cases e
      · cases e
    · cases e
  · cases e
end
section
variable {X : Cx} {W : WX} {s1 s2 s3 : Stmt} {rest : List Stmt} {tk tl : TE} {fk fl : SE} {u : TS} {g : SS} {ek el ek' el' : Expr}
theorem DSs.swap3 (i m : Nat) (hk : DE X ek tk fk) (hk' : DE X ek' tk fk) (hl : DE X el tl fl) (hl' : DE X el' tl fl) (p1 : PE X ek tk → PS X s1 (tAsg (tOp (rIx X.K) (tVar i) tk) (gName m))) (p2 : PE X ek' tk → PE X el tl → PS X s2 (tAsg (tOp (rIx X.K) (tVar i) tl) (gSub (tVar i) tk rSetL))) (p3 : PE X el' tl → PS X s3 (tAsg (tVar m) (gSub (tVar i) tl rSetL)))
    (h : DSs X W rest u g) : DSs X W (s1 :: s2 :: s3 :: rest) (tSeq (tAsg (tOp (rIx X.K) (tVar i) tk) (gName m)) (tSeq (tAsg (tOp (rIx X.K) (tVar i) tl) (gSub (tVar i) tk rSetL)) (tSeq (tAsg (tVar m) (gSub (tVar i) tl rSetL)) u))) (S.seq (S.swap3 i m fk fl) g) :=
  ⟨pss_cons (p1 hk.pe) (pss_cons (p2 hk'.pe hl.pe) (pss_cons (p3 hl'.pe) h.pss)), fun Dn G0 H0 Gm Hm σ H env r R e F => SmS.seq (SmS.swap3 (i := i) (m := m) hk.sm hl.sm) h.sm Dn G0 H0 Gm Hm σ H env r R e F⟩
end
end PL

set_option Elab.async false
set_option linter.all false
set_option maxRecDepth 100000
set_option maxHeartbeats 4000000
/-! PL, part q: a sign told many times. -/
namespace PL
open PySem PySem.Spec PyProof.Rows L2
def repStr (z : Str) (n : Nat) : Str := ⟨(List.replicate n z.cps).foldl (· ++ ·) #[]⟩
def repSD : D → D → Option (D × Lv)
  | .str z, .int n => if 2 ≤ n ∧ n ≤ 1000 ∧ z.length = 1 ∧ (repStr z n.toNat).length ≤ 1000000 then some (.str (repStr z n.toNat), .full) else none
  | _, _ => none
def rRepStr : R2 := fun x y H Q => ∃ (z : Str) (n : Int), x = .str z ∧ y = .int n ∧ 2 ≤ n ∧ n ≤ 1000 ∧ z.length = 1 ∧ (repStr z n.toNat).length ≤ 1000000 ∧ Q (.str (repStr z n.toNat)) H
section
variable {X : Cx} {K : PySem.W.Frag}
theorem op_repStr : OpR X (binaryOp .Mult) rRepStr := by
  intro pins s σ H x y v u Q I rx ry h
  obtain ⟨z, n, rfl, rfl, h1, h2, h3, h4, q⟩ := h
  obtain ⟨t, rfl⟩ := rx
  obtain ⟨t', rfl⟩ := ry
  have c0 : ¬ n < 1 := by omega
  have c1 : (n == 1 || z.length == 0) = false := by
    rw [h3]
    have : (n == 1) = false := by
      rw [beq_eq_false_iff_ne]; omega
    rw [this]; rfl
  refine P.mul_str (by
    rw [decide_eq_false (by omega), decide_eq_false (by omega)]; rfl) (fun _ _ => ?_) (fun _ _ => ?_) ?_
  · rw [h3]
    have : (1 : Int) ≤ (2 ^ 63 - 1) / n := by
      rw [Int.le_ediv_iff_mul_le (by omega)]
      omega
    exact Int.not_lt.mpr this
  · rw [h3, Nat.one_mul]
    unfold Builtin.Str.tooLong
    refine decide_eq_false ?_
    have := line_of (n := n.toNat) (by omega)
    omega
  · rw [if_neg c0, if_neg (by rw [c1]; decide)]
    exact ⟨line_of h4, .str (repStr z n.toNat), H, I.tok _, ⟨_, rfl⟩, q⟩
theorem r2_repStr : R2Ok K rRepStr repSD := fun G H x y d e z lv s rx ry o Q p => by
  unfold repSD at o
  split at o
  · rename_i w n
    split at o
    · rename_i hc
      cases o
      cases (show x = .str w from rx)
      cases rq_int ry
      exact ⟨w, n, rfl, rfl, hc.1, hc.2.1, hc.2.2.1, hc.2.2.2, p.str (Ext.refl s)⟩
    · cases o
  · cases o
end
section
variable {X : Cx} {a b : Expr} {ta tb : TE} {fa fb : SE} {pos : Pos}
theorem DE.repS (ha : DE X a ta fa) (hb : DE X b tb fb) : DE X (.BinOp a .Mult b pos) (tOp rRepStr ta tb) (E.bin repSD fa fb) := DE.binop op_repStr r2_repStr ha hb
end
end PL

set_option Elab.async false
set_option linter.all false
set_option maxRecDepth 100000
set_option maxHeartbeats 4000000
/-! PL, part r: the rows of a list of one's own are shared from now on; the list stays one's own. -/
namespace PL
open PySem PySem.Spec PyProof.Rows L2
section
variable {K : PySem.W.Frag} {G0 H0 Gm Hm H G : Hp} {σ : L2.St} {env : Env} {As : Nat → Addr → Prop} {ds : List D}
theorem RelW.outr (R : RelW K G0 H0 Gm Hm H σ env G As) (i : Nat) (hi : env[i]? = some (some (.lst ds, .full))) : Rel K G0 H0 Gm Hm H σ (env.set i (some (.lst ds, .out))) := by
  obtain ⟨v, h1, o⟩ := R.own i _ _ hi
  obtain ⟨p, vs, B, rfl, hp, t, nb, ia⟩ := own_tree o
  have bi : ∀ a, B a → As i a := fun a h => (ia a).mpr (.inr h)
  have pi : As i p := (ia p).mpr (.inl rfl)
  have gs : Same G (glue G H B) := glue_same fun a ha => (R.fr i a (bi a ha)).1
  refine ⟨glue G H B, fun j => if j = i then (fun a => a = p) else As j, ⟨R.ext.g.trans gs, R.ext.h, fun a o q => ?_, fun a h1 h2 => ?_⟩, R.gm.trans gs, R.hm, fun j k a h1 h2 => ?_, fun j a h => ?_, fun j a h => ?_, by rw [List.length_set, R.len], fun j d' lv' e => ?_⟩
  · by_cases ha : B a
    · rw [glue_at ha] at q; exact q
    · rw [glue_off ha] at q; exact R.ext.gh a o q
  · by_cases ha : B a
    · exact absurd (R.fr i a (bi a ha)).2 h1
    · rw [glue_off ha]; exact R.ext.av a h1 h2
  · by_cases hj : j = i
    · by_cases hk : k = i
      · rw [hj, hk]
      · simp only [if_pos hj, if_neg hk] at h1 h2
        exact absurd (R.dj k i a h2 (h1 ▸ pi)) hk
    · by_cases hk : k = i
      · simp only [if_neg hj, if_pos hk] at h1 h2
        exact absurd (R.dj j i a h1 (h2 ▸ pi)) hj
      · simp only [if_neg hj, if_neg hk] at h1 h2
        exact R.dj j k a h1 h2
  · by_cases hj : j = i
    · simp only [if_pos hj] at h
      subst h
      exact ⟨(glue_off nb).trans (R.fr i _ pi).1, (R.fr i _ pi).2⟩
    · simp only [if_neg hj] at h
      refine ⟨?_, (R.fr j a h).2⟩
      rw [glue_off (fun z => hj (R.dj j i a h (bi a z)))]
      exact (R.fr j a h).1
  · by_cases hj : j = i
    · simp only [if_pos hj] at h
      subst h
      exact ⟨vs, hp⟩
    · simp only [if_neg hj] at h
      exact R.there j a h
  · rw [List.getElem?_set] at e
    by_cases hj : i = j
    · rw [if_pos hj] at e
      split at e
      · cases e
        subst hj
        refine ⟨.ref p, h1, ?_⟩
        simp only [if_true]
        exact ⟨ds, p, vs, rfl, rfl, hp, TrA.rq (fun a ha => glue_at ha) t, fun a => Iff.rfl⟩
      · cases e
    · rw [if_neg hj] at e
      obtain ⟨u, h1, h2⟩ := R.own j d' lv' e
      refine ⟨u, h1, ?_⟩
      simp only [if_neg (Ne.symm hj)]
      exact h2.mono gs (Stay.refl _) fun _ _ => rfl
end
namespace S
def outr (i : Nat) (g : SS) : SS := fun env => match env[i]? with
  | some (some (.lst ds, .full)) => g (env.set i (some (.lst ds, .out)))
  | _ => none
end S
section
variable {X : Cx} {W : WX} {st : Stmt} {t : TS} {g : SS}
theorem DS.outr (i : Nat) (h : DS X W st t g) : DS X W st t (S.outr i g) := ⟨h.ps, fun Dn G0 H0 Gm Hm σ H env r R e F => by
  obtain ⟨G, As, R⟩ := R
  unfold S.outr at e
  split at e
  · rename_i ds ed
    exact h.sm Dn G0 H0 Gm Hm σ H _ r (R.outr i ed) e F
  · cases e⟩
end
end PL

set_option Elab.async false
set_option linter.all false
set_option maxRecDepth 100000
set_option maxHeartbeats 4000000
/-! The meanings of the defs, printed by gen.py. -/
namespace PM
open PySem PL
def b1_is_square : SS :=
  (S.ite (E.or (E.bin neD (E.blt lenD [(E.var 1)]) (E.blt lenD [(E.var 0)])) (E.not (E.blt allD [(E.comp (E.iList (E.var 1)) [2] [2] (E.c (.bl true)) (E.or (E.bin eqD (E.var 2) (E.c (.int 1))) (E.bin eqD (E.var 2) (E.un negD (E.c (.int 1))))))]))) (S.ret (Xo.of (E.c (.bl false)))) S.nxt)
def g_is_square : SS :=
  (S.seq (S.ite (E.not (E.chain leD leD (E.c (.int 1)) (E.blt lenD [(E.var 0)]) (E.c (.int 24)))) (S.ret (Xo.of (E.c (.bl false)))) S.nxt)
  (S.seq (S.forL (E.iList (E.var 0)) [1] [1] b1_is_square)
  (S.ret (Xo.of (E.c (.bl true))))))
def F_is_square : List D → Option Out := runB g_is_square 3
def g_product_sum : SS :=
  (S.ret (Xo.of (E.blt sumD [(E.comp (E.iZip [(E.var 0), (E.var 1)]) [2, 3] [2, 3] (E.c (.bl true)) (E.bin mulD (E.var 2) (E.var 3)))])))
def F_product_sum : List D → Option Out := runB g_product_sum 4
def b2_balanced : SS :=
  (S.ite (E.bin neD (E.call F_product_sum [(E.bin ixD (E.var 0) (E.var 1)), (E.bin ixD (E.var 0) (E.var 2))]) (E.c (.int 0))) (S.ret (Xo.of (E.c (.bl false)))) S.nxt)
def b1_balanced : SS :=
  (S.forR (E.iRng1 [(E.var 1)]) [2] [2] b2_balanced)
def g_balanced : SS :=
  (S.seq (S.forR (E.iRng1 [(E.blt lenD [(E.var 0)])]) [1] [1, 2] b1_balanced)
  (S.ret (Xo.of (E.c (.bl true)))))
def F_balanced : List D → Option Out := runB g_balanced 3
def g_is_table : SS :=
  (S.ret (Xo.of (E.and (E.call F_is_square [(E.var 0)]) (E.call F_balanced [(E.var 0)]))))
def F_is_table : List D → Option Out := runB g_is_table 1
def g__law_cell_at : SS :=
  (S.seq (S.ite (E.bin ltD (E.var 1) (E.blt lenD [(E.var 0)])) (S.ret (Xo.of (E.bin ixD (E.var 0) (E.var 1)))) S.nxt)
  (S.ret (Xo.of (E.c (.int 0)))))
def F__law_cell_at : List D → Option Out := runB g__law_cell_at 2
def g__law_stir : SS :=
  (S.seq (S.set 0 (Xo.of (E.bin modD (E.bin addD (E.var 0) (E.c (.int 7919))) (E.c (.int 2147483647)))))
  (S.ret (Xo.of (E.bin modD (E.bin addD (E.bin addD (E.bin mulD (E.var 0) (E.var 0)) (E.bin mulD (E.c (.int 48271)) (E.var 0))) (E.c (.int 12345))) (E.c (.int 2147483629))))))
def F__law_stir : List D → Option Out := runB g__law_stir 1
def g__law_doubled : SS :=
  (S.seq (S.set 1 (Xo.of (E.comp (E.iList (E.var 0)) [2] [2] (E.c (.bl true)) (E.bin addD (E.var 2) (E.var 2)))))
  (S.frz 1 (S.ret (Xo.of (E.bin addD (E.var 1) (E.comp (E.iList (E.var 0)) [2] [2] (E.c (.bl true)) (E.bin addD (E.var 2) (E.comp (E.iList (E.var 2)) [3] [3] (E.c (.bl true)) (E.un negD (E.var 3))))))))))
def F__law_doubled : List D → Option Out := runB g__law_doubled 4
def b2__law_by_prime : SS :=
  (S.app 4 (E.ite (E.bin (inTD false) (E.bin modD (E.bin subD (E.var 5) (E.var 3)) (E.var 0)) (E.var 1)) (E.c (.int 1)) (E.un negD (E.c (.int 1)))))
def b1__law_by_prime : SS :=
  (S.seq (S.set 4 (Xo.of (E.list [(E.c (.int 1))])))
  (S.seq (S.forR (E.iRng1 [(E.var 0)]) [5] [5] b2__law_by_prime)
  (S.appN 2 4)))
def g__law_by_prime : SS :=
  (S.seq (S.set 1 (Xo.of (E.comp (E.iRng2 [(E.c (.int 1)), (E.var 0)]) [3] [3] (E.c (.bl true)) (E.bin modD (E.bin mulD (E.var 3) (E.var 3)) (E.var 0)))))
  (S.seq (S.set 2 (Xo.of (E.list [(E.comp (E.iRng1 [(E.bin addD (E.var 0) (E.c (.int 1)))]) [3] [3] (E.c (.bl true)) (E.c (.int 1)))])))
  (S.seq (S.forR (E.iRng1 [(E.var 0)]) [3] [3, 4, 5] b1__law_by_prime)
  (S.retN 2))))
def F__law_by_prime : List D → Option Out := runB g__law_by_prime 6
def b1__law_plain_table : SS :=
  (S.frz 1 (S.set 1 (Xo.call F__law_doubled [(E.var 1)])))
def g__law_plain_table : SS :=
  (S.seq (S.ite (E.or (E.bin eqD (E.var 0) (E.c (.int 12))) (E.bin eqD (E.var 0) (E.c (.int 20)))) (S.ret (Xo.call F__law_by_prime [(E.bin subD (E.var 0) (E.c (.int 1)))])) S.nxt)
  (S.seq (S.ite (E.bin eqD (E.var 0) (E.c (.int 24))) (S.ret (Xo.call F__law_doubled [(E.call F__law_by_prime [(E.c (.int 11))])])) S.nxt)
  (S.seq (S.set 1 (Xo.of (E.list [(E.list [(E.c (.int 1))])])))
  (S.seq (S.whileGo (E.bin ltD (E.blt lenD [(E.var 1)]) (E.var 0)) b1__law_plain_table 40)
  (S.retN 1)))))
def F__law_plain_table : List D → Option Out := runB g__law_plain_table 2
def b1__law_shuffled : SS :=
  (S.seq (S.ins 4 (E.bin modD (E.bin fdivD (E.call F__law_stir [(E.bin addD (E.call F__law_cell_at [(E.var 0), (E.var 1)]) (E.var 6))]) (E.c (.int 7))) (E.bin addD (E.var 6) (E.c (.int 1)))) (E.var 6))
  (S.ins 5 (E.bin modD (E.bin fdivD (E.call F__law_stir [(E.bin addD (E.call F__law_cell_at [(E.var 0), (E.bin addD (E.var 1) (E.c (.int 1)))]) (E.var 6))]) (E.c (.int 7))) (E.bin addD (E.var 6) (E.c (.int 1)))) (E.var 6)))
def b3__law_shuffled : SS :=
  (S.app 9 (E.bin mulD (E.bin mulD (E.bin ixD (E.bin ixD (E.var 2) (E.var 6)) (E.var 10)) (E.var 8)) (E.bin subD (E.c (.int 1)) (E.bin mulD (E.bin modD (E.bin fdivD (E.call F__law_stir [(E.bin addD (E.call F__law_cell_at [(E.var 0), (E.bin addD (E.var 1) (E.c (.int 3)))]) (E.var 10))]) (E.c (.int 7))) (E.c (.int 2))) (E.c (.int 2))))))
def b2__law_shuffled : SS :=
  (S.seq (S.set 8 (Xo.of (E.bin subD (E.c (.int 1)) (E.bin mulD (E.bin modD (E.bin fdivD (E.call F__law_stir [(E.bin addD (E.call F__law_cell_at [(E.var 0), (E.bin addD (E.var 1) (E.c (.int 2)))]) (E.var 6))]) (E.c (.int 7))) (E.c (.int 2))) (E.c (.int 2))))))
  (S.seq (S.set 9 (Xo.of (E.list [])))
  (S.seq (S.forL (E.iList (E.var 5)) [10] [10] b3__law_shuffled)
  (S.appN 7 9))))
def g__law_shuffled : SS :=
  (S.seq (S.set 3 (Xo.of (E.blt lenD [(E.var 2)])))
  (S.seq (S.set 4 (Xo.of (E.list [])))
  (S.seq (S.set 5 (Xo.of (E.list [])))
  (S.seq (S.forR (E.iRng1 [(E.var 3)]) [6] [6] b1__law_shuffled)
  (S.seq (S.set 7 (Xo.of (E.list [])))
  (S.seq (S.frz 5 (S.frz 4 (S.forL (E.iList (E.var 4)) [6] [6, 8, 9, 10] b2__law_shuffled)))
  (S.retN 7)))))))
def F__law_shuffled : List D → Option Out := runB g__law_shuffled 11
def g__law_table : SS :=
  (S.seq (S.set 3 (Xo.of (E.comp (E.iList (E.list [(E.c (.int 4)), (E.c (.int 8)), (E.c (.int 1)), (E.c (.int 2)), (E.c (.int 12)), (E.c (.int 16)), (E.c (.int 20)), (E.c (.int 24))])) [4] [4] (E.bin leD (E.var 4) (E.var 2)) (E.var 4))))
  (S.seq (S.set 4 (Xo.of (E.bin ixD (E.var 3) (E.bin modD (E.call F__law_cell_at [(E.var 0), (E.var 1)]) (E.blt lenD [(E.var 3)])))))
  (S.ret (Xo.call F__law_shuffled [(E.var 0), (E.bin addD (E.var 1) (E.c (.int 1))), (E.call F__law_plain_table [(E.var 4)])]))))
def F__law_table : List D → Option Out := runB g__law_table 5
def b2__law_square : SS :=
  (S.seq (S.set 8 (Xo.call F__law_stir [(E.bin addD (E.bin addD (E.call F__law_cell_at [(E.var 0), (E.bin addD (E.bin addD (E.var 1) (E.c (.int 1))) (E.bin modD (E.bin addD (E.var 5) (E.var 7)) (E.c (.int 4))))]) (E.bin mulD (E.c (.int 101)) (E.var 5))) (E.var 7))]))
  (S.app 6 (E.bin subD (E.c (.int 1)) (E.bin mulD (E.bin modD (E.bin fdivD (E.var 8) (E.c (.int 7))) (E.c (.int 2))) (E.c (.int 2))))))
def b1__law_square : SS :=
  (S.seq (S.set 6 (Xo.of (E.list [])))
  (S.seq (S.forR (E.iRng1 [(E.var 3)]) [7] [7, 8] b2__law_square)
  (S.appN 4 6)))
def g__law_square : SS :=
  (S.seq (S.set 3 (Xo.of (E.bin addD (E.c (.int 1)) (E.bin modD (E.call F__law_cell_at [(E.var 0), (E.var 1)]) (E.var 2)))))
  (S.seq (S.set 4 (Xo.of (E.list [])))
  (S.seq (S.forR (E.iRng1 [(E.var 3)]) [5] [5, 6, 7, 8] b1__law_square)
  (S.retN 4))))
def F__law_square : List D → Option Out := runB g__law_square 9
def b1__law_good_square : SS :=
  (S.ite (E.or (E.bin neD (E.blt lenD [(E.var 1)]) (E.blt lenD [(E.var 0)])) (E.bin neD (E.bin addD (E.bin mcountD (E.var 1) (E.c (.int 1))) (E.bin mcountD (E.var 1) (E.un negD (E.c (.int 1))))) (E.blt lenD [(E.var 1)]))) (S.ret (Xo.of (E.c (.bl false)))) S.nxt)
def g__law_good_square : SS :=
  (S.seq (S.ite (E.not (E.chain leD leD (E.c (.int 1)) (E.blt lenD [(E.var 0)]) (E.c (.int 24)))) (S.ret (Xo.of (E.c (.bl false)))) S.nxt)
  (S.seq (S.forL (E.iList (E.var 0)) [1] [1] b1__law_good_square)
  (S.ret (Xo.of (E.c (.bl true))))))
def F__law_good_square : List D → Option Out := runB g__law_good_square 2
def b2__law_balanced : SS :=
  (S.ite (E.bin neD (E.blt sumD [(E.comp (E.iZip [(E.bin ixD (E.var 0) (E.var 1)), (E.bin ixD (E.var 0) (E.var 2))]) [3, 4] [3, 4] (E.c (.bl true)) (E.bin mulD (E.var 3) (E.var 4)))]) (E.c (.int 0))) (S.ret (Xo.of (E.c (.bl false)))) S.nxt)
def b1__law_balanced : SS :=
  (S.forR (E.iRng1 [(E.var 1)]) [2] [2] b2__law_balanced)
def g__law_balanced : SS :=
  (S.seq (S.forR (E.iRng1 [(E.blt lenD [(E.var 0)])]) [1] [1, 2] b1__law_balanced)
  (S.ret (Xo.of (E.c (.bl true)))))
def F__law_balanced : List D → Option Out := runB g__law_balanced 5
def g__law_copy : SS :=
  (S.ret (Xo.of (E.comp (E.iList (E.var 0)) [1] [1] (E.c (.bl true)) (E.blt listC [(E.var 1)]))))
def F__law_copy : List D → Option Out := runB g__law_copy 2
def g__law_spoilt : SS :=
  (S.seq (S.set 3 (Xo.call F__law_copy [(E.var 0)]))
  (S.seq (S.ite (E.bin eqD (E.blt lenD [(E.var 3)]) (E.c (.int 0))) (S.retN 3) S.nxt)
  (S.seq (S.set 4 (Xo.of (E.bin modD (E.var 2) (E.blt lenD [(E.var 3)]))))
  (S.seq (S.set 5 (Xo.of (E.bin modD (E.bin fdivD (E.var 2) (E.c (.int 32))) (E.blt max2D [(E.c (.int 1)), (E.blt lenD [(E.bin ixD (E.var 3) (E.var 4))])]))))
  (S.seq (S.ite (E.and (E.bin eqD (E.var 1) (E.c (.int 0))) (E.bin gtD (E.blt lenD [(E.bin ixD (E.var 3) (E.var 4))]) (E.c (.int 0)))) (S.setIx2 3 (E.var 4) (E.var 5) (E.un negD (E.bin ixD (E.bin ixD (E.var 3) (E.var 4)) (E.var 5)))) S.nxt)
  (S.seq (S.ite (E.and (E.bin eqD (E.var 1) (E.c (.int 1))) (E.bin gtD (E.blt lenD [(E.bin ixD (E.var 3) (E.var 4))]) (E.c (.int 0)))) (S.setIx2 3 (E.var 4) (E.var 5) (E.bin ixD (E.list [(E.c (.int 0)), (E.c (.int 2)), (E.bin addD (E.c (.int 3)) (E.bin modD (E.bin fdivD (E.var 2) (E.c (.int 1024))) (E.bin powD (E.c (.int 10)) (E.c (.int 20))))), (E.bin subD (E.un negD (E.c (.int 2))) (E.bin modD (E.bin fdivD (E.var 2) (E.c (.int 1024))) (E.bin powD (E.c (.int 10)) (E.c (.int 20)))))]) (E.bin modD (E.bin fdivD (E.var 2) (E.c (.int 31))) (E.c (.int 4))))) S.nxt)
  (S.seq (S.ite (E.bin eqD (E.var 1) (E.c (.int 2))) (S.app2 3 (E.var 4) (E.c (.int 1))) S.nxt)
  (S.seq (S.ite (E.and (E.bin eqD (E.var 1) (E.c (.int 3))) (E.bin gtD (E.blt lenD [(E.bin ixD (E.var 3) (E.var 4))]) (E.c (.int 0)))) (S.popAt2 3 (E.var 4) (E.var 5)) S.nxt)
  (S.seq (S.ite (E.bin eqD (E.var 1) (E.c (.int 4))) (S.setIx 3 (E.var 4) (E.list [])) S.nxt)
  (S.seq (S.ite (E.bin eqD (E.var 1) (E.c (.int 5))) (S.popAt 3 (E.var 4)) S.nxt)
  (S.seq (S.ite (E.bin eqD (E.var 1) (E.c (.int 6))) (S.ins 3 (E.var 4) (E.blt listC [(E.bin ixD (E.var 3) (E.var 4))])) S.nxt)
  (S.seq (S.ite (E.bin eqD (E.var 1) (E.c (.int 7))) (S.seq (S.set 6 (Xo.of (E.bin ixD (E.list [(E.c (.int 0)), (E.c (.int 25)), (E.c (.int 28)), (E.c (.int 0))]) (E.bin modD (E.bin fdivD (E.var 2) (E.c (.int 32))) (E.c (.int 4))))))
  (S.set 3 (Xo.of (E.comp (E.iRng1 [(E.var 6)]) [7] [7] (E.c (.bl true)) (E.comp (E.iRng1 [(E.var 6)]) [8] [8] (E.c (.bl true)) (E.c (.int 1))))))) S.nxt)
  (S.retN 3)))))))))))))
def F__law_spoilt : List D → Option Out := runB g__law_spoilt 9
def g_must_be_square : SS :=
  (S.ite (E.not (E.call F_is_square [(E.var 0)])) (S.raise "NoSquare") S.nxt)
def F_must_be_square : List D → Option Out := runB g_must_be_square 1
def g_must_be_table : SS :=
  (S.seq (S.drop (Xo.call F_must_be_square [(E.var 0)]))
  (S.ite (E.not (E.call F_balanced [(E.var 0)])) (S.raise "NoTable") S.nxt))
def F_must_be_table : List D → Option Out := runB g_must_be_table 1
def g_plain_by : SS :=
  (S.seq (S.set 1 (Xo.of (E.comp (E.iRng1 [(E.blt lenD [(E.var 0)])]) [2] [2] (E.c (.bl true)) (E.comp (E.iRng1 [(E.blt lenD [(E.var 0)])]) [4] [4] (E.c (.bl true)) (E.bin mulD (E.bin ixD (E.bin ixD (E.var 0) (E.var 2)) (E.var 4)) (E.bin ixD (E.bin ixD (E.var 0) (E.c (.int 0))) (E.var 4)))))))
  (S.ret (Xo.of (E.comp (E.iList (E.var 1)) [3] [3] (E.c (.bl true)) (E.comp (E.iList (E.var 3)) [5] [5] (E.c (.bl true)) (E.bin mulD (E.var 5) (E.bin ixD (E.var 3) (E.c (.int 0)))))))))
def F_plain_by : List D → Option Out := runB g_plain_by 6
def g_plain : SS :=
  (S.seq (S.drop (Xo.call F_must_be_table [(E.var 0)]))
  (S.ret (Xo.call F_plain_by [(E.var 0)])))
def F_plain : List D → Option Out := runB g_plain 1
def g_turned_over : SS :=
  (S.seq (S.drop (Xo.call F_must_be_table [(E.var 0)]))
  (S.ret (Xo.of (E.comp (E.iRng1 [(E.blt lenD [(E.var 0)])]) [1] [1] (E.c (.bl true)) (E.comp (E.iRng1 [(E.blt lenD [(E.var 0)])]) [2] [2] (E.c (.bl true)) (E.bin ixD (E.bin ixD (E.var 0) (E.var 2)) (E.var 1)))))))
def F_turned_over : List D → Option Out := runB g_turned_over 3
def b3_product_by : SS :=
  (S.ext 5 (E.comp (E.iList (E.var 4)) [7] [7] (E.c (.bl true)) (E.bin mulD (E.var 6) (E.var 7))))
def b2_product_by : SS :=
  (S.seq (S.set 5 (Xo.of (E.list [])))
  (S.seq (S.forL (E.iList (E.var 3)) [6] [6] b3_product_by)
  (S.appN 2 5)))
def b1_product_by : SS :=
  (S.forL (E.iList (E.var 1)) [4] [4, 5, 6] b2_product_by)
def g_product_by : SS :=
  (S.seq (S.set 2 (Xo.of (E.list [])))
  (S.seq (S.forL (E.iList (E.var 0)) [3] [3, 4, 5, 6] b1_product_by)
  (S.retN 2)))
def F_product_by : List D → Option Out := runB g_product_by 8
def g_product : SS :=
  (S.seq (S.drop (Xo.call F_must_be_table [(E.var 0)]))
  (S.seq (S.drop (Xo.call F_must_be_table [(E.var 1)]))
  (S.seq (S.ite (E.bin gtD (E.bin mulD (E.blt lenD [(E.var 0)]) (E.blt lenD [(E.var 1)])) (E.c (.int 24))) (S.raise "TooGreat") S.nxt)
  (S.ret (Xo.call F_product_by [(E.var 0), (E.var 1)])))))
def F_product : List D → Option Out := runB g_product 2
def b3_determinant : SS :=
  (S.setIx2 1 (E.var 7) (E.var 9) (E.bin fdivWD (E.bin subD (E.bin mulD (E.bin ixD (E.bin ixD (E.var 1) (E.var 7)) (E.var 9)) (E.bin ixD (E.bin ixD (E.var 1) (E.var 4)) (E.var 4))) (E.bin mulD (E.var 8) (E.bin ixD (E.bin ixD (E.var 1) (E.var 4)) (E.var 9)))) (E.var 3)))
def b2_determinant : SS :=
  (S.seq (S.set 8 (Xo.of (E.bin ixD (E.bin ixD (E.var 1) (E.var 7)) (E.var 4))))
  (S.forR (E.iRng2 [(E.var 4), (E.blt lenD [(E.var 1)])]) [9] [9] b3_determinant))
def b1_determinant : SS :=
  (S.seq (S.set 5 (Xo.of (E.comp (E.iRng2 [(E.var 4), (E.blt lenD [(E.var 1)])]) [7] [7] (E.bin neD (E.bin ixD (E.bin ixD (E.var 1) (E.var 7)) (E.var 4)) (E.c (.int 0))) (E.var 7))))
  (S.seq (S.ite (E.bin eqD (E.var 5) (E.list [])) (S.ret (Xo.of (E.c (.int 0)))) S.nxt)
  (S.seq (S.ite (E.bin neD (E.bin ixD (E.var 5) (E.c (.int 0))) (E.var 4)) (S.seq (S.swap3 1 6 (E.bin ixD (E.var 5) (E.c (.int 0))) (E.var 4))
  (S.set 2 (Xo.of (E.un negD (E.var 2))))) S.nxt)
  (S.seq (S.forR (E.iRng2 [(E.bin addD (E.var 4) (E.c (.int 1))), (E.blt lenD [(E.var 1)])]) [7] [7, 8, 9] b2_determinant)
  (S.set 3 (Xo.of (E.bin ixD (E.bin ixD (E.var 1) (E.var 4)) (E.var 4))))))))
def g_determinant : SS :=
  (S.seq (S.drop (Xo.call F_must_be_square [(E.var 0)]))
  (S.seq (S.set 1 (Xo.of (E.comp (E.iList (E.var 0)) [10] [10] (E.c (.bl true)) (E.blt listC [(E.var 10)]))))
  (S.seq (S.set 2 (Xo.of (E.c (.int 1))))
  (S.seq (S.set 3 (Xo.of (E.c (.int 1))))
  (S.seq (S.forR (E.iRng1 [(E.blt lenD [(E.var 1)])]) [4] [4, 5, 6, 7, 8, 9] b1_determinant)
  (S.ret (Xo.of (E.bin mulD (E.var 2) (E.var 3)))))))))
def F_determinant : List D → Option Out := runB g_determinant 11
def g_excess : SS :=
  (S.seq (S.drop (Xo.call F_must_be_square [(E.var 0)]))
  (S.ret (Xo.of (E.blt sumD [(E.comp (E.iList (E.var 0)) [1] [1] (E.c (.bl true)) (E.blt sumD [(E.var 1)]))]))))
def F_excess : List D → Option Out := runB g_excess 2
def g_agree : SS :=
  (S.seq (S.drop (Xo.call F_must_be_table [(E.var 0)]))
  (S.seq (S.ite (E.or (E.not (E.blt allD [(E.comp (E.iTup (E.tuple [(E.var 1), (E.var 2), (E.var 3)])) [4] [4] (E.c (.bl true)) (E.chain leD ltD (E.c (.int 0)) (E.var 4) (E.blt lenD [(E.var 0)])))])) (E.bin ltD (E.un lenSetD (E.list [(E.var 1), (E.var 2), (E.var 3)])) (E.c (.int 3)))) (S.raise "NoMove") S.nxt)
  (S.ret (Xo.of (E.blt lenD [(E.comp (E.iRng1 [(E.blt lenD [(E.var 0)])]) [4] [4] (E.chain eqD eqD (E.bin ixD (E.bin ixD (E.var 0) (E.var 1)) (E.var 4)) (E.bin ixD (E.bin ixD (E.var 0) (E.var 2)) (E.var 4)) (E.bin ixD (E.bin ixD (E.var 0) (E.var 3)) (E.var 4))) (E.var 4))])))))
def F_agree : List D → Option Out := runB g_agree 5
def g_blocks : SS :=
  (S.seq (S.drop (Xo.call F_must_be_table [(E.var 0)]))
  (S.ret (Xo.of (E.comp (E.iList (E.slice (E.call F_plain_by [(E.var 0)]) (E.part (E.c (.int 1))) E.noPart)) [1] [1] (E.c (.bl true)) (E.comp (E.iRng2 [(E.c (.int 1)), (E.blt lenD [(E.var 1)])]) [2] [2] (E.bin eqD (E.bin ixD (E.var 1) (E.var 2)) (E.c (.int 1))) (E.var 2))))))
def F_blocks : List D → Option Out := runB g_blocks 3
def g_is_move : SS :=
  (S.seq (S.ite (E.or (E.bin eqD (E.bin ixD (E.var 1) (E.c (.int 0))) (E.c (.str "row"))) (E.bin eqD (E.bin ixD (E.var 1) (E.c (.int 0))) (E.c (.str "column")))) (S.ret (Xo.of (E.chain leD ltD (E.c (.int 0)) (E.bin ixD (E.var 1) (E.c (.int 1))) (E.var 0)))) S.nxt)
  (S.ret (Xo.of (E.chain3 leD ltD ltD (E.c (.int 0)) (E.bin ixD (E.var 1) (E.c (.int 1))) (E.bin ixD (E.var 1) (E.c (.int 2))) (E.var 0)))))
def F_is_move : List D → Option Out := runB g_is_move 2
def g_swapped : SS :=
  (S.seq (S.set 3 (Xo.of (E.blt listC [(E.var 0)])))
  (S.seq (S.setIx 3 (E.var 1) (E.bin ixD (E.var 0) (E.var 2)))
  (S.seq (S.setIx 3 (E.var 2) (E.bin ixD (E.var 0) (E.var 1)))
  (S.retN 3))))
def F_swapped : List D → Option Out := runB g_swapped 4
def g_moved_by : SS :=
  (S.seq (S.ite (E.bin eqD (E.bin ixD (E.var 1) (E.c (.int 0))) (E.c (.str "row"))) (S.ret (Xo.of (E.comp (E.iEnum [(E.var 0)]) [3, 2] [3, 2] (E.c (.bl true)) (E.comp (E.iList (E.var 2)) [4] [4] (E.c (.bl true)) (E.ite (E.bin eqD (E.var 3) (E.bin ixD (E.var 1) (E.c (.int 1)))) (E.un negD (E.var 4)) (E.var 4)))))) S.nxt)
  (S.seq (S.ite (E.bin eqD (E.bin ixD (E.var 1) (E.c (.int 0))) (E.c (.str "column"))) (S.ret (Xo.of (E.comp (E.iList (E.var 0)) [2] [2] (E.c (.bl true)) (E.comp (E.iEnum [(E.var 2)]) [3, 4] [3, 4] (E.c (.bl true)) (E.ite (E.bin eqD (E.var 3) (E.bin ixD (E.var 1) (E.c (.int 1)))) (E.un negD (E.var 4)) (E.var 4)))))) S.nxt)
  (S.seq (S.ite (E.bin eqD (E.bin ixD (E.var 1) (E.c (.int 0))) (E.c (.str "rows"))) (S.ret (Xo.of (E.comp (E.iList (E.call F_swapped [(E.var 0), (E.bin ixD (E.var 1) (E.c (.int 1))), (E.bin ixD (E.var 1) (E.c (.int 2)))])) [2] [2] (E.c (.bl true)) (E.blt listC [(E.var 2)])))) S.nxt)
  (S.ret (Xo.of (E.comp (E.iList (E.var 0)) [2] [2] (E.c (.bl true)) (E.call F_swapped [(E.var 2), (E.bin ixD (E.var 1) (E.c (.int 1))), (E.bin ixD (E.var 1) (E.c (.int 2)))])))))))
def F_moved_by : List D → Option Out := runB g_moved_by 5
def b1_moved : SS :=
  (S.ite (E.not (E.call F_is_move [(E.blt lenD [(E.var 0)]), (E.var 2)])) (S.raise "NoMove") S.nxt)
def b2_moved : SS :=
  (S.set 3 (Xo.call F_moved_by [(E.var 3), (E.var 2)]))
def g_moved : SS :=
  (S.seq (S.drop (Xo.call F_must_be_square [(E.var 0)]))
  (S.seq (S.forL (E.iList (E.var 1)) [2] [2] b1_moved)
  (S.seq (S.set 3 (Xo.of (E.comp (E.iList (E.var 0)) [4] [4] (E.c (.bl true)) (E.blt listC [(E.var 4)]))))
  (S.seq (S.forL (E.iList (E.var 1)) [2] [2] b2_moved)
  (S.retN 3)))))
def F_moved : List D → Option Out := runB g_moved 5
def b1_code : SS :=
  (S.seq (S.ite (E.bin eqD (E.var 3) (E.un negD (E.c (.int 1)))) (S.set 1 (Xo.of (E.bin addD (E.var 1) (E.var 2)))) S.nxt)
  (S.set 2 (Xo.of (E.bin mulD (E.c (.int 2)) (E.var 2)))))
def g_code : SS :=
  (S.seq (S.set 1 (Xo.of (E.c (.int 0))))
  (S.seq (S.set 2 (Xo.of (E.c (.int 1))))
  (S.seq (S.forL (E.iList (E.var 0)) [3] [3] b1_code)
  (S.retN 1))))
def F_code : List D → Option Out := runB g_code 4
def b1_base_rows : SS :=
  (S.ite (E.bin notInD (E.blt listC [(E.var 3)]) (E.var 2)) (S.seq (S.appS 1 3)
  (S.frz 2 (S.set 2 (Xo.of (E.bin addD (E.var 2) (E.comp (E.iList (E.var 2)) [4] [4] (E.c (.bl true)) (E.comp (E.iZip [(E.var 3), (E.var 4)]) [5, 6] [5, 6] (E.c (.bl true)) (E.bin mulD (E.var 5) (E.var 6))))))))) S.nxt)
def g_base_rows : SS :=
  (S.seq (S.set 1 (Xo.of (E.list [])))
  (S.seq (S.set 2 (Xo.of (E.list [(E.blt listC [(E.bin ixD (E.var 0) (E.c (.int 0)))])])))
  (S.seq (S.forL (E.iList (E.slice (E.var 0) (E.part (E.c (.int 1))) E.noPart)) [3] [3] b1_base_rows)
  (S.retN 1))))
def F_base_rows : List D → Option Out := runB g_base_rows 7
def b1_sorting : SS :=
  (S.seq (S.set 5 (Xo.of (E.bin mindexD (E.var 3) (E.var 4))))
  (S.ite (E.bin neD (E.var 5) (E.var 4)) (S.seq (S.app 2 (E.tuple [(E.var 1), (E.var 4), (E.var 5)]))
  (S.set 3 (Xo.call F_swapped [(E.var 3), (E.var 4), (E.var 5)]))) S.nxt))
def g_sorting : SS :=
  (S.seq (S.set 2 (Xo.of (E.list [])))
  (S.seq (S.set 3 (Xo.of (E.blt listC [(E.var 0)])))
  (S.seq (S.forR (E.iRng1 [(E.blt lenD [(E.var 3)])]) [4] [4, 5] b1_sorting)
  (S.retN 2))))
def F_sorting : List D → Option Out := runB g_sorting 6
def b1_moves_to_plain : SS :=
  (S.set 0 (Xo.call F_moved_by [(E.var 0), (E.var 3)]))
def b2_moves_to_plain : SS :=
  (S.set 0 (Xo.call F_moved_by [(E.var 0), (E.var 3)]))
def b3_moves_to_plain : SS :=
  (S.set 0 (Xo.call F_moved_by [(E.var 0), (E.var 3)]))
def g_moves_to_plain : SS :=
  (S.seq (S.set 1 (Xo.of (E.blt lenD [(E.var 0)])))
  (S.seq (S.set 2 (Xo.of (E.comp (E.iRng1 [(E.var 1)]) [9] [9] (E.bin eqD (E.bin ixD (E.bin ixD (E.var 0) (E.c (.int 0))) (E.var 9)) (E.un negD (E.c (.int 1)))) (E.tuple [(E.c (.str "column")), (E.var 9)]))))
  (S.seq (S.frz 2 (S.forL (E.iList (E.var 2)) [3] [3] b1_moves_to_plain))
  (S.seq (S.set 4 (Xo.of (E.comp (E.iRng1 [(E.var 1)]) [9] [9] (E.bin eqD (E.bin ixD (E.bin ixD (E.var 0) (E.var 9)) (E.c (.int 0))) (E.un negD (E.c (.int 1)))) (E.tuple [(E.c (.str "row")), (E.var 9)]))))
  (S.seq (S.frz 4 (S.forL (E.iList (E.var 4)) [3] [3] b2_moves_to_plain))
  (S.seq (S.frz 0 (S.set 5 (Xo.call F_base_rows [(E.var 0)])))
  (S.seq (S.set 6 (Xo.call F_sorting [(E.comp (E.iRng1 [(E.var 1)]) [9] [9] (E.c (.bl true)) (E.call F_code [(E.comp (E.iList (E.var 5)) [11] [11] (E.c (.bl true)) (E.bin ixD (E.var 11) (E.var 9)))])), (E.c (.str "columns"))]))
  (S.seq (S.frz 6 (S.forL (E.iList (E.var 6)) [3] [3] b3_moves_to_plain))
  (S.seq (S.set 7 (Xo.of (E.comp (E.iTup (E.tuple [(E.c (.int 1)), (E.c (.int 2)), (E.c (.int 4))])) [10] [10] (E.bin ltD (E.var 10) (E.var 1)) (E.var 10))))
  (S.seq (S.set 8 (Xo.call F_sorting [(E.comp (E.iList (E.var 0)) [11] [11] (E.c (.bl true)) (E.call F_code [(E.comp (E.iList (E.var 7)) [10] [10] (E.c (.bl true)) (E.bin ixD (E.var 11) (E.var 10)))])), (E.c (.str "rows"))]))
  (S.ret (Xo.of (E.bin addD (E.bin addD (E.bin addD (E.var 2) (E.var 4)) (E.var 6)) (E.var 8))))))))))))))
def F_moves_to_plain : List D → Option Out := runB g_moves_to_plain 12
def g_led : SS :=
  (S.seq (S.drop (Xo.call F_must_be_table [(E.var 0)]))
  (S.seq (S.drop (Xo.call F_must_be_table [(E.var 1)]))
  (S.seq (S.ite (E.bin neD (E.blt lenD [(E.var 0)]) (E.blt lenD [(E.var 1)])) (S.raise "Unlike") S.nxt)
  (S.seq (S.ite (E.bin gtD (E.blt lenD [(E.var 0)]) (E.c (.int 8))) (S.raise "TooGreat") S.nxt)
  (S.ret (Xo.of (E.bin addD (E.call F_moves_to_plain [(E.var 0)]) (E.un listRevD (E.call F_moves_to_plain [(E.var 1)])))))))))
def F_led : List D → Option Out := runB g_led 2
def g_shown : SS :=
  (S.seq (S.drop (Xo.call F_must_be_square [(E.var 0)]))
  (S.ret (Xo.of (E.bin mjoinD (E.c (.str "\n")) (E.comp (E.iList (E.var 0)) [1] [1] (E.c (.bl true)) (E.bin mjoinD (E.c (.str "")) (E.comp (E.iList (E.var 1)) [2] [2] (E.c (.bl true)) (E.ite (E.bin eqD (E.var 2) (E.c (.int 1))) (E.c (.str "+")) (E.c (.str "-"))))))))))
def F_shown : List D → Option Out := runB g_shown 3
def g_must_be_numbers : SS :=
  (S.ite (E.bin neD (E.blt lenD [(E.var 1)]) (E.blt lenD [(E.var 0)])) (S.raise "NoNumbers") S.nxt)
def F_must_be_numbers : List D → Option Out := runB g_must_be_numbers 2
def g_weighed : SS :=
  (S.seq (S.drop (Xo.call F_must_be_table [(E.var 0)]))
  (S.seq (S.drop (Xo.call F_must_be_numbers [(E.var 0), (E.var 1)]))
  (S.ret (Xo.of (E.comp (E.iList (E.var 0)) [2] [2] (E.c (.bl true)) (E.call F_product_sum [(E.var 2), (E.var 1)]))))))
def F_weighed : List D → Option Out := runB g_weighed 3
def g_back : SS :=
  (S.seq (S.drop (Xo.call F_must_be_table [(E.var 0)]))
  (S.seq (S.drop (Xo.call F_must_be_numbers [(E.var 0), (E.var 1)]))
  (S.seq (S.set 2 (Xo.of (E.comp (E.iRng1 [(E.blt lenD [(E.var 0)])]) [3] [3] (E.c (.bl true)) (E.blt sumD [(E.comp (E.iRng1 [(E.blt lenD [(E.var 0)])]) [5] [5] (E.c (.bl true)) (E.bin mulD (E.bin ixD (E.bin ixD (E.var 0) (E.var 5)) (E.var 3)) (E.bin ixD (E.var 1) (E.var 5))))]))))
  (S.seq (S.ite (E.not (E.blt allD [(E.comp (E.iList (E.var 2)) [4] [4] (E.c (.bl true)) (E.bin eqD (E.bin modD (E.var 4) (E.blt lenD [(E.var 0)])) (E.c (.int 0))))])) (S.raise "NoNumbers") S.nxt)
  (S.ret (Xo.of (E.comp (E.iList (E.var 2)) [4] [4] (E.c (.bl true)) (E.bin fdivD (E.var 4) (E.blt lenD [(E.var 0)])))))))))
def F_back : List D → Option Out := runB g_back 6
def b1_told_row : SS :=
  (S.seq (S.set 6 (Xo.call F_product_sum [(E.var 5), (E.var 1)]))
  (S.ite (E.bin gtD (E.blt absD [(E.var 6)]) (E.var 3)) (S.seq (S.set 3 (Xo.of (E.blt absD [(E.var 6)])))
  (S.set 2 (Xo.of (E.tuple [(E.var 4), (E.ite (E.bin geD (E.var 6) (E.c (.int 0))) (E.c (.int 1)) (E.un negD (E.c (.int 1))))])))) S.nxt))
def g_told_row : SS :=
  (S.seq (S.drop (Xo.call F_must_be_table [(E.var 0)]))
  (S.seq (S.drop (Xo.call F_must_be_numbers [(E.var 0), (E.var 1)]))
  (S.seq (S.ite (E.not (E.blt allD [(E.comp (E.iList (E.var 1)) [7] [7] (E.c (.bl true)) (E.or (E.bin eqD (E.var 7) (E.c (.int 1))) (E.bin eqD (E.var 7) (E.un negD (E.c (.int 1))))))])) (S.raise "NoNumbers") S.nxt)
  (S.seq (S.set 2 (Xo.of (E.c .non)))
  (S.seq (S.set 3 (Xo.of (E.un negD (E.c (.int 1)))))
  (S.seq (S.forL (E.iEnum [(E.var 0)]) [4, 5] [4, 5, 6] b1_told_row)
  (S.retN 2)))))))
def F_told_row : List D → Option Out := runB g_told_row 8
def g__law_which (ea : Addr) (ec : Str) : SS :=
  (S.seq (S.set 1 (Xo.of (E.list [(E.un (isED ea ec "NoMove") (E.var 0)), (E.un (isED ea ec "NoNote") (E.var 0)), (E.un (isED ea ec "NoNumbers") (E.var 0)), (E.un (isED ea ec "NoSize") (E.var 0))])))
  (S.seq (S.set 2 (Xo.of (E.bin addD (E.var 1) (E.list [(E.un (isED ea ec "NoSquare") (E.var 0)), (E.un (isED ea ec "NoTable") (E.var 0)), (E.un (isED ea ec "TooGreat") (E.var 0))]))))
  (S.seq (S.app 2 (E.un (isED ea ec "Unlike") (E.var 0)))
  (S.seq (S.ite (E.or (E.not (E.un (PL.isEV ea ec) (E.var 0))) (E.bin neD (E.bin mcountVD (E.var 2) (E.c (.bl true))) (E.c (.int 1)))) (S.ret (Xo.of (E.c (.str "other")))) S.nxt)
  (S.ret (Xo.of (E.bin ixD (E.list [(E.c (.str "move")), (E.c (.str "note")), (E.c (.str "numbers")), (E.c (.str "size")), (E.c (.str "square")), (E.c (.str "table")), (E.c (.str "great")), (E.c (.str "unlike"))]) (E.bin mindexD (E.var 2) (E.c (.bl true))))))))))
def F__law_which (ea : Addr) (ec : Str) : List D → Option Out := runB (g__law_which ea ec) 3
def g__law_first : SS :=
  (S.seq (S.ite (E.bin eqD (E.var 0) (E.c (.int 0))) (S.ret (Xo.call F_determinant [(E.var 1)])) S.nxt)
  (S.seq (S.ite (E.bin eqD (E.var 0) (E.c (.int 1))) (S.ret (Xo.call F_excess [(E.var 1)])) S.nxt)
  (S.seq (S.ite (E.bin eqD (E.var 0) (E.c (.int 2))) (S.ret (Xo.call F_shown [(E.var 1)])) S.nxt)
  (S.seq (S.ite (E.bin eqD (E.var 0) (E.c (.int 3))) (S.ret (Xo.call F_moved [(E.var 1), (E.list [(E.tuple [(E.c (.str "row")), (E.c (.int 99))])])])) S.nxt)
  (S.seq (S.ite (E.bin eqD (E.var 0) (E.c (.int 4))) (S.ret (Xo.call F_plain [(E.var 1)])) S.nxt)
  (S.seq (S.ite (E.bin eqD (E.var 0) (E.c (.int 5))) (S.ret (Xo.call F_turned_over [(E.var 1)])) S.nxt)
  (S.seq (S.ite (E.bin eqD (E.var 0) (E.c (.int 6))) (S.ret (Xo.call F_blocks [(E.var 1)])) S.nxt)
  (S.ret (Xo.call F_product [(E.var 1), (E.var 2)])))))))))
def F__law_first : List D → Option Out := runB g__law_first 3
def g__law_second : SS :=
  (S.seq (S.ite (E.bin eqD (E.var 0) (E.c (.int 8))) (S.ret (Xo.call F_product [(E.var 2), (E.var 1)])) S.nxt)
  (S.seq (S.ite (E.bin eqD (E.var 0) (E.c (.int 9))) (S.ret (Xo.call F_led [(E.var 1), (E.var 2)])) S.nxt)
  (S.seq (S.ite (E.bin eqD (E.var 0) (E.c (.int 10))) (S.ret (Xo.call F_led [(E.var 2), (E.var 1)])) S.nxt)
  (S.seq (S.ite (E.bin eqD (E.var 0) (E.c (.int 11))) (S.ret (Xo.call F_weighed [(E.var 1), (E.list [])])) S.nxt)
  (S.seq (S.ite (E.bin eqD (E.var 0) (E.c (.int 12))) (S.ret (Xo.call F_back [(E.var 1), (E.list [])])) S.nxt)
  (S.seq (S.ite (E.bin eqD (E.var 0) (E.c (.int 13))) (S.ret (Xo.call F_told_row [(E.var 1), (E.list [])])) S.nxt)
  (S.ret (Xo.call F_agree [(E.var 1), (E.c (.int 0)), (E.c (.int 0)), (E.c (.int 99))]))))))))
def F__law_second : List D → Option Out := runB g__law_second 3
def b1__law_rows_like : SS :=
  (S.seq (S.ite (E.not (E.un (isiD "list") (E.var 2))) (S.ret (Xo.of (E.c (.bl false)))) S.nxt)
  (S.ite (E.not (E.blt allD [(E.comp (E.iList (E.var 2)) [3] [3] (E.c (.bl true)) (E.and (E.un (isiD "int") (E.var 3)) (E.not (E.un (isiD "bool") (E.var 3)))))])) (S.ret (Xo.of (E.c (.bl false)))) S.nxt))
def g__law_rows_like : SS :=
  (S.seq (S.ite (E.or (E.not (E.un (isiD "list") (E.var 0))) (E.bin neD (E.blt lenD [(E.var 0)]) (E.blt lenD [(E.var 1)]))) (S.ret (Xo.of (E.c (.bl false)))) S.nxt)
  (S.seq (S.forL (E.iList (E.var 0)) [2] [2] b1__law_rows_like)
  (S.ret (Xo.of (E.bin eqD (E.var 0) (E.var 1))))))
def F__law_rows_like : List D → Option Out := runB g__law_rows_like 4
def b1_powers_table : SS :=
  (S.set 1 (Xo.call F_product_by [(E.var 1), (E.comp (E.iTup (E.c k_SMALL)) [2] [2] (E.c (.bl true)) (E.blt listC [(E.var 2)]))]))
def g_powers_table : SS :=
  (S.seq (S.set 1 (Xo.of (E.list [(E.list [(E.c (.int 1))])])))
  (S.seq (S.whileGo (E.bin ltD (E.blt lenD [(E.var 1)]) (E.var 0)) b1_powers_table 40)
  (S.retN 1)))
def F_powers_table : List D → Option Out := runB g_powers_table 3
def g_mark : SS :=
  (S.seq (S.set 2 (Xo.of (E.bin modD (E.var 0) (E.var 1))))
  (S.seq (S.ite (E.bin eqD (E.var 2) (E.c (.int 0))) (S.ret (Xo.of (E.c (.int 0)))) S.nxt)
  (S.seq (S.ite (E.bin (inTD false) (E.var 2) (E.comp (E.iRng2 [(E.c (.int 1)), (E.var 1)]) [3] [3] (E.c (.bl true)) (E.bin modD (E.bin mulD (E.var 3) (E.var 3)) (E.var 1)))) (S.ret (Xo.of (E.c (.int 1)))) S.nxt)
  (S.ret (Xo.of (E.un negD (E.c (.int 1))))))))
def F_mark : List D → Option Out := runB g_mark 4
def b1_prime_table : SS :=
  (S.seq (S.set 3 (Xo.of (E.comp (E.iRng1 [(E.var 0)]) [4] [4] (E.c (.bl true)) (E.call F_mark [(E.bin subD (E.var 4) (E.var 2)), (E.var 0)]))))
  (S.seq (S.setIx 3 (E.var 2) (E.un negD (E.c (.int 1))))
  (S.app 1 (E.bin addD (E.list [(E.c (.int 1))]) (E.var 3)))))
def g_prime_table : SS :=
  (S.seq (S.set 1 (Xo.of (E.list [(E.comp (E.iRng1 [(E.bin addD (E.var 0) (E.c (.int 1)))]) [2] [2] (E.c (.bl true)) (E.c (.int 1)))])))
  (S.seq (S.forR (E.iRng1 [(E.var 0)]) [2] [2, 3] b1_prime_table)
  (S.retN 1)))
def F_prime_table : List D → Option Out := runB g_prime_table 5
def b1_made : SS :=
  (S.ite (E.bin eqD (E.var 1) (E.var 0)) (S.ret (Xo.call F_prime_table [(E.var 2)])) S.nxt)
def g_made : SS :=
  (S.seq (S.ite (E.bin (inTD false) (E.var 0) (E.tuple [(E.c (.int 1)), (E.c (.int 2)), (E.c (.int 4)), (E.c (.int 8)), (E.c (.int 16))])) (S.ret (Xo.call F_powers_table [(E.var 0)])) S.nxt)
  (S.seq (S.forL (E.iTup2 (E.c k_PRIMES)) [1, 2] [1, 2] b1_made)
  (S.raise "NoSize")))
def F_made : List D → Option Out := runB g_made 3
def b1__law_moves : SS :=
  (S.seq (S.nextC 0 1 6)
  (S.seq (S.set 7 (Xo.of (E.bin modD (E.bin fdivD (E.var 6) (E.c (.int 4))) (E.var 2))))
  (S.seq (S.set 8 (Xo.of (E.bin modD (E.bin fdivD (E.var 6) (E.c (.int 128))) (E.var 2))))
  (S.ite (E.bin ltD (E.bin modD (E.var 6) (E.c (.int 4))) (E.c (.int 2))) (S.app 4 (E.tuple [(E.bin ixD (E.list [(E.c (.str "row")), (E.c (.str "column"))]) (E.bin modD (E.var 6) (E.c (.int 4)))), (E.var 7)])) (S.ite (E.bin neD (E.var 7) (E.var 8)) (S.app 4 (E.tuple [(E.bin ixD (E.list [(E.c (.str "rows")), (E.c (.str "columns"))]) (E.bin subD (E.bin modD (E.var 6) (E.c (.int 4))) (E.c (.int 2)))), (E.blt min2D [(E.var 7), (E.var 8)]), (E.blt max2D [(E.var 7), (E.var 8)])])) S.nxt)))))
def g__law_moves : SS :=
  (S.seq (S.set 4 (Xo.of (E.list [])))
  (S.seq (S.forR (E.iRng1 [(E.var 3)]) [5] [5, 6, 7, 8] b1__law_moves)
  (S.retN 4)))
def F__law_moves : List D → Option Out := runM g__law_moves 9
def b1__law_done : SS :=
  (S.seq (S.ite (E.bin eqD (E.bin ixD (E.var 1) (E.c (.int 0))) (E.c (.str "column"))) (S.setIx2 2 (E.var 3) (E.bin ixD (E.var 1) (E.c (.int 1))) (E.un negD (E.bin ixD (E.bin ixD (E.var 0) (E.var 3)) (E.bin ixD (E.var 1) (E.c (.int 1)))))) S.nxt)
  (S.ite (E.bin eqD (E.bin ixD (E.var 1) (E.c (.int 0))) (E.c (.str "columns"))) (S.seq (S.setIx2 2 (E.var 3) (E.bin ixD (E.var 1) (E.c (.int 1))) (E.bin ixD (E.bin ixD (E.var 0) (E.var 3)) (E.bin ixD (E.var 1) (E.c (.int 2)))))
  (S.setIx2 2 (E.var 3) (E.bin ixD (E.var 1) (E.c (.int 2))) (E.bin ixD (E.bin ixD (E.var 0) (E.var 3)) (E.bin ixD (E.var 1) (E.c (.int 1)))))) S.nxt))
def g__law_done : SS :=
  (S.seq (S.set 2 (Xo.call F__law_copy [(E.var 0)]))
  (S.seq (S.ite (E.bin eqD (E.bin ixD (E.var 1) (E.c (.int 0))) (E.c (.str "row"))) (S.setIx 2 (E.bin ixD (E.var 1) (E.c (.int 1))) (E.comp (E.iList (E.bin ixD (E.var 2) (E.bin ixD (E.var 1) (E.c (.int 1))))) [4] [4] (E.c (.bl true)) (E.un negD (E.var 4)))) S.nxt)
  (S.seq (S.ite (E.bin eqD (E.bin ixD (E.var 1) (E.c (.int 0))) (E.c (.str "rows"))) (S.seq (S.setIx 2 (E.bin ixD (E.var 1) (E.c (.int 1))) (E.blt listC [(E.bin ixD (E.var 0) (E.bin ixD (E.var 1) (E.c (.int 2))))]))
  (S.setIx 2 (E.bin ixD (E.var 1) (E.c (.int 2))) (E.blt listC [(E.bin ixD (E.var 0) (E.bin ixD (E.var 1) (E.c (.int 1))))]))) S.nxt)
  (S.seq (S.forR (E.iRng1 [(E.blt lenD [(E.var 0)])]) [3] [3] b1__law_done)
  (S.retN 2)))))
def F__law_done : List D → Option Out := runB g__law_done 5
def g__law_wrong : SS :=
  (S.seq (S.set 2 (Xo.of (E.bin ixD (E.list [(E.c (.str "row")), (E.c (.str "column")), (E.c (.str "rows")), (E.c (.str "columns"))]) (E.bin modD (E.var 1) (E.c (.int 4))))))
  (S.seq (S.set 3 (Xo.of (E.bin modD (E.bin fdivD (E.var 1) (E.c (.int 2048))) (E.bin powD (E.c (.int 10)) (E.c (.int 20))))))
  (S.seq (S.set 4 (Xo.of (E.bin ixD (E.list [(E.un negD (E.c (.int 1))), (E.var 0), (E.bin subD (E.un negD (E.c (.int 1))) (E.var 3)), (E.bin addD (E.var 0) (E.var 3))]) (E.bin modD (E.bin fdivD (E.var 1) (E.c (.int 4))) (E.c (.int 4))))))
  (S.seq (S.set 5 (Xo.of (E.bin modD (E.bin fdivD (E.var 1) (E.c (.int 16))) (E.var 0))))
  (S.seq (S.ite (E.bin ltD (E.bin modD (E.var 1) (E.c (.int 4))) (E.c (.int 2))) (S.ret (Xo.of (E.tuple [(E.var 2), (E.var 4)]))) S.nxt)
  (S.ret (Xo.of (E.bin ixD (E.list [(E.tuple [(E.var 2), (E.var 4), (E.var 5)]), (E.tuple [(E.var 2), (E.var 5), (E.var 4)]), (E.tuple [(E.var 2), (E.var 5), (E.var 5)]), (E.tuple [(E.var 2), (E.var 5), (E.bin subD (E.var 5) (E.c (.int 1)))])]) (E.bin modD (E.bin fdivD (E.var 1) (E.c (.int 512))) (E.c (.int 4)))))))))))
def F__law_wrong : List D → Option Out := runB g__law_wrong 6
def g__law_whole : SS :=
  (S.ret (Xo.of (E.and (E.un (isiD "int") (E.var 0)) (E.not (E.un (isiD "bool") (E.var 0))))))
def F__law_whole : List D → Option Out := runB g__law_whole 1
def g__law_is_move : SS :=
  (S.seq (S.ite (E.or (E.not (E.un (isiD "tuple") (E.var 1))) (E.or (E.not (E.chain leD leD (E.c (.int 2)) (E.blt lenD [(E.var 1)]) (E.c (.int 3)))) (E.not (E.blt allD [(E.comp (E.iTup (E.slice (E.var 1) (E.part (E.c (.int 1))) E.noPart)) [2] [2] (E.c (.bl true)) (E.call F__law_whole [(E.var 2)]))])))) (S.ret (Xo.of (E.c (.bl false)))) S.nxt)
  (S.seq (S.ite (E.bin (inTD false) (E.bin ixD (E.var 1) (E.c (.int 0))) (E.tuple [(E.c (.str "row")), (E.c (.str "column"))])) (S.ret (Xo.of (E.and (E.bin eqD (E.blt lenD [(E.var 1)]) (E.c (.int 2))) (E.chain leD ltD (E.c (.int 0)) (E.bin ixD (E.var 1) (E.c (.int 1))) (E.var 0))))) S.nxt)
  (S.ret (Xo.of (E.and (E.bin (inTD false) (E.bin ixD (E.var 1) (E.c (.int 0))) (E.tuple [(E.c (.str "rows")), (E.c (.str "columns"))])) (E.and (E.bin eqD (E.blt lenD [(E.var 1)]) (E.c (.int 3))) (E.chain3 leD ltD ltD (E.c (.int 0)) (E.bin ixD (E.var 1) (E.c (.int 1))) (E.bin ixD (E.var 1) (E.c (.int 2))) (E.var 0))))))))
def F__law_is_move : List D → Option Out := runB g__law_is_move 3
def b1__law_leads : SS :=
  (S.seq (S.ite (E.not (E.call F__law_is_move [(E.blt lenD [(E.var 1)]), (E.var 4)])) (S.ret (Xo.of (E.c (.bl false)))) S.nxt)
  (S.set 3 (Xo.call F__law_done [(E.var 3), (E.var 4)])))
def g__law_leads : SS :=
  (S.seq (S.ite (E.or (E.not (E.un (isiD "list") (E.var 0))) (E.bin gtD (E.blt lenD [(E.var 0)]) (E.c (.int 100)))) (S.ret (Xo.of (E.c (.bl false)))) S.nxt)
  (S.seq (S.set 3 (Xo.call F__law_copy [(E.var 1)]))
  (S.seq (S.forL (E.iList (E.var 0)) [4] [4] b1__law_leads)
  (S.ret (Xo.of (E.bin eqD (E.var 3) (E.var 2)))))))
def F__law_leads : List D → Option Out := runB g__law_leads 5
def b1__law_numbers : SS :=
  (S.seq (S.nextC 0 1 5)
  (S.seq (S.set 6 (Xo.of (E.list [(E.bin subD (E.bin modD (E.var 5) (E.c (.int 19))) (E.c (.int 9))), (E.c (.int 0)), (E.bin subD (E.bin modD (E.bin fdivD (E.var 5) (E.c (.int 4))) (E.bin powD (E.c (.int 10)) (E.c (.int 20)))) (E.bin powD (E.c (.int 10)) (E.c (.int 19)))), (E.bin subD (E.bin modD (E.bin fdivD (E.var 5) (E.c (.int 4))) (E.c (.int 2001))) (E.c (.int 1000)))])))
  (S.app 3 (E.bin ixD (E.var 6) (E.bin modD (E.bin fdivD (E.var 5) (E.c (.int 1024))) (E.c (.int 4)))))))
def g__law_numbers : SS :=
  (S.seq (S.set 3 (Xo.of (E.list [])))
  (S.seq (S.forR (E.iRng1 [(E.var 2)]) [4] [4, 5, 6] b1__law_numbers)
  (S.retN 3)))
def F__law_numbers : List D → Option Out := runM g__law_numbers 7
def g__law_ints_like : SS :=
  (S.seq (S.ite (E.or (E.not (E.un (isiD "list") (E.var 0))) (E.bin neD (E.blt lenD [(E.var 0)]) (E.blt lenD [(E.var 1)]))) (S.ret (Xo.of (E.c (.bl false)))) S.nxt)
  (S.ret (Xo.of (E.and (E.blt allD [(E.comp (E.iList (E.var 0)) [2] [2] (E.c (.bl true)) (E.and (E.un (isiD "int") (E.var 2)) (E.not (E.un (isiD "bool") (E.var 2)))))]) (E.bin eqD (E.var 0) (E.var 1))))))
def F__law_ints_like : List D → Option Out := runB g__law_ints_like 3
def b1__law_word : SS :=
  (S.app 3 (E.bin subD (E.c (.int 1)) (E.bin mulD (E.bin modD (E.bin fdivD (E.call F__law_stir [(E.bin addD (E.call F__law_cell_at [(E.var 0), (E.bin addD (E.var 1) (E.bin modD (E.var 4) (E.c (.int 2))))]) (E.bin mulD (E.c (.int 31)) (E.var 4)))]) (E.c (.int 7))) (E.c (.int 2))) (E.c (.int 2)))))
def g__law_word : SS :=
  (S.seq (S.set 3 (Xo.of (E.list [])))
  (S.seq (S.forR (E.iRng1 [(E.var 2)]) [4] [4] b1__law_word)
  (S.retN 3)))
def F__law_word : List D → Option Out := runB g__law_word 5
def g__law_determinant (F__law_determinant : List D → Option Out) : SS :=
  (S.seq (S.ite (E.bin eqD (E.var 0) (E.list [])) (S.ret (Xo.of (E.c (.int 1)))) S.nxt)
  (S.seq (S.set 1 (Xo.of (E.c (.int 0))))
  (S.seq (S.set 2 (Xo.of (E.c (.int 1))))
  (S.seq (S.forR (E.iRng1 [(E.blt lenD [(E.var 0)])]) [3] [3, 4] (S.seq (S.set 4 (Xo.of (E.comp (E.iList (E.slice (E.var 0) (E.part (E.c (.int 1))) E.noPart)) [5] [5] (E.c (.bl true)) (E.bin addD (E.slice (E.var 5) E.noPart (E.part (E.var 3))) (E.slice (E.var 5) (E.part (E.bin addD (E.var 3) (E.c (.int 1)))) E.noPart)))))
  (S.seq (S.set 1 (Xo.of (E.bin addD (E.var 1) (E.bin mulD (E.bin mulD (E.var 2) (E.bin ixD (E.bin ixD (E.var 0) (E.c (.int 0))) (E.var 3))) (E.call F__law_determinant [(E.var 4)])))))
  (S.set 2 (Xo.of (E.un negD (E.var 2)))))))
  (S.retN 1)))))
def F__law_determinant : Nat → List D → Option Out
  | 0 => fun _ => none
  | n + 1 => runB (g__law_determinant (F__law_determinant n)) 6
def b2_read : SS :=
  (S.seq (S.ite (E.and (E.bin neD (E.var 4) (E.c (.str "+"))) (E.bin neD (E.var 4) (E.c (.str "-")))) (S.raise "NoNote") S.nxt)
  (S.app 3 (E.ite (E.bin eqD (E.var 4) (E.c (.str "+"))) (E.c (.int 1)) (E.un negD (E.c (.int 1))))))
def b1_read : SS :=
  (S.seq (S.set 3 (Xo.of (E.list [])))
  (S.seq (S.forL (E.iStr (E.var 2)) [4] [4] b2_read)
  (S.appN 1 3)))
def g_read : SS :=
  (S.seq (S.set 1 (Xo.of (E.list [])))
  (S.seq (S.forL (E.iList (E.bin msplitD (E.var 0) (E.c (.str "\n")))) [2] [2, 3, 4] b1_read)
  (S.seq (S.ite (E.not (E.call F_is_square [(E.var 1)])) (S.raise "NoNote") S.nxt)
  (S.retN 1))))
def F_read : List D → Option Out := runB g_read 5
def b1__law_written : SS :=
  (S.seq (S.ite (E.bin gtD (E.blt lenD [(E.comp (E.iStr (E.var 2)) [3] [3] (E.bin (inTD true) (E.var 3) (E.list [(E.c (.str "+")), (E.c (.str "-"))])) (E.var 3))]) (E.c (.int 0))) (S.ret (Xo.of (E.c .non))) S.nxt)
  (S.app 1 (E.comp (E.iStr (E.var 2)) [3] [3] (E.c (.bl true)) (E.bin subD (E.bin mulD (E.bin mindexD (E.list [(E.c (.str "-")), (E.c (.str "+"))]) (E.var 3)) (E.c (.int 2))) (E.c (.int 1))))))
def g__law_written : SS :=
  (S.seq (S.set 1 (Xo.of (E.list [])))
  (S.seq (S.forL (E.iList (E.bin msplitD (E.var 0) (E.c (.str "\n")))) [2] [2] b1__law_written)
  (S.seq (S.ite (E.or (E.bin gtD (E.blt lenD [(E.var 1)]) (E.c (.int 24))) (E.not (E.blt allD [(E.comp (E.iList (E.var 1)) [4] [4] (E.c (.bl true)) (E.bin eqD (E.blt lenD [(E.var 4)]) (E.blt lenD [(E.var 1)])))]))) (S.ret (Xo.of (E.c .non))) S.nxt)
  (S.retN 1))))
def F__law_written : List D → Option Out := runB g__law_written 5
def g__law_changed : SS :=
  (S.seq (S.set 2 (Xo.of (E.bin modD (E.bin fdivD (E.var 1) (E.c (.int 8))) (E.bin addD (E.blt lenD [(E.var 0)]) (E.c (.int 1))))))
  (S.seq (S.set 3 (Xo.of (E.bin ixD (E.c (.str "+-+- \n\t1x0*")) (E.bin modD (E.bin fdivD (E.var 1) (E.c (.int 8192))) (E.c (.int 11))))))
  (S.seq (S.set 4 (Xo.of (E.bin msplitD (E.var 0) (E.c (.str "\n")))))
  (S.seq (S.set 5 (Xo.of (E.bin modD (E.bin fdivD (E.var 1) (E.c (.int 8))) (E.blt lenD [(E.var 4)]))))
  (S.seq (S.ite (E.bin ltD (E.bin modD (E.var 1) (E.c (.int 8))) (E.c (.int 2))) (S.ret (Xo.of (E.bin addD (E.slice (E.var 0) E.noPart (E.part (E.var 2))) (E.slice (E.var 0) (E.part (E.bin addD (E.var 2) (E.c (.int 1)))) E.noPart)))) S.nxt)
  (S.seq (S.ite (E.bin ltD (E.bin modD (E.var 1) (E.c (.int 8))) (E.c (.int 4))) (S.ret (Xo.of (E.bin addD (E.bin addD (E.slice (E.var 0) E.noPart (E.part (E.var 2))) (E.var 3)) (E.slice (E.var 0) (E.part (E.var 2)) E.noPart)))) S.nxt)
  (S.seq (S.ite (E.bin ltD (E.bin modD (E.var 1) (E.c (.int 8))) (E.c (.int 6))) (S.ret (Xo.of (E.bin addD (E.bin addD (E.slice (E.var 0) E.noPart (E.part (E.var 2))) (E.var 3)) (E.slice (E.var 0) (E.part (E.bin addD (E.var 2) (E.c (.int 1)))) E.noPart)))) S.nxt)
  (S.seq (S.set 6 (Xo.of (E.comp (E.iRng1 [(E.bin modD (E.bin fdivD (E.var 1) (E.c (.int 512))) (E.c (.int 3)))]) [7] [7] (E.c (.bl true)) (E.bin ixD (E.var 4) (E.var 5)))))
  (S.ret (Xo.of (E.bin mjoinD (E.c (.str "\n")) (E.bin addD (E.bin addD (E.slice (E.var 4) E.noPart (E.part (E.var 5))) (E.var 6)) (E.slice (E.var 4) (E.part (E.bin addD (E.var 5) (E.c (.int 1)))) E.noPart)))))))))))))
def F__law_changed : List D → Option Out := runB g__law_changed 8
end PM

set_option Elab.async false
set_option linter.all false
set_option maxRecDepth 100000
set_option maxHeartbeats 4000000
/-! What _law_which tells. -/
namespace PM
open PySem hiding Env
open PL
theorem F_which (a : Addr) (c : Str) (hc : c ∈ allX) : F__law_which a c [.ex a c] = some (.ok (.str (whichS c)) .full) := by
  have e : ∀ x, isED a c x (.ex a c) = some (.bl (decide (c = x)), .full) := fun x => if_pos ⟨rfl, rfl⟩
  have e2 : PL.isEV a c (.ex a c) = some (.bl true, .full) := if_pos ⟨rfl, rfl⟩
  have v0 : ∀ env : Env, env[0]? = some (some (.ex a c, .sh)) → ∀ x, E.un (isED a c x) (E.var 0) env = some (.bl (decide (c = x)), .full) := fun env h x => by
    unfold E.un E.var
    rw [h]
    exact e x
  have w0 : ∀ env : Env, env[0]? = some (some (.ex a c, .sh)) → E.un (PL.isEV a c) (E.var 0) env = some (.bl true, .full) := fun env h => by
    unfold E.un E.var
    rw [h]
    exact e2
  let l1 : List D := [.bl (decide (c = "NoMove")), .bl (decide (c = "NoNote")), .bl (decide (c = "NoNumbers")), .bl (decide (c = "NoSize"))]
  let l2 : List D := [.bl (decide (c = "NoMove")), .bl (decide (c = "NoNote")), .bl (decide (c = "NoNumbers")), .bl (decide (c = "NoSize")), .bl (decide (c = "NoSquare")), .bl (decide (c = "NoTable")), .bl (decide (c = "TooGreat"))]
  let l3 : List D := l2 ++ [.bl (decide (c = "Unlike"))]
  let n0 : Env := [some (.ex a c, .sh), none, none]
  let n1 : Env := [some (.ex a c, .sh), some (.lst l1, .full), none]
  let n2 : Env := [some (.ex a c, .sh), some (.lst l1, .full), some (.lst l2, .full)]
  let n3 : Env := [some (.ex a c, .sh), some (.lst l1, .full), some (.lst l3, .full)]
  have s1 : ∀ g, S.seq (S.set 1 (Xo.of (E.list [(E.un (isED a c "NoMove") (E.var 0)), (E.un (isED a c "NoNote") (E.var 0)), (E.un (isED a c "NoNumbers") (E.var 0)), (E.un (isED a c "NoSize") (E.var 0))]))) g n0 = g n1 := fun g => by
    unfold S.seq S.set Xo.of E.list evF evF evF evF evF
    rw [v0 n0 rfl, v0 n0 rfl, v0 n0 rfl, v0 n0 rfl]
    rfl
  have s2 : ∀ g, S.seq (S.set 2 (Xo.of (E.bin addD (E.var 1) (E.list [(E.un (isED a c "NoSquare") (E.var 0)), (E.un (isED a c "NoTable") (E.var 0)), (E.un (isED a c "TooGreat") (E.var 0))])))) g n1 = g n2 := fun g => by
    unfold S.seq S.set Xo.of E.bin E.list evF evF evF evF
    rw [v0 n1 rfl, v0 n1 rfl, v0 n1 rfl]
    rfl
  have s3 : ∀ g, S.seq (S.app 2 (E.un (isED a c "Unlike") (E.var 0))) g n2 = g n3 := fun g => by
    unfold S.seq S.app
    rw [v0 n2 rfl]
    rfl
  have fin : (S.seq (S.ite (E.or (E.not (E.un (PL.isEV a c) (E.var 0))) (E.bin neD (E.bin mcountVD (E.var 2) (E.c (.bl true))) (E.c (.int 1)))) (S.ret (Xo.of (E.c (.str "other")))) S.nxt)
      (S.ret (Xo.of (E.bin ixD (E.list [(E.c (.str "move")), (E.c (.str "note")), (E.c (.str "numbers")), (E.c (.str "size")), (E.c (.str "square")), (E.c (.str "table")), (E.c (.str "great")), (E.c (.str "unlike"))]) (E.bin mindexD (E.var 2) (E.c (.bl true))))))) n3 = some (.ret (.str (whichS c)) .full) := by
    unfold S.seq S.ite E.or E.not
    rw [w0 n3 rfl]
    simp only [allX, List.mem_cons, List.not_mem_nil, or_false] at hc
    rcases hc with rfl | rfl | rfl | rfl | rfl | rfl | rfl | rfl <;> rfl
  have all : g__law_which a c (env0 3 [.ex a c]) = some (.ret (.str (whichS c)) .full) := by
    unfold g__law_which
    have e0 : env0 3 [D.ex a c] = n0 := rfl
    rw [e0, s1, s2, s3, fin]
  unfold F__law_which runB
  rw [all]
end PM

set_option Elab.async false
set_option linter.all false
set_option maxRecDepth 100000
set_option maxHeartbeats 4000000
/-! The mathematics of the meanings, part a: words for data, loops, comprehensions. -/
namespace PM
open PySem hiding Env
open PL

/-- ints, a list of ints, a list of lists of ints -/
abbrev dI (xs : List Int) : D := .lst (xs.map D.int)
abbrev dM (rows : List (List Int)) : D := .lst (rows.map dI)

@[simp] theorem flatD_int (i : Int) : flatD (.int i) = true := rfl
@[simp] theorem flatD_bl (i : Bool) : flatD (.bl i) = true := rfl
@[simp] theorem flatD_str (i : Str) : flatD (.str i) = true := rfl
@[simp] theorem flatD_non : flatD .non = true := rfl
@[simp] theorem flatD_lst (xs : List D) : flatD (.lst xs) = false := rfl
@[simp] theorem flatD_scr (xs : List Int) : flatD (.scr xs) = false := rfl
@[simp] theorem flatD_tup (xs : List D) : flatD (.tup xs) = flatA xs := rfl
@[simp] theorem flatA_nil : flatA [] = true := rfl
@[simp] theorem flatA_cons (x : D) (xs : List D) : flatA (x :: xs) = (flatD x && flatA xs) := rfl
@[simp] theorem lvS_int (i : Int) : lvS (.int i) = .full := rfl
@[simp] theorem lvS_bl (i : Bool) : lvS (.bl i) = .full := rfl
@[simp] theorem lvS_str (i : Str) : lvS (.str i) = .full := rfl
@[simp] theorem lvS_non : lvS .non = .full := rfl
@[simp] theorem lvS_lst (xs : List D) : lvS (.lst xs) = .sh := rfl
@[simp] theorem lvS_scr (xs : List Int) : lvS (.scr xs) = .sh := rfl
theorem lvS_flat {d : D} (h : flatD d = true) : lvS d = .full := by unfold lvS; rw [if_pos h]
theorem flatA_ints : ∀ xs : List Int, flatA (xs.map D.int) = true
  | [] => rfl
  | x :: xs => by rw [List.map_cons, flatA_cons, flatA_ints xs]; rfl
@[simp] theorem lvL_ints (xs : List Int) : lvL (xs.map D.int) = .full := by unfold lvL; rw [if_pos (flatA_ints xs)]
@[simp] theorem intsOf_ints : ∀ xs : List Int, intsOf (xs.map D.int) = some xs
  | [] => rfl
  | x :: xs => by rw [List.map_cons]; unfold intsOf; rw [intsOf_ints xs]
@[simp] theorem blsOf_bls : ∀ xs : List Bool, blsOf (xs.map D.bl) = some xs
  | [] => rfl
  | x :: xs => by rw [List.map_cons]; unfold blsOf; rw [blsOf_bls xs]
@[simp] theorem strsOf_strs : ∀ xs : List Str, strsOf (xs.map D.str) = some xs
  | [] => rfl
  | x :: xs => by rw [List.map_cons]; unfold strsOf; rw [strsOf_strs xs]

/-! the combinators, one row each -/
@[simp] theorem var_eq (i : Nat) (env : Env) : E.var i env = (match env[i]? with
  | some (some (d, _)) => some (d, lvS d)
  | _ => none) := rfl
@[simp] theorem c_eq (d : D) (env : Env) : E.c d env = some (d, .full) := rfl
@[simp] theorem un_eq (op : D → Option (D × Lv)) (fa : SE) (env : Env) : E.un op fa env = (match fa env with
  | some (x, _) => op x
  | none => none) := rfl
@[simp] theorem bin_eq (op : D → D → Option (D × Lv)) (fa fb : SE) (env : Env) : E.bin op fa fb env = (match fa env, fb env with
  | some (x, _), some (y, _) => op x y
  | _, _ => none) := rfl
@[simp] theorem and_eq (fa fb : SE) (env : Env) : E.and fa fb env = (match fa env with
  | some (.bl true, _) => fb env
  | some (.bl false, _) => some (.bl false, .full)
  | _ => none) := rfl
@[simp] theorem or_eq (fa fb : SE) (env : Env) : E.or fa fb env = (match fa env with
  | some (.bl true, _) => some (.bl true, .full)
  | some (.bl false, _) => fb env
  | _ => none) := rfl
@[simp] theorem not_eq (fa : SE) (env : Env) : E.not fa env = (match fa env with
  | some (.bl b, _) => some (.bl (!b), .full)
  | _ => none) := rfl
@[simp] theorem ite_eq (ft fa fb : SE) (env : Env) : E.ite ft fa fb env = (match ft env with
  | some (.bl true, _) => fa env
  | some (.bl false, _) => fb env
  | _ => none) := rfl
@[simp] theorem chain_eq (op op' : D → D → Option (D × Lv)) (fa fb fc : SE) (env : Env) : E.chain op op' fa fb fc env = (match fa env, fb env with
  | some (x, _), some (y, _) => (match op x y with
    | some (.bl true, _) => (match fc env with
      | some (z, _) => op' y z
      | none => none)
    | some (.bl false, _) => some (.bl false, .full)
    | _ => none)
  | _, _ => none) := rfl
@[simp] theorem evA_nil (env : Env) : evA [] env = some [] := rfl
@[simp] theorem evA_cons (f : SE) (fs : List SE) (env : Env) : evA (f :: fs) env = (match f env with
    | some (d, _) => (match evA fs env with
      | some ds => some (d :: ds)
      | none => none)
    | none => none) := rfl
@[simp] theorem evF_nil (env : Env) : evF [] env = some [] := rfl
@[simp] theorem evF_cons (f : SE) (fs : List SE) (env : Env) : evF (f :: fs) env = (match f env with
    | some (d, .full) => (match evF fs env with
      | some ds => some (d :: ds)
      | none => none)
    | _ => none) := rfl
@[simp] theorem list_eq (fs : List SE) (env : Env) : E.list fs env = (match evF fs env with
  | some ds => some (.lst ds, .full)
  | none => match evA fs env with
    | some ds => some (.lst ds, .out)
    | none => none) := rfl
@[simp] theorem tuple_eq (fs : List SE) (env : Env) : E.tuple fs env = (match evA fs env with
  | some ds => if flatA ds = true then some (.tup ds, .full) else none
  | none => none) := rfl
@[simp] theorem call_eq (F : List D → Option Out) (fs : List SE) (env : Env) : E.call F fs env = (match evA fs env with
  | some ds => (match F ds with
    | some (.ok d lv) => some (d, lv)
    | _ => none)
  | none => none) := rfl
@[simp] theorem blt_eq (op : List D → Option (D × Lv)) (fs : List SE) (env : Env) : E.blt op fs env = (match evA fs env with
  | some ds => op ds
  | none => none) := rfl
@[simp] theorem noPart_eq (env : Env) : E.noPart env = some none := rfl
@[simp] theorem part_eq (f : SE) (env : Env) : E.part f env = (match f env with
  | some (.int i, _) => some (some i)
  | _ => none) := rfl
@[simp] theorem slice_eq (fa : SE) (fl fh : Env → Option (Option Int)) (env : Env) : E.slice fa fl fh env = (match fa env, fl env, fh env with
  | some (d, _), some lo, some hi => sliceD d lo hi
  | _, _, _ => none) := rfl
@[simp] theorem xof_eq (f : SE) (env : Env) : Xo.of f env = (match f env with
  | some (d, lv) => some (.ok d lv)
  | none => none) := rfl
@[simp] theorem xcall_eq (F : List D → Option Out) (fs : List SE) (env : Env) : Xo.call F fs env = (match evA fs env with
  | some ds => F ds
  | none => none) := rfl
@[simp] theorem xite_eq (ft : SE) (fa fb : SX) (env : Env) : Xo.ite ft fa fb env = (match ft env with
  | some (.bl true, _) => fa env
  | some (.bl false, _) => fb env
  | _ => none) := rfl
@[simp] theorem nxt_eq (env : Env) : S.nxt env = some (.next env) := rfl
@[simp] theorem seq_eq (g1 g2 : SS) (env : Env) : S.seq g1 g2 env = (match g1 env with
  | some (.next e) => g2 e
  | r => r) := rfl
@[simp] theorem set_eq (i : Nat) (f : SX) (env : Env) : S.set i f env = (match f env with
  | some (.ok d .full) => some (.next (env.set i (some (d, .full))))
  | some (.ok _ _) => (match f (shOnly env) with
    | some (.ok d lv) => some (.next (env.set i (some (d, lv))))
    | _ => none)
  | some (.exc c) => some (.exc c env)
  | none => none) := rfl
@[simp] theorem ret_eq (f : SX) (env : Env) : S.ret f env = (match f env with
  | some (.ok d .full) => some (.ret d .full)
  | some (.ok _ _) => (match f (shOnly env) with
    | some (.ok d lv) => some (.ret d lv)
    | _ => none)
  | some (.exc c) => some (.exc c env)
  | none => none) := rfl
@[simp] theorem retN_eq (i : Nat) (env : Env) : S.retN i env = (match env[i]? with
  | some (some (d, lv)) => some (.ret d lv)
  | _ => none) := rfl
@[simp] theorem drop_eq (f : SX) (env : Env) : S.drop f env = (match f env with
  | some (.ok _ _) => some (.next env)
  | some (.exc c) => some (.exc c env)
  | none => none) := rfl
@[simp] theorem site_eq (ft : SE) (g1 g2 : SS) (env : Env) : S.ite ft g1 g2 env = (match ft env with
  | some (.bl true, _) => g1 env
  | some (.bl false, _) => g2 env
  | _ => none) := rfl
@[simp] theorem frz_eq (i : Nat) (g : SS) (env : Env) : S.frz i g env = (match env[i]? with
  | some (some (d, _)) => g (env.set i (some (d, lvS d)))
  | _ => none) := rfl
@[simp] theorem raise_eq (c : Str) (env : Env) : S.raise c env = some (.exc c env) := rfl
@[simp] theorem kill_nil (env : Env) : S.kill env [] = env := rfl
@[simp] theorem kill_cons (env : Env) (k : Nat) (ks : List Nat) : S.kill env (k :: ks) = S.kill (env.set k none) ks := rfl
@[simp] theorem setE_nil (env : Env) (ds : List D) : setE env [] ds = env := by cases ds <;> rfl
@[simp] theorem setE_cons (env : Env) (j : Nat) (js : List Nat) (d : D) (ds : List D) : setE env (j :: js) (d :: ds) = setE (env.set j (some (d, lvS d))) js ds := rfl
@[simp] theorem wipeE_nil (env : Env) : wipeE env [] = env := rfl
@[simp] theorem wipeE_cons (env : Env) (v : Nat) (vs : List Nat) : wipeE env (v :: vs) = (wipeE env vs).set v none := rfl
@[simp] theorem shOnly_nil : shOnly [] = [] := rfl
@[simp] theorem shOnly_none (env : Env) : shOnly (none :: env) = none :: shOnly env := rfl
@[simp] theorem shOnly_some (d : D) (lv : Lv) (env : Env) : shOnly (some (d, lv) :: env) = (if lv = .sh ∨ flatD d = true then some (d, lv) else none) :: shOnly env := rfl
@[simp] theorem forR_eq (fi : Env → Option (List (List D))) (js ks : List Nat) (g : SS) (env : Env) : S.forR fi js ks g env = (match fi env with
  | some items => S.forGo js ks g items (S.kill env ks)
  | none => none) := rfl
@[simp] theorem forL_eq (fi : Env → Option (List (List D))) (js ks : List Nat) (g : SS) (env : Env) : S.forL fi js ks g env = (match fi (shOnly env) with
  | some items => S.forGo js ks g items (S.kill env ks)
  | none => none) := rfl
@[simp] theorem app_eq (i : Nat) (f : SE) (env : Env) : S.app i f env = (match env[i]?, f env with
  | some (some (.lst ds, .full)), some (d, .full) => if ds.length < 1000000 then some (.next (env.set i (some (.lst (ds ++ [d]), .full)))) else none
  | _, _ => none) := rfl
@[simp] theorem appN_eq (i j : Nat) (env : Env) : S.appN i j env = (match env[i]?, env[j]? with
  | some (some (.lst ds, .full)), some (some (d, .full)) => if ds.length < 1000000 ∧ i ≠ j then some (.next ((env.set j none).set i (some (.lst (ds ++ [d]), .full)))) else none
  | _, _ => none) := rfl
@[simp] theorem ins_eq (i : Nat) (fk f : SE) (env : Env) : S.ins i fk f env = (match env[i]?, fk env, f env with
  | some (some (.lst ds, .full)), some (.int k, _), some (d, .full) => if ds.length < 1000000 ∧ 0 ≤ k ∧ k < 1000000 then some (.next (env.set i (some (.lst (ds.take k.toNat ++ [d] ++ ds.drop k.toNat), .full)))) else none
  | _, _, _ => none) := rfl
@[simp] theorem setIx_eq (i : Nat) (fk fv : SE) (env : Env) : S.setIx i fk fv env = (match env[i]?, fv env, fk env with
  | some (some (.lst ds, .full)), some (d, .full), some (.int k, _) => (match L2.ixN ds.length k with
    | some j => some (.next (env.set i (some (.lst (ds.set j d), .full))))
    | none => none)
  | some (some (.lst ds, .out)), some _, some (.int k, _) => (match L2.ixN ds.length k, fv (shOnly env) with
    | some j, some (d, _) => some (.next (env.set i (some (.lst (ds.set j d), .out))))
    | _, _ => none)
  | _, _, _ => none) := rfl
@[simp] theorem addD_int (i j : Int) : addD (.int i) (.int j) = some (.int (i + j), .full) := rfl
@[simp] theorem addD_str (i j : Str) : addD (.str i) (.str j) = if i.length + j.length ≤ 1000000 then some (.str (i ++ j), .full) else none := rfl
@[simp] theorem addD_lst (i j : List D) : addD (.lst i) (.lst j) = if i.length + j.length ≤ 1000000 then some (.lst (i ++ j), lvL (i ++ j)) else none := rfl
@[simp] theorem subD_int (i j : Int) : subD (.int i) (.int j) = some (.int (i - j), .full) := rfl
@[simp] theorem ltD_int (i j : Int) : ltD (.int i) (.int j) = some (.bl (decide (i < j)), .full) := rfl
@[simp] theorem leD_int (i j : Int) : leD (.int i) (.int j) = some (.bl (decide (i ≤ j)), .full) := rfl
@[simp] theorem gtD_int (i j : Int) : gtD (.int i) (.int j) = some (.bl (decide (j < i)), .full) := rfl
@[simp] theorem geD_int (i j : Int) : geD (.int i) (.int j) = some (.bl (decide (j ≤ i)), .full) := rfl
@[simp] theorem negD_int (i : Int) : negD (.int i) = some (.int (-i), .full) := rfl
@[simp] theorem eqD_int (i j : Int) : eqD (.int i) (.int j) = some (.bl (decide (i = j)), .full) := rfl
@[simp] theorem neD_int (i j : Int) : neD (.int i) (.int j) = some (.bl (!decide (i = j)), .full) := rfl
@[simp] theorem eqD_str (i j : Str) : eqD (.str i) (.str j) = some (.bl (decide (i = j)), .full) := rfl
@[simp] theorem neD_str (i j : Str) : neD (.str i) (.str j) = some (.bl (!decide (i = j)), .full) := rfl
theorem fdivD_int {i j : Int} (h : 0 < j ∧ j < 1073741824) : fdivD (.int i) (.int j) = some (.int (i / j), .full) := by
  show (if divOk i j = true then some (D.int (i / j), Lv.full) else none) = _
  rw [if_pos (show divOk i j = true from decide_eq_true h)]
theorem modD_int {i j : Int} (h : 0 < j) : modD (.int i) (.int j) = some (.int (i % j), .full) := by
  show (if modOk i j = true then some (D.int (i % j), Lv.full) else none) = _
  rw [if_pos (show modOk i j = true from decide_eq_true h)]
theorem mulD_int {i j : Int} (h : i.natAbs < big) (k : j.natAbs < big) : mulD (.int i) (.int j) = some (.int (i * j), .full) := by
  show (if mulOk i j = true then some (D.int (i * j), Lv.full) else none) = _
  rw [if_pos (by unfold mulOk; rw [decide_eq_true h, decide_eq_true k]; rfl)]
theorem big_ge : 10 ^ 60 ≤ big := by unfold big; decide
theorem small_big {i : Int} (h : -(10 ^ 60) < i ∧ i < 10 ^ 60) : i.natAbs < big := by
  have := big_ge
  omega
theorem mul_ok {i j : Int} (h : -(10 ^ 60) < i ∧ i < 10 ^ 60) (k : -(10 ^ 60) < j ∧ j < 10 ^ 60) : mulD (.int i) (.int j) = some (.int (i * j), .full) := mulD_int (small_big h) (small_big k)
@[simp] theorem lenD_lst (ds : List D) : lenD [.lst ds] = some (.int ds.length, .full) := rfl
@[simp] theorem lenD_tup (ds : List D) : lenD [.tup ds] = some (.int ds.length, .full) := rfl
@[simp] theorem lenD_scr (ds : List Int) : lenD [.scr ds] = some (.int ds.length, .full) := rfl
@[simp] theorem lenD_str (z : Str) : lenD [.str z] = if z.length ≤ 1000000 then some (.int z.length, .full) else none := rfl
@[simp] theorem sumD_ints (xs : List Int) : sumD [dI xs] = some (.int xs.sum, .full) := by
  show (match intsOf (xs.map D.int) with | some ns => some (D.int ns.sum, Lv.full) | none => none) = _
  rw [intsOf_ints]
@[simp] theorem allD_bls (xs : List Bool) : allD [.lst (xs.map D.bl)] = some (.bl (xs.all id), .full) := by
  show (match blsOf (xs.map D.bl) with | some ns => some (D.bl (ns.all id), Lv.full) | none => none) = _
  rw [blsOf_bls]
@[simp] theorem absD_int (i : Int) : absD [.int i] = some (.int (if i < 0 then -i else i), .full) := rfl
@[simp] theorem max2D_int (i j : Int) : max2D [.int i, .int j] = some (.int (if j > i then j else i), .full) := rfl
@[simp] theorem min2D_int (i j : Int) : min2D [.int i, .int j] = some (.int (if j < i then j else i), .full) := rfl
@[simp] theorem intC_bl (k : Bool) : intC [.bl k] = some (.int (if k = true then 1 else 0), .full) := rfl
@[simp] theorem intC_int (k : Int) : intC [.int k] = some (.int k, .full) := rfl
@[simp] theorem listC_lst (ds : List D) : listC [.lst ds] = some (.lst ds, lvL ds) := rfl
@[simp] theorem listC_tup (ds : List D) : listC [.tup ds] = some (.lst ds, lvL ds) := rfl
@[simp] theorem mcountD_ints (xs : List Int) (k : Int) : mcountD (dI xs) (.int k) = some (.int (xs.count k : Nat), .full) := by
  show (match intsOf (xs.map D.int) with | some ns => some (D.int (ns.count k : Nat), Lv.full) | none => none) = _
  rw [intsOf_ints]
@[simp] theorem sliceD_lst (ds : List D) (lo hi : Option Int) : sliceD (.lst ds) lo hi = some (.lst (cutA ds lo hi), lvL (cutA ds lo hi)) := rfl
theorem ixD_lst {ds : List D} {i : Int} {d : D} (h : L2.atI ds i = some d) : ixD (.lst ds) (.int i) = some (d, lvS d) := by
  show (match L2.atI ds i with | some d => some (d, lvS d) | none => none) = _
  rw [h]
theorem ixD_tup {ds : List D} {i : Int} {d : D} (h : L2.atI ds i = some d) : ixD (.tup ds) (.int i) = some (d, lvS d) := by
  show (match L2.atI ds i with | some d => some (d, lvS d) | none => none) = _
  rw [h]
theorem ixD_scr {ns : List Int} {i : Int} {n : Int} (h : L2.atI ns i = some n) : ixD (.scr ns) (.int i) = some (.int n, .full) := by
  show (match L2.atI ns i with | some n => some (D.int n, Lv.full) | none => none) = _
  rw [h]
theorem ixN_nat {n j : Nat} (h : j < n) : L2.ixN n (j : Int) = some j := by
  unfold L2.ixN
  rw [if_pos (by omega), if_pos (by omega)]
  rfl
theorem ixN_int {n : Nat} {j : Int} (h0 : 0 ≤ j) (h : j < n) : L2.ixN n j = some j.toNat := by
  unfold L2.ixN
  rw [if_pos h0, if_pos (by omega)]
theorem atI_nat' {α : Type} {xs : List α} {j : Nat} {x : α} (h : xs[j]? = some x) : L2.atI xs (j : Int) = some x := by
  unfold L2.atI
  rw [ixN_nat (List.getElem?_eq_some_iff.mp h).1]
  exact h
theorem atI_int {α : Type} {xs : List α} {j : Int} {x : α} (h0 : 0 ≤ j) (h : xs[j.toNat]? = some x) : L2.atI xs j = some x := by
  have e : ((j.toNat : Nat) : Int) = j := by omega
  rw [← e]
  exact atI_nat' h
/-- a number of a row, a row of a table -/
theorem ix_ints {xs : List Int} {j : Nat} (h : j < xs.length) : ixD (dI xs) (.int (j : Int)) = some (.int xs[j], .full) := by
  rw [ixD_lst (d := .int xs[j]) (atI_nat' (by rw [List.getElem?_map, List.getElem?_eq_getElem h]; rfl))]
  rfl
theorem ix_rows {rows : List (List Int)} {j : Nat} (h : j < rows.length) : ixD (dM rows) (.int (j : Int)) = some (dI rows[j], .sh) := by
  rw [ixD_lst (d := dI rows[j]) (atI_nat' (by rw [List.getElem?_map, List.getElem?_eq_getElem h]; rfl))]
  rfl
/-! isinstance -/
@[simp] theorem isi_list (ds : List D) : isiD "list" (.lst ds) = some (.bl true, .full) := rfl
@[simp] theorem isi_int (i : Int) : isiD "int" (.int i) = some (.bl true, .full) := rfl
@[simp] theorem isi_intB (i : Int) : isiD "bool" (.int i) = some (.bl false, .full) := rfl
@[simp] theorem isi_bl (i : Bool) : isiD "bool" (.bl i) = some (.bl true, .full) := rfl
@[simp] theorem isi_tup (ds : List D) : isiD "tuple" (.tup ds) = some (.bl true, .full) := rfl
@[simp] theorem isi_str (z : Str) : isiD "str" (.str z) = some (.bl true, .full) := rfl

/-! what is walked -/
@[simp] theorem iList_eq (f : SE) (env : Env) : E.iList f env = (match f env with
  | some (.lst ds, _) => some (ds.map fun d => [d])
  | _ => none) := rfl
@[simp] theorem iTup_eq (f : SE) (env : Env) : E.iTup f env = (match f env with
  | some (.tup ds, _) => some (ds.map fun d => [d])
  | _ => none) := rfl
theorem rng1_eq {fs : List SE} {env : Env} {n : Nat} (h : evA fs env = some [.int (n : Int)]) (hn : n ≤ 1000000) : E.iRng1 fs env = some ((List.range n).map fun (i : Nat) => [D.int (i : Int)]) := by
  unfold E.iRng1
  rw [h]
  show (if (n : Int) ≤ 1000000 ∧ -1000000 ≤ (n : Int) then _ else _) = _
  rw [if_pos (by omega)]
  rfl
theorem rng2_eq {fs : List SE} {env : Env} {a b : Nat} (h : evA fs env = some [.int (a : Int), .int (b : Int)]) (ha : a ≤ 1000000) (hb : b ≤ 1000000) : E.iRng2 fs env = some ((List.range (b - a)).map fun (i : Nat) => [D.int ((a + i : Nat) : Int)]) := by
  unfold E.iRng2
  rw [h]
  show (if ((a : Int) ≤ 1000000 ∧ -1000000 ≤ (a : Int)) ∧ ((b : Int) ≤ 1000000 ∧ -1000000 ≤ (b : Int)) then _ else _) = _
  rw [if_pos (by omega)]
  have e : ((b : Int) - (a : Int)).toNat = b - a := by omega
  rw [e]
  congr 1
/-! comprehensions -/
theorem compGo_map {α : Type} {env : Env} {js : List Nat} {fe : SE} (enc : α → List D) (f : α → D) : ∀ xs : List α, (∀ x ∈ xs, fe (setE env js (enc x)) = some (f x, .full)) → compGo env js (E.c (.bl true)) fe (xs.map enc) = some (xs.map f)
  | [], _ => rfl
  | x :: xs, h => by
    rw [List.map_cons]
    unfold compGo
    rw [c_eq]
    show (match fe (setE env js (enc x)) with | some (d, .full) => (match compGo env js (E.c (.bl true)) fe (xs.map enc) with | some ds => some (d :: ds) | none => none) | _ => none) = _
    rw [h x List.mem_cons_self, compGo_map enc f xs fun y hy => h y (List.mem_cons_of_mem _ hy)]
    rfl
theorem compGo_filter {α : Type} {env : Env} {js : List Nat} {ft fe : SE} (enc : α → List D) (p : α → Bool) (f : α → D) : ∀ xs : List α, (∀ x ∈ xs, ∃ lv, ft (setE env js (enc x)) = some (.bl (p x), lv)) → (∀ x ∈ xs, p x = true → fe (setE env js (enc x)) = some (f x, .full)) →
    compGo env js ft fe (xs.map enc) = some ((xs.filter p).map f)
  | [], _, _ => rfl
  | x :: xs, ht, h => by
    rw [List.map_cons]
    unfold compGo
    obtain ⟨lv, e⟩ := ht x List.mem_cons_self
    have ih := compGo_filter enc p f xs (fun y hy => ht y (List.mem_cons_of_mem _ hy)) fun y hy => h y (List.mem_cons_of_mem _ hy)
    rw [e]
    cases hp : p x with
    | true =>
      show (match fe (setE env js (enc x)) with | some (d, .full) => (match compGo env js ft fe (xs.map enc) with | some ds => some (d :: ds) | none => none) | _ => none) = _
      rw [h x List.mem_cons_self hp, ih, List.filter_cons_of_pos hp]
      rfl
    | false =>
      show compGo env js ft fe (xs.map enc) = _
      rw [ih, List.filter_cons_of_neg (by rw [hp]; decide)]
theorem comp_eq {α : Type} {fi : Env → Option (List (List D))} {js vs : List Nat} {fe : SE} {env : Env} {xs : List α} (enc : α → List D) (f : α → D) (hi : fi env = some (xs.map enc)) (hl : xs.length ≤ 100000) (h : ∀ x ∈ xs, fe (setE (wipeE env vs) js (enc x)) = some (f x, .full)) :
    E.comp fi js vs (E.c (.bl true)) fe env = some (.lst (xs.map f), .full) := by
  unfold E.comp
  rw [hi]
  show (if (xs.map enc).length ≤ 100000 then _ else _) = _
  rw [if_pos (by rw [List.length_map]; exact hl), compGo_map enc f xs h]
theorem comp_if {α : Type} {fi : Env → Option (List (List D))} {js vs : List Nat} {ft fe : SE} {env : Env} {xs : List α} (enc : α → List D) (p : α → Bool) (f : α → D) (hi : fi env = some (xs.map enc)) (hl : xs.length ≤ 100000) (ht : ∀ x ∈ xs, ∃ lv, ft (setE (wipeE env vs) js (enc x)) = some (.bl (p x), lv))
    (h : ∀ x ∈ xs, p x = true → fe (setE (wipeE env vs) js (enc x)) = some (f x, .full)) : E.comp fi js vs ft fe env = some (.lst ((xs.filter p).map f), .full) := by
  unfold E.comp
  rw [hi]
  show (if (xs.map enc).length ≤ 100000 then _ else _) = _
  rw [if_pos (by rw [List.length_map]; exact hl), compGo_filter enc p f xs ht h]
/-! loops -/
theorem forGo_cons {js ks : List Nat} {g : SS} {it : List D} {rest : List (List D)} {env : Env} : S.forGo js ks g (it :: rest) env = (match g (setE env js it) with
    | some (.next e) => S.forGo js ks g rest (S.kill e ks)
    | r => r) := rfl
/-- a loop that goes through: its state is a function of what has been taken -/
theorem forGo_pre {α : Type} {js ks : List Nat} {g : SS} (enc : α → List D) (e : List α → Env) : ∀ (xs pre : List α), (∀ p x q, pre ++ xs = p ++ x :: q → pre.length ≤ p.length → ∃ e1, g (setE (e p) js (enc x)) = some (.next e1) ∧ S.kill e1 ks = e (p ++ [x])) →
    S.forGo js ks g (xs.map enc) (e pre) = some (.next (e (pre ++ xs)))
  | [], pre, _ => by rw [List.append_nil]; rfl
  | x :: xs, pre, h => by
    obtain ⟨e1, h1, h2⟩ := h pre x xs rfl (Nat.le_refl _)
    rw [List.map_cons, forGo_cons, h1]
    show S.forGo js ks g (xs.map enc) (S.kill e1 ks) = _
    rw [h2, forGo_pre enc e xs (pre ++ [x]) fun p y q hp hl => h p y q (by rw [← hp, List.append_assoc]; rfl) (by rw [List.length_append] at hl; omega), List.append_assoc]
    rfl
theorem forGo_all {α : Type} {js ks : List Nat} {g : SS} (enc : α → List D) (e : List α → Env) (xs : List α) (h : ∀ p x q, xs = p ++ x :: q → ∃ e1, g (setE (e p) js (enc x)) = some (.next e1) ∧ S.kill e1 ks = e (p ++ [x])) :
    S.forGo js ks g (xs.map enc) (e []) = some (.next (e xs)) := by
  have := forGo_pre (js := js) (ks := ks) (g := g) enc e xs [] (fun p x q hp _ => h p x q hp)
  simpa using this
/-- a loop that looks: it goes on, or it tells -/
theorem forGo_look {α : Type} {js ks : List Nat} {g : SS} (enc : α → List D) (env : Env) (r : Res) (p : α → Bool) (hr : ∀ e, r ≠ .next e) : ∀ xs : List α, (∀ x ∈ xs, (p x = true → ∃ e1, g (setE env js (enc x)) = some (.next e1) ∧ S.kill e1 ks = env) ∧ (p x = false → g (setE env js (enc x)) = some r)) →
    S.forGo js ks g (xs.map enc) env = if xs.all p = true then some (.next env) else some r
  | [], _ => rfl
  | x :: xs, h => by
    have hx := h x List.mem_cons_self
    have ih := forGo_look enc env r p hr xs fun y hy => h y (List.mem_cons_of_mem _ hy)
    rw [List.map_cons, forGo_cons, List.all_cons]
    cases hp : p x with
    | true =>
      obtain ⟨e1, h1, h2⟩ := hx.1 hp
      rw [h1]
      show S.forGo js ks g (xs.map enc) (S.kill e1 ks) = _
      rw [h2, ih, Bool.true_and]
    | false =>
      rw [hx.2 hp, Bool.false_and, if_neg Bool.false_ne_true]
      cases r with
      | next e => exact (hr e rfl).elim
      | ret d lv => rfl
      | exc c e => rfl
end PM

set_option Elab.async false
set_option linter.all false
set_option maxRecDepth 100000
set_option maxHeartbeats 4000000
/-! The mathematics, part b: the law's own small defs. -/
namespace PM
open PySem hiding Env
open PL

theorem run_ret {g : SS} {n : Nat} {ds : List D} {d : D} {lv : Lv} (h : g (env0 n ds) = some (.ret d lv)) : runB g n ds = some (.ok d lv) := by
  unfold runB
  rw [h]
theorem run_nxt {g : SS} {n : Nat} {ds : List D} {e : Env} (h : g (env0 n ds) = some (.next e)) : runB g n ds = some (.ok .non .full) := by
  unfold runB
  rw [h]
theorem run_exc {g : SS} {n : Nat} {ds : List D} {c : Str} {e : Env} (h : g (env0 n ds) = some (.exc c e)) : runB g n ds = some (.exc c) := by
  unfold runB
  rw [h]
theorem seq_of {g1 g2 : SS} {env e : Env} {r : Res} (h1 : g1 env = some (.next e)) (h2 : g2 e = some r) : S.seq g1 g2 env = some r := by
  rw [seq_eq, h1]
  exact h2
theorem seq_ret {g1 g2 : SS} {env : Env} {d : D} {lv : Lv} (h1 : g1 env = some (.ret d lv)) : S.seq g1 g2 env = some (.ret d lv) := by
  rw [seq_eq, h1]
theorem seq_exc {g1 g2 : SS} {env e : Env} {c : Str} (h1 : g1 env = some (.exc c e)) : S.seq g1 g2 env = some (.exc c e) := by
  rw [seq_eq, h1]
theorem ite_t {ft : SE} {g1 g2 : SS} {env : Env} {lv : Lv} (h : ft env = some (.bl true, lv)) : S.ite ft g1 g2 env = g1 env := by
  rw [site_eq, h]
theorem ite_f {ft : SE} {g1 g2 : SS} {env : Env} {lv : Lv} (h : ft env = some (.bl false, lv)) : S.ite ft g1 g2 env = g2 env := by
  rw [site_eq, h]
theorem ite_d {ft : SE} {g1 g2 : SS} {env : Env} {lv : Lv} {p : Prop} [Decidable p] (h : ft env = some (.bl (decide p), lv)) : S.ite ft g1 g2 env = if p then g1 env else g2 env := by
  by_cases hp : p
  · rw [if_pos hp, ite_t (lv := lv) (by rw [h, decide_eq_true hp])]
  · rw [if_neg hp, ite_f (lv := lv) (by rw [h, decide_eq_false hp])]

def cellAt (ns : List Int) (k : Nat) : Int := ns.getD k 0
theorem F_cell (ns : List Int) (k : Nat) : F__law_cell_at [.scr ns, .int (k : Int)] = some (.ok (.int (cellAt ns k)) .full) := by
  refine run_ret ?_
  by_cases h : k < ns.length
  · refine seq_ret ?_
    rw [ite_t (lv := .full) (by simp [env0, h])]
    simp [env0, ixD_scr (atI_nat' (List.getElem?_eq_getElem h)), cellAt, h]
  · refine seq_of (e := env0 2 [.scr ns, .int (k : Int)]) ?_ ?_
    · rw [ite_f (lv := .full) (by simp [env0, h])]
      rfl
    · simp [cellAt, h]
def stir (s : Int) : Int := ((s + 7919) % 2147483647 * ((s + 7919) % 2147483647) + 48271 * ((s + 7919) % 2147483647) + 12345) % 2147483629
theorem F_stir (s : Int) : F__law_stir [.int s] = some (.ok (.int (stir s)) .full) := by
  refine run_ret ?_
  have h1 : 0 ≤ (s + 7919) % 2147483647 := Int.emod_nonneg _ (by decide)
  have h2 : (s + 7919) % 2147483647 < 2147483647 := Int.emod_lt_of_pos _ (by decide)
  have b : -(10 ^ 60) < (s + 7919) % 2147483647 ∧ (s + 7919) % 2147483647 < (10 : Int) ^ 60 := by omega
  simp [g__law_stir, env0, modD_int, mul_ok b b, mul_ok (i := 48271) (by decide) b, stir]
theorem stir_nonneg (s : Int) : 0 ≤ stir s := Int.emod_nonneg _ (by decide)
theorem stir_lt (s : Int) : stir s < 2147483629 := Int.emod_lt_of_pos _ (by decide)

/-! copies -/
theorem map_id_ints (xs : List Int) : xs.map (fun x => x) = xs := List.map_id' xs
theorem F_copy (rows : List (List Int)) (h : rows.length ≤ 100000) : F__law_copy [dM rows] = some (.ok (dM rows) .full) := by
  refine run_ret ?_
  unfold g__law_copy
  rw [ret_eq, xof_eq, comp_eq (xs := rows) (fun r => [dI r]) dI (by simp [env0]) h (fun r _ => by simp [env0])]
end PM

set_option Elab.async false
set_option linter.all false
set_option maxRecDepth 100000
set_option maxHeartbeats 4000000
/-! The mathematics, part c: squares, balance. -/
namespace PM
open PySem hiding Env
open PL

def one1 (x : Int) : Bool := decide (x = 1) || decide (x = -1)
def rowOk (n : Nat) (r : List Int) : Bool := decide (r.length = n) && r.all one1
def isSq (rows : List (List Int)) : Bool := decide (1 ≤ rows.length ∧ rows.length ≤ 24) && rows.all (rowOk rows.length)
def dot (xs ys : List Int) : Int := (List.zipWith (· * ·) xs ys).sum
def balT (rows : List (List Int)) (k j : Nat) : Bool := decide (dot (rows.getD k []) (rows.getD j []) = 0)
def isBal (rows : List (List Int)) : Bool := (List.range rows.length).all fun k => (List.range k).all fun j => balT rows k j
theorem all_map_id {α : Type} (p : α → Bool) (xs : List α) : ((xs.map p).all id) = xs.all p := by
  rw [List.all_map]; rfl

theorem sq_comp {env : Env} {r : List Int} {n : Nat} {i j : Nat} (hi : env[i]? = some (some (dI r, .sh))) (hr : r.length ≤ 100000) (hj : j < env.length) :
    E.comp (E.iList (E.var i)) [j] [j] (E.c (.bl true)) (E.or (E.bin eqD (E.var j) (E.c (.int 1))) (E.bin eqD (E.var j) (E.un negD (E.c (.int 1))))) env = some (.lst (r.map fun x => D.bl (one1 x)), .full) := by
  refine comp_eq (xs := r) (fun x => [D.int x]) (fun x => D.bl (one1 x)) (by simp [hi]) hr fun x _ => ?_
  simp [hj]
  by_cases h : x = 1 <;> simp [h, one1]
theorem chain24 {env : Env} {i : Nat} {ds : List D} {lv : Lv} (hi : env[i]? = some (some (.lst ds, lv))) : E.not (E.chain leD leD (E.c (.int 1)) (E.blt lenD [(E.var i)]) (E.c (.int 24))) env = some (.bl (!decide (1 ≤ ds.length ∧ ds.length ≤ 24)), .full) := by
  simp only [not_eq, chain_eq, c_eq, blt_eq, evA_cons, var_eq, hi, evA_nil, lenD_lst, leD_int]
  by_cases h : (1 : Int) ≤ (ds.length : Int)
  · rw [decide_eq_true h]
    have : (decide ((ds.length : Int) ≤ 24)) = decide (1 ≤ ds.length ∧ ds.length ≤ 24) := decide_eq_decide.mpr (by omega)
    simp only [this]
  · rw [decide_eq_false h]
    have : decide (1 ≤ ds.length ∧ ds.length ≤ 24) = false := decide_eq_false (by omega)
    simp only [this]
theorem F_isSq (rows : List (List Int)) (hr : ∀ r ∈ rows, r.length ≤ 100000) : F_is_square [dM rows] = some (.ok (.bl (isSq rows)) .full) := by
  refine run_ret ?_
  unfold g_is_square
  have e0 : env0 3 [dM rows] = [some (dM rows, .sh), none, none] := rfl
  rw [e0]
  have hc := chain24 (env := [some (dM rows, .sh), none, none]) (i := 0) (ds := rows.map dI) (lv := .sh) rfl
  rw [List.length_map] at hc
  by_cases h : 1 ≤ rows.length ∧ rows.length ≤ 24
  · refine seq_of (e := [some (dM rows, .sh), none, none]) ?_ ?_
    · rw [ite_f (lv := .full) (by rw [hc, decide_eq_true h]; rfl)]
      rfl
    · have L := forGo_look (js := [1]) (ks := [1]) (g := b1_is_square) (fun r => [dI r]) [some (dM rows, .sh), none, none] (.ret (.bl false) .full) (rowOk rows.length) (fun e z => nomatch z) rows fun r hm => by
        have ht : (E.or (E.bin neD (E.blt lenD [(E.var 1)]) (E.blt lenD [(E.var 0)])) (E.not (E.blt allD [(E.comp (E.iList (E.var 1)) [2] [2] (E.c (.bl true)) (E.or (E.bin eqD (E.var 2) (E.c (.int 1))) (E.bin eqD (E.var 2) (E.un negD (E.c (.int 1))))))]))) [some (dM rows, .sh), some (dI r, .sh), none] = some (.bl (!rowOk rows.length r), .full) := by
          have hcomp := sq_comp (env := [some (dM rows, .sh), some (dI r, .sh), none]) (r := r) (n := 0) (i := 1) (j := 2) rfl (hr r hm) (by simp)
          have ha : (r.map fun x => D.bl (one1 x)) = (r.map one1).map D.bl := by rw [List.map_map]; rfl
          rw [ha] at hcomp
          simp only [or_eq, bin_eq, blt_eq, evA_cons, evA_nil, hcomp, not_eq, allD_bls, all_map_id]
          by_cases hl : r.length = rows.length
          · simp [hl, rowOk]
          · have : ¬ ((r.length : Int) = (rows.length : Int)) := by omega
            simp [hl, rowOk, this]
        refine ⟨fun hp => ⟨[some (dM rows, .sh), some (dI r, .sh), none], ?_, rfl⟩, fun hp => ?_⟩
        · show b1_is_square [some (dM rows, .sh), some (dI r, .sh), none] = _
          unfold b1_is_square
          rw [ite_f (lv := .full) (by rw [ht, hp]; rfl)]
          rfl
        · show b1_is_square [some (dM rows, .sh), some (dI r, .sh), none] = _
          unfold b1_is_square
          rw [ite_t (lv := .full) (by rw [ht, hp]; rfl)]
          rfl
      have hf : S.forL (E.iList (E.var 0)) [1] [1] b1_is_square [some (dM rows, .sh), none, none] = if rows.all (rowOk rows.length) = true then some (.next [some (dM rows, .sh), none, none]) else some (.ret (.bl false) .full) := by
        rw [← L]
        simp
        rfl
      cases hb : rows.all (rowOk rows.length) with
      | true =>
        rw [hb] at hf
        refine seq_of hf ?_
        simp [isSq, h, hb]
      | false =>
        rw [hb] at hf
        refine (seq_ret hf).trans ?_
        simp [isSq, hb]
  · refine seq_ret ?_
    rw [ite_t (lv := .full) (by rw [hc, decide_eq_false h]; rfl)]
    have : isSq rows = false := by unfold isSq; rw [decide_eq_false h]; rfl
    simp [this]
theorem count_le : ∀ r : List Int, r.count 1 + r.count (-1) ≤ r.length
  | [] => by simp
  | x :: r => by
    have ih := count_le r
    simp only [List.count_cons, List.length_cons]
    by_cases h1 : x = 1
    · subst h1; simp; omega
    · by_cases h2 : x = -1
      · subst h2; simp; omega
      · simp [h1, h2]; omega
theorem count_all : ∀ r : List Int, decide (r.count 1 + r.count (-1) = r.length) = r.all one1
  | [] => by simp
  | x :: r => by
    have ih := count_all r
    have le := count_le r
    rw [List.all_cons, ← ih]
    simp only [List.count_cons, List.length_cons, one1]
    by_cases h1 : x = 1
    · subst h1
      simp
      omega
    · by_cases h2 : x = -1
      · subst h2
        simp
        omega
      · simp [h1, h2]
        omega
theorem F_goodSq (rows : List (List Int)) : F__law_good_square [dM rows] = some (.ok (.bl (isSq rows)) .full) := by
  refine run_ret ?_
  unfold g__law_good_square
  have e0 : env0 2 [dM rows] = [some (dM rows, .sh), none] := rfl
  rw [e0]
  have hc := chain24 (env := [some (dM rows, .sh), none]) (i := 0) (ds := rows.map dI) (lv := .sh) rfl
  rw [List.length_map] at hc
  by_cases h : 1 ≤ rows.length ∧ rows.length ≤ 24
  · refine seq_of (e := [some (dM rows, .sh), none]) ?_ ?_
    · rw [ite_f (lv := .full) (by rw [hc, decide_eq_true h]; rfl)]
      rfl
    · have L := forGo_look (js := [1]) (ks := [1]) (g := b1__law_good_square) (fun r => [dI r]) [some (dM rows, .sh), none] (.ret (.bl false) .full) (rowOk rows.length) (fun e z => nomatch z) rows fun r hm => by
        have ht : (E.or (E.bin neD (E.blt lenD [(E.var 1)]) (E.blt lenD [(E.var 0)])) (E.bin neD (E.bin addD (E.bin mcountD (E.var 1) (E.c (.int 1))) (E.bin mcountD (E.var 1) (E.un negD (E.c (.int 1))))) (E.blt lenD [(E.var 1)]))) [some (dM rows, .sh), some (dI r, .sh)] = some (.bl (!rowOk rows.length r), .full) := by
          have hq : decide (((r.count 1 : Nat) : Int) + ((r.count (-1) : Nat) : Int) = (r.length : Int)) = r.all one1 := by
            rw [← count_all]
            exact decide_eq_decide.mpr (by omega)
          by_cases hl : r.length = rows.length
          · simp only [or_eq, bin_eq, blt_eq, evA_cons, evA_nil, var_eq, List.getElem?_cons_succ, List.getElem?_cons_zero, lenD_lst, List.length_map, neD_int, hl, decide_true, Bool.not_true, mcountD_ints, c_eq, un_eq, negD_int, addD_int]
            rw [← hl, hq, rowOk, decide_eq_true rfl, Bool.true_and]
          · have : ¬ ((r.length : Int) = (rows.length : Int)) := by omega
            simp [hl, rowOk, this]
        refine ⟨fun hp => ⟨[some (dM rows, .sh), some (dI r, .sh)], ?_, rfl⟩, fun hp => ?_⟩
        · show b1__law_good_square [some (dM rows, .sh), some (dI r, .sh)] = _
          unfold b1__law_good_square
          rw [ite_f (lv := .full) (by rw [ht, hp]; rfl)]
          rfl
        · show b1__law_good_square [some (dM rows, .sh), some (dI r, .sh)] = _
          unfold b1__law_good_square
          rw [ite_t (lv := .full) (by rw [ht, hp]; rfl)]
          rfl
      have hf : S.forL (E.iList (E.var 0)) [1] [1] b1__law_good_square [some (dM rows, .sh), none] = if rows.all (rowOk rows.length) = true then some (.next [some (dM rows, .sh), none]) else some (.ret (.bl false) .full) := by
        rw [← L]
        simp
        rfl
      cases hb : rows.all (rowOk rows.length) with
      | true =>
        rw [hb] at hf
        refine seq_of hf ?_
        simp [isSq, h, hb]
      | false =>
        rw [hb] at hf
        refine (seq_ret hf).trans ?_
        simp [isSq, hb]
  · refine seq_ret ?_
    rw [ite_t (lv := .full) (by rw [hc, decide_eq_false h]; rfl)]
    have : isSq rows = false := by unfold isSq; rw [decide_eq_false h]; rfl
    simp [this]

/-! products of rows -/
def sml (x : Int) : Prop := -(10 ^ 60) < x ∧ x < 10 ^ 60
def smlR (r : List Int) : Prop := r.length ≤ 100000 ∧ ∀ x ∈ r, sml x
theorem zipL_ints : ∀ xs ys : List Int, E.zipL (xs.map D.int) (ys.map D.int) = (xs.zip ys).map fun p => [D.int p.1, D.int p.2]
  | [], _ => rfl
  | _ :: _, [] => rfl
  | x :: xs, y :: ys => by
    have ih := zipL_ints xs ys
    unfold E.zipL at ih ⊢
    simp only [List.map_cons, List.zip_cons_cons] at ih ⊢
    rw [ih]
theorem zipWith_map : ∀ xs ys : List Int, (xs.zip ys).map (fun p => D.int (p.1 * p.2)) = (List.zipWith (· * ·) xs ys).map D.int
  | [], _ => rfl
  | _ :: _, [] => rfl
  | x :: xs, y :: ys => by
    have ih := zipWith_map xs ys
    simp only [List.zip_cons_cons, List.map_cons, List.zipWith_cons_cons, ih]
theorem zip_comp {env : Env} {xs ys : List Int} {fs : List SE} {i j : Nat} (hf : evA fs env = some [dI xs, dI ys]) (hx : smlR xs) (hy : smlR ys) (hi : i < env.length) (hj : j < env.length) (hij : i ≠ j) :
    E.comp (E.iZip fs) [i, j] [i, j] (E.c (.bl true)) (E.bin mulD (E.var i) (E.var j)) env = some (dI (List.zipWith (· * ·) xs ys), .full) := by
  have h := comp_eq (fi := E.iZip fs) (js := [i, j]) (vs := [i, j]) (fe := E.bin mulD (E.var i) (E.var j)) (env := env) (xs := xs.zip ys) (fun p => [D.int p.1, D.int p.2]) (fun p => D.int (p.1 * p.2)) (by unfold E.iZip; rw [hf]; exact congrArg some (zipL_ints xs ys)) (by rw [List.length_zip]; have := hx.1; omega) fun p hp => by
    obtain ⟨h1, h2⟩ := List.of_mem_zip (show (p.1, p.2) ∈ xs.zip ys from hp)
    have m := mul_ok (hx.2 _ h1) (hy.2 _ h2)
    have e1 : (setE (wipeE env [i, j]) [i, j] [D.int p.1, D.int p.2])[i]? = some (some (D.int p.1, .full)) := by
      simp only [setE_cons, setE_nil, wipeE_cons, wipeE_nil, lvS_int]
      rw [List.getElem?_set_ne (Ne.symm hij), List.getElem?_set_self (by simpa using hi)]
    have e2 : (setE (wipeE env [i, j]) [i, j] [D.int p.1, D.int p.2])[j]? = some (some (D.int p.2, .full)) := by
      simp only [setE_cons, setE_nil, wipeE_cons, wipeE_nil, lvS_int]
      rw [List.getElem?_set_self (by simpa using hj)]
    simp only [bin_eq, var_eq, e1, e2, m]
  rw [h, zipWith_map]
theorem F_psum (xs ys : List Int) (hx : smlR xs) (hy : smlR ys) : F_product_sum [dI xs, dI ys] = some (.ok (.int (dot xs ys)) .full) := by
  refine run_ret ?_
  unfold g_product_sum
  have hc := zip_comp (env := env0 4 [dI xs, dI ys]) (fs := [(E.var 0), (E.var 1)]) (i := 2) (j := 3) rfl hx hy (by simp [env0]) (by simp [env0]) (by decide)
  simp only [ret_eq, xof_eq, blt_eq, evA_cons, evA_nil, hc, sumD_ints]
  rfl
/-! balance -/
def smlM (rows : List (List Int)) : Prop := rows.length ≤ 100000 ∧ ∀ r ∈ rows, smlR r
theorem getD_at {α : Type} {l : List α} {i : Nat} {d : α} (h : i < l.length) : l.getD i d = l[i] := by
  rw [List.getD_eq_getElem?_getD, List.getElem?_eq_getElem h]; rfl
theorem F_bal (rows : List (List Int)) (hs : smlM rows) : F_balanced [dM rows] = some (.ok (.bl (isBal rows)) .full) := by
  refine run_ret ?_
  unfold g_balanced
  have e0 : env0 3 [dM rows] = [some (dM rows, .sh), none, none] := rfl
  rw [e0]
  have inner : ∀ k, k < rows.length → S.forR (E.iRng1 [(E.var 1)]) [2] [2] b2_balanced [some (dM rows, .sh), some (.int (k : Int), .full), none] =
      if (List.range k).all (balT rows k) = true then some (.next [some (dM rows, .sh), some (.int (k : Int), .full), none]) else some (.ret (.bl false) .full) := fun k hk => by
    rw [← forGo_look (js := [2]) (ks := [2]) (g := b2_balanced) (fun (j : Nat) => [D.int (j : Int)]) [some (dM rows, .sh), some (.int (k : Int), .full), none] (.ret (.bl false) .full) (balT rows k) (fun e z => nomatch z) (List.range k) fun j hj => ?_]
    · rw [forR_eq, rng1_eq (n := k) rfl (by have := hs.1; omega)]
      rfl
    · have hjk : j < k := List.mem_range.mp hj
      have ht : (E.bin neD (E.call F_product_sum [(E.bin ixD (E.var 0) (E.var 1)), (E.bin ixD (E.var 0) (E.var 2))]) (E.c (.int 0))) [some (dM rows, .sh), some (.int (k : Int), .full), some (.int (j : Int), .full)] = some (.bl (!balT rows k j), .full) := by
        have p := F_psum rows[k] rows[j] (hs.2 _ (List.getElem_mem _)) (hs.2 _ (List.getElem_mem _))
        have i1 := ix_rows (rows := rows) hk
        have i2 := ix_rows (rows := rows) (j := j) (by omega)
        simp only [bin_eq, call_eq, evA_cons, evA_nil, var_eq, List.getElem?_cons_zero, List.getElem?_cons_succ, i1, i2, p, c_eq, neD_int, balT, getD_at hk, getD_at (show j < rows.length by omega)]
      refine ⟨fun hp => ⟨[some (dM rows, .sh), some (.int (k : Int), .full), some (.int (j : Int), .full)], ?_, rfl⟩, fun hp => ?_⟩
      · show b2_balanced [some (dM rows, .sh), some (.int (k : Int), .full), some (.int (j : Int), .full)] = _
        unfold b2_balanced
        rw [ite_f (lv := .full) (by rw [ht, hp]; rfl)]
        rfl
      · show b2_balanced [some (dM rows, .sh), some (.int (k : Int), .full), some (.int (j : Int), .full)] = _
        unfold b2_balanced
        rw [ite_t (lv := .full) (by rw [ht, hp]; rfl)]
        rfl
  have outer : S.forR (E.iRng1 [(E.blt lenD [(E.var 0)])]) [1] [1, 2] b1_balanced [some (dM rows, .sh), none, none] = if isBal rows = true then some (.next [some (dM rows, .sh), none, none]) else some (.ret (.bl false) .full) := by
    unfold isBal
    rw [← forGo_look (js := [1]) (ks := [1, 2]) (g := b1_balanced) (fun (j : Nat) => [D.int (j : Int)]) [some (dM rows, .sh), none, none] (.ret (.bl false) .full) (fun k => (List.range k).all fun j => balT rows k j) (fun e z => nomatch z) (List.range rows.length) fun k hk => ?_]
    · rw [forR_eq, rng1_eq (n := rows.length) (by simp) (by have := hs.1; omega)]
      rfl
    · have hk' : k < rows.length := List.mem_range.mp hk
      refine ⟨fun hp => ⟨[some (dM rows, .sh), some (.int (k : Int), .full), none], ?_, rfl⟩, fun hp => ?_⟩
      · exact (inner k hk').trans (if_pos hp)
      · exact (inner k hk').trans (if_neg (by rw [hp]; decide))
  cases hb : isBal rows with
  | true =>
    rw [hb] at outer
    exact seq_of outer rfl
  | false =>
    rw [hb] at outer
    exact seq_ret outer
theorem F_lawBal (rows : List (List Int)) (hs : smlM rows) : F__law_balanced [dM rows] = some (.ok (.bl (isBal rows)) .full) := by
  refine run_ret ?_
  unfold g__law_balanced
  have e0 : env0 5 [dM rows] = [some (dM rows, .sh), none, none, none, none] := rfl
  rw [e0]
  have inner : ∀ k, k < rows.length → S.forR (E.iRng1 [(E.var 1)]) [2] [2] b2__law_balanced [some (dM rows, .sh), some (.int (k : Int), .full), none, none, none] =
      if (List.range k).all (balT rows k) = true then some (.next [some (dM rows, .sh), some (.int (k : Int), .full), none, none, none]) else some (.ret (.bl false) .full) := fun k hk => by
    rw [← forGo_look (js := [2]) (ks := [2]) (g := b2__law_balanced) (fun (j : Nat) => [D.int (j : Int)]) [some (dM rows, .sh), some (.int (k : Int), .full), none, none, none] (.ret (.bl false) .full) (balT rows k) (fun e z => nomatch z) (List.range k) fun j hj => ?_]
    · rw [forR_eq, rng1_eq (n := k) rfl (by have := hs.1; omega)]
      rfl
    · have hjk : j < k := List.mem_range.mp hj
      have i1 := ix_rows (rows := rows) hk
      have i2 := ix_rows (rows := rows) (j := j) (by omega)
      have hc := zip_comp (env := [some (dM rows, .sh), some (.int (k : Int), .full), some (.int (j : Int), .full), none, none]) (fs := [(E.bin ixD (E.var 0) (E.var 1)), (E.bin ixD (E.var 0) (E.var 2))]) (xs := rows[k]) (ys := rows[j]) (i := 3) (j := 4)
        (by simp only [bin_eq, evA_cons, evA_nil, var_eq, List.getElem?_cons_zero, List.getElem?_cons_succ, i1, i2]) (hs.2 _ (List.getElem_mem _)) (hs.2 _ (List.getElem_mem _)) (by simp) (by simp) (by decide)
      have ht : (E.bin neD (E.blt sumD [(E.comp (E.iZip [(E.bin ixD (E.var 0) (E.var 1)), (E.bin ixD (E.var 0) (E.var 2))]) [3, 4] [3, 4] (E.c (.bl true)) (E.bin mulD (E.var 3) (E.var 4)))]) (E.c (.int 0))) [some (dM rows, .sh), some (.int (k : Int), .full), some (.int (j : Int), .full), none, none] = some (.bl (!balT rows k j), .full) := by
        simp only [bin_eq, blt_eq, evA_cons, evA_nil] at hc ⊢
        simp only [hc, sumD_ints, c_eq, neD_int, balT, dot, getD_at hk, getD_at (show j < rows.length by omega)]
      refine ⟨fun hp => ⟨[some (dM rows, .sh), some (.int (k : Int), .full), some (.int (j : Int), .full), none, none], ?_, rfl⟩, fun hp => ?_⟩
      · show b2__law_balanced [some (dM rows, .sh), some (.int (k : Int), .full), some (.int (j : Int), .full), none, none] = _
        unfold b2__law_balanced
        rw [ite_f (lv := .full) (by rw [ht, hp]; rfl)]
        rfl
      · show b2__law_balanced [some (dM rows, .sh), some (.int (k : Int), .full), some (.int (j : Int), .full), none, none] = _
        unfold b2__law_balanced
        rw [ite_t (lv := .full) (by rw [ht, hp]; rfl)]
        rfl
  have outer : S.forR (E.iRng1 [(E.blt lenD [(E.var 0)])]) [1] [1, 2] b1__law_balanced [some (dM rows, .sh), none, none, none, none] = if isBal rows = true then some (.next [some (dM rows, .sh), none, none, none, none]) else some (.ret (.bl false) .full) := by
    unfold isBal
    rw [← forGo_look (js := [1]) (ks := [1, 2]) (g := b1__law_balanced) (fun (j : Nat) => [D.int (j : Int)]) [some (dM rows, .sh), none, none, none, none] (.ret (.bl false) .full) (fun k => (List.range k).all fun j => balT rows k j) (fun e z => nomatch z) (List.range rows.length) fun k hk => ?_]
    · rw [forR_eq, rng1_eq (n := rows.length) (by simp) (by have := hs.1; omega)]
      rfl
    · have hk' : k < rows.length := List.mem_range.mp hk
      refine ⟨fun hp => ⟨[some (dM rows, .sh), some (.int (k : Int), .full), none, none, none], ?_, rfl⟩, fun hp => ?_⟩
      · exact (inner k hk').trans (if_pos hp)
      · exact (inner k hk').trans (if_neg (by rw [hp]; decide))
  cases hb : isBal rows with
  | true =>
    rw [hb] at outer
    exact seq_of outer rfl
  | false =>
    rw [hb] at outer
    exact seq_ret outer
theorem F_isTab (rows : List (List Int)) (hs : smlM rows) : F_is_table [dM rows] = some (.ok (.bl (isSq rows && isBal rows)) .full) := by
  refine run_ret ?_
  have h1 := F_isSq rows fun r hr => (hs.2 r hr).1
  have h2 := F_bal rows hs
  unfold g_is_table
  simp only [ret_eq, xof_eq, and_eq, call_eq, evA_cons, evA_nil, var_eq, env0, List.map_cons, List.map_nil, List.singleton_append, List.getElem?_cons_zero, h1, h2]
  cases isSq rows <;> rfl
end PM

set_option Elab.async false
set_option linter.all false
set_option maxRecDepth 100000
set_option maxHeartbeats 4000000
/-! The mathematics, part d: the law's tables. -/
namespace PM
open PySem hiding Env
open PL

def dbl (rows : List (List Int)) : List (List Int) := rows.map (fun r => r ++ r) ++ rows.map fun r => r ++ r.map fun x => -x
def byPrime (p : Nat) : List (List Int) :=
  (List.replicate (p + 1) 1) :: (List.range p).map fun k => 1 :: (List.range p).map fun j => if ((List.range (p - 1)).map fun i => (i + 1) * (i + 1) % p).contains ((j + p - k) % p) then 1 else -1
def plainT (n : Nat) : List (List Int) :=
  match n with
  | 1 => [[1]]
  | 2 => dbl [[1]]
  | 4 => dbl (dbl [[1]])
  | 8 => dbl (dbl (dbl [[1]]))
  | 16 => dbl (dbl (dbl (dbl [[1]])))
  | 12 => byPrime 11
  | 20 => byPrime 19
  | 24 => dbl (byPrime 11)
  | _ => []
def sizes8 : List Nat := [4, 8, 1, 2, 12, 16, 20, 24]
def plainLv (n : Nat) : Lv := if n = 1 ∨ n = 12 ∨ n = 20 then .full else .out
theorem F_plain1 : F__law_plain_table [.int 1] = some (.ok (dM (plainT 1)) (plainLv 1)) := by kernel_rfl
theorem F_plain2 : F__law_plain_table [.int 2] = some (.ok (dM (plainT 2)) (plainLv 2)) := by kernel_rfl
theorem F_plain4 : F__law_plain_table [.int 4] = some (.ok (dM (plainT 4)) (plainLv 4)) := by kernel_rfl
theorem F_plain8 : F__law_plain_table [.int 8] = some (.ok (dM (plainT 8)) (plainLv 8)) := by kernel_rfl
theorem F_plain16 : F__law_plain_table [.int 16] = some (.ok (dM (plainT 16)) (plainLv 16)) := by kernel_rfl
theorem F_plain12 : F__law_plain_table [.int 12] = some (.ok (dM (plainT 12)) (plainLv 12)) := by kernel_rfl
theorem F_plain20 : F__law_plain_table [.int 20] = some (.ok (dM (plainT 20)) (plainLv 20)) := by kernel_rfl
theorem F_plain24 : F__law_plain_table [.int 24] = some (.ok (dM (plainT 24)) (plainLv 24)) := by kernel_rfl
theorem V_plain {n : Nat} (h : n ∈ sizes8) : F__law_plain_table [.int (n : Int)] = some (.ok (dM (plainT n)) (plainLv n)) := by
  simp only [sizes8, List.mem_cons, List.not_mem_nil, or_false] at h
  rcases h with rfl | rfl | rfl | rfl | rfl | rfl | rfl | rfl
  · exact F_plain4
  · exact F_plain8
  · exact F_plain1
  · exact F_plain2
  · exact F_plain12
  · exact F_plain16
  · exact F_plain20
  · exact F_plain24
theorem plain_sq : ∀ n ∈ sizes8, isSq (plainT n) = true ∧ (plainT n).length = n ∧ isBal (plainT n) = true := by decide +kernel

/-! drawn order -/
def insAt (l : List Nat) (i k : Nat) : List Nat := l.take i ++ [k] ++ l.drop i
def ordOf (c : Int) : Nat → List Nat
  | 0 => []
  | k + 1 => insAt (ordOf c k) (stir (c + k) / 7 % ((k : Int) + 1)).toNat k
theorem insAt_perm (l : List Nat) (i k : Nat) : (insAt l i k).Perm (k :: l) := by
  unfold insAt
  have h : (l.take i ++ [k] ++ l.drop i).Perm ([k] ++ (l.take i ++ l.drop i)) := by
    rw [List.append_assoc]
    exact (List.perm_append_comm_assoc (l.take i) [k] (l.drop i))
  rw [List.take_append_drop] at h
  exact h
theorem ordOf_perm (c : Int) : ∀ n, (ordOf c n).Perm (List.range n)
  | 0 => List.Perm.refl _
  | n + 1 => by
    rw [List.range_succ]
    exact (insAt_perm _ _ _).trans (((List.Perm.cons n (ordOf_perm c n))).trans (List.perm_append_singleton n (List.range n)).symm)
theorem ordOf_len (c : Int) (n : Nat) : (ordOf c n).length = n := by rw [(ordOf_perm c n).length_eq, List.length_range]
theorem ordOf_mem {c : Int} {n k : Nat} (h : k ∈ ordOf c n) : k < n := List.mem_range.mp ((ordOf_perm c n).mem_iff.mp h)
def sgn (c : Int) (k : Nat) : Int := 1 - stir (c + k) / 7 % 2 * 2
theorem sgn_one (c : Int) (k : Nat) : sgn c k = 1 ∨ sgn c k = -1 := by
  unfold sgn
  omega
def shufRow (ns : List Int) (at_ : Nat) (rows : List (List Int)) (ot : List Nat) (k : Nat) : List Int :=
  ot.map fun j => (rows.getD k []).getD j 0 * sgn (cellAt ns (at_ + 2)) k * sgn (cellAt ns (at_ + 3)) j
def shuf (ns : List Int) (at_ : Nat) (rows : List (List Int)) : List (List Int) :=
  (ordOf (cellAt ns at_) rows.length).map (shufRow ns at_ rows (ordOf (cellAt ns (at_ + 1)) rows.length))
abbrev dN (xs : List Nat) : D := .lst (xs.map fun (k : Nat) => D.int (k : Int))
theorem range_at {n : Nat} {p q : List Nat} {x : Nat} (h : List.range n = p ++ x :: q) : x = p.length ∧ x < n := by
  have h1 : (List.range n)[p.length]? = some x := by rw [h, List.getElem?_append_right (Nat.le_refl _)]; simp
  have hl : p.length < n := by
    have := (List.getElem?_eq_some_iff.mp h1).1
    rwa [List.length_range] at this
  rw [List.getElem?_range hl] at h1
  cases h1
  exact ⟨rfl, hl⟩
theorem flatA_nats : ∀ xs : List Nat, flatA (xs.map fun (k : Nat) => D.int (k : Int)) = true
  | [] => rfl
  | x :: xs => by rw [List.map_cons, flatA_cons, flatA_nats xs]; rfl
/-- the number that a draw tells -/
theorem draw_eq {env : Env} {j : Nat} {ns : List Int} {lv lv' : Lv} {k : Nat} {fa : SE} {a : Nat} (h0 : env[0]? = some (some (.scr ns, lv))) (ha : fa env = some (.int (a : Int), .full)) (hj : env[j]? = some (some (.int (k : Int), lv'))) :
    (E.bin fdivD (E.call F__law_stir [(E.bin addD (E.call F__law_cell_at [(E.var 0), fa]) (E.var j))]) (E.c (.int 7))) env = some (.int (stir (cellAt ns a + k) / 7), .full) := by
  simp only [bin_eq, call_eq, evA_cons, evA_nil, var_eq, h0, hj, ha, F_cell, addD_int, F_stir, c_eq, fdivD_int (i := stir (cellAt ns a + k)) (j := 7) (by decide)]
theorem ins_step {env : Env} {i : Nat} {fk : SE} {l : List Nat} {k : Nat} {d : Int} {lv : Lv} (hi : env[i]? = some (some (dN l, .full))) (h6 : env[6]? = some (some (.int (k : Int), .full))) (hk : fk env = some (.int d, lv)) (hd : 0 ≤ d ∧ d < 1000000) (hl : l.length < 1000000) :
    S.ins i fk (E.var 6) env = some (.next (env.set i (some (dN (insAt l d.toNat k), .full)))) := by
  rw [ins_eq]
  simp only [hi, hk, var_eq, h6, lvS_int]
  rw [if_pos ⟨by rw [List.length_map]; exact hl, hd⟩]
  have e : dN (insAt l d.toNat k) = .lst ((l.map fun (k : Nat) => D.int (k : Int)).take d.toNat ++ [D.int (k : Int)] ++ (l.map fun (k : Nat) => D.int (k : Int)).drop d.toNat) := by
    show D.lst ((insAt l d.toNat k).map _) = _
    unfold insAt
    rw [List.map_append, List.map_append, List.map_take, List.map_drop]
    rfl
  rw [e]
theorem place_eq {env : Env} {ns : List Int} {lv : Lv} {k : Nat} {fa : SE} {a : Nat} (h0 : env[0]? = some (some (.scr ns, lv))) (ha : fa env = some (.int (a : Int), .full)) (hj : env[6]? = some (some (.int (k : Int), .full))) :
    (E.bin modD (E.bin fdivD (E.call F__law_stir [(E.bin addD (E.call F__law_cell_at [(E.var 0), fa]) (E.var 6))]) (E.c (.int 7))) (E.bin addD (E.var 6) (E.c (.int 1)))) env = some (.int (stir (cellAt ns a + k) / 7 % ((k : Int) + 1)), .full) := by
  have d := draw_eq h0 ha hj
  have m := modD_int (i := stir (cellAt ns a + k) / 7) (j := (k : Int) + 1) (by omega)
  rw [bin_eq, d]
  simp only [bin_eq, var_eq, hj, c_eq, addD_int, m]
theorem sgn_eq {env : Env} {ns : List Int} {lv : Lv} {k j : Nat} {lv' : Lv} {fa : SE} {a : Nat} (h0 : env[0]? = some (some (.scr ns, lv))) (ha : fa env = some (.int (a : Int), .full)) (hj : env[j]? = some (some (.int (k : Int), lv'))) :
    (E.bin subD (E.c (.int 1)) (E.bin mulD (E.bin modD (E.bin fdivD (E.call F__law_stir [(E.bin addD (E.call F__law_cell_at [(E.var 0), fa]) (E.var j))]) (E.c (.int 7))) (E.c (.int 2))) (E.c (.int 2)))) env = some (.int (sgn (cellAt ns a) k), .full) := by
  have d := draw_eq h0 ha hj
  have m := modD_int (i := stir (cellAt ns a + k) / 7) (j := 2) (by decide)
  have mm := mul_ok (i := stir (cellAt ns a + k) / 7 % 2) (j := 2) (by omega) (by decide)
  rw [bin_eq, bin_eq, bin_eq, d]
  simp only [c_eq, m, mm, subD_int, sgn]
theorem one_sml {x : Int} (h : x = 1 ∨ x = -1) : sml x := by
  unfold sml
  omega
theorem dN_snoc (l : List Nat) (x : Nat) : dN (l ++ [x]) = .lst (l.map (fun (k : Nat) => D.int (k : Int)) ++ [D.int (x : Int)]) := by
  show D.lst ((l ++ [x]).map _) = _
  rw [List.map_append]; rfl
theorem dM_snoc (l : List (List Int)) (r : List Int) : D.lst (l.map dI ++ [dI r]) = dM (l ++ [r]) := by
  show _ = D.lst ((l ++ [r]).map dI)
  rw [List.map_append]; rfl
theorem dI_snoc (l : List Int) (r : Int) : D.lst (l.map D.int ++ [D.int r]) = dI (l ++ [r]) := by
  show _ = D.lst ((l ++ [r]).map D.int)
  rw [List.map_append]; rfl
theorem V_shuffled (ns : List Int) (at_ : Nat) (rows : List (List Int)) (n : Nat) (hn : rows.length = n) (hb : n ≤ 1000) (hrow : ∀ r ∈ rows, r.length = n ∧ ∀ x ∈ r, x = 1 ∨ x = -1) :
    F__law_shuffled [.scr ns, .int (at_ : Int), dM rows] = some (.ok (dM (shuf ns at_ rows)) .full) := by
  subst hn
  refine run_ret ?_
  unfold g__law_shuffled
  have e0 : env0 11 [.scr ns, .int (at_ : Int), dM rows] = [some (.scr ns, .sh), some (.int (at_ : Int), .full), some (dM rows, .sh), none, none, none, none, none, none, none, none] := rfl
  rw [e0]
  refine seq_of (e := [some (.scr ns, .sh), some (.int (at_ : Int), .full), some (dM rows, .sh), some (.int (rows.length : Int), .full), none, none, none, none, none, none, none]) (by simp) ?_
  refine seq_of (e := [some (.scr ns, .sh), some (.int (at_ : Int), .full), some (dM rows, .sh), some (.int (rows.length : Int), .full), some (.lst [], .full), none, none, none, none, none, none]) (by simp) ?_
  refine seq_of (e := [some (.scr ns, .sh), some (.int (at_ : Int), .full), some (dM rows, .sh), some (.int (rows.length : Int), .full), some (.lst [], .full), some (.lst [], .full), none, none, none, none, none]) (by simp) ?_
  let E1 : List Nat → Env := fun p => [some (.scr ns, .sh), some (.int (at_ : Int), .full), some (dM rows, .sh), some (.int (rows.length : Int), .full), some (dN (ordOf (cellAt ns at_) p.length), .full), some (dN (ordOf (cellAt ns (at_ + 1)) p.length), .full), none, none, none, none, none]
  have L1 : S.forR (E.iRng1 [(E.var 3)]) [6] [6] b1__law_shuffled (E1 []) = some (.next (E1 (List.range rows.length))) := by
    rw [forR_eq, rng1_eq (n := rows.length) rfl (by omega)]
    refine forGo_all (fun (k : Nat) => [D.int (k : Int)]) E1 _ fun p k q hp => ?_
    obtain ⟨rfl, hk⟩ := range_at hp
    have d1 : ∀ c : Int, 0 ≤ stir (c + (p.length : Int)) / 7 % ((p.length : Int) + 1) ∧ stir (c + (p.length : Int)) / 7 % ((p.length : Int) + 1) < 1000000 := fun c => ⟨Int.emod_nonneg _ (by omega), Int.lt_of_lt_of_le (Int.emod_lt_of_pos _ (by omega)) (by omega)⟩
    have hl : (p ++ [p.length]).length = p.length + 1 := by simp
    refine ⟨[some (.scr ns, .sh), some (.int (at_ : Int), .full), some (dM rows, .sh), some (.int (rows.length : Int), .full), some (dN (ordOf (cellAt ns at_) (p.length + 1)), .full), some (dN (ordOf (cellAt ns (at_ + 1)) (p.length + 1)), .full), some (.int (p.length : Int), .full), none, none, none, none], ?_, ?_⟩
    · unfold b1__law_shuffled
      refine seq_of (ins_step (l := ordOf (cellAt ns at_) p.length) (k := p.length) rfl rfl (place_eq (ns := ns) (lv := .sh) (a := at_) rfl rfl rfl) (d1 _) (by rw [ordOf_len]; omega)) ?_
      exact ins_step (l := ordOf (cellAt ns (at_ + 1)) p.length) (k := p.length) rfl rfl (place_eq (ns := ns) (lv := .sh) (a := at_ + 1) rfl rfl rfl) (d1 _) (by rw [ordOf_len]; omega)
    · show _ = E1 (p ++ [p.length])
      simp only [E1, hl]
      rfl
  refine seq_of L1 ?_
  have hlr : (List.range rows.length).length = rows.length := List.length_range
  simp only [E1, hlr]
  let o1 := ordOf (cellAt ns at_) rows.length
  let o2 := ordOf (cellAt ns (at_ + 1)) rows.length
  have m1 : ∀ k ∈ o1, k < rows.length := fun k hk => ordOf_mem hk
  have m2 : ∀ k ∈ o2, k < rows.length := fun k hk => ordOf_mem hk
  have l1 : o1.length = rows.length := ordOf_len _ _
  have l2 : o2.length = rows.length := ordOf_len _ _
  refine seq_of (e := [some (.scr ns, .sh), some (.int (at_ : Int), .full), some (dM rows, .sh), some (.int (rows.length : Int), .full), some (dN o1, .full), some (dN o2, .full), none, some (.lst [], .full), none, none, none]) (by simp [o1, o2]) ?_
  let E2 : List Nat → Env := fun p => [some (.scr ns, .sh), some (.int (at_ : Int), .full), some (dM rows, .sh), some (.int (rows.length : Int), .full), some (dN o1, .sh), some (dN o2, .sh), none, some (dM (p.map (shufRow ns at_ rows o2)), .full), none, none, none]
  have L2 : S.forL (E.iList (E.var 4)) [6] [6, 8, 9, 10] b2__law_shuffled (E2 []) = some (.next (E2 o1)) := by
    rw [forL_eq]
    have hi : E.iList (E.var 4) (shOnly (E2 [])) = some (o1.map fun (k : Nat) => [D.int (k : Int)]) := by
      simp [E2]
    rw [hi]
    refine forGo_all (fun (k : Nat) => [D.int (k : Int)]) E2 o1 fun p k q hp => ?_
    have hk : k < rows.length := m1 k (by rw [hp]; simp)
    have hpl : p.length < rows.length := by rw [← l1, hp]; simp
    let E3 : List Nat → Env := fun p3 => [some (.scr ns, .sh), some (.int (at_ : Int), .full), some (dM rows, .sh), some (.int (rows.length : Int), .full), some (dN o1, .sh), some (dN o2, .sh), some (.int (k : Int), .full), some (dM (p.map (shufRow ns at_ rows o2)), .full), some (.int (sgn (cellAt ns (at_ + 2)) k), .full), some (dI (shufRow ns at_ rows p3 k), .full), none]
    have hi3 : E.iList (E.var 5) (shOnly (E3 [])) = some (o2.map fun (k : Nat) => [D.int (k : Int)]) := by
      simp [E3]
    have L3 : S.forL (E.iList (E.var 5)) [10] [10] b3__law_shuffled (E3 []) = some (.next (E3 o2)) := by
      rw [forL_eq, hi3]
      refine forGo_all (fun (k : Nat) => [D.int (k : Int)]) E3 o2 fun p3 j q3 hp3 => ?_
      have hj : j < rows.length := m2 j (by rw [hp3]; simp)
      have hp3l : p3.length < rows.length := by rw [← l2, hp3]; simp
      refine ⟨(E3 (p3 ++ [j])).set 10 (some (.int (j : Int), .full)), ?_, rfl⟩
      have hr := hrow rows[k] (List.getElem_mem _)
      have hjr : j < rows[k].length := by rw [hr.1]; exact hj
      have i1 := ix_rows (rows := rows) hk
      have i2 := ix_ints (xs := rows[k]) hjr
      have s0 : sml rows[k][j] := one_sml (hr.2 _ (List.getElem_mem _))
      have s1 : sml (sgn (cellAt ns (at_ + 2)) k) := one_sml (sgn_one _ _)
      have s2 : sml (sgn (cellAt ns (at_ + 3)) j) := one_sml (sgn_one _ _)
      have s3 : sml (rows[k][j] * sgn (cellAt ns (at_ + 2)) k) := one_sml (by rcases hr.2 _ (List.getElem_mem hjr) with h | h <;> rcases sgn_one (cellAt ns (at_ + 2)) k with h' | h' <;> rw [h, h'] <;> decide)
      have q1 := mul_ok s0 s1
      have q2 := mul_ok s3 s2
      have sg := sgn_eq (env := setE (E3 p3) [10] [D.int (j : Int)]) (ns := ns) (lv := .sh) (fa := E.bin addD (E.var 1) (E.c (.int 3))) (a := at_ + 3) (k := j) (j := 10) (lv' := .full) rfl rfl rfl
      have tot : (E.bin mulD (E.bin mulD (E.bin ixD (E.bin ixD (E.var 2) (E.var 6)) (E.var 10)) (E.var 8)) (E.bin subD (E.c (.int 1)) (E.bin mulD (E.bin modD (E.bin fdivD (E.call F__law_stir [(E.bin addD (E.call F__law_cell_at [(E.var 0), (E.bin addD (E.var 1) (E.c (.int 3)))]) (E.var 10))]) (E.c (.int 7))) (E.c (.int 2))) (E.c (.int 2))))) (setE (E3 p3) [10] [D.int (j : Int)]) = some (.int ((rows.getD k []).getD j 0 * sgn (cellAt ns (at_ + 2)) k * sgn (cellAt ns (at_ + 3)) j), .full) := by
        rw [bin_eq, sg]
        have z : (E.bin mulD (E.bin ixD (E.bin ixD (E.var 2) (E.var 6)) (E.var 10)) (E.var 8)) (setE (E3 p3) [10] [D.int (j : Int)]) = some (.int (rows[k][j] * sgn (cellAt ns (at_ + 2)) k), .full) := by
          simp only [bin_eq, var_eq, E3, setE_cons, setE_nil, List.set_cons_succ, List.set_cons_zero, List.getElem?_cons_zero, List.getElem?_cons_succ, i1, i2, q1]
        rw [z]
        show mulD (.int (rows[k][j] * sgn (cellAt ns (at_ + 2)) k)) (.int (sgn (cellAt ns (at_ + 3)) j)) = _
        rw [q2, getD_at hk, getD_at hjr]
      unfold b3__law_shuffled
      rw [app_eq, tot]
      have hg : (setE (E3 p3) [10] [D.int (j : Int)])[9]? = some (some (dI (shufRow ns at_ rows p3 k), .full)) := rfl
      rw [hg]
      show (if ((shufRow ns at_ rows p3 k).map D.int).length < 1000000 then _ else none) = _
      rw [if_pos (by rw [List.length_map]; unfold shufRow; rw [List.length_map]; omega), dI_snoc]
      have e9 : shufRow ns at_ rows p3 k ++ [(rows.getD k []).getD j 0 * sgn (cellAt ns (at_ + 2)) k * sgn (cellAt ns (at_ + 3)) j] = shufRow ns at_ rows (p3 ++ [j]) k := by
        unfold shufRow
        rw [List.map_append]; rfl
      rw [e9]
      rfl
    refine ⟨((E2 (p ++ [k])).set 6 (some (.int (k : Int), .full))).set 8 (some (.int (sgn (cellAt ns (at_ + 2)) k), .full)), ?_, rfl⟩
    unfold b2__law_shuffled
    have sg := sgn_eq (env := setE (E2 p) [6] [D.int (k : Int)]) (ns := ns) (lv := .sh) (fa := E.bin addD (E.var 1) (E.c (.int 2))) (a := at_ + 2) (k := k) (j := 6) (lv' := .full) rfl rfl rfl
    refine seq_of (e := [some (.scr ns, .sh), some (.int (at_ : Int), .full), some (dM rows, .sh), some (.int (rows.length : Int), .full), some (dN o1, .sh), some (dN o2, .sh), some (.int (k : Int), .full), some (dM (p.map (shufRow ns at_ rows o2)), .full), some (.int (sgn (cellAt ns (at_ + 2)) k), .full), none, none]) ?_ ?_
    · rw [set_eq, xof_eq, sg]
      rfl
    refine seq_of (e := E3 []) rfl ?_
    refine seq_of L3 ?_
    rw [appN_eq]
    show (if ((p.map (shufRow ns at_ rows o2)).map dI).length < 1000000 ∧ (7 : Nat) ≠ 9 then _ else none) = _
    rw [if_pos ⟨by rw [List.length_map, List.length_map]; omega, by decide⟩, dM_snoc]
    have e9 : p.map (shufRow ns at_ rows o2) ++ [shufRow ns at_ rows o2 k] = (p ++ [k]).map (shufRow ns at_ rows o2) := by
      rw [List.map_append]; rfl
    rw [e9]
    rfl
  refine seq_of (e := E2 o1) L2 ?_
  rfl
end PM

set_option Elab.async false
set_option linter.all false
set_option maxRecDepth 100000
set_option maxHeartbeats 4000000
/-! The mathematics, part e: tables and squares drawn; equality of data. -/
namespace PM
open PySem hiding Env
open PL

/-! equality -/
theorem eqv_ints : ∀ xs ys : List Int, PyData.eqvAll (toPyA (xs.map D.int)) (toPyA (ys.map D.int)) = decide (xs = ys)
  | [], [] => rfl
  | [], _ :: _ => by simp [toPyA, PyData.eqvAll]
  | _ :: _, [] => by simp [toPyA, PyData.eqvAll]
  | x :: xs, y :: ys => by
    have ih := eqv_ints xs ys
    simp only [List.map_cons, toPyA, toPy, PyData.eqvAll, PyData.eqv, ih]
    by_cases h : x = y
    · subst h; simp
    · simp [h]
theorem eqB_ints (xs ys : List Int) : eqB (dI xs) (dI ys) = decide (xs = ys) := by
  show PyData.eqv (toPy (.lst _)) (toPy (.lst _)) = _
  unfold toPy PyData.eqv
  exact eqv_ints xs ys
theorem eqv_rows : ∀ xs ys : List (List Int), PyData.eqvAll (toPyA (xs.map dI)) (toPyA (ys.map dI)) = decide (xs = ys)
  | [], [] => rfl
  | [], _ :: _ => by simp [toPyA, PyData.eqvAll]
  | _ :: _, [] => by simp [toPyA, PyData.eqvAll]
  | x :: xs, y :: ys => by
    have ih := eqv_rows xs ys
    have e := eqB_ints x y
    unfold eqB at e
    simp only [List.map_cons, toPyA, PyData.eqvAll, ih, e]
    by_cases h : x = y
    · subst h; simp
    · simp [h]
theorem eqB_rows (xs ys : List (List Int)) : eqB (dM xs) (dM ys) = decide (xs = ys) := by
  show PyData.eqv (toPy (.lst _)) (toPy (.lst _)) = _
  unfold toPy PyData.eqv
  exact eqv_rows xs ys
theorem noScr_ints : ∀ xs : List Int, noScrA (xs.map D.int) = true
  | [] => rfl
  | x :: xs => by rw [List.map_cons, noScrA, noScr_ints xs]; rfl
theorem dep_ints : ∀ xs : List Int, depA (xs.map D.int) = 0
  | [] => rfl
  | x :: xs => by rw [List.map_cons, depA, dep_ints xs]; rfl
theorem okd_ints (xs : List Int) : okd (dI xs) = true := by
  unfold okd
  have h1 : noScr (dI xs) = true := by unfold noScr; exact noScr_ints xs
  have h2 : dep (dI xs) = 1 := by unfold dep; rw [dep_ints]
  rw [h1, h2]; rfl
theorem noScr_rows : ∀ xs : List (List Int), noScrA (xs.map dI) = true
  | [] => rfl
  | x :: xs => by
    have h1 : noScr (dI x) = true := by unfold noScr; exact noScr_ints x
    rw [List.map_cons, noScrA, noScr_rows xs, h1]; rfl
theorem dep_rows : ∀ xs : List (List Int), depA (xs.map dI) ≤ 1
  | [] => by simp [depA]
  | x :: xs => by
    have h2 : dep (dI x) = 1 := by unfold dep; rw [dep_ints]
    have ih := dep_rows xs
    rw [List.map_cons, depA, h2]
    omega
theorem okd_rows (xs : List (List Int)) : okd (dM xs) = true := by
  unfold okd
  have h1 : noScr (dM xs) = true := by unfold noScr; exact noScr_rows xs
  have h2 : dep (dM xs) ≤ 2 := by
    have := dep_rows xs
    unfold dep
    omega
  rw [h1, Bool.true_and, decide_eq_true_eq]
  omega
theorem eqO_ints (xs ys : List Int) : eqO (dI xs) (dI ys) = some (decide (xs = ys)) := by
  show (if okd (dI xs) = true ∧ okd (dI ys) = true then some (eqB (dI xs) (dI ys)) else none) = _
  rw [if_pos ⟨okd_ints xs, okd_ints ys⟩, eqB_ints]
theorem eqO_rows (xs ys : List (List Int)) : eqO (dM xs) (dM ys) = some (decide (xs = ys)) := by
  show (if okd (dM xs) = true ∧ okd (dM ys) = true then some (eqB (dM xs) (dM ys)) else none) = _
  rw [if_pos ⟨okd_rows xs, okd_rows ys⟩, eqB_rows]
theorem eqD_of {d e : D} {b : Bool} (h : eqO d e = some b) : eqD d e = some (.bl b, .full) := by unfold eqD; rw [h]
theorem neD_of {d e : D} {b : Bool} (h : eqO d e = some b) : neD d e = some (.bl (!b), .full) := by unfold neD; rw [h]
@[simp] theorem eqD_rows (xs ys : List (List Int)) : eqD (dM xs) (dM ys) = some (.bl (decide (xs = ys)), .full) := eqD_of (eqO_rows xs ys)
@[simp] theorem neD_rows (xs ys : List (List Int)) : neD (dM xs) (dM ys) = some (.bl (!decide (xs = ys)), .full) := neD_of (eqO_rows xs ys)
@[simp] theorem eqD_ints (xs ys : List Int) : eqD (dI xs) (dI ys) = some (.bl (decide (xs = ys)), .full) := eqD_of (eqO_ints xs ys)
@[simp] theorem neD_ints (xs ys : List Int) : neD (dI xs) (dI ys) = some (.bl (!decide (xs = ys)), .full) := neD_of (eqO_ints xs ys)
theorem eqO_bl (a b : Bool) : eqO (.bl a) (.bl b) = some (decide (a = b)) := by cases a <;> cases b <;> rfl
@[simp] theorem eqD_bl (a b : Bool) : eqD (.bl a) (.bl b) = some (.bl (decide (a = b)), .full) := eqD_of (eqO_bl a b)
@[simp] theorem neD_bl (a b : Bool) : neD (.bl a) (.bl b) = some (.bl (!decide (a = b)), .full) := neD_of (eqO_bl a b)

/-! found == due, both lists of lists of ints -/
theorem V_rowsLike (found due : List (List Int)) (h : ∀ r ∈ found, r.length ≤ 100000) : F__law_rows_like [dM found, dM due] = some (.ok (.bl (decide (found = due))) .full) := by
  refine run_ret ?_
  unfold g__law_rows_like
  have e0 : env0 4 [dM found, dM due] = [some (dM found, .sh), some (dM due, .sh), none, none] := rfl
  rw [e0]
  have ht : (E.or (E.not (E.un (isiD "list") (E.var 0))) (E.bin neD (E.blt lenD [(E.var 0)]) (E.blt lenD [(E.var 1)]))) [some (dM found, .sh), some (dM due, .sh), none, none] = some (.bl (!decide (found.length = due.length)), .full) := by
    have : decide ((found.length : Int) = (due.length : Int)) = decide (found.length = due.length) := decide_eq_decide.mpr (by omega)
    simp [this]
  by_cases hl : found.length = due.length
  · refine seq_of (e := [some (dM found, .sh), some (dM due, .sh), none, none]) ?_ ?_
    · rw [ite_f (lv := .full) (by rw [ht, decide_eq_true hl]; rfl)]
      rfl
    · have L := forGo_all (js := [2]) (ks := [2]) (g := b1__law_rows_like) (fun r => [dI r]) (fun _ => [some (dM found, .sh), some (dM due, .sh), none, none]) found fun p r q hp => by
        have hr : r.length ≤ 100000 := h r (by rw [hp]; simp)
        refine ⟨[some (dM found, .sh), some (dM due, .sh), some (dI r, .sh), none], ?_, rfl⟩
        show b1__law_rows_like [some (dM found, .sh), some (dM due, .sh), some (dI r, .sh), none] = _
        unfold b1__law_rows_like
        refine seq_of (e := [some (dM found, .sh), some (dM due, .sh), some (dI r, .sh), none]) (by simp) ?_
        have hc := comp_eq (fi := E.iList (E.var 2)) (js := [3]) (vs := [3]) (fe := E.and (E.un (isiD "int") (E.var 3)) (E.not (E.un (isiD "bool") (E.var 3)))) (env := [some (dM found, .sh), some (dM due, .sh), some (dI r, .sh), none]) (xs := r) (fun x => [D.int x]) (fun _ => D.bl true) (by simp) hr fun x _ => by simp
        have hm : (r.map fun _ => D.bl true) = (r.map fun _ => true).map D.bl := by rw [List.map_map]; rfl
        have ha : ((r.map fun _ => true).all id) = true := by simp
        rw [hm] at hc
        simp only [site_eq, not_eq, blt_eq, evA_cons, evA_nil, hc, allD_bls, ha]
        rfl
      have hf : S.forL (E.iList (E.var 0)) [2] [2] b1__law_rows_like [some (dM found, .sh), some (dM due, .sh), none, none] = some (.next [some (dM found, .sh), some (dM due, .sh), none, none]) := by
        rw [← L]
        simp
        rfl
      refine seq_of hf ?_
      simp
  · refine seq_ret ?_
    rw [ite_t (lv := .full) (by rw [ht, decide_eq_false hl]; rfl)]
    have : ¬ found = due := fun e => hl (by rw [e])
    simp [this]

/-! a table drawn -/
def tabSizes (most : Nat) : List Nat := sizes8.filter fun s => decide (s ≤ most)
def tabSize (ns : List Int) (at_ most : Nat) : Nat := (tabSizes most).getD (cellAt ns at_ % ((tabSizes most).length : Int)).toNat 1
def tab (ns : List Int) (at_ most : Nat) : List (List Int) := shuf ns (at_ + 1) (plainT (tabSize ns at_ most))
theorem tabSizes_pos {most : Nat} (h : 1 ≤ most) : 0 < (tabSizes most).length := List.length_pos_of_mem (a := 1) (List.mem_filter.mpr ⟨by decide, by simpa using h⟩)
theorem tabSize_at {ns : List Int} {at_ most : Nat} (h : 1 ≤ most) : (tabSizes most)[(cellAt ns at_ % ((tabSizes most).length : Int)).toNat]? = some (tabSize ns at_ most) := by
  have hp := tabSizes_pos h
  have h0 : 0 ≤ cellAt ns at_ % ((tabSizes most).length : Int) := Int.emod_nonneg _ (by omega)
  have h1 : cellAt ns at_ % ((tabSizes most).length : Int) < ((tabSizes most).length : Int) := Int.emod_lt_of_pos _ (by omega)
  have hi : (cellAt ns at_ % ((tabSizes most).length : Int)).toNat < (tabSizes most).length := by omega
  rw [List.getElem?_eq_getElem hi, tabSize, getD_at hi]
theorem tabSize_mem {ns : List Int} {at_ most : Nat} (h : 1 ≤ most) : tabSize ns at_ most ∈ sizes8 ∧ tabSize ns at_ most ≤ most := by
  have := List.mem_of_getElem? (tabSize_at (ns := ns) (at_ := at_) h)
  obtain ⟨h1, h2⟩ := List.mem_filter.mp this
  exact ⟨h1, by simpa using h2⟩
theorem one1_iff {x : Int} : one1 x = true ↔ (x = 1 ∨ x = -1) := by
  unfold one1
  simp
theorem isSq_iff {rows : List (List Int)} : isSq rows = true ↔ (1 ≤ rows.length ∧ rows.length ≤ 24) ∧ ∀ r ∈ rows, r.length = rows.length ∧ ∀ x ∈ r, x = 1 ∨ x = -1 := by
  unfold isSq rowOk
  rw [Bool.and_eq_true, decide_eq_true_eq, List.all_eq_true]
  refine and_congr Iff.rfl (forall_congr' fun r => forall_congr' fun _ => ?_)
  rw [Bool.and_eq_true, decide_eq_true_eq, List.all_eq_true]
  exact and_congr Iff.rfl (forall_congr' fun x => forall_congr' fun _ => one1_iff)
theorem sizes8_le : ∀ n ∈ sizes8, 1 ≤ n ∧ n ≤ 24 := by decide
theorem V_table (ns : List Int) (at_ most : Nat) (h : 1 ≤ most) : F__law_table [.scr ns, .int (at_ : Int), .int (most : Int)] = some (.ok (dM (tab ns at_ most)) .full) := by
  refine run_ret ?_
  unfold g__law_table
  have e0 : env0 5 [.scr ns, .int (at_ : Int), .int (most : Int)] = [some (.scr ns, .sh), some (.int (at_ : Int), .full), some (.int (most : Int), .full), none, none] := rfl
  rw [e0]
  have hp := tabSizes_pos h
  have hc := comp_if (fi := E.iList (E.list [(E.c (.int 4)), (E.c (.int 8)), (E.c (.int 1)), (E.c (.int 2)), (E.c (.int 12)), (E.c (.int 16)), (E.c (.int 20)), (E.c (.int 24))])) (js := [4]) (vs := [4]) (ft := E.bin leD (E.var 4) (E.var 2)) (fe := E.var 4)
    (env := [some (.scr ns, .sh), some (.int (at_ : Int), .full), some (.int (most : Int), .full), none, none]) (xs := sizes8) (fun (s : Nat) => [D.int (s : Int)]) (fun s => decide (s ≤ most)) (fun (s : Nat) => D.int (s : Int)) rfl (by decide) (fun s _ => ⟨.full, by
      have : decide ((s : Int) ≤ (most : Int)) = decide (s ≤ most) := decide_eq_decide.mpr (by omega)
      simp [this]⟩) (fun s _ _ => by simp)
  have hlv : (dN (tabSizes most) : D) = .lst ((sizes8.filter fun s => decide (s ≤ most)).map fun (s : Nat) => D.int (s : Int)) := rfl
  refine seq_of (e := [some (.scr ns, .sh), some (.int (at_ : Int), .full), some (.int (most : Int), .full), some (dN (tabSizes most), .full), none]) ?_ ?_
  · rw [set_eq, xof_eq, hc]
    rfl
  · have h0 : 0 ≤ cellAt ns at_ % ((tabSizes most).length : Int) := Int.emod_nonneg _ (by omega)
    have ix : ixD (dN (tabSizes most)) (.int (cellAt ns at_ % ((tabSizes most).length : Int))) = some (.int (tabSize ns at_ most : Int), .full) := by
      rw [ixD_lst (d := .int (tabSize ns at_ most : Int)) (atI_int h0 (by rw [List.getElem?_map, tabSize_at h]; rfl))]
      rfl
    have md := modD_int (i := cellAt ns at_) (j := ((tabSizes most).length : Int)) (by omega)
    obtain ⟨hm, _⟩ := tabSize_mem (ns := ns) (at_ := at_) h
    refine seq_of (e := [some (.scr ns, .sh), some (.int (at_ : Int), .full), some (.int (most : Int), .full), some (dN (tabSizes most), .full), some (.int (tabSize ns at_ most : Int), .full)]) ?_ ?_
    · simp only [set_eq, xof_eq, bin_eq, var_eq, call_eq, evA_cons, evA_nil, blt_eq, List.getElem?_cons_zero, List.getElem?_cons_succ, F_cell, lenD_lst, List.length_map, md]
      simp only [lvS_lst, ix]
      rfl
    · obtain ⟨hsq, hlen, _⟩ := plain_sq _ hm
      obtain ⟨⟨_, h24⟩, hrow⟩ := isSq_iff.mp hsq
      have sh := V_shuffled ns (at_ + 1) (plainT (tabSize ns at_ most)) (plainT (tabSize ns at_ most)).length rfl (by omega) hrow
      have pl := V_plain hm
      have ea : evA [(E.var 0), (E.bin addD (E.var 1) (E.c (.int 1))), (E.call F__law_plain_table [(E.var 4)])] [some (.scr ns, .sh), some (.int (at_ : Int), .full), some (.int (most : Int), .full), some (dN (tabSizes most), .full), some (.int (tabSize ns at_ most : Int), .full)] = some [.scr ns, .int ((at_ + 1 : Nat) : Int), dM (plainT (tabSize ns at_ most))] := by
        simp only [evA_cons, evA_nil, var_eq, bin_eq, call_eq, c_eq, List.getElem?_cons_zero, List.getElem?_cons_succ, pl, addD_int]
        rfl
      rw [ret_eq, xcall_eq, ea]
      show (match F__law_shuffled [.scr ns, .int ((at_ + 1 : Nat) : Int), dM (plainT (tabSize ns at_ most))] with | some (.ok d .full) => some (Res.ret d .full) | some (.ok _ _) => _ | some (.exc c) => _ | none => none) = _
      rw [sh]
      rfl

/-! a square drawn -/
def sqEnt (ns : List Int) (at_ k j : Nat) : Int := 1 - stir (cellAt ns (at_ + 1 + (k + j) % 4) + 101 * (k : Int) + (j : Int)) / 7 % 2 * 2
def sqSize (ns : List Int) (at_ most : Nat) : Nat := (1 + cellAt ns at_ % (most : Int)).toNat
def sqr (ns : List Int) (at_ most : Nat) : List (List Int) := (List.range (sqSize ns at_ most)).map fun k => (List.range (sqSize ns at_ most)).map (sqEnt ns at_ k)
theorem sqEnt_one (ns : List Int) (at_ k j : Nat) : sqEnt ns at_ k j = 1 ∨ sqEnt ns at_ k j = -1 := by
  unfold sqEnt
  omega
theorem sqSize_le {ns : List Int} {at_ most : Nat} (h : 1 ≤ most) : 1 ≤ sqSize ns at_ most ∧ sqSize ns at_ most ≤ most ∧ ((sqSize ns at_ most : Nat) : Int) = 1 + cellAt ns at_ % (most : Int) := by
  have h0 : 0 ≤ cellAt ns at_ % (most : Int) := Int.emod_nonneg _ (by omega)
  have h1 : cellAt ns at_ % (most : Int) < (most : Int) := Int.emod_lt_of_pos _ (by omega)
  unfold sqSize
  omega
theorem V_square (ns : List Int) (at_ most : Nat) (h : 1 ≤ most) (hm : most ≤ 1000) : F__law_square [.scr ns, .int (at_ : Int), .int (most : Int)] = some (.ok (dM (sqr ns at_ most)) .full) := by
  refine run_ret ?_
  unfold g__law_square
  obtain ⟨s1, s2, s3⟩ := sqSize_le (ns := ns) (at_ := at_) h
  have e0 : env0 9 [.scr ns, .int (at_ : Int), .int (most : Int)] = [some (.scr ns, .sh), some (.int (at_ : Int), .full), some (.int (most : Int), .full), none, none, none, none, none, none] := rfl
  rw [e0]
  let n := sqSize ns at_ most
  have md := modD_int (i := cellAt ns at_) (j := (most : Int)) (by omega)
  refine seq_of (e := [some (.scr ns, .sh), some (.int (at_ : Int), .full), some (.int (most : Int), .full), some (.int (n : Int), .full), none, none, none, none, none]) ?_ ?_
  · simp only [set_eq, xof_eq, bin_eq, var_eq, call_eq, evA_cons, evA_nil, c_eq, List.getElem?_cons_zero, List.getElem?_cons_succ, F_cell, md, addD_int, n, s3]
    rfl
  refine seq_of (e := [some (.scr ns, .sh), some (.int (at_ : Int), .full), some (.int (most : Int), .full), some (.int (n : Int), .full), some (.lst [], .full), none, none, none, none]) (by simp) ?_
  let E1 : List Nat → Env := fun p => [some (.scr ns, .sh), some (.int (at_ : Int), .full), some (.int (most : Int), .full), some (.int (n : Int), .full), some (dM (p.map fun k => (List.range n).map (sqEnt ns at_ k)), .full), none, none, none, none]
  have L1 : S.forR (E.iRng1 [(E.var 3)]) [5] [5, 6, 7, 8] b1__law_square (E1 []) = some (.next (E1 (List.range n))) := by
    rw [forR_eq, rng1_eq (n := n) rfl (by omega)]
    refine forGo_all (fun (k : Nat) => [D.int (k : Int)]) E1 _ fun p k q hp => ?_
    obtain ⟨rfl, hk⟩ := range_at hp
    let E2 : List Nat → Env := fun p2 => [some (.scr ns, .sh), some (.int (at_ : Int), .full), some (.int (most : Int), .full), some (.int (n : Int), .full), some (dM (p.map fun k => (List.range n).map (sqEnt ns at_ k)), .full), some (.int (p.length : Int), .full), some (dI (p2.map (sqEnt ns at_ p.length)), .full), none, none]
    have L2 : S.forR (E.iRng1 [(E.var 3)]) [7] [7, 8] b2__law_square (E2 []) = some (.next (E2 (List.range n))) := by
      rw [forR_eq, rng1_eq (n := n) rfl (by omega)]
      refine forGo_all (fun (k : Nat) => [D.int (k : Int)]) E2 _ fun p2 j q2 hp2 => ?_
      obtain ⟨rfl, hj⟩ := range_at hp2
      let sd := stir (cellAt ns (at_ + 1 + (p.length + p2.length) % 4) + 101 * (p.length : Int) + (p2.length : Int))
      refine ⟨((E2 (p2 ++ [p2.length])).set 7 (some (.int (p2.length : Int), .full))).set 8 (some (.int sd, .full)), ?_, rfl⟩
      unfold b2__law_square
      have cl : F__law_cell_at [.scr ns, .int ((at_ : Int) + 1 + ((p.length : Int) + (p2.length : Int)) % 4)] = some (.ok (.int (cellAt ns (at_ + 1 + (p.length + p2.length) % 4))) .full) := by
        rw [← F_cell, show (((at_ + 1 + (p.length + p2.length) % 4 : Nat) : Int)) = (at_ : Int) + 1 + ((p.length : Int) + (p2.length : Int)) % 4 by omega]
      have m1 := modD_int (i := (p.length : Int) + (p2.length : Int)) (j := 4) (by decide)
      have m2 := mul_ok (i := 101) (j := (p.length : Int)) (by decide) (by omega)
      have dv := fdivD_int (i := sd) (j := 7) (by decide)
      have m3 := modD_int (i := sd / 7) (j := 2) (by decide)
      have m4 := mul_ok (i := sd / 7 % 2) (j := 2) (by omega) (by decide)
      refine seq_of (e := (setE (E2 p2) [7] [D.int (p2.length : Int)]).set 8 (some (.int sd, .full))) ?_ ?_
      · have ea : evA [(E.bin addD (E.bin addD (E.call F__law_cell_at [(E.var 0), (E.bin addD (E.bin addD (E.var 1) (E.c (.int 1))) (E.bin modD (E.bin addD (E.var 5) (E.var 7)) (E.c (.int 4))))]) (E.bin mulD (E.c (.int 101)) (E.var 5))) (E.var 7))] (setE (E2 p2) [7] [D.int (p2.length : Int)]) = some [.int (cellAt ns (at_ + 1 + (p.length + p2.length) % 4) + 101 * (p.length : Int) + (p2.length : Int))] := by
          simp only [evA_cons, evA_nil, bin_eq, call_eq, var_eq, c_eq, E2, setE_cons, setE_nil, List.set_cons_succ, List.set_cons_zero, List.getElem?_cons_zero, List.getElem?_cons_succ, addD_int, m1, cl, m2]
        rw [set_eq, xcall_eq, ea]
        show (match F__law_stir [.int (cellAt ns (at_ + 1 + (p.length + p2.length) % 4) + 101 * (p.length : Int) + (p2.length : Int))] with | some (.ok d .full) => _ | some (.ok _ _) => _ | some (.exc c) => _ | none => none) = _
        rw [F_stir]
      · have ent : (E.bin subD (E.c (.int 1)) (E.bin mulD (E.bin modD (E.bin fdivD (E.var 8) (E.c (.int 7))) (E.c (.int 2))) (E.c (.int 2)))) ((setE (E2 p2) [7] [D.int (p2.length : Int)]).set 8 (some (.int sd, .full))) = some (.int (sqEnt ns at_ p.length p2.length), .full) := by
          simp only [bin_eq, var_eq, c_eq, E2, setE_cons, setE_nil, List.set_cons_succ, List.set_cons_zero, List.getElem?_cons_zero, List.getElem?_cons_succ, dv, m3, m4, subD_int, sqEnt, sd]
        rw [app_eq, ent]
        have hg : ((setE (E2 p2) [7] [D.int (p2.length : Int)]).set 8 (some (.int sd, .full)))[6]? = some (some (dI (p2.map (sqEnt ns at_ p.length)), .full)) := rfl
        rw [hg]
        show (if ((p2.map (sqEnt ns at_ p.length)).map D.int).length < 1000000 then _ else none) = _
        rw [if_pos (by rw [List.length_map, List.length_map]; omega), dI_snoc]
        have e9 : p2.map (sqEnt ns at_ p.length) ++ [sqEnt ns at_ p.length p2.length] = (p2 ++ [p2.length]).map (sqEnt ns at_ p.length) := by rw [List.map_append]; rfl
        rw [e9]
        rfl
    refine ⟨(E1 (p ++ [p.length])).set 5 (some (.int (p.length : Int), .full)), ?_, rfl⟩
    unfold b1__law_square
    refine seq_of (e := E2 []) rfl ?_
    refine seq_of L2 ?_
    rw [appN_eq]
    show (if ((p.map fun k => (List.range n).map (sqEnt ns at_ k)).map dI).length < 1000000 ∧ (4 : Nat) ≠ 6 then _ else none) = _
    rw [if_pos ⟨by rw [List.length_map, List.length_map]; omega, by decide⟩, dM_snoc]
    have e9 : (p.map fun k => (List.range n).map (sqEnt ns at_ k)) ++ [(List.range n).map (sqEnt ns at_ p.length)] = (p ++ [p.length]).map fun k => (List.range n).map (sqEnt ns at_ k) := by rw [List.map_append]; rfl
    rw [e9]
    rfl
  refine seq_of L1 ?_
  rfl
end PM

set_option Elab.async false
set_option linter.all false
set_option maxRecDepth 100000
set_option maxHeartbeats 4000000
/-! The mathematics, part f: lists of rows changed in place; a spoilt square. -/
namespace PM
open PySem hiding Env
open PL

theorem erase_map {α β : Type} (f : α → β) : ∀ (l : List α) (k : Nat), (l.map f).eraseIdx k = (l.eraseIdx k).map f
  | [], k => by simp
  | x :: l, 0 => by simp
  | x :: l, k + 1 => by simp [erase_map f l k]
theorem seq_nx {g1 g2 : SS} {env e : Env} (h1 : g1 env = some (.next e)) : S.seq g1 g2 env = g2 e := by
  rw [seq_eq, h1]
theorem set_rows (rows : List (List Int)) (k : Nat) (r : List Int) : (rows.map dI).set k (dI r) = (rows.set k r).map dI := (List.map_set).symm
theorem set_ints (r : List Int) (k : Nat) (x : Int) : (r.map D.int).set k (.int x) = (r.set k x).map D.int := (List.map_set).symm
theorem get_rows {rows : List (List Int)} {k : Nat} (h : k < rows.length) : (rows.map dI)[k]? = some (dI rows[k]) := by
  rw [List.getElem?_map, List.getElem?_eq_getElem h]; rfl
theorem setIx2_of {i : Nat} {fk fl fv : SE} {env : Env} {rows : List (List Int)} {k l : Nat} {x : Int} {lk ll : Lv} (hi : env[i]? = some (some (dM rows, .full))) (hv : fv env = some (.int x, .full)) (hk : fk env = some (.int (k : Int), lk)) (hl : fl env = some (.int (l : Int), ll))
    (h1 : k < rows.length) (h2 : l < rows[k].length) : S.setIx2 i fk fl fv env = some (.next (env.set i (some (dM (rows.set k (rows[k].set l x)), .full)))) := by
  unfold S.setIx2
  simp only [hi, hv, hk, hl, List.length_map, ixN_nat h1, get_rows h1, ixN_nat h2, set_ints]
  rw [set_rows]
theorem app2_of {i : Nat} {fk fv : SE} {env : Env} {rows : List (List Int)} {k : Nat} {x : Int} {lk : Lv} (hi : env[i]? = some (some (dM rows, .full))) (hk : fk env = some (.int (k : Int), lk)) (hv : fv env = some (.int x, .full))
    (h1 : k < rows.length) (h2 : rows[k].length < 1000000) : S.app2 i fk fv env = some (.next (env.set i (some (dM (rows.set k (rows[k] ++ [x])), .full)))) := by
  unfold S.app2
  simp only [hi, hv, hk, List.length_map, ixN_nat h1, get_rows h1]
  rw [if_pos h2, dI_snoc, set_rows]
theorem popAt2_of {i : Nat} {fk fl : SE} {env : Env} {rows : List (List Int)} {k l : Nat} {lk ll : Lv} (hi : env[i]? = some (some (dM rows, .full))) (hk : fk env = some (.int (k : Int), lk)) (hl : fl env = some (.int (l : Int), ll))
    (h1 : k < rows.length) (h2 : l < rows[k].length) (h3 : l < 1000000) : S.popAt2 i fk fl env = some (.next (env.set i (some (dM (rows.set k (rows[k].eraseIdx l)), .full)))) := by
  unfold S.popAt2
  simp only [hi, hk, hl, List.length_map, ixN_nat h1, get_rows h1]
  rw [if_pos (by omega)]
  have e : (rows[k].map D.int).eraseIdx (l : Int).toNat = (rows[k].eraseIdx l).map D.int := by
    rw [erase_map]; rfl
  rw [e, set_rows]
theorem popAt_of {i : Nat} {fk : SE} {env : Env} {rows : List (List Int)} {k : Nat} {lk : Lv} (hi : env[i]? = some (some (dM rows, .full))) (hk : fk env = some (.int (k : Int), lk)) (h1 : k < rows.length) (h3 : k < 1000000) :
    S.popAt i fk env = some (.next (env.set i (some (dM (rows.eraseIdx k), .full)))) := by
  unfold S.popAt
  simp only [hi, hk, List.length_map]
  rw [if_pos (by omega)]
  have e : (rows.map dI).eraseIdx (k : Int).toNat = (rows.eraseIdx k).map dI := by
    rw [erase_map]; rfl
  rw [e]
theorem setIx_of {i : Nat} {fk fv : SE} {env : Env} {rows : List (List Int)} {k : Nat} {r : List Int} {lk : Lv} (hi : env[i]? = some (some (dM rows, .full))) (hv : fv env = some (dI r, .full)) (hk : fk env = some (.int (k : Int), lk)) (h1 : k < rows.length) :
    S.setIx i fk fv env = some (.next (env.set i (some (dM (rows.set k r), .full)))) := by
  rw [setIx_eq]
  simp only [hi, hv, hk, List.length_map, ixN_nat h1]
  rw [set_rows]
theorem setIxI_of {i : Nat} {fk fv : SE} {env : Env} {r : List Int} {k : Nat} {x : Int} {lk : Lv} (hi : env[i]? = some (some (dI r, .full))) (hv : fv env = some (.int x, .full)) (hk : fk env = some (.int (k : Int), lk)) (h1 : k < r.length) :
    S.setIx i fk fv env = some (.next (env.set i (some (dI (r.set k x), .full)))) := by
  rw [setIx_eq]
  simp only [hi, hv, hk, List.length_map, ixN_nat h1]
  rw [set_ints]
theorem ins_of {i : Nat} {fk fv : SE} {env : Env} {rows : List (List Int)} {k : Nat} {r : List Int} {lk : Lv} (hi : env[i]? = some (some (dM rows, .full))) (hk : fk env = some (.int (k : Int), lk)) (hv : fv env = some (dI r, .full)) (h1 : rows.length < 1000000) (h2 : k < 1000000) :
    S.ins i fk fv env = some (.next (env.set i (some (dM (rows.take k ++ [r] ++ rows.drop k), .full)))) := by
  rw [ins_eq]
  simp only [hi, hv, hk, List.length_map]
  rw [if_pos (by omega)]
  have e : (rows.map dI).take (k : Int).toNat ++ [dI r] ++ (rows.map dI).drop (k : Int).toNat = (rows.take k ++ [r] ++ rows.drop k).map dI := by
    rw [List.map_append, List.map_append, List.map_take, List.map_drop]; rfl
  rw [e]

/-! bounds -/
def Bd (n : Nat) (rows : List (List Int)) : Prop := rows.length ≤ n ∧ ∀ r ∈ rows, r.length ≤ n ∧ ∀ x ∈ r, -(10 ^ 40) < x ∧ x < 10 ^ 40
theorem Bd.sml {n : Nat} {rows : List (List Int)} (h : Bd n rows) (hn : n ≤ 1000) : smlM rows := ⟨by have := h.1; omega, fun r hr => ⟨by have := (h.2 r hr).1; omega, fun x hx => by
  have := (h.2 r hr).2 x hx
  unfold PM.sml
  omega⟩⟩
theorem Bd.of_sq {rows : List (List Int)} (h : isSq rows = true) : Bd 24 rows := by
  obtain ⟨⟨h1, h2⟩, h3⟩ := isSq_iff.mp h
  exact ⟨h2, fun r hr => ⟨by have := (h3 r hr).1; omega, fun x hx => by rcases (h3 r hr).2 x hx with e | e <;> omega⟩⟩
theorem V_spoilt (rows : List (List Int)) (way : Nat) (cell : Int) (n : Nat) (hw : way < 8) (hc : 0 ≤ cell ∧ cell < 10 ^ 24) (hn : n ≤ 500) (hb : Bd n rows) : ∃ rows', F__law_spoilt [dM rows, .int (way : Int), .int cell] = some (.ok (dM rows') .full) ∧ Bd (n + 28) rows' := by
  have hl := hb.1
  have e0 : env0 9 [dM rows, .int (way : Int), .int cell] = [some (dM rows, .sh), some (.int (way : Int), .full), some (.int cell, .full), none, none, none, none, none, none] := rfl
  have cp := F_copy rows (by omega)
  have s1 : ∀ g, S.seq (S.set 3 (Xo.call F__law_copy [(E.var 0)])) g [some (dM rows, .sh), some (.int (way : Int), .full), some (.int cell, .full), none, none, none, none, none, none] = g [some (dM rows, .sh), some (.int (way : Int), .full), some (.int cell, .full), some (dM rows, .full), none, none, none, none, none] := fun g => by
    rw [seq_eq, set_eq, xcall_eq]
    simp only [evA_cons, evA_nil, var_eq, List.getElem?_cons_zero, cp]
    rfl
  by_cases hz : rows.length = 0
  · refine ⟨rows, run_ret ?_, by have := hb.2; exact ⟨by omega, fun r hr => ⟨by have := (hb.2 r hr).1; omega, (hb.2 r hr).2⟩⟩⟩
    unfold g__law_spoilt
    rw [e0, s1]
    refine seq_ret ?_
    rw [ite_t (lv := .full) (by simp [hz])]
    rfl
  · obtain ⟨a, ha, hal⟩ : ∃ a : Nat, cell % (rows.length : Int) = (a : Int) ∧ a < rows.length := ⟨(cell % (rows.length : Int)).toNat, by
      have := Int.emod_nonneg cell (show (rows.length : Int) ≠ 0 by omega)
      omega, by
      have := Int.emod_nonneg cell (show (rows.length : Int) ≠ 0 by omega)
      have := Int.emod_lt_of_pos cell (show 0 < (rows.length : Int) by omega)
      omega⟩
    obtain ⟨hrl, hrx⟩ := hb.2 rows[a] (List.getElem_mem _)
    let w : Int := if (rows[a].length : Int) > 1 then (rows[a].length : Int) else 1
    have hw1 : 0 < w := by show 0 < (if _ then _ else _ : Int); split <;> omega
    obtain ⟨b, hbe, hbl⟩ : ∃ b : Nat, cell / 32 % w = (b : Int) ∧ (0 < rows[a].length → b < rows[a].length) := ⟨(cell / 32 % w).toNat, by
      have := Int.emod_nonneg (cell / 32) (show w ≠ 0 by omega)
      omega, fun h => by
      have h1 := Int.emod_nonneg (cell / 32) (show w ≠ 0 by omega)
      have h2 := Int.emod_lt_of_pos (cell / 32) hw1
      have h3 : w = rows[a].length := by show (if _ then _ else _ : Int) = _; split <;> omega
      omega⟩
    have ix := ix_rows (rows := rows) hal
    have md1 := modD_int (i := cell) (j := (rows.length : Int)) (by omega)
    have dv32 := fdivD_int (i := cell) (j := 32) (by decide)
    have md2 := modD_int (i := cell / 32) (j := w) hw1
    let e5 : Env := [some (dM rows, .sh), some (.int (way : Int), .full), some (.int cell, .full), some (dM rows, .full), some (.int (a : Int), .full), some (.int (b : Int), .full), none, none, none]
    have pre : ∀ g, S.seq (S.set 3 (Xo.call F__law_copy [(E.var 0)])) (S.seq (S.ite (E.bin eqD (E.blt lenD [(E.var 3)]) (E.c (.int 0))) (S.retN 3) S.nxt) (S.seq (S.set 4 (Xo.of (E.bin modD (E.var 2) (E.blt lenD [(E.var 3)])))) (S.seq (S.set 5 (Xo.of (E.bin modD (E.bin fdivD (E.var 2) (E.c (.int 32))) (E.blt max2D [(E.c (.int 1)), (E.blt lenD [(E.bin ixD (E.var 3) (E.var 4))])])))) g)))
        [some (dM rows, .sh), some (.int (way : Int), .full), some (.int cell, .full), none, none, none, none, none, none] = g e5 := fun g => by
      rw [s1]
      simp only [seq_eq, site_eq, bin_eq, blt_eq, evA_cons, evA_nil, var_eq, c_eq, List.getElem?_cons_zero, List.getElem?_cons_succ, lenD_lst, List.length_map, eqD_int]
      rw [decide_eq_false (show ¬ ((rows.length : Int) = 0) by omega)]
      simp only [nxt_eq, set_eq, xof_eq, bin_eq, blt_eq, evA_cons, evA_nil, var_eq, c_eq, List.getElem?_cons_zero, List.getElem?_cons_succ, lenD_lst, List.length_map, md1, ha, List.set_cons_succ, List.set_cons_zero, lvS_lst, lvS_int, ix, dv32, max2D_int]
      have md2' : modD (D.int (cell / 32)) (D.int (if (rows[a].length : Int) > 1 then (rows[a].length : Int) else 1)) = some (.int (b : Int), .full) := md2.trans (by rw [hbe])
      simp only [md2']
      rfl
    let wr : List (List Int) → Env := fun rs => [some (dM rows, .sh), some (.int (way : Int), .full), some (.int cell, .full), some (dM rs, .full), some (.int (a : Int), .full), some (.int (b : Int), .full), none, none, none]
    have no : ∀ (k : Int) (rest : SS) (e : Env), ((way : Int) ≠ k) → e[1]? = some (some (.int (way : Int), .full)) → S.ite (E.bin eqD (E.var 1) (E.c (.int k))) rest S.nxt e = some (.next e) := fun k rest e h h1 => by
      rw [ite_f (lv := .full) (by simp only [bin_eq, var_eq, h1, c_eq, eqD_int, decide_eq_false h])]
      rfl
    have no2 : ∀ (k : Int) (fb : SE) (rest : SS) (e : Env), ((way : Int) ≠ k) → e[1]? = some (some (.int (way : Int), .full)) → S.ite (E.and (E.bin eqD (E.var 1) (E.c (.int k))) fb) rest S.nxt e = some (.next e) := fun k fb rest e h h1 => by
      rw [ite_f (lv := .full) (by simp only [and_eq, bin_eq, var_eq, h1, c_eq, eqD_int, decide_eq_false h])]
      rfl
    have yes : ∀ (k : Int) (rest : SS) (e : Env), ((way : Int) = k) → e[1]? = some (some (.int (way : Int), .full)) → S.ite (E.bin eqD (E.var 1) (E.c (.int k))) rest S.nxt e = rest e := fun k rest e h h1 => by
      rw [ite_t (lv := .full) (by simp only [bin_eq, var_eq, h1, c_eq, eqD_int, decide_eq_true h])]
    have yes2 : ∀ (k : Int) (fb : SE) (rest : SS) (e : Env) (v : Bool), ((way : Int) = k) → e[1]? = some (some (.int (way : Int), .full)) → fb e = some (.bl v, .full) → S.ite (E.and (E.bin eqD (E.var 1) (E.c (.int k))) fb) rest S.nxt e = if v = true then rest e else some (.next e) := fun k fb rest e v h h1 hv => by
      cases v with
      | true => rw [if_pos rfl, ite_t (lv := .full) (by simp only [and_eq, bin_eq, var_eq, h1, c_eq, eqD_int, decide_eq_true h, hv])]
      | false => rw [if_neg (by decide), ite_f (lv := .full) (by simp only [and_eq, bin_eq, var_eq, h1, c_eq, eqD_int, decide_eq_true h, hv])]; rfl
    have gt0 : (E.bin gtD (E.blt lenD [(E.bin ixD (E.var 3) (E.var 4))]) (E.c (.int 0))) e5 = some (.bl (decide (0 < rows[a].length)), .full) := by
      simp only [bin_eq, blt_eq, evA_cons, evA_nil, var_eq, c_eq, e5, List.getElem?_cons_zero, List.getElem?_cons_succ, lvS_lst, lvS_int, ix, lenD_lst, List.length_map, gtD_int]
      congr 3
      exact decide_eq_decide.mpr (by omega)
    have fin : ∀ rs, (∃ e, e[3]? = some (some (dM rs, .full)) ∧ g__law_spoilt (env0 9 [dM rows, .int (way : Int), .int cell]) = S.retN 3 e) → Bd (n + 28) rs → ∃ rows', F__law_spoilt [dM rows, .int (way : Int), .int cell] = some (.ok (dM rows') .full) ∧ Bd (n + 28) rows' := fun rs ⟨e, h1, h2⟩ h3 => ⟨rs, run_ret (by rw [h2, retN_eq, h1]), h3⟩
    have bset : ∀ r, r.length ≤ n + 28 → (∀ x ∈ r, -(10 ^ 40) < x ∧ x < (10 : Int) ^ 40) → Bd (n + 28) (rows.set a r) := fun r h1 h2 => ⟨by rw [List.length_set]; omega, fun r' hr' => by
      rcases List.mem_or_eq_of_mem_set hr' with h | h
      · exact ⟨by have := (hb.2 r' h).1; omega, (hb.2 r' h).2⟩
      · rw [h]; exact ⟨h1, h2⟩⟩
    have b0 : Bd (n + 28) rows := ⟨by omega, fun r hr => ⟨by have := (hb.2 r hr).1; omega, (hb.2 r hr).2⟩⟩
    unfold g__law_spoilt at fin
    rw [e0, pre] at fin
    have v4 : (E.var 4) e5 = some (.int (a : Int), .full) := rfl
    have v5 : (E.var 5) e5 = some (.int (b : Int), .full) := rfl
    have h3e : e5[3]? = some (some (dM rows, .full)) := rfl
    have h1e : ∀ rs, (e5.set 3 rs)[1]? = some (some (.int (way : Int), .full)) := fun _ => rfl
    have h1f : e5[1]? = some (some (.int (way : Int), .full)) := rfl
    have skip : ∀ (e : Env), e[1]? = some (some (.int (way : Int), .full)) → 7 < (way : Int) ∨ True := fun _ _ => .inr trivial
    have hway : way = 0 ∨ way = 1 ∨ way = 2 ∨ way = 3 ∨ way = 4 ∨ way = 5 ∨ way = 6 ∨ way = 7 := by omega
    have ixr : ∀ (h : b < rows[a].length), ixD (dI rows[a]) (.int (b : Int)) = some (.int (rows[a])[b], .full) := fun h => ix_ints h
    rcases hway with hy | hy | hy | hy | hy | hy | hy | hy
    · by_cases hp : 0 < rows[a].length
      · have hb' := hbl hp
        refine fin (rows.set a (rows[a].set b (-(rows[a])[b]))) ⟨e5.set 3 (some (dM (rows.set a (rows[a].set b (-(rows[a])[b]))), .full)), rfl, ?_⟩ (bset _ (by rw [List.length_set]; omega) fun x hx => ?_)
        · rw [seq_nx (yes2 0 _ _ _ _ (by omega) h1f gt0 |>.trans (by rw [decide_eq_true hp, if_pos rfl]; exact setIx2_of (x := -(rows[a])[b]) h3e (by simp only [un_eq, bin_eq, e5, var_eq, List.getElem?_cons_zero, List.getElem?_cons_succ, lvS_lst, lvS_int, ix, ixr hb', negD_int]) v4 v5 hal hb')),
            seq_nx (no2 1 _ _ _ (by omega) (h1e _)), seq_nx (no 2 _ _ (by omega) (h1e _)), seq_nx (no2 3 _ _ _ (by omega) (h1e _)), seq_nx (no 4 _ _ (by omega) (h1e _)), seq_nx (no 5 _ _ (by omega) (h1e _)), seq_nx (no 6 _ _ (by omega) (h1e _)), seq_nx (no 7 _ _ (by omega) (h1e _))]
        · rcases List.mem_or_eq_of_mem_set hx with h | h
          · exact hrx x h
          · have := hrx _ (List.getElem_mem hb')
            omega
      · refine fin rows ⟨e5, rfl, ?_⟩ b0
        rw [seq_nx (yes2 0 _ _ _ _ (by omega) h1f gt0 |>.trans (by rw [decide_eq_false hp, if_neg (by decide)])),
          seq_nx (no2 1 _ _ _ (by omega) h1f), seq_nx (no 2 _ _ (by omega) h1f), seq_nx (no2 3 _ _ _ (by omega) h1f), seq_nx (no 4 _ _ (by omega) h1f), seq_nx (no 5 _ _ (by omega) h1f), seq_nx (no 6 _ _ (by omega) h1f), seq_nx (no 7 _ _ (by omega) h1f)]
    · by_cases hp : 0 < rows[a].length
      · have hb' := hbl hp
        have dv1024 := fdivD_int (i := cell) (j := 1024) (by decide)
        have md20 := modD_int (i := cell / 1024) (j := 10 ^ 20) (by decide)
        have dv31 := fdivD_int (i := cell) (j := 31) (by decide)
        have md4 := modD_int (i := cell / 31) (j := 4) (by decide)
        have pw : powD (.int 10) (.int 20) = some (.int (10 ^ 20), .full) := rfl
        have m0 : 0 ≤ cell / 1024 % 10 ^ 20 ∧ cell / 1024 % 10 ^ 20 < 10 ^ 20 := by omega
        obtain ⟨q, hq, hq4⟩ : ∃ q : Nat, cell / 31 % 4 = (q : Int) ∧ q < 4 := ⟨(cell / 31 % 4).toNat, by omega, by omega⟩
        let opts : List Int := [0, 2, 3 + cell / 1024 % 10 ^ 20, -2 - cell / 1024 % 10 ^ 20]
        have ixq : ixD (dI opts) (.int (q : Int)) = some (.int (opts[q]'hq4), .full) := ix_ints (xs := opts) hq4
        have ox : ∀ x ∈ opts, -(10 ^ 40) < x ∧ x < (10 : Int) ^ 40 := fun x hx => by
          simp only [opts, List.mem_cons, List.not_mem_nil, or_false] at hx
          rcases hx with e | e | e | e <;> omega
        refine fin (rows.set a (rows[a].set b (opts[q]'hq4))) ⟨e5.set 3 (some (dM (rows.set a (rows[a].set b (opts[q]'hq4))), .full)), rfl, ?_⟩ (bset _ (by rw [List.length_set]; omega) fun x hx => ?_)
        · rw [seq_nx (no2 0 _ _ _ (by omega) h1f), seq_nx (yes2 1 _ _ _ _ (by omega) h1f gt0 |>.trans (by
              rw [decide_eq_true hp, if_pos rfl]
              refine setIx2_of (x := opts[q]'hq4) h3e ?_ v4 v5 hal hb'
              simp only [un_eq, bin_eq, list_eq, evF_cons, evF_nil, c_eq, e5, var_eq, List.getElem?_cons_zero, List.getElem?_cons_succ, lvS_int, dv1024, pw, md20, addD_int, negD_int, subD_int, dv31, md4, hq]
              exact ixq)),
            seq_nx (no 2 _ _ (by omega) (h1e _)), seq_nx (no2 3 _ _ _ (by omega) (h1e _)), seq_nx (no 4 _ _ (by omega) (h1e _)), seq_nx (no 5 _ _ (by omega) (h1e _)), seq_nx (no 6 _ _ (by omega) (h1e _)), seq_nx (no 7 _ _ (by omega) (h1e _))]
        · rcases List.mem_or_eq_of_mem_set hx with h | h
          · exact hrx x h
          · rw [h]; exact ox _ (List.getElem_mem _)
      · refine fin rows ⟨e5, rfl, ?_⟩ b0
        rw [seq_nx (no2 0 _ _ _ (by omega) h1f), seq_nx (yes2 1 _ _ _ _ (by omega) h1f gt0 |>.trans (by rw [decide_eq_false hp, if_neg (by decide)])),
          seq_nx (no 2 _ _ (by omega) h1f), seq_nx (no2 3 _ _ _ (by omega) h1f), seq_nx (no 4 _ _ (by omega) h1f), seq_nx (no 5 _ _ (by omega) h1f), seq_nx (no 6 _ _ (by omega) h1f), seq_nx (no 7 _ _ (by omega) h1f)]
    · refine fin (rows.set a (rows[a] ++ [1])) ⟨e5.set 3 (some (dM (rows.set a (rows[a] ++ [1])), .full)), rfl, ?_⟩ (bset _ (by rw [List.length_append, List.length_singleton]; omega) fun x hx => ?_)
      · rw [seq_nx (no2 0 _ _ _ (by omega) h1f), seq_nx (no2 1 _ _ _ (by omega) h1f), seq_nx (yes 2 _ _ (by omega) h1f |>.trans (app2_of h3e v4 (c_eq _ _) hal (by omega))),
          seq_nx (no2 3 _ _ _ (by omega) (h1e _)), seq_nx (no 4 _ _ (by omega) (h1e _)), seq_nx (no 5 _ _ (by omega) (h1e _)), seq_nx (no 6 _ _ (by omega) (h1e _)), seq_nx (no 7 _ _ (by omega) (h1e _))]
      · rcases List.mem_append.mp hx with h | h
        · exact hrx x h
        · rw [List.mem_singleton.mp h]; omega
    · by_cases hp : 0 < rows[a].length
      · have hb' := hbl hp
        refine fin (rows.set a (rows[a].eraseIdx b)) ⟨e5.set 3 (some (dM (rows.set a (rows[a].eraseIdx b)), .full)), rfl, ?_⟩ (bset _ (by have := List.length_eraseIdx_le rows[a] b; omega) fun x hx => hrx x (List.mem_of_mem_eraseIdx hx))
        rw [seq_nx (no2 0 _ _ _ (by omega) h1f), seq_nx (no2 1 _ _ _ (by omega) h1f), seq_nx (no 2 _ _ (by omega) h1f), seq_nx (yes2 3 _ _ _ _ (by omega) h1f gt0 |>.trans (by rw [decide_eq_true hp, if_pos rfl]; exact popAt2_of h3e v4 v5 hal hb' (by omega))),
          seq_nx (no 4 _ _ (by omega) (h1e _)), seq_nx (no 5 _ _ (by omega) (h1e _)), seq_nx (no 6 _ _ (by omega) (h1e _)), seq_nx (no 7 _ _ (by omega) (h1e _))]
      · refine fin rows ⟨e5, rfl, ?_⟩ b0
        rw [seq_nx (no2 0 _ _ _ (by omega) h1f), seq_nx (no2 1 _ _ _ (by omega) h1f), seq_nx (no 2 _ _ (by omega) h1f), seq_nx (yes2 3 _ _ _ _ (by omega) h1f gt0 |>.trans (by rw [decide_eq_false hp, if_neg (by decide)])),
          seq_nx (no 4 _ _ (by omega) h1f), seq_nx (no 5 _ _ (by omega) h1f), seq_nx (no 6 _ _ (by omega) h1f), seq_nx (no 7 _ _ (by omega) h1f)]
    · refine fin (rows.set a []) ⟨e5.set 3 (some (dM (rows.set a []), .full)), rfl, ?_⟩ (bset _ (Nat.zero_le _) fun x hx => nomatch hx)
      rw [seq_nx (no2 0 _ _ _ (by omega) h1f), seq_nx (no2 1 _ _ _ (by omega) h1f), seq_nx (no 2 _ _ (by omega) h1f), seq_nx (no2 3 _ _ _ (by omega) h1f), seq_nx (yes 4 _ _ (by omega) h1f |>.trans (setIx_of (r := []) h3e rfl v4 hal)),
        seq_nx (no 5 _ _ (by omega) (h1e _)), seq_nx (no 6 _ _ (by omega) (h1e _)), seq_nx (no 7 _ _ (by omega) (h1e _))]
    · refine fin (rows.eraseIdx a) ⟨e5.set 3 (some (dM (rows.eraseIdx a), .full)), rfl, ?_⟩ ⟨by have := List.length_eraseIdx_le rows a; omega, fun r hr => b0.2 r (List.mem_of_mem_eraseIdx hr)⟩
      rw [seq_nx (no2 0 _ _ _ (by omega) h1f), seq_nx (no2 1 _ _ _ (by omega) h1f), seq_nx (no 2 _ _ (by omega) h1f), seq_nx (no2 3 _ _ _ (by omega) h1f), seq_nx (no 4 _ _ (by omega) h1f), seq_nx (yes 5 _ _ (by omega) h1f |>.trans (popAt_of h3e v4 hal (by omega))),
        seq_nx (no 6 _ _ (by omega) (h1e _)), seq_nx (no 7 _ _ (by omega) (h1e _))]
    · refine fin (rows.take a ++ [rows[a]] ++ rows.drop a) ⟨e5.set 3 (some (dM (rows.take a ++ [rows[a]] ++ rows.drop a), .full)), rfl, ?_⟩ ⟨by simp; omega, fun r hr => b0.2 r ?_⟩
      · rw [seq_nx (no2 0 _ _ _ (by omega) h1f), seq_nx (no2 1 _ _ _ (by omega) h1f), seq_nx (no 2 _ _ (by omega) h1f), seq_nx (no2 3 _ _ _ (by omega) h1f), seq_nx (no 4 _ _ (by omega) h1f), seq_nx (no 5 _ _ (by omega) h1f),
          seq_nx (yes 6 _ _ (by omega) h1f |>.trans (ins_of (r := rows[a]) h3e v4 (by simp only [blt_eq, evA_cons, evA_nil, bin_eq, e5, var_eq, List.getElem?_cons_zero, List.getElem?_cons_succ, lvS_lst, lvS_int, ix, listC_lst, lvL_ints]) (by omega) (by omega))), seq_nx (no 7 _ _ (by omega) (h1e _))]
      · rcases List.mem_append.mp hr with h | h
        · rcases List.mem_append.mp h with h | h
          · exact List.mem_of_mem_take h
          · rw [List.mem_singleton.mp h]; exact List.getElem_mem _
        · exact List.mem_of_mem_drop h
    · have md4 := modD_int (i := cell / 32) (j := 4) (by decide)
      obtain ⟨q, hq, hq4⟩ : ∃ q : Nat, cell / 32 % 4 = (q : Int) ∧ q < 4 := ⟨(cell / 32 % 4).toNat, by omega, by omega⟩
      let opts : List Int := [0, 25, 28, 0]
      have ixq : ixD (dI opts) (.int (q : Int)) = some (.int (opts[q]'hq4), .full) := ix_ints (xs := opts) hq4
      obtain ⟨wd, hwd, hwl⟩ : ∃ wd : Nat, opts[q]'hq4 = (wd : Int) ∧ wd ≤ 28 := by
        have hm : opts[q]'hq4 ∈ opts := List.getElem_mem _
        simp only [opts, List.mem_cons, List.not_mem_nil, or_false] at hm
        rcases hm with e | e | e | e
        · exact ⟨0, e, by omega⟩
        · exact ⟨25, e, by omega⟩
        · exact ⟨28, e, by omega⟩
        · exact ⟨0, e, by omega⟩
      let ones : List (List Int) := (List.range wd).map fun _ => (List.range wd).map fun _ => (1 : Int)
      have c1 : ∀ e : Env, e[6]? = some (some (.int (wd : Int), .full)) → e.length = 9 → E.comp (E.iRng1 [(E.var 6)]) [8] [8] (E.c (.bl true)) (E.c (.int 1)) e = some (dI ((List.range wd).map fun _ => (1 : Int)), .full) := fun e h6 h9 => by
        rw [comp_eq (xs := List.range wd) (fun (k : Nat) => [D.int (k : Int)]) (fun _ => D.int 1) (rng1_eq (n := wd) (by simp [h6]) (by omega)) (by rw [List.length_range]; omega) fun x _ => rfl, dI, List.map_map]
        rfl
      have c2 : ∀ e : Env, e[6]? = some (some (.int (wd : Int), .full)) → e.length = 9 → E.comp (E.iRng1 [(E.var 6)]) [7] [7] (E.c (.bl true)) (E.comp (E.iRng1 [(E.var 6)]) [8] [8] (E.c (.bl true)) (E.c (.int 1))) e = some (dM ones, .full) := fun e h6 h9 => by
        rw [comp_eq (xs := List.range wd) (fun (k : Nat) => [D.int (k : Int)]) (fun _ => dI ((List.range wd).map fun _ => (1 : Int))) (rng1_eq (n := wd) (by simp [h6]) (by omega)) (by rw [List.length_range]; omega) fun x _ => c1 _ (by
          simp only [setE_cons, setE_nil, wipeE_cons, wipeE_nil]
          rw [List.getElem?_set_ne (by decide), List.getElem?_set_ne (by decide), h6]) (by simp [h9]), dM, List.map_map]
        rfl
      refine fin ones ⟨(e5.set 6 (some (.int (wd : Int), .full))).set 3 (some (dM ones, .full)), rfl, ?_⟩ ⟨by simp [ones]; omega, fun r hr => ?_⟩
      · rw [seq_nx (no2 0 _ _ _ (by omega) h1f), seq_nx (no2 1 _ _ _ (by omega) h1f), seq_nx (no 2 _ _ (by omega) h1f), seq_nx (no2 3 _ _ _ (by omega) h1f), seq_nx (no 4 _ _ (by omega) h1f), seq_nx (no 5 _ _ (by omega) h1f), seq_nx (no 6 _ _ (by omega) h1f)]
        refine seq_nx ((yes 7 _ _ (by omega) h1f).trans ?_)
        refine seq_of (e := e5.set 6 (some (.int (wd : Int), .full))) ?_ ?_
        · rw [set_eq, xof_eq]
          have : (E.bin ixD (E.list [(E.c (.int 0)), (E.c (.int 25)), (E.c (.int 28)), (E.c (.int 0))]) (E.bin modD (E.bin fdivD (E.var 2) (E.c (.int 32))) (E.c (.int 4)))) e5 = some (.int (wd : Int), .full) := by
            simp only [bin_eq, list_eq, evF_cons, evF_nil, c_eq, e5, var_eq, List.getElem?_cons_zero, List.getElem?_cons_succ, lvS_int, dv32, md4, hq]
            rw [← hwd]
            exact ixq
          rw [this]
        · rw [set_eq, xof_eq, c2 _ rfl rfl]
      · obtain ⟨k, _, rfl⟩ := List.mem_map.mp hr
        refine ⟨by simp; omega, fun x hx => ?_⟩
        obtain ⟨j, _, rfl⟩ := List.mem_map.mp hx
        omega
end PM

set_option Elab.async false
set_option linter.all false
set_option maxRecDepth 100000
set_option maxHeartbeats 4000000
/-! The mathematics, part g: loops by an invariant; facts of drawn tables. -/
namespace PM
open PySem hiding Env
open PL
theorem forGo_inv {α : Type} {js ks : List Nat} {g : SS} (enc : α → List D) (P : Nat → Env → Prop) : ∀ (xs : List α) (i : Nat) (e : Env), P i e → (∀ x ∈ xs, ∀ k e, k < i + xs.length → P k e → ∃ e1, g (setE e js (enc x)) = some (.next e1) ∧ P (k + 1) (S.kill e1 ks)) →
    ∃ e', S.forGo js ks g (xs.map enc) e = some (.next e') ∧ P (i + xs.length) e'
  | [], i, e, h, _ => ⟨e, rfl, h⟩
  | x :: xs, i, e, h, st => by
    obtain ⟨e1, h1, h2⟩ := st x List.mem_cons_self i e (by rw [List.length_cons]; omega) h
    obtain ⟨e', h3, h4⟩ := forGo_inv enc P xs (i + 1) _ h2 fun y hy k e hk => st y (List.mem_cons_of_mem _ hy) k e (by rw [List.length_cons]; omega)
    refine ⟨e', ?_, ?_⟩
    · rw [List.map_cons, forGo_cons, h1]
      exact h3
    · rw [List.length_cons, show i + (xs.length + 1) = i + 1 + xs.length by omega]
      exact h4
theorem tab_sq (ns : List Int) (at_ : Nat) (rows : List (List Int)) (hr : isSq rows = true) : isSq (shuf ns at_ rows) = true := by
  obtain ⟨⟨h1, h2⟩, h3⟩ := isSq_iff.mp hr
  have hlen : (shuf ns at_ rows).length = rows.length := by
    unfold shuf
    rw [List.length_map, ordOf_len]
  refine isSq_iff.mpr ⟨by omega, fun r hm => ?_⟩
  unfold shuf at hm
  obtain ⟨k, hk, rfl⟩ := List.mem_map.mp hm
  rw [hlen]
  unfold shufRow
  refine ⟨by rw [List.length_map, ordOf_len], fun x hx => ?_⟩
  obtain ⟨j, hj, rfl⟩ := List.mem_map.mp hx
  have hk' := ordOf_mem hk
  have hj' := ordOf_mem hj
  have h4 := h3 rows[k] (List.getElem_mem _)
  have h5 : (rows.getD k []).getD j 0 = 1 ∨ (rows.getD k []).getD j 0 = -1 := by
    rw [getD_at hk', getD_at (by omega)]
    exact h4.2 _ (List.getElem_mem _)
  rcases h5 with e | e <;> rcases sgn_one (cellAt ns (at_ + 2)) k with e2 | e2 <;> rcases sgn_one (cellAt ns (at_ + 3)) j with e3 | e3 <;> (rw [e, e2, e3]; decide)
theorem tab_isSq (ns : List Int) (at_ most : Nat) (h : 1 ≤ most) : isSq (tab ns at_ most) = true := tab_sq _ _ _ (plain_sq _ (tabSize_mem h).1).1
theorem sqr_isSq (ns : List Int) (at_ most : Nat) (h : 1 ≤ most) (hm : most ≤ 24) : isSq (sqr ns at_ most) = true := by
  obtain ⟨s1, s2, s3⟩ := sqSize_le (ns := ns) (at_ := at_) h
  have hlen : (sqr ns at_ most).length = sqSize ns at_ most := by unfold sqr; rw [List.length_map, List.length_range]
  refine isSq_iff.mpr ⟨by omega, fun r hr => ?_⟩
  rw [hlen]
  unfold sqr at hr
  obtain ⟨k, hk, rfl⟩ := List.mem_map.mp hr
  refine ⟨by rw [List.length_map, List.length_range], fun x hx => ?_⟩
  obtain ⟨j, hj, rfl⟩ := List.mem_map.mp hx
  exact sqEnt_one _ _ _ _
end PM

set_option Elab.async false
set_option linter.all false
set_option maxRecDepth 100000
set_option maxHeartbeats 4000000
/-! The mathematics, part h: tables as functions; balance by rows and by columns; shuffles. -/
namespace PM
open PySem hiding Env
open PL
abbrev Mx := Nat → Nat → Int
def isum (n : Nat) (f : Nat → Int) : Int := ((List.range n).map f).sum
theorem isum_zero (f : Nat → Int) : isum 0 f = 0 := rfl
theorem isum_succ (n : Nat) (f : Nat → Int) : isum (n + 1) f = isum n f + f n := by
  unfold isum
  rw [List.range_succ, List.map_append, List.sum_append]
  simp
theorem isum_congr {n : Nat} {f g : Nat → Int} (h : ∀ i, i < n → f i = g i) : isum n f = isum n g := by
  unfold isum
  rw [List.map_congr_left fun i hi => h i (List.mem_range.mp hi)]
theorem isum_add (n : Nat) (f g : Nat → Int) : isum n (fun i => f i + g i) = isum n f + isum n g := by
  induction n with
  | zero => rfl
  | succ n ih => rw [isum_succ, isum_succ, isum_succ, ih]; omega
theorem isum_mul (n : Nat) (c : Int) (f : Nat → Int) : isum n (fun i => c * f i) = c * isum n f := by
  induction n with
  | zero => rw [isum_zero, isum_zero, Int.mul_zero]
  | succ n ih => rw [isum_succ, isum_succ, ih, Int.mul_add]
theorem isum_mulr (n : Nat) (c : Int) (f : Nat → Int) : isum n (fun i => f i * c) = isum n f * c := by
  rw [Int.mul_comm, ← isum_mul]
  exact isum_congr fun i _ => Int.mul_comm _ _
theorem isum_neg (n : Nat) (f : Nat → Int) : isum n (fun i => - f i) = - isum n f := by
  have := isum_mul n (-1) f
  rw [show (-1 : Int) * isum n f = - isum n f by omega] at this
  rw [← this]
  exact isum_congr fun i _ => by omega
theorem isum_const (n : Nat) (c : Int) : isum n (fun _ => c) = n * c := by
  induction n with
  | zero => rw [isum_zero]; simp
  | succ n ih => rw [isum_succ, ih, show ((n + 1 : Nat) : Int) = (n : Int) + 1 by omega, Int.add_mul, Int.one_mul]
theorem isum_z {n : Nat} {f : Nat → Int} (h : ∀ i, i < n → f i = 0) : isum n f = 0 := by
  rw [isum_congr h, isum_const]; omega
theorem isum_comm (n m : Nat) (F : Nat → Nat → Int) : isum n (fun i => isum m fun j => F i j) = isum m fun j => isum n fun i => F i j := by
  induction n with
  | zero => rw [isum_zero]; exact (isum_z fun i _ => rfl).symm
  | succ n ih =>
    rw [isum_succ, ih, ← isum_add]
    exact isum_congr fun j _ => (isum_succ n _).symm
theorem isum_one {n : Nat} {f : Nat → Int} {i : Nat} (hi : i < n) (h : ∀ j, j < n → j ≠ i → f j = 0) : isum n f = f i := by
  induction n with
  | zero => omega
  | succ n ih =>
    rw [isum_succ]
    by_cases e : i = n
    · rw [isum_z fun j hj => h j (by omega) (by omega), e]; omega
    · rw [ih (by omega) fun j hj hn => h j (by omega) hn, h n (by omega) (by omega)]; omega
theorem isum_le {n : Nat} {f g : Nat → Int} (h : ∀ i, i < n → f i ≤ g i) : isum n f ≤ isum n g := by
  induction n with
  | zero => rw [isum_zero, isum_zero]; omega
  | succ n ih =>
    have h1 := ih fun i hi => h i (by omega)
    have h2 := h n (by omega)
    rw [isum_succ, isum_succ]; omega
theorem perm_sum {l l' : List Int} (h : l.Perm l') : l.sum = l'.sum := by
  induction h with
  | nil => rfl
  | cons x _ ih => simp [ih]
  | swap x y l => simp; omega
  | trans _ _ ih1 ih2 => rw [ih1, ih2]

/-- the list of lists of a function -/
def tabOf (n : Nat) (M : Mx) : List (List Int) := (List.range n).map fun k => (List.range n).map (M k)
def at2 (rows : List (List Int)) : Mx := fun k j => (rows.getD k []).getD j 0
theorem tabOf_len (n : Nat) (M : Mx) : (tabOf n M).length = n := by unfold tabOf; rw [List.length_map, List.length_range]
theorem tabOf_congr {n : Nat} {M N : Mx} (h : ∀ k j, k < n → j < n → M k j = N k j) : tabOf n M = tabOf n N := by
  unfold tabOf
  refine List.map_congr_left fun k hk => List.map_congr_left fun j hj => ?_
  exact h k j (List.mem_range.mp hk) (List.mem_range.mp hj)
theorem tabOf_row {n : Nat} {M : Mx} {k : Nat} (h : k < (tabOf n M).length) : (tabOf n M)[k] = (List.range n).map (M k) := by
  simp [tabOf]
theorem at2_tabOf {n : Nat} {M : Mx} {k j : Nat} (hk : k < n) (hj : j < n) : at2 (tabOf n M) k j = M k j := by
  simp [at2, tabOf, List.getD_eq_getElem?_getD, hk, hj]
theorem list_range {α : Type} (l : List α) (d : α) : l = (List.range l.length).map fun i => l.getD i d := by
  refine List.ext_getElem (by simp) fun i h1 h2 => ?_
  rw [List.getElem_map, List.getElem_range, getD_at h1]
theorem tabOf_at2 {n : Nat} {rows : List (List Int)} (h1 : rows.length = n) (h2 : ∀ r ∈ rows, r.length = n) : tabOf n (at2 rows) = rows := by
  refine List.ext_getElem (by rw [tabOf_len, h1]) fun k hk hk' => ?_
  rw [tabOf_row]
  have hr := h2 rows[k] (List.getElem_mem _)
  refine List.ext_getElem (by rw [List.length_map, List.length_range, hr]) fun j hj hj' => ?_
  rw [List.getElem_map, List.getElem_range]
  unfold at2
  rw [getD_at hk', getD_at hj']
theorem dot_map (l : List Nat) (f g : Nat → Int) : dot (l.map f) (l.map g) = (l.map fun i => f i * g i).sum := by
  unfold dot
  congr 1
  induction l with
  | nil => rfl
  | cons x l ih => simp only [List.map_cons, List.zipWith_cons_cons, ih]
theorem dot_range (n : Nat) (f g : Nat → Int) : dot ((List.range n).map f) ((List.range n).map g) = isum n fun i => f i * g i := dot_map _ _ _
def one1P (x : Int) : Prop := x = 1 ∨ x = -1
theorem one1P.mul {x y : Int} (h : one1P x) (k : one1P y) : one1P (x * y) := by
  rcases h with rfl | rfl <;> rcases k with rfl | rfl <;> (unfold one1P; decide)
theorem one1P.neg {x : Int} (h : one1P x) : one1P (-x) := by
  rcases h with rfl | rfl <;> (unfold one1P; decide)
theorem one1P.sq {x : Int} (h : one1P x) : x * x = 1 := by
  rcases h with rfl | rfl <;> decide
def pm1 (n : Nat) (M : Mx) : Prop := ∀ k j, k < n → j < n → one1P (M k j)
theorem isSq_tabOf {n : Nat} {M : Mx} (h1 : 1 ≤ n) (h2 : n ≤ 24) (h : pm1 n M) : isSq (tabOf n M) = true := by
  refine isSq_iff.mpr ⟨by rw [tabOf_len]; omega, fun r hr => ?_⟩
  rw [tabOf_len]
  unfold tabOf at hr
  obtain ⟨k, hk, rfl⟩ := List.mem_map.mp hr
  refine ⟨by rw [List.length_map, List.length_range], fun x hx => ?_⟩
  obtain ⟨j, hj, rfl⟩ := List.mem_map.mp hx
  exact h k j (List.mem_range.mp hk) (List.mem_range.mp hj)
theorem sq_tabOf {rows : List (List Int)} (h : isSq rows = true) : ∃ n M, rows = tabOf n M ∧ 1 ≤ n ∧ n ≤ 24 ∧ pm1 n M := by
  obtain ⟨⟨h1, h2⟩, h3⟩ := isSq_iff.mp h
  refine ⟨rows.length, at2 rows, (tabOf_at2 rfl fun r hr => (h3 r hr).1).symm, h1, h2, fun k j hk hj => ?_⟩
  unfold at2
  have hr := h3 rows[k] (List.getElem_mem _)
  rw [getD_at hk, getD_at (by omega)]
  exact hr.2 _ (List.getElem_mem _)
theorem isBal_iff {n : Nat} {M : Mx} : isBal (tabOf n M) = true ↔ ∀ k j, k < n → j < k → isum n (fun i => M k i * M j i) = 0 := by
  unfold isBal
  rw [tabOf_len, List.all_eq_true]
  constructor
  · intro h k j hk hj
    have h1 := List.all_eq_true.mp (h k (List.mem_range.mpr hk)) j (List.mem_range.mpr hj)
    unfold balT at h1
    rw [getD_at (by rw [tabOf_len]; exact hk), getD_at (by rw [tabOf_len]; omega), tabOf_row, tabOf_row, dot_range] at h1
    exact of_decide_eq_true h1
  · intro h k hk
    refine List.all_eq_true.mpr fun j hj => ?_
    have hk' := List.mem_range.mp hk
    have hj' := List.mem_range.mp hj
    unfold balT
    rw [getD_at (by rw [tabOf_len]; exact hk'), getD_at (by rw [tabOf_len]; omega), tabOf_row, tabOf_row, dot_range]
    exact decide_eq_true (h k j hk' hj')
/-- a table, by rows and by columns -/
structure Had (n : Nat) (M : Mx) : Prop where
  pos : 1 ≤ n
  le : n ≤ 24
  pm : pm1 n M
  ro : ∀ k j, k < n → j < n → k ≠ j → isum n (fun i => M k i * M j i) = 0
  co : ∀ k j, k < n → j < n → k ≠ j → isum n (fun i => M i k * M i j) = 0
theorem Had.tr {n : Nat} {M : Mx} (h : Had n M) : Had n fun k j => M j k := ⟨h.pos, h.le, fun k j hk hj => h.pm j k hj hk, h.co, h.ro⟩
theorem Had.congr {n : Nat} {M N : Mx} (h : Had n M) (e : ∀ k j, k < n → j < n → M k j = N k j) : Had n N :=
  ⟨h.pos, h.le, fun k j hk hj => by rw [← e k j hk hj]; exact h.pm k j hk hj,
    fun k j hk hj hn => by rw [← h.ro k j hk hj hn]; exact isum_congr fun i hi => by rw [e k i hk hi, e j i hj hi],
    fun k j hk hj hn => by rw [← h.co k j hk hj hn]; exact isum_congr fun i hi => by rw [e i k hi hk, e i j hi hj]⟩
theorem Had.signs {n : Nat} {M : Mx} (h : Had n M) {s t : Nat → Int} (hs : ∀ k, k < n → one1P (s k)) (ht : ∀ k, k < n → one1P (t k)) : Had n fun k j => M k j * s k * t j :=
  ⟨h.pos, h.le, fun k j hk hj => ((h.pm k j hk hj).mul (hs k hk)).mul (ht j hj), fun k j hk hj hn => by
    have e := h.ro k j hk hj hn
    rw [isum_congr (g := fun i => (s k * s j) * (M k i * M j i)) fun i hi => by
      have := (ht i hi).sq
      grind, isum_mul, e, Int.mul_zero], fun k j hk hj hn => by
    have e := h.co k j hk hj hn
    rw [isum_congr (g := fun i => (t k * t j) * (M i k * M i j)) fun i hi => by
      have := (hs i hi).sq
      grind, isum_mul, e, Int.mul_zero]⟩
/-- an order of the first n -/
structure Ord (n : Nat) (π : Nat → Nat) : Prop where
  lt : ∀ k, k < n → π k < n
  inj : ∀ k j, k < n → j < n → π k = π j → k = j
  sum : ∀ f : Nat → Int, isum n (fun i => f (π i)) = isum n f
theorem Had.order {n : Nat} {M : Mx} (h : Had n M) {π σ : Nat → Nat} (hp : Ord n π) (hs : Ord n σ) : Had n fun k j => M (π k) (σ j) :=
  ⟨h.pos, h.le, fun k j hk hj => h.pm _ _ (hp.lt k hk) (hs.lt j hj), fun k j hk hj hn => by
    rw [hs.sum fun i => M (π k) i * M (π j) i]
    exact h.ro _ _ (hp.lt k hk) (hp.lt j hj) fun e => hn (hp.inj k j hk hj e), fun k j hk hj hn => by
    rw [hp.sum fun i => M i (σ k) * M i (σ j)]
    exact h.co _ _ (hs.lt k hk) (hs.lt j hj) fun e => hn (hs.inj k j hk hj e)⟩
theorem ord_of {n : Nat} {l : List Nat} (h : l.Perm (List.range n)) : Ord n (fun k => l.getD k 0) := by
  have hl : l.length = n := by rw [h.length_eq, List.length_range]
  have nd : l.Nodup := h.nodup_iff.mpr List.nodup_range
  refine ⟨fun k hk => ?_, fun k j hk hj e => ?_, fun f => ?_⟩
  · rw [getD_at (by omega)]
    exact List.mem_range.mp (h.mem_iff.mp (List.getElem_mem _))
  · rw [getD_at (by omega), getD_at (by omega)] at e
    exact (List.getElem_inj nd).mp e
  · unfold isum
    have e : (List.range n).map (fun i => f (l.getD i 0)) = l.map f := by
      have := list_range l 0
      rw [hl] at this
      have e2 : (List.range n).map (fun i => f (l.getD i 0)) = ((List.range n).map fun i => l.getD i 0).map f := by rw [List.map_map]; rfl
      rw [e2, ← this]
    rw [e]
    exact perm_sum (h.map f)
theorem shuf_tabOf (ns : List Int) (at_ n : Nat) (R : Mx) : shuf ns at_ (tabOf n R) = tabOf n fun k j =>
    R ((ordOf (cellAt ns at_) n).getD k 0) ((ordOf (cellAt ns (at_ + 1)) n).getD j 0) * sgn (cellAt ns (at_ + 2)) ((ordOf (cellAt ns at_) n).getD k 0) * sgn (cellAt ns (at_ + 3)) ((ordOf (cellAt ns (at_ + 1)) n).getD j 0) := by
  have o1 := list_range (ordOf (cellAt ns at_) n) 0
  have o2 := list_range (ordOf (cellAt ns (at_ + 1)) n) 0
  rw [ordOf_len] at o1 o2
  have p1 := ord_of (ordOf_perm (cellAt ns at_) n)
  have p2 := ord_of (ordOf_perm (cellAt ns (at_ + 1)) n)
  unfold shuf
  rw [tabOf_len]
  have step : (ordOf (cellAt ns at_) n).map (shufRow ns at_ (tabOf n R) (ordOf (cellAt ns (at_ + 1)) n)) = ((List.range n).map fun i => (ordOf (cellAt ns at_) n).getD i 0).map (shufRow ns at_ (tabOf n R) ((List.range n).map fun i => (ordOf (cellAt ns (at_ + 1)) n).getD i 0)) := by rw [← o1, ← o2]
  rw [step, List.map_map]
  unfold tabOf
  refine List.map_congr_left fun k hk => ?_
  show shufRow _ _ _ _ _ = _
  unfold shufRow
  rw [List.map_map]
  refine List.map_congr_left fun j hj => ?_
  show ((tabOf n R).getD _ []).getD _ 0 * _ * _ = _
  have e := at2_tabOf (M := R) (p1.lt k (List.mem_range.mp hk)) (p2.lt j (List.mem_range.mp hj))
  unfold at2 at e
  rw [e]
theorem shuf_had (ns : List Int) (at_ n : Nat) (R : Mx) (h : Had n R) : ∃ M, shuf ns at_ (tabOf n R) = tabOf n M ∧ Had n M :=
  ⟨_, shuf_tabOf ns at_ n R, (h.signs (s := fun k => sgn (cellAt ns (at_ + 2)) k) (t := fun j => sgn (cellAt ns (at_ + 3)) j) (fun k _ => sgn_one _ _) (fun k _ => sgn_one _ _)).order (ord_of (ordOf_perm _ _)) (ord_of (ordOf_perm _ _))⟩
def turn (rows : List (List Int)) : List (List Int) := tabOf rows.length fun k j => at2 rows j k
theorem plain_co : ∀ n ∈ sizes8, isBal (turn (plainT n)) = true := by decide +kernel
theorem had_of {n : Nat} {M : Mx} (h1 : 1 ≤ n) (h2 : n ≤ 24) (hp : pm1 n M) (hb : isBal (tabOf n M) = true) (hc : isBal (tabOf n fun k j => M j k) = true) : Had n M := by
  have hb := isBal_iff.mp hb
  have hc := isBal_iff.mp hc
  refine ⟨h1, h2, hp, fun k j hk hj hn => ?_, fun k j hk hj hn => ?_⟩
  · rcases Nat.lt_or_gt_of_ne hn with q | q
    · rw [← hb j k hj q]; exact isum_congr fun i _ => Int.mul_comm _ _
    · exact hb k j hk q
  · rcases Nat.lt_or_gt_of_ne hn with q | q
    · rw [← hc j k hj q]; exact isum_congr fun i _ => Int.mul_comm _ _
    · exact hc k j hk q
theorem plain_had {n : Nat} (h : n ∈ sizes8) : ∃ M, plainT n = tabOf n M ∧ Had n M := by
  obtain ⟨hsq, hlen, hb⟩ := plain_sq n h
  obtain ⟨⟨h1, h2⟩, h3⟩ := isSq_iff.mp hsq
  rw [hlen] at h1 h2
  have e := tabOf_at2 hlen fun r hr => by rw [(h3 r hr).1, hlen]
  refine ⟨at2 (plainT n), e.symm, had_of h1 h2 (fun k j hk hj => ?_) (by rw [e]; exact hb) ?_⟩
  · unfold at2
    have hr := h3 (plainT n)[k] (List.getElem_mem (by omega))
    rw [getD_at (l := plainT n) (by omega), getD_at (by omega)]
    exact hr.2 _ (List.getElem_mem _)
  · have hc := plain_co n h
    unfold turn at hc
    rw [hlen] at hc
    exact hc
theorem tab_had (ns : List Int) (at_ most : Nat) (h : 1 ≤ most) : ∃ n M, n ∈ sizes8 ∧ n ≤ most ∧ tab ns at_ most = tabOf n M ∧ Had n M := by
  obtain ⟨h1, h2⟩ := tabSize_mem (ns := ns) (at_ := at_) h
  obtain ⟨R, e, hR⟩ := plain_had h1
  obtain ⟨M, e2, hM⟩ := shuf_had ns (at_ + 1) _ R hR
  refine ⟨_, M, h1, h2, ?_, hM⟩
  unfold tab
  rw [e, e2]
theorem Had.bal {n : Nat} {M : Mx} (h : Had n M) : isBal (tabOf n M) = true := isBal_iff.mpr fun k j hk hj => h.ro k j hk (by omega) (by omega)
theorem Had.sq {n : Nat} {M : Mx} (h : Had n M) : isSq (tabOf n M) = true := isSq_tabOf h.pos h.le h.pm
theorem one1P_sml {x : Int} (h : one1P x) : sml x := by
  unfold sml
  rcases h with rfl | rfl <;> decide
theorem tabOf_sml {n : Nat} {M : Mx} (hn : n ≤ 24) (h : pm1 n M) : smlM (tabOf n M) := by
  refine ⟨by rw [tabOf_len]; omega, fun r hr => ?_⟩
  unfold tabOf at hr
  obtain ⟨k, hk, rfl⟩ := List.mem_map.mp hr
  refine ⟨by rw [List.length_map, List.length_range]; omega, fun x hx => ?_⟩
  obtain ⟨j, hj, rfl⟩ := List.mem_map.mp hx
  exact one1P_sml (h k j (List.mem_range.mp hk) (List.mem_range.mp hj))
theorem tabOf_eq {n : Nat} {M N : Mx} : tabOf n M = tabOf n N ↔ ∀ k j, k < n → j < n → M k j = N k j := by
  refine ⟨fun e k j hk hj => ?_, tabOf_congr⟩
  rw [← at2_tabOf (M := M) hk hj, e, at2_tabOf hk hj]
end PM

set_option Elab.async false
set_option linter.all false
set_option maxRecDepth 100000
set_option maxHeartbeats 4000000
/-! The mathematics, part i: refusals, plain, turned over. -/
namespace PM
open PySem hiding Env
open PL
theorem F_mustSq (rows : List (List Int)) (hr : ∀ r ∈ rows, r.length ≤ 100000) : F_must_be_square [dM rows] = some (if isSq rows = true then .ok .non .full else .exc "NoSquare") := by
  have e := F_isSq rows hr
  have e0 : env0 1 [dM rows] = [some (dM rows, .sh)] := rfl
  unfold F_must_be_square runB g_must_be_square
  rw [e0]
  cases h : isSq rows <;> simp [e, h]
theorem F_mustTab (rows : List (List Int)) (hr : smlM rows) : F_must_be_table [dM rows] = some (if isSq rows = true then (if isBal rows = true then .ok .non .full else .exc "NoTable") else .exc "NoSquare") := by
  have e := F_mustSq rows fun r h => (hr.2 r h).1
  have e2 := F_bal rows hr
  have e0 : env0 1 [dM rows] = [some (dM rows, .sh)] := rfl
  unfold F_must_be_table runB g_must_be_table
  rw [e0]
  cases h : isSq rows <;> cases h2 : isBal rows <;> simp [e, h, e2, h2]
theorem mustTab_ok {n : Nat} {M : Mx} (h : Had n M) : F_must_be_table [dM (tabOf n M)] = some (.ok .non .full) := by
  rw [F_mustTab _ (tabOf_sml h.le h.pm), if_pos h.sq, if_pos h.bal]
theorem mustSq_ok {n : Nat} {M : Mx} (h1 : 1 ≤ n) (h2 : n ≤ 24) (h : pm1 n M) : F_must_be_square [dM (tabOf n M)] = some (.ok .non .full) := by
  rw [F_mustSq _ (fun r hr => ((tabOf_sml h2 h).2 r hr).1), if_pos (isSq_tabOf h1 h2 h)]
/-- a comprehension over a range -/
theorem comp_r {fs : List SE} {j : Nat} {fe : SE} {env : Env} {n : Nat} (f : Nat → D) (hi : evA fs env = some [.int (n : Int)]) (hn : n ≤ 100000) (h : ∀ k, k < n → fe (setE (wipeE env [j]) [j] [.int (k : Int)]) = some (f k, .full)) :
    E.comp (E.iRng1 fs) [j] [j] (E.c (.bl true)) fe env = some (.lst ((List.range n).map f), .full) :=
  comp_eq (xs := List.range n) (fun (k : Nat) => [D.int (k : Int)]) f (rng1_eq hi (by omega)) (by rw [List.length_range]; exact hn) fun k hk => h k (List.mem_range.mp hk)
theorem comp_rI {fs : List SE} {j : Nat} {fe : SE} {env : Env} {n : Nat} (f : Nat → Int) (hi : evA fs env = some [.int (n : Int)]) (hn : n ≤ 100000) (h : ∀ k, k < n → fe (setE (wipeE env [j]) [j] [.int (k : Int)]) = some (.int (f k), .full)) :
    E.comp (E.iRng1 fs) [j] [j] (E.c (.bl true)) fe env = some (dI ((List.range n).map f), .full) := by
  rw [comp_r (fun k => D.int (f k)) hi hn h, dI, List.map_map]; rfl
theorem comp_rM {fs : List SE} {j : Nat} {fe : SE} {env : Env} {n : Nat} (f : Nat → List Int) (hi : evA fs env = some [.int (n : Int)]) (hn : n ≤ 100000) (h : ∀ k, k < n → fe (setE (wipeE env [j]) [j] [.int (k : Int)]) = some (dI (f k), .full)) :
    E.comp (E.iRng1 fs) [j] [j] (E.c (.bl true)) fe env = some (dM ((List.range n).map f), .full) := by
  rw [comp_r (fun k => dI (f k)) hi hn h, dM, List.map_map]; rfl
/-- a comprehension over a list of numbers, of rows -/
theorem comp_lI {j : Nat} {fe fi : SE} {env : Env} {xs : List Int} {lv : Lv} (f : Int → Int) (hi : fi env = some (dI xs, lv)) (hn : xs.length ≤ 100000) (h : ∀ x ∈ xs, fe (setE (wipeE env [j]) [j] [.int x]) = some (.int (f x), .full)) :
    E.comp (E.iList fi) [j] [j] (E.c (.bl true)) fe env = some (dI (xs.map f), .full) := by
  rw [comp_eq (xs := xs) (fun x => [D.int x]) (fun x => D.int (f x)) (by rw [iList_eq, hi]; simp) hn h, dI, List.map_map]; rfl
theorem comp_lM {j : Nat} {fe fi : SE} {env : Env} {xs : List (List Int)} {lv : Lv} (f : List Int → List Int) (hi : fi env = some (dM xs, lv)) (hn : xs.length ≤ 100000) (h : ∀ x ∈ xs, fe (setE (wipeE env [j]) [j] [dI x]) = some (dI (f x), .full)) :
    E.comp (E.iList fi) [j] [j] (E.c (.bl true)) fe env = some (dM (xs.map f), .full) := by
  rw [comp_eq (xs := xs) (fun x => [dI x]) (fun x => dI (f x)) (by rw [iList_eq, hi]; simp) hn h, dM, List.map_map]; rfl
theorem comp_lMI {j : Nat} {fe fi : SE} {env : Env} {xs : List (List Int)} {lv : Lv} (f : List Int → Int) (hi : fi env = some (dM xs, lv)) (hn : xs.length ≤ 100000) (h : ∀ x ∈ xs, fe (setE (wipeE env [j]) [j] [dI x]) = some (.int (f x), .full)) :
    E.comp (E.iList fi) [j] [j] (E.c (.bl true)) fe env = some (dI (xs.map f), .full) := by
  rw [comp_eq (xs := xs) (fun x => [dI x]) (fun x => D.int (f x)) (by rw [iList_eq, hi]; simp) hn h, dI, List.map_map]; rfl
/-- a place of a table -/
theorem ix_tab {n : Nat} {M : Mx} {k : Nat} (h : k < n) : ixD (dM (tabOf n M)) (.int (k : Int)) = some (dI ((List.range n).map (M k)), .sh) := by
  rw [ix_rows (by rw [tabOf_len]; exact h), tabOf_row]
theorem ix_row {n : Nat} {f : Nat → Int} {k : Nat} (h : k < n) : ixD (dI ((List.range n).map f)) (.int (k : Int)) = some (.int (f k), .full) := by
  rw [ix_ints (by rw [List.length_map, List.length_range]; exact h), List.getElem_map, List.getElem_range]
theorem tabOf_map {n : Nat} {M : Mx} (f : List Int → List Int) (N : Mx) (h : ∀ k, k < n → f ((List.range n).map (M k)) = (List.range n).map (N k)) : (tabOf n M).map f = tabOf n N := by
  unfold tabOf
  rw [List.map_map]
  exact List.map_congr_left fun k hk => h k (List.mem_range.mp hk)
def plM (M : Mx) : Mx := fun k j => M k j * M 0 j * (M k 0 * M 0 0)
theorem plain_hadM {n : Nat} {M : Mx} (h : Had n M) : Had n (plM M) := by
  refine (h.signs (s := fun k => M k 0 * M 0 0) (t := fun j => M 0 j) (fun k hk => (h.pm k 0 hk h.pos).mul (h.pm 0 0 h.pos h.pos)) fun j hj => h.pm 0 j h.pos hj).congr fun k j hk hj => ?_
  unfold plM
  grind
theorem F_plain_by' {n : Nat} {M : Mx} (h0 : 1 ≤ n) (hn : n ≤ 24) (h : pm1 n M) : F_plain_by [dM (tabOf n M)] = some (.ok (dM (tabOf n (plM M))) .full) := by
  refine run_ret ?_
  unfold g_plain_by
  have e0 : env0 6 [dM (tabOf n M)] = [some (dM (tabOf n M), .sh), none, none, none, none, none] := rfl
  rw [e0]
  have len : ∀ e : Env, e[0]? = some (some (dM (tabOf n M), .sh)) → evA [(E.blt lenD [(E.var 0)])] e = some [.int (n : Int)] := fun e h => by simp [h, tabOf_len]
  have first : E.comp (E.iRng1 [(E.blt lenD [(E.var 0)])]) [2] [2] (E.c (.bl true)) (E.comp (E.iRng1 [(E.blt lenD [(E.var 0)])]) [4] [4] (E.c (.bl true)) (E.bin mulD (E.bin ixD (E.bin ixD (E.var 0) (E.var 2)) (E.var 4)) (E.bin ixD (E.bin ixD (E.var 0) (E.c (.int 0))) (E.var 4)))) [some (dM (tabOf n M), .sh), none, none, none, none, none] =
      some (dM (tabOf n fun k j => M k j * M 0 j), .full) := by
    refine comp_rM (fun k => (List.range n).map fun j => M k j * M 0 j) (len _ rfl) (by omega) fun k hk => comp_rI (fun j => M k j * M 0 j) (len _ rfl) (by omega) fun j hj => ?_
    have i0 := ix_tab (M := M) (show 0 < n from h0)
    have m := mul_ok (one1P_sml (h k j hk hj)) (one1P_sml (h 0 j h0 hj))
    simp only [bin_eq, var_eq, c_eq, setE_cons, setE_nil, wipeE_cons, wipeE_nil, List.set_cons_succ, List.set_cons_zero, List.getElem?_cons_zero, List.getElem?_cons_succ, lvS_int, lvS_lst, ix_tab hk, ix_row hj, show (D.int 0) = .int ((0 : Nat) : Int) from rfl, i0, m]
  refine seq_of (e := [some (dM (tabOf n M), .sh), some (dM (tabOf n fun k j => M k j * M 0 j), .full), none, none, none, none]) (by rw [set_eq, xof_eq, first]; rfl) ?_
  have second : E.comp (E.iList (E.var 1)) [3] [3] (E.c (.bl true)) (E.comp (E.iList (E.var 3)) [5] [5] (E.c (.bl true)) (E.bin mulD (E.var 5) (E.bin ixD (E.var 3) (E.c (.int 0))))) [some (dM (tabOf n M), .sh), some (dM (tabOf n fun k j => M k j * M 0 j), .full), none, none, none, none] =
      some (dM ((tabOf n fun k j => M k j * M 0 j).map fun r => r.map fun x => x * r.getD 0 0), .full) := by
    refine comp_lM (lv := .sh) (fun r => r.map fun x => x * r.getD 0 0) rfl (by rw [tabOf_len]; omega) fun r hr => comp_lI (lv := .sh) (fun x => x * r.getD 0 0) rfl ?_ fun x hx => ?_
    all_goals (
      unfold tabOf at hr
      obtain ⟨k, hk, rfl⟩ := List.mem_map.mp hr
      have hk := List.mem_range.mp hk)
    · rw [List.length_map, List.length_range]; omega
    · obtain ⟨j, hj, rfl⟩ := List.mem_map.mp hx
      have hj := List.mem_range.mp hj
      have i0 := ix_row (f := fun j => M k j * M 0 j) (show 0 < n from h0)
      have e : ((List.range n).map fun j => M k j * M 0 j).getD 0 0 = M k 0 * M 0 0 := by simp [List.getD_eq_getElem?_getD, show 0 < n from h0]
      have m := mul_ok (one1P_sml ((h k j hk hj).mul (h 0 j h0 hj))) (one1P_sml ((h k 0 hk h0).mul (h 0 0 h0 h0)))
      rw [e]
      simp only [bin_eq, var_eq, c_eq, setE_cons, setE_nil, wipeE_cons, wipeE_nil, List.set_cons_succ, List.set_cons_zero, List.getElem?_cons_zero, List.getElem?_cons_succ, lvS_int, lvS_lst, show (D.int 0) = .int ((0 : Nat) : Int) from rfl, i0, m]
  rw [ret_eq, xof_eq, second]
  have e : (tabOf n fun k j => M k j * M 0 j).map (fun r => r.map fun x => x * r.getD 0 0) = tabOf n (plM M) := tabOf_map _ _ fun k hk => by
    have e : ((List.range n).map fun j => M k j * M 0 j).getD 0 0 = M k 0 * M 0 0 := by simp [List.getD_eq_getElem?_getD, show 0 < n from h0]
    rw [e, List.map_map]; rfl
  rw [e]
theorem F_plain' {n : Nat} {M : Mx} (h : Had n M) : F_plain [dM (tabOf n M)] = some (.ok (dM (tabOf n (plM M))) .full) := by
  refine run_ret ?_
  unfold g_plain
  have e0 : env0 1 [dM (tabOf n M)] = [some (dM (tabOf n M), .sh)] := rfl
  rw [e0]
  simp [mustTab_ok h, F_plain_by' h.pos h.le h.pm]
theorem F_over' {n : Nat} {M : Mx} (h : Had n M) : F_turned_over [dM (tabOf n M)] = some (.ok (dM (tabOf n fun k j => M j k)) .full) := by
  refine run_ret ?_
  unfold g_turned_over
  have e0 : env0 3 [dM (tabOf n M)] = [some (dM (tabOf n M), .sh), none, none] := rfl
  rw [e0]
  have hl := h.le
  have len : ∀ e : Env, e[0]? = some (some (dM (tabOf n M), .sh)) → evA [(E.blt lenD [(E.var 0)])] e = some [.int (n : Int)] := fun e h => by simp [h, tabOf_len]
  have c : E.comp (E.iRng1 [(E.blt lenD [(E.var 0)])]) [1] [1] (E.c (.bl true)) (E.comp (E.iRng1 [(E.blt lenD [(E.var 0)])]) [2] [2] (E.c (.bl true)) (E.bin ixD (E.bin ixD (E.var 0) (E.var 2)) (E.var 1))) [some (dM (tabOf n M), .sh), none, none] = some (dM (tabOf n fun k j => M j k), .full) := by
    refine comp_rM (fun k => (List.range n).map fun j => M j k) (len _ rfl) (by omega) fun k hk => comp_rI (fun j => M j k) (len _ rfl) (by omega) fun j hj => ?_
    simp only [bin_eq, var_eq, c_eq, setE_cons, setE_nil, wipeE_cons, wipeE_nil, List.set_cons_succ, List.set_cons_zero, List.getElem?_cons_zero, List.getElem?_cons_succ, lvS_int, lvS_lst, ix_tab hj, ix_row hk]
  simp only [seq_eq, drop_eq, xcall_eq, evA_cons, evA_nil, var_eq, List.getElem?_cons_zero, mustTab_ok h, ret_eq, xof_eq, c]
theorem F_isTab_ok {n : Nat} {M : Mx} (h : Had n M) : F_is_table [dM (tabOf n M)] = some (.ok (.bl true) .full) := by
  rw [F_isTab _ (tabOf_sml h.le h.pm), h.sq, h.bal]; rfl
theorem F_copy' {n : Nat} {M : Mx} (h : n ≤ 100000) : F__law_copy [dM (tabOf n M)] = some (.ok (dM (tabOf n M)) .full) := F_copy _ (by rw [tabOf_len]; exact h)
theorem V_like {n : Nat} {M N : Mx} (h : n ≤ 100000) (e : ∀ k j, k < n → j < n → M k j = N k j) : F__law_rows_like [dM (tabOf n M), dM (tabOf n N)] = some (.ok (.bl true) .full) := by
  rw [V_rowsLike _ _ fun r hr => by
    unfold tabOf at hr
    obtain ⟨k, hk, rfl⟩ := List.mem_map.mp hr
    rw [List.length_map, List.length_range]; exact h, tabOf_congr e, decide_eq_true rfl]
theorem getD_range {α : Type} {n k : Nat} (h : k < n) (f : Nat → α) (d : α) : ((List.range n).map f).getD k d = f k := by
  rw [getD_at (by rw [List.length_map, List.length_range]; exact h), List.getElem_map, List.getElem_range]
/-- xs[1:] -/
theorem cut_tail {α : Type} (xs : List α) : cutA xs (some 1) none = xs.drop 1 := by
  unfold cutA
  cases xs with
  | nil => rfl
  | cons x xs =>
    have h1 : HT.sIx (x :: xs).length 0 (some 1) = 1 := by
      rw [show (1 : Int) = ((1 : Nat) : Int) from rfl, HT.sIx_nat, List.length_cons]; omega
    rw [h1, HT.sIx_none]
    simp
end PM

set_option Elab.async false
set_option linter.all false
set_option maxRecDepth 100000
set_option maxHeartbeats 4000000
/-! The mathematics, part j: moves. -/
namespace PM
open PySem hiding Env
open PL
inductive Mv where
  | row (k : Int) | col (k : Int) | rows (j k : Int) | cols (j k : Int)
def mvD : Mv → D
  | .row k => .tup [.str "row", .int k]
  | .col k => .tup [.str "column", .int k]
  | .rows j k => .tup [.str "rows", .int j, .int k]
  | .cols j k => .tup [.str "columns", .int j, .int k]
def mvOk (n : Nat) : Mv → Bool
  | .row k => decide (0 ≤ k ∧ k < n)
  | .col k => decide (0 ≤ k ∧ k < n)
  | .rows j k => decide (0 ≤ j ∧ j < k ∧ k < n)
  | .cols j k => decide (0 ≤ j ∧ j < k ∧ k < n)
def swp (a b i : Int) : Int := if i = a then b else if i = b then a else i
def mvM : Mv → Mx → Mx
  | .row k, M => fun i j => if (i : Int) = k then - M i j else M i j
  | .col k, M => fun i j => if (j : Int) = k then - M i j else M i j
  | .rows a b, M => fun i j => M (swp a b i).toNat j
  | .cols a b, M => fun i j => M i (swp a b j).toNat
theorem flat_mv (m : Mv) : flatD (mvD m) = true := by cases m <;> rfl
theorem lvS_mv (m : Mv) : lvS (mvD m) = .full := lvS_flat (flat_mv m)
@[simp] theorem lvS_tup2 (s : Str) (k : Int) : lvS (.tup [.str s, .int k]) = .full := rfl
@[simp] theorem lvS_tup3 (s : Str) (j k : Int) : lvS (.tup [.str s, .int j, .int k]) = .full := rfl
@[simp] theorem ix_t0 (d : D) (ds : List D) : ixD (.tup (d :: ds)) (.int 0) = some (d, lvS d) := ixD_tup (d := d) (atI_nat' (j := 0) rfl)
@[simp] theorem ix_t1 (d e : D) (ds : List D) : ixD (.tup (d :: e :: ds)) (.int 1) = some (e, lvS e) := ixD_tup (d := e) (atI_nat' (j := 1) rfl)
@[simp] theorem ix_t2 (d e f : D) (ds : List D) : ixD (.tup (d :: e :: f :: ds)) (.int 2) = some (f, lvS f) := ixD_tup (d := f) (atI_nat' (j := 2) rfl)
theorem s_rc : (("row" : Str) = "column") = False := eq_false (by decide)
theorem s_cr : (("column" : Str) = "row") = False := eq_false (by decide)
theorem s_Rr : (("rows" : Str) = "row") = False := eq_false (by decide)
theorem s_Rc : (("rows" : Str) = "column") = False := eq_false (by decide)
theorem s_Cr : (("columns" : Str) = "row") = False := eq_false (by decide)
theorem s_Cc : (("columns" : Str) = "column") = False := eq_false (by decide)
theorem s_CR : (("columns" : Str) = "rows") = False := eq_false (by decide)
@[simp] theorem chain3_eq (op op' op'' : D → D → Option (D × Lv)) (fa fb fc fd : SE) (env : Env) : E.chain3 op op' op'' fa fb fc fd env = (match fa env, fb env with
  | some (x, _), some (y, _) => (match op x y with
    | some (.bl true, _) => (match fc env with
      | some (z, _) => (match op' y z with
        | some (.bl true, _) => (match fd env with
          | some (w, _) => op'' z w
          | none => none)
        | some (.bl false, _) => some (.bl false, .full)
        | _ => none)
      | none => none)
    | some (.bl false, _) => some (.bl false, .full)
    | _ => none)
  | _, _ => none) := rfl
theorem F_isMove (n : Nat) (m : Mv) : F_is_move [.int (n : Int), mvD m] = some (.ok (.bl (mvOk n m)) .full) := by
  refine run_ret ?_
  have e0 : env0 2 [.int (n : Int), mvD m] = [some (.int (n : Int), .full), some (mvD m, .full)] := by
    unfold env0
    simp [lvS_mv]
  unfold g_is_move
  rw [e0]
  cases m with
  | row k => by_cases h : (0 : Int) ≤ k <;> simp [mvD, s_rc, s_cr, h, mvOk]
  | col k => by_cases h : (0 : Int) ≤ k <;> simp [mvD, s_rc, s_cr, h, mvOk]
  | rows j k => by_cases h : (0 : Int) ≤ j <;> by_cases h2 : j < k <;> simp [mvD, s_Rr, s_Rc, h, h2, mvOk]
  | cols j k => by_cases h : (0 : Int) ≤ j <;> by_cases h2 : j < k <;> simp [mvD, s_Cr, s_Cc, h, h2, mvOk]
theorem swp_nat {a b i : Nat} : (swp a b i).toNat = if i = a then b else if i = b then a else i := by
  unfold swp
  by_cases h1 : i = a
  · rw [if_pos (by omega), if_pos h1]; omega
  · rw [if_neg (by omega), if_neg h1]
    by_cases h2 : i = b
    · rw [if_pos (by omega), if_pos h2]; omega
    · rw [if_neg (by omega), if_neg h2]; omega
/-- two places of a row, of a table changed about -/
theorem swap_list {α : Type} (n : Nat) (f : Nat → α) (a b : Nat) (ha : a < n) (hb : b < n) : (((List.range n).map f).set a (f b)).set b (f a) = (List.range n).map fun i => f (if i = a then b else if i = b then a else i) := by
  refine List.ext_getElem (by simp) fun i h1 h2 => ?_
  simp only [List.length_set, List.length_map, List.length_range] at h1
  rw [List.getElem_set, List.getElem_set, List.getElem_map, List.getElem_map, List.getElem_range]
  by_cases e1 : b = i
  · subst e1
    rw [if_pos rfl]
    by_cases e2 : b = a
    · subst e2; rw [if_pos rfl]
    · rw [if_neg e2, if_pos rfl]
  · rw [if_neg e1]
    by_cases e2 : a = i
    · subst e2; rw [if_pos rfl, if_pos rfl]
    · rw [if_neg e2, if_neg (Ne.symm e2), if_neg (Ne.symm e1)]
theorem F_swI (n : Nat) (f : Nat → Int) (a b : Nat) (ha : a < n) (hb : b < n) : F_swapped [dI ((List.range n).map f), .int (a : Int), .int (b : Int)] = some (.ok (dI ((List.range n).map fun i => f (if i = a then b else if i = b then a else i))) .full) := by
  refine run_ret ?_
  unfold g_swapped
  have e0 : env0 4 [dI ((List.range n).map f), .int (a : Int), .int (b : Int)] = [some (dI ((List.range n).map f), .sh), some (.int (a : Int), .full), some (.int (b : Int), .full), none] := rfl
  rw [e0]
  refine seq_of (e := [some (dI ((List.range n).map f), .sh), some (.int (a : Int), .full), some (.int (b : Int), .full), some (dI ((List.range n).map f), .full)]) (by
    rw [set_eq, xof_eq, blt_eq]
    simp only [evA_cons, evA_nil, var_eq, List.getElem?_cons_zero, listC_lst, lvL_ints]
    rfl) ?_
  refine seq_of (e := _) (setIxI_of (x := f b) (k := a) (lk := .full) rfl (by simp only [bin_eq, var_eq, List.getElem?_cons_zero, List.getElem?_cons_succ, lvS_int, ix_row hb]) rfl (by simp; exact ha)) ?_
  refine seq_of (e := _) (setIxI_of (x := f a) (k := b) (lk := .full) rfl (by
    simp only [bin_eq, var_eq, List.set_cons_succ, List.set_cons_zero, List.getElem?_cons_zero, List.getElem?_cons_succ, lvS_int, ix_row ha]) rfl (by simp; exact hb)) ?_
  rw [swap_list n f a b ha hb]
  rfl
theorem dM_map (n : Nat) (f : Nat → List Int) : dM ((List.range n).map f) = .lst ((List.range n).map fun k => dI (f k)) := by
  unfold dM
  rw [List.map_map]; rfl
theorem lvL_rows {n : Nat} (f : Nat → List Int) (h : 0 < n) : lvL ((List.range n).map fun k => dI (f k)) = .out := by
  unfold lvL
  obtain ⟨m, rfl⟩ : ∃ m, n = m + 1 := ⟨n - 1, by omega⟩
  rw [List.range_succ_eq_map, List.map_cons, flatA_cons, flatD_lst]
  rfl
theorem F_swM (n : Nat) (f : Nat → List Int) (a b : Nat) (ha : a < n) (hb : b < n) : F_swapped [dM ((List.range n).map f), .int (a : Int), .int (b : Int)] = some (.ok (dM ((List.range n).map fun i => f (if i = a then b else if i = b then a else i))) .out) := by
  refine run_ret ?_
  unfold g_swapped
  have e0 : env0 4 [dM ((List.range n).map f), .int (a : Int), .int (b : Int)] = [some (dM ((List.range n).map f), .sh), some (.int (a : Int), .full), some (.int (b : Int), .full), none] := rfl
  rw [e0]
  have ix : ∀ k, k < n → ixD (dM ((List.range n).map f)) (.int (k : Int)) = some (dI (f k), .sh) := fun k hk => by
    rw [ix_rows (by simp; exact hk), List.getElem_map, List.getElem_range]
  have lv : lvL (((List.range n).map f).map dI) = .out := by
    have e := dM_map n f
    have e2 : ((List.range n).map f).map dI = (List.range n).map fun k => dI (f k) := D.lst.inj e
    rw [e2, lvL_rows f (by omega)]
  refine seq_of (e := [some (dM ((List.range n).map f), .sh), some (.int (a : Int), .full), some (.int (b : Int), .full), some (dM ((List.range n).map f), .out)]) (by
    rw [set_eq, xof_eq, blt_eq]
    simp only [evA_cons, evA_nil, var_eq, List.getElem?_cons_zero, listC_lst, lv, lvS_lst]
    have e2 : shOnly [some (dM ((List.range n).map f), .sh), some (.int (a : Int), .full), some (.int (b : Int), .full), none] = [some (dM ((List.range n).map f), .sh), some (.int (a : Int), .full), some (.int (b : Int), .full), none] := rfl
    rw [e2, xof_eq, blt_eq]
    simp only [evA_cons, evA_nil, var_eq, List.getElem?_cons_zero, listC_lst, lv, lvS_lst]
    rfl) ?_
  refine seq_of (e := [some (dM ((List.range n).map f), .sh), some (.int (a : Int), .full), some (.int (b : Int), .full), some (.lst (((List.range n).map fun k => dI (f k)).set a (dI (f b))), .out)]) (by
    rw [setIx_eq]
    have h3 : ([some (dM ((List.range n).map f), Lv.sh), some (.int (a : Int), .full), some (.int (b : Int), .full), some (dM ((List.range n).map f), Lv.out)] : Env)[3]? = some (some (.lst ((List.range n).map fun k => dI (f k)), .out)) := by rw [← dM_map]; rfl
    rw [h3]
    simp [ix b hb, ixN_nat (show a < ((List.range n).map fun k => dI (f k)).length by simp; exact ha), ixN_nat ha]) ?_
  refine seq_of (e := [some (dM ((List.range n).map f), .sh), some (.int (a : Int), .full), some (.int (b : Int), .full), some (.lst ((((List.range n).map fun k => dI (f k)).set a (dI (f b))).set b (dI (f a))), .out)]) (by
    rw [setIx_eq]
    simp [ix a ha, ixN_nat hb]) ?_
  rw [swap_list n (fun k => dI (f k)) a b ha hb, ← dM_map n fun i => f (if i = a then b else if i = b then a else i)]
  rfl
theorem enum_range (n : Nat) (f : Nat → D) : E.enumL ((List.range n).map f) = (List.range n).map fun (i : Nat) => [D.int (i : Int), f i] := by
  unfold E.enumL
  refine List.ext_getElem (by simp) fun i h1 h2 => ?_
  simp
theorem iEnum_of {fs : List SE} {env : Env} {ds : List D} (h : evA fs env = some [.lst ds]) : E.iEnum fs env = some (E.enumL ds) := by
  unfold E.iEnum
  rw [h]
/-- a comprehension over an enumeration -/
theorem comp_e {fs : List SE} {i j : Nat} {fe : SE} {env : Env} {n : Nat} {g : Nat → D} (f : Nat → D) (hi : evA fs env = some [.lst ((List.range n).map g)]) (hn : n ≤ 100000) (h : ∀ k, k < n → fe (setE (wipeE env [i, j]) [i, j] [.int (k : Int), g k]) = some (f k, .full)) :
    E.comp (E.iEnum fs) [i, j] [i, j] (E.c (.bl true)) fe env = some (.lst ((List.range n).map f), .full) :=
  comp_eq (xs := List.range n) (fun (k : Nat) => [D.int (k : Int), g k]) f (by rw [iEnum_of hi, enum_range]) (by rw [List.length_range]; exact hn) fun k hk => h k (List.mem_range.mp hk)
theorem tabOf_D (n : Nat) (M : Mx) : dM (tabOf n M) = .lst ((List.range n).map fun k => dI ((List.range n).map (M k))) := dM_map n fun k => (List.range n).map (M k)
theorem row_D (n : Nat) (f : Nat → Int) : dI ((List.range n).map f) = .lst ((List.range n).map fun k => .int (f k)) := by
  unfold dI
  rw [List.map_map]; rfl
theorem V_moved_by (n : Nat) (M : Mx) (m : Mv) (hn : n ≤ 100000) (ok : mvOk n m = true) : F_moved_by [dM (tabOf n M), mvD m] = some (.ok (dM (tabOf n (mvM m M))) .full) := by
  refine run_ret ?_
  have e0 : env0 5 [dM (tabOf n M), mvD m] = [some (dM (tabOf n M), .sh), some (mvD m, .full), none, none, none] := by
    unfold env0
    simp [lvS_mv]
  unfold g_moved_by
  rw [e0]
  have t2 : ∀ (g1 g2 : SS) (s : Str) (ds : List D) (x : Str) (e : Env), e[1]? = some (some (.tup (.str s :: ds), .full)) → S.ite (E.bin eqD (E.bin ixD (E.var 1) (E.c (.int 0))) (E.c (.str x))) g1 g2 e = if s = x then g1 e else g2 e := fun g1 g2 s ds x e h => by
    have hl : ∀ lv, lvS (D.tup (D.str s :: ds)) = lv → True := fun _ _ => trivial
    refine ite_d (lv := .full) ?_
    simp [h]
  cases m with
  | row k =>
    obtain ⟨h0, h1⟩ : 0 ≤ k ∧ k < n := of_decide_eq_true ok
    refine seq_ret ?_
    rw [t2 _ _ "row" [.int k] _ _ rfl, if_pos rfl, ret_eq, xof_eq]
    have c : E.comp (E.iEnum [(E.var 0)]) [3, 2] [3, 2] (E.c (.bl true)) (E.comp (E.iList (E.var 2)) [4] [4] (E.c (.bl true)) (E.ite (E.bin eqD (E.var 3) (E.bin ixD (E.var 1) (E.c (.int 1)))) (E.un negD (E.var 4)) (E.var 4))) [some (dM (tabOf n M), .sh), some (mvD (.row k), .full), none, none, none] = some (dM (tabOf n (mvM (.row k) M)), .full) := by
      rw [comp_e (n := n) (g := fun i => dI ((List.range n).map (M i))) (fun i => dI ((List.range n).map (mvM (.row k) M i))) (by rw [tabOf_D]; rfl) hn fun i hi => ?_, ← tabOf_D]
      rw [comp_lI (lv := .sh) (fun x => if (i : Int) = k then -x else x) rfl (by simp; exact hn) fun x hx => ?_, List.map_map]
      · rfl
      · by_cases e : (i : Int) = k
        · simp [mvD, e]
        · simp [mvD, e]
    rw [c]
  | col k =>
    obtain ⟨h0, h1⟩ : 0 ≤ k ∧ k < n := of_decide_eq_true ok
    refine seq_of (e := [some (dM (tabOf n M), .sh), some (mvD (.col k), .full), none, none, none]) (by rw [t2 _ _ "column" [.int k] _ _ rfl, if_neg (by decide)]; rfl) ?_
    refine seq_ret ?_
    rw [t2 _ _ "column" [.int k] _ _ rfl, if_pos rfl, ret_eq, xof_eq]
    have c : E.comp (E.iList (E.var 0)) [2] [2] (E.c (.bl true)) (E.comp (E.iEnum [(E.var 2)]) [3, 4] [3, 4] (E.c (.bl true)) (E.ite (E.bin eqD (E.var 3) (E.bin ixD (E.var 1) (E.c (.int 1)))) (E.un negD (E.var 4)) (E.var 4))) [some (dM (tabOf n M), .sh), some (mvD (.col k), .full), none, none, none] = some (dM (tabOf n (mvM (.col k) M)), .full) := by
      rw [comp_eq (xs := List.range n) (fun i => [dI ((List.range n).map (M i))]) (fun i => dI ((List.range n).map (mvM (.col k) M i))) (by
        rw [tabOf_D]
        simp) (by simp; exact hn) fun i hi => ?_, ← tabOf_D]
      rw [comp_e (n := n) (g := fun j => D.int (M i j)) (fun j => D.int (mvM (.col k) M i j)) (by simp [row_D]) hn fun j hj => ?_, ← row_D]
      by_cases e : (j : Int) = k
      · simp [mvD, e, mvM]
      · simp [mvD, e, mvM]
    rw [c]
  | rows a b =>
    obtain ⟨h0, h1, h2⟩ : 0 ≤ a ∧ a < b ∧ b < n := of_decide_eq_true ok
    obtain ⟨a', rfl⟩ : ∃ a' : Nat, a = (a' : Int) := ⟨a.toNat, by omega⟩
    obtain ⟨b', rfl⟩ : ∃ b' : Nat, b = (b' : Int) := ⟨b.toNat, by omega⟩
    refine seq_of (e := [some (dM (tabOf n M), .sh), some (mvD (.rows a' b'), .full), none, none, none]) (by rw [t2 _ _ "rows" [.int a', .int b'] _ _ rfl, if_neg (by decide)]; rfl) ?_
    refine seq_of (e := [some (dM (tabOf n M), .sh), some (mvD (.rows a' b'), .full), none, none, none]) (by rw [t2 _ _ "rows" [.int a', .int b'] _ _ rfl, if_neg (by decide)]; rfl) ?_
    refine seq_ret ?_
    rw [t2 _ _ "rows" [.int a', .int b'] _ _ rfl, if_pos rfl, ret_eq, xof_eq]
    have sw := F_swM n (fun i => (List.range n).map (M i)) a' b' (by omega) (by omega)
    have c : E.comp (E.iList (E.call F_swapped [(E.var 0), (E.bin ixD (E.var 1) (E.c (.int 1))), (E.bin ixD (E.var 1) (E.c (.int 2)))])) [2] [2] (E.c (.bl true)) (E.blt listC [(E.var 2)]) [some (dM (tabOf n M), .sh), some (mvD (.rows a' b'), .full), none, none, none] = some (dM (tabOf n (mvM (.rows a' b') M)), .full) := by
      rw [comp_lM (lv := .out) (fun r => r) (xs := (List.range n).map fun i => (List.range n).map (M (if i = a' then b' else if i = b' then a' else i))) (by
        simp only [call_eq, evA_cons, evA_nil, var_eq, bin_eq, c_eq, List.getElem?_cons_zero, List.getElem?_cons_succ, mvD, lvS_tup3, ix_t1, ix_t2]
        show (match F_swapped [dM (tabOf n M), D.int (a' : Int), D.int (b' : Int)] with | some (.ok d lv) => some (d, lv) | _ => none) = _
        unfold tabOf
        rw [sw]) (by simp; exact hn) fun r hr => by simp, List.map_id']
      congr 3
      unfold tabOf
      refine List.map_congr_left fun i hi => List.map_congr_left fun j hj => ?_
      show M _ j = M (swp a' b' i).toNat j
      rw [swp_nat]
    rw [c]
  | cols a b =>
    obtain ⟨h0, h1, h2⟩ : 0 ≤ a ∧ a < b ∧ b < n := of_decide_eq_true ok
    obtain ⟨a', rfl⟩ : ∃ a' : Nat, a = (a' : Int) := ⟨a.toNat, by omega⟩
    obtain ⟨b', rfl⟩ : ∃ b' : Nat, b = (b' : Int) := ⟨b.toNat, by omega⟩
    refine seq_of (e := [some (dM (tabOf n M), .sh), some (mvD (.cols a' b'), .full), none, none, none]) (by rw [t2 _ _ "columns" [.int a', .int b'] _ _ rfl, if_neg (by decide)]; rfl) ?_
    refine seq_of (e := [some (dM (tabOf n M), .sh), some (mvD (.cols a' b'), .full), none, none, none]) (by rw [t2 _ _ "columns" [.int a', .int b'] _ _ rfl, if_neg (by decide)]; rfl) ?_
    refine seq_of (e := [some (dM (tabOf n M), .sh), some (mvD (.cols a' b'), .full), none, none, none]) (by rw [t2 _ _ "columns" [.int a', .int b'] _ _ rfl, if_neg (by decide)]; rfl) ?_
    rw [ret_eq, xof_eq]
    have c : E.comp (E.iList (E.var 0)) [2] [2] (E.c (.bl true)) (E.call F_swapped [(E.var 2), (E.bin ixD (E.var 1) (E.c (.int 1))), (E.bin ixD (E.var 1) (E.c (.int 2)))]) [some (dM (tabOf n M), .sh), some (mvD (.cols a' b'), .full), none, none, none] = some (dM (tabOf n (mvM (.cols a' b') M)), .full) := by
      rw [comp_eq (xs := List.range n) (fun i => [dI ((List.range n).map (M i))]) (fun i => dI ((List.range n).map (mvM (.cols a' b') M i))) (by
        rw [tabOf_D]
        simp) (by simp; exact hn) fun i hi => ?_, ← tabOf_D]
      have sw := F_swI n (M i) a' b' (by omega) (by omega)
      simp only [call_eq, evA_cons, evA_nil, var_eq, bin_eq, c_eq, setE_cons, setE_nil, wipeE_cons, wipeE_nil, List.set_cons_succ, List.set_cons_zero, List.getElem?_cons_zero, List.getElem?_cons_succ, mvD, lvS_tup3, ix_t1, ix_t2, sw]
      have e : (fun j => M i (if j = a' then b' else if j = b' then a' else j)) = mvM (.cols a' b') M i := funext fun j => by
        show M i _ = M i (swp a' b' j).toNat
        rw [swp_nat]
      rw [e]
    rw [c]
/-- a loop that looks, and raises -/
theorem forGo_exc {α : Type} {js ks : List Nat} {g : SS} (enc : α → List D) (env : Env) (c : Str) (p : α → Bool) : ∀ xs : List α, (∀ x ∈ xs, (p x = true → ∃ e1, g (setE env js (enc x)) = some (.next e1) ∧ S.kill e1 ks = env) ∧ (p x = false → ∃ e1, g (setE env js (enc x)) = some (.exc c e1))) → ¬ xs.all p = true →
    ∃ e', S.forGo js ks g (xs.map enc) env = some (.exc c e')
  | [], _, h => absurd rfl h
  | x :: xs, h, hn => by
    have hx := h x List.mem_cons_self
    rw [List.map_cons, forGo_cons]
    cases hp : p x with
    | true =>
      obtain ⟨e1, h1, h2⟩ := hx.1 hp
      obtain ⟨e', h3⟩ := forGo_exc enc env c p xs (fun y hy => h y (List.mem_cons_of_mem _ hy)) (by rw [List.all_cons, hp, Bool.true_and] at hn; exact hn)
      rw [h1]
      refine ⟨e', ?_⟩
      show S.forGo js ks g (xs.map enc) (S.kill e1 ks) = _
      rw [h2, h3]
    | false =>
      obtain ⟨e1, h1⟩ := hx.2 hp
      rw [h1]
      exact ⟨e1, rfl⟩
def mvAll (ms : List Mv) (M : Mx) : Mx := ms.foldl (fun N m => mvM m N) M
theorem V_moved (n : Nat) (M : Mx) (ms : List Mv) (h1 : 1 ≤ n) (h2 : n ≤ 24) (hp : pm1 n M) : F_moved [dM (tabOf n M), .lst (ms.map mvD)] = some (if ms.all (mvOk n) = true then .ok (dM (tabOf n (mvAll ms M))) .full else .exc "NoMove") := by
  have e0 : env0 5 [dM (tabOf n M), .lst (ms.map mvD)] = [some (dM (tabOf n M), .sh), some (.lst (ms.map mvD), .sh), none, none, none] := rfl
  have s1 : ∀ g, S.seq (S.drop (Xo.call F_must_be_square [(E.var 0)])) g [some (dM (tabOf n M), .sh), some (.lst (ms.map mvD), .sh), none, none, none] = g [some (dM (tabOf n M), .sh), some (.lst (ms.map mvD), .sh), none, none, none] := fun g => by
    simp [mustSq_ok h1 h2 hp]
  let r : Res := .exc "NoMove" [some (dM (tabOf n M), .sh), some (.lst (ms.map mvD), .sh), none, none, none]
  by_cases hall : ms.all (mvOk n) = true
  · rw [if_pos hall]
    refine run_ret ?_
    unfold g_moved
    rw [e0, s1]
    have L1 : S.forL (E.iList (E.var 1)) [2] [2] b1_moved [some (dM (tabOf n M), .sh), some (.lst (ms.map mvD), .sh), none, none, none] = some (.next [some (dM (tabOf n M), .sh), some (.lst (ms.map mvD), .sh), none, none, none]) := by
      have L := forGo_all (js := [2]) (ks := [2]) (g := b1_moved) (fun m => [mvD m]) (fun _ => [some (dM (tabOf n M), .sh), some (.lst (ms.map mvD), .sh), none, none, none]) ms fun p m q hq => ⟨[some (dM (tabOf n M), .sh), some (.lst (ms.map mvD), .sh), some (mvD m, .full), none, none], by
        have hm : mvOk n m = true := List.all_eq_true.mp hall m (by rw [hq]; simp)
        have im := F_isMove n m
        unfold b1_moved
        simp [lvS_mv, tabOf_len, im, hm], rfl⟩
      rw [← L]
      simp
      rfl
    refine seq_of L1 ?_
    have c : E.comp (E.iList (E.var 0)) [4] [4] (E.c (.bl true)) (E.blt listC [(E.var 4)]) [some (dM (tabOf n M), .sh), some (.lst (ms.map mvD), .sh), none, none, none] = some (dM (tabOf n M), .full) := by
      rw [comp_lM (lv := .sh) (fun r => r) rfl (by rw [tabOf_len]; omega) fun r hr => by simp, List.map_id']
    refine seq_of (e := [some (dM (tabOf n M), .sh), some (.lst (ms.map mvD), .sh), none, some (dM (tabOf n M), .full), none]) (by rw [set_eq, xof_eq, c]; rfl) ?_
    have L2 : S.forL (E.iList (E.var 1)) [2] [2] b2_moved [some (dM (tabOf n M), .sh), some (.lst (ms.map mvD), .sh), none, some (dM (tabOf n M), .full), none] = some (.next [some (dM (tabOf n M), .sh), some (.lst (ms.map mvD), .sh), none, some (dM (tabOf n (mvAll ms M)), .full), none]) := by
      have L := forGo_all (js := [2]) (ks := [2]) (g := b2_moved) (fun m => [mvD m]) (fun p => [some (dM (tabOf n M), .sh), some (.lst (ms.map mvD), .sh), none, some (dM (tabOf n (mvAll p M)), .full), none]) ms fun p m q hq => ⟨[some (dM (tabOf n M), .sh), some (.lst (ms.map mvD), .sh), some (mvD m, .full), some (dM (tabOf n (mvAll (p ++ [m]) M)), .full), none], by
        have hm : mvOk n m = true := List.all_eq_true.mp hall m (by rw [hq]; simp)
        have mb := V_moved_by n (mvAll p M) m (by omega) hm
        have e : mvAll (p ++ [m]) M = mvM m (mvAll p M) := by unfold mvAll; rw [List.foldl_append]; rfl
        unfold b2_moved
        rw [e]
        simp [lvS_mv, mb], rfl⟩
      rw [← show mvAll [] M = M from rfl] at *
      rw [← L]
      simp [mvAll]
      rfl
    exact seq_of L2 rfl
  · rw [if_neg hall]
    obtain ⟨e', L⟩ := forGo_exc (js := [2]) (ks := [2]) (g := b1_moved) (fun m => [mvD m]) [some (dM (tabOf n M), .sh), some (.lst (ms.map mvD), .sh), none, none, none] "NoMove" (mvOk n) ms (fun m _ => by
      have im := F_isMove n m
      have e1 : setE [some (dM (tabOf n M), .sh), some (.lst (ms.map mvD), .sh), none, none, none] [2] [mvD m] = [some (dM (tabOf n M), .sh), some (.lst (ms.map mvD), .sh), some (mvD m, .full), none, none] := by simp [lvS_mv]
      rw [e1]
      unfold b1_moved
      refine ⟨fun hp => ⟨[some (dM (tabOf n M), .sh), some (.lst (ms.map mvD), .sh), some (mvD m, .full), none, none], by simp [lvS_mv, tabOf_len, im, hp], rfl⟩, fun hp => ⟨[some (dM (tabOf n M), .sh), some (.lst (ms.map mvD), .sh), some (mvD m, .full), none, none], by simp [lvS_mv, tabOf_len, im, hp]⟩⟩) hall
    refine run_exc (e := e') ?_
    unfold g_moved
    rw [e0, s1]
    refine seq_exc ?_
    rw [← L]
    simp
    rfl
end PM

set_option Elab.async false
set_option linter.all false
set_option maxRecDepth 100000
set_option maxHeartbeats 4000000
/-! The mathematics, part k: sums of tables, the excess. -/
namespace PM
open PySem hiding Env
open PL
theorem sum_range (n : Nat) (f : Nat → Int) : ((List.range n).map f).sum = isum n f := rfl
theorem comp_sums {n : Nat} {M : Mx} {env : Env} {i j : Nat} {lv : Lv} (hi : env[i]? = some (some (dM (tabOf n M), lv))) (hj : j < env.length) (hn : n ≤ 100000) : E.comp (E.iList (E.var i)) [j] [j] (E.c (.bl true)) (E.blt sumD [(E.var j)]) env = some (dI ((List.range n).map fun k => isum n (M k)), .full) := by
  rw [comp_lMI (lv := .sh) (xs := tabOf n M) (fun r => r.sum) (by simp [hi]) (by rw [tabOf_len]; exact hn) fun r hr => by simp [hj]]
  unfold tabOf
  rw [List.map_map]
  rfl
def exc (n : Nat) (M : Mx) : Int := isum n fun k => isum n (M k)
theorem F_excess' {n : Nat} {M : Mx} (h1 : 1 ≤ n) (h2 : n ≤ 24) (h : pm1 n M) : F_excess [dM (tabOf n M)] = some (.ok (.int (exc n M)) .full) := by
  refine run_ret ?_
  unfold g_excess
  have e0 : env0 2 [dM (tabOf n M)] = [some (dM (tabOf n M), .sh), none] := rfl
  rw [e0]
  have c := comp_sums (n := n) (M := M) (env := [some (dM (tabOf n M), .sh), none]) (i := 0) (j := 1) rfl (by simp) (by omega)
  refine seq_of (e := [some (dM (tabOf n M), .sh), none]) (by simp [mustSq_ok h1 h2 h]) ?_
  rw [ret_eq, xof_eq, blt_eq]
  simp only [evA_cons, evA_nil, c, sumD_ints, sum_range]
  rfl
theorem V_whole (i : Int) : F__law_whole [.int i] = some (.ok (.bl true) .full) := rfl
/-- squares -/
theorem sq_nonneg (x : Int) : 0 ≤ x * x := by
  rcases Int.le_total 0 x with h | h
  · exact Int.mul_nonneg h h
  · have := Int.mul_nonneg (a := -x) (b := -x) (by omega) (by omega)
    rwa [Int.neg_mul_neg] at this
theorem isum_nonneg {n : Nat} {f : Nat → Int} (h : ∀ i, i < n → 0 ≤ f i) : 0 ≤ isum n f := by
  have := isum_le (f := fun _ => 0) h
  rwa [isum_const, Int.mul_zero] at this
theorem isum_prod (n : Nat) (f g : Nat → Int) : isum n f * isum n g = isum n fun i => isum n fun j => f i * g j := by
  rw [← isum_mulr]
  exact isum_congr fun i _ => (isum_mul n (f i) g).symm
theorem cauchy (n : Nat) (r : Nat → Int) : isum n r * isum n r ≤ n * isum n fun i => r i * r i := by
  have h : 0 ≤ isum n fun i => isum n fun j => (r i - r j) * (r i - r j) := isum_nonneg fun i _ => isum_nonneg fun j _ => sq_nonneg _
  have e : (isum n fun i => isum n fun j => (r i - r j) * (r i - r j)) = 2 * (n * isum n fun i => r i * r i) - 2 * (isum n r * isum n r) := by
    have e1 : ∀ i, (isum n fun j => (r i - r j) * (r i - r j)) = n * (r i * r i) + ((isum n fun j => r j * r j) + (-2) * (isum n fun j => r i * r j)) := fun i => by
      rw [isum_congr (g := fun j => r i * r i + (r j * r j + (-2) * (r i * r j))) fun j _ => by grind, isum_add, isum_add, isum_const, isum_mul]
    rw [isum_congr fun i _ => e1 i, isum_add, isum_add, isum_const, isum_mul, isum_mul, ← isum_prod]
    grind
  omega
/-- the sums of a table's rows, multiplied with themselves -/
theorem rows_sq {n : Nat} {M : Mx} (h : Had n M) (x : Nat → Int) : (isum n fun k => (isum n fun j => M k j * x j) * (isum n fun j => M k j * x j)) = n * isum n fun j => x j * x j := by
  rw [isum_congr (g := fun k => isum n fun i => isum n fun j => (M k i * M k j) * (x i * x j)) fun k _ => by
    rw [isum_prod]
    exact isum_congr fun i _ => isum_congr fun j _ => by grind]
  rw [isum_comm, isum_congr (g := fun i => n * (x i * x i)) fun i hi => ?_, isum_mul]
  rw [isum_comm, isum_one (i := i) hi fun j hj hn => ?_, isum_mulr]
  · rw [isum_congr (g := fun _ => 1) fun k hk => (h.pm k i hk hi).sq, isum_const]; grind
  · rw [isum_mulr, h.co i j hi hj (Ne.symm hn), Int.zero_mul]
theorem exc_le {n : Nat} {M : Mx} (h : Had n M) : exc n M * exc n M ≤ n * n * n := by
  have c := cauchy n fun k => isum n (M k)
  have r := rows_sq h fun _ => 1
  rw [isum_congr (g := fun k => isum n (M k) * isum n (M k)) fun k _ => by
    rw [isum_congr (g := M k) fun j _ => Int.mul_one _], isum_congr (n := n) (g := fun _ => 1) (f := fun j => 1 * 1) fun _ _ => rfl, isum_const] at r
  rw [r] at c
  unfold exc
  grind
theorem isum_abs {n : Nat} {f : Nat → Int} {b : Int} (h : ∀ i, i < n → -b ≤ f i ∧ f i ≤ b) : -(n * b) ≤ isum n f ∧ isum n f ≤ n * b := by
  have h1 := isum_le (f := fun _ => -b) fun i hi => (h i hi).1
  have h2 := isum_le (g := fun _ => b) fun i hi => (h i hi).2
  rw [isum_const] at h1 h2
  rw [Int.mul_neg] at h1
  exact ⟨h1, h2⟩
theorem one1P_abs {x : Int} (h : one1P x) : -1 ≤ x ∧ x ≤ 1 := by rcases h with rfl | rfl <;> decide
theorem exc_abs {n : Nat} {M : Mx} (hn : n ≤ 24) (h : pm1 n M) : -(600 : Int) ≤ exc n M ∧ exc n M ≤ 600 := by
  have := isum_abs (n := n) (f := fun k => isum n (M k)) (b := n * 1) fun k hk => isum_abs fun j hj => one1P_abs (h k j hk hj)
  unfold exc
  have h2 : (n : Int) * (n * 1) ≤ 24 * 24 := Int.mul_le_mul (by omega) (by omega) (by omega) (by omega)
  omega
/-- all rows turned -/
theorem turn_all (n : Nat) (M : Mx) : ∀ m, ∀ i j, mvAll ((List.range m).map fun (k : Nat) => Mv.row (k : Int)) M i j = if i < m then - M i j else M i j
  | 0, i, j => by rw [if_neg (by omega)]; rfl
  | m + 1, i, j => by
    have ih := turn_all n M m
    have e : mvAll ((List.range (m + 1)).map fun (k : Nat) => Mv.row (k : Int)) M = mvM (.row m) (mvAll ((List.range m).map fun (k : Nat) => Mv.row (k : Int)) M) := by
      unfold mvAll
      rw [List.range_succ, List.map_append, List.foldl_append]; rfl
    rw [e]
    show (if (i : Int) = (m : Int) then - _ else _) = _
    rw [ih]
    by_cases h : i = m
    · subst h; rw [if_pos rfl, if_neg (by omega), if_pos (by omega)]
    · rw [if_neg (by omega)]
      by_cases h2 : i < m
      · rw [if_pos h2, if_pos (by omega)]
      · rw [if_neg h2, if_neg (by omega)]
theorem sqr_tab (ns : List Int) (at_ most : Nat) (h : 1 ≤ most) (hm : most ≤ 24) : ∃ n M, 1 ≤ n ∧ n ≤ most ∧ sqr ns at_ most = tabOf n M ∧ pm1 n M := by
  obtain ⟨s1, s2, s3⟩ := sqSize_le (ns := ns) (at_ := at_) h
  exact ⟨sqSize ns at_ most, sqEnt ns at_, s1, s2, rfl, fun k j _ _ => sqEnt_one _ _ _ _⟩
end PM

set_option Elab.async false
set_option linter.all false
set_option maxRecDepth 100000
set_option maxHeartbeats 4000000
/-! The mathematics, part l: membership, counts, blocks. -/
namespace PM
open PySem hiding Env
open PL
theorem atoms_ints : ∀ xs : List Int, (xs.map D.int).all atomD = true
  | [] => rfl
  | x :: xs => by rw [List.map_cons, List.all_cons, atoms_ints xs]; rfl
theorem inV_ints (x : Int) : ∀ xs : List Int, L2.inV (.int x) ((xs.map D.int).map vOf) = decide (x ∈ xs)
  | [] => rfl
  | y :: xs => by
    have ih := inV_ints x xs
    unfold L2.inV at ih ⊢
    rw [List.map_cons, List.map_cons, List.any_cons, ih]
    show ((y == x) || decide (x ∈ xs)) = decide (x ∈ y :: xs)
    by_cases h : y = x
    · subst h; simp
    · have h2 : ¬ x = y := fun e => h e.symm
      simp [h, h2]
theorem inT_ints (neg : Bool) (x : Int) (xs : List Int) : inTD neg (.int x) (dI xs) = some (.bl (if neg = true then !decide (x ∈ xs) else decide (x ∈ xs)), .full) := by
  show (if atomD (.int x) = true ∧ (xs.map D.int).all atomD = true then some (D.bl (if neg then !L2.inV (vOf (.int x)) ((xs.map D.int).map vOf) else L2.inV (vOf (.int x)) ((xs.map D.int).map vOf)), Lv.full) else none) = _
  rw [if_pos ⟨rfl, atoms_ints xs⟩]
  show some (D.bl (if neg then !L2.inV (.int x) _ else L2.inV (.int x) _), Lv.full) = _
  rw [inV_ints]
theorem inT_tup (neg : Bool) (x : Int) (xs : List Int) : inTD neg (.int x) (.tup (xs.map D.int)) = some (.bl (if neg = true then !decide (x ∈ xs) else decide (x ∈ xs)), .full) := by
  show (if atomD (.int x) = true ∧ (xs.map D.int).all atomD = true then some (D.bl (if neg then !L2.inV (vOf (.int x)) ((xs.map D.int).map vOf) else L2.inV (vOf (.int x)) ((xs.map D.int).map vOf)), Lv.full) else none) = _
  rw [if_pos ⟨rfl, atoms_ints xs⟩]
  show some (D.bl (if neg then !L2.inV (.int x) _ else L2.inV (.int x) _), Lv.full) = _
  rw [inV_ints]
/-- how many of the first n -/
def cnt (n : Nat) (p : Nat → Bool) : Nat := ((List.range n).filter p).length
theorem cnt_succ (n : Nat) (p : Nat → Bool) : cnt (n + 1) p = cnt n p + (if p n = true then 1 else 0) := by
  unfold cnt
  rw [List.range_succ, List.filter_append, List.length_append]
  congr 1
  by_cases h : p n = true <;> simp [h]
theorem cnt_isum (n : Nat) (p : Nat → Bool) : (cnt n p : Int) = isum n fun i => if p i = true then 1 else 0 := by
  induction n with
  | zero => rfl
  | succ n ih =>
    rw [cnt_succ, isum_succ, ← ih]
    by_cases h : p n = true <;> simp [h]
theorem cnt_first (n : Nat) (p : Nat → Bool) : cnt (n + 1) p = (if p 0 = true then 1 else 0) + cnt n fun i => p (i + 1) := by
  induction n with
  | zero => rw [cnt_succ]; simp [cnt]
  | succ n ih => rw [cnt_succ, ih, cnt_succ]; omega
theorem cnt_congr {n : Nat} {p q : Nat → Bool} (h : ∀ i, i < n → p i = q i) : cnt n p = cnt n q := by
  induction n with
  | zero => rfl
  | succ n ih => rw [cnt_succ, cnt_succ, ih fun i hi => h i (by omega), h n (by omega)]
/-- a block of a row -/
def blk (n : Nat) (f : Nat → Int) : List Int := ((List.range (n - 1)).filter fun i => decide (f (1 + i) = 1)).map fun (i : Nat) => ((1 + i : Nat) : Int)
def blks (n : Nat) (P : Mx) : List (List Int) := (List.range (n - 1)).map fun k => blk n (P (k + 1))
theorem blk_mem {n : Nat} {f : Nat → Int} {j : Nat} (h0 : 1 ≤ j) (hj : j < n) : ((j : Nat) : Int) ∈ blk n f ↔ f j = 1 := by
  unfold blk
  rw [List.mem_map]
  constructor
  · rintro ⟨i, hi, e⟩
    have hi := List.mem_filter.mp hi
    have : 1 + i = j := by omega
    rw [← this]
    exact of_decide_eq_true hi.2
  · intro h
    exact ⟨j - 1, List.mem_filter.mpr ⟨List.mem_range.mpr (by omega), decide_eq_true (by rw [show 1 + (j - 1) = j by omega]; exact h)⟩, by omega⟩
theorem rows_tail (n : Nat) (P : Mx) : (tabOf n P).drop 1 = (List.range (n - 1)).map fun k => (List.range n).map (P (k + 1)) := by
  cases n with
  | zero => rfl
  | succ n =>
    unfold tabOf
    rw [List.range_succ_eq_map, List.map_cons, List.map_map]
    rfl
/-- [k for k in range(1, n) if row[k] == 1], the row in slot i -/
theorem comp_blk {n : Nat} {f : Nat → Int} {i j : Nat} {env : Env} {fs : List SE} {lv : Lv} (hi : env[i]? = some (some (dI ((List.range n).map f), lv))) (hj : j < env.length) (hij : i ≠ j) (hf : evA fs env = some [.int 1, .int (n : Int)]) (hn : n ≤ 100000) :
    E.comp (E.iRng2 fs) [j] [j] (E.bin eqD (E.bin ixD (E.var i) (E.var j)) (E.c (.int 1))) (E.var j) env = some (dI (blk n f), .full) := by
  rw [comp_if (xs := List.range (n - 1)) (fun (k : Nat) => [D.int ((1 + k : Nat) : Int)]) (fun k => decide (f (1 + k) = 1)) (fun (k : Nat) => D.int ((1 + k : Nat) : Int)) (rng2_eq (a := 1) (b := n) hf (by omega) (by omega)) (by rw [List.length_range]; omega) (fun k hk => ⟨.full, ?_⟩) (fun k hk _ => ?_)]
  · unfold blk dI
    rw [List.map_map]; rfl
  · have hk := List.mem_range.mp hk
    have h1 : (setE (wipeE env [j]) [j] [D.int ((1 + k : Nat) : Int)])[i]? = some (some (dI ((List.range n).map f), lv)) := by
      simp only [setE_cons, setE_nil, wipeE_cons, wipeE_nil]
      rw [List.getElem?_set_ne (Ne.symm hij), List.getElem?_set_ne (Ne.symm hij), hi]
    have h2 : (setE (wipeE env [j]) [j] [D.int ((1 + k : Nat) : Int)])[j]? = some (some (.int ((1 + k : Nat) : Int), .full)) := by
      simp only [setE_cons, setE_nil, wipeE_cons, wipeE_nil, lvS_int]
      rw [List.getElem?_set_self (by rw [List.length_set]; exact hj)]
    simp only [bin_eq, var_eq, h1, h2, c_eq, ix_row (f := f) (show 1 + k < n by omega), eqD_int]
  · have h2 : (setE (wipeE env [j]) [j] [D.int ((1 + k : Nat) : Int)])[j]? = some (some (.int ((1 + k : Nat) : Int), .full)) := by
      simp only [setE_cons, setE_nil, wipeE_cons, wipeE_nil, lvS_int]
      rw [List.getElem?_set_self (by rw [List.length_set]; exact hj)]
    simp only [var_eq, h2, lvS_int]
theorem F_blocks' {n : Nat} {M : Mx} (h : Had n M) : F_blocks [dM (tabOf n M)] = some (.ok (dM (blks n (plM M))) .full) := by
  refine run_ret ?_
  unfold g_blocks
  have e0 : env0 3 [dM (tabOf n M)] = [some (dM (tabOf n M), .sh), none, none] := rfl
  rw [e0]
  have hl := h.le
  refine seq_of (e := [some (dM (tabOf n M), .sh), none, none]) (by simp [mustTab_ok h]) ?_
  have pb := F_plain_by' h.pos h.le h.pm
  have sl : (E.iList (E.slice (E.call F_plain_by [(E.var 0)]) (E.part (E.c (.int 1))) E.noPart)) [some (dM (tabOf n M), .sh), none, none] = some ((List.range (n - 1)).map fun k => [dI ((List.range n).map (plM M (k + 1)))]) := by
    rw [iList_eq, slice_eq, call_eq]
    simp only [evA_cons, evA_nil, var_eq, List.getElem?_cons_zero, pb, part_eq, c_eq, noPart_eq, sliceD_lst, cut_tail]
    rw [← List.map_drop, rows_tail, List.map_map, List.map_map]
    rfl
  have c : E.comp (E.iList (E.slice (E.call F_plain_by [(E.var 0)]) (E.part (E.c (.int 1))) E.noPart)) [1] [1] (E.c (.bl true)) (E.comp (E.iRng2 [(E.c (.int 1)), (E.blt lenD [(E.var 1)])]) [2] [2] (E.bin eqD (E.bin ixD (E.var 1) (E.var 2)) (E.c (.int 1))) (E.var 2)) [some (dM (tabOf n M), .sh), none, none] = some (dM (blks n (plM M)), .full) := by
    rw [comp_eq (xs := List.range (n - 1)) (fun k => [dI ((List.range n).map (plM M (k + 1)))]) (fun k => dI (blk n (plM M (k + 1)))) sl (by rw [List.length_range]; omega) fun k hk => ?_]
    · unfold blks
      rw [dM_map]
    · exact comp_blk (lv := .sh) rfl (by simp) (by decide) (by simp) (by omega)
  rw [ret_eq, xof_eq, c]
theorem plM_row0 {n : Nat} {M : Mx} (h : pm1 n M) (h0 : 0 < n) {j : Nat} (hj : j < n) : plM M 0 j = 1 := by
  unfold plM
  have a := (h 0 j h0 hj).sq
  have b := (h 0 0 h0 h0).sq
  rw [a, b]; rfl
theorem plM_col0 {n : Nat} {M : Mx} (h : pm1 n M) (h0 : 0 < n) {k : Nat} (hk : k < n) : plM M k 0 = 1 := by
  unfold plM
  have a := (h k 0 hk h0).sq
  have b := (h 0 0 h0 h0).sq
  grind
/-- how many ones: twice as many as places and sum together -/
theorem ones_cnt {n : Nat} {f : Nat → Int} (h : ∀ j, j < n → one1P (f j)) : 2 * (cnt n fun j => decide (f j = 1) : Int) = n + isum n f := by
  rw [cnt_isum, ← isum_mul]
  have e : (n : Int) = isum n fun _ => 1 := by rw [isum_const]; omega
  rw [e, ← isum_add]
  exact isum_congr fun j hj => by rcases h j hj with e | e <;> (rw [e]; decide)
theorem blk_len {n : Nat} {f : Nat → Int} (h0 : 0 < n) (hf : f 0 = 1) : ((blk n f).length : Int) + 1 = (cnt n fun j => decide (f j = 1) : Nat) := by
  obtain ⟨m, rfl⟩ : ∃ m, n = m + 1 := ⟨n - 1, by omega⟩
  unfold blk
  rw [List.length_map, cnt_first, if_pos (decide_eq_true hf)]
  have e : (List.filter (fun i => decide (f (1 + i) = 1)) (List.range (m + 1 - 1))).length = cnt m fun i => decide (f (i + 1) = 1) := by
    unfold cnt
    rw [show m + 1 - 1 = m by omega]
    congr 2
    exact funext fun i => by rw [Nat.add_comm]
  rw [e]; omega
/-- of a plain table: each block, any two columns -/
theorem blk_half {n : Nat} {P : Mx} (h : Had n P) (r0 : ∀ j, j < n → P 0 j = 1) (c0 : ∀ k, k < n → P k 0 = 1) {k : Nat} (hk : k < n) (hk0 : 0 < k) : 2 * ((blk n (P k)).length : Int) + 2 = n := by
  have l := blk_len (f := P k) h.pos (c0 k hk)
  have o := ones_cnt (f := P k) fun j hj => h.pm k j hk hj
  have z := h.ro k 0 hk h.pos (by omega)
  rw [isum_congr (g := P k) fun i hi => by rw [r0 i hi, Int.mul_one]] at z
  omega
theorem pair_quarter {n : Nat} {P : Mx} (h : Had n P) (r0 : ∀ j, j < n → P 0 j = 1) (c0 : ∀ k, k < n → P k 0 = 1) {a b : Nat} (ha : a < n) (ha0 : 0 < a) (hb : b < n) (hb0 : 0 < b) (hab : a ≠ b) :
    4 * (cnt (n - 1) fun k => decide (P (k + 1) a = 1) && decide (P (k + 1) b = 1) : Int) + 4 = n := by
  obtain ⟨m, rfl⟩ : ∃ m, n = m + 1 := ⟨n - 1, by omega⟩
  have f := cnt_first m fun k => decide (P k a = 1) && decide (P k b = 1)
  rw [if_pos (by rw [r0 a ha, r0 b hb]; rfl)] at f
  have e : 4 * (cnt (m + 1) fun k => decide (P k a = 1) && decide (P k b = 1) : Int) = (m + 1 : Nat) := by
    rw [cnt_isum, ← isum_mul]
    have za := h.co a 0 ha h.pos (by omega)
    have zb := h.co b 0 hb h.pos (by omega)
    have zab := h.co a b ha hb hab
    have e1 : isum (m + 1) (fun i => 1 + P i a * P i 0 + P i b * P i 0 + P i a * P i b) = (m + 1 : Nat) := by
      rw [isum_add, isum_add, isum_add, za, zb, zab, isum_const]; omega
    rw [← e1]
    refine isum_congr fun i hi => ?_
    rw [c0 i hi]
    rcases h.pm i a hi ha with e | e <;> rcases h.pm i b hi hb with e2 | e2 <;> (rw [e, e2]; decide)
  rw [show m + 1 - 1 = m by omega]
  omega
end PM

set_option Elab.async false
set_option linter.all false
set_option maxRecDepth 100000
set_option maxHeartbeats 4000000
/-! The mathematics, part m: the row that is most like a word. -/
namespace PM
open PySem hiding Env
open PL
def iabs (x : Int) : Int := if x < 0 then -x else x
theorem F_mustNum (n : Nat) (M : Mx) (w : List Int) : F_must_be_numbers [dM (tabOf n M), dI w] = some (if w.length = n then .ok .non .full else .exc "NoNumbers") := by
  have e0 : env0 2 [dM (tabOf n M), dI w] = [some (dM (tabOf n M), .sh), some (dI w, .sh)] := rfl
  unfold F_must_be_numbers runB g_must_be_numbers
  rw [e0]
  by_cases h : w.length = n
  · simp [tabOf_len, h]
  · have h2 : ¬ ((w.length : Int) = (n : Int)) := by omega
    simp [tabOf_len, h, h2]
def tld (h : Nat → Int) : Nat → Int × Option (Nat × Int)
  | 0 => (-1, none)
  | k + 1 => if (tld h k).1 < iabs (h k) then (iabs (h k), some (k, if 0 ≤ h k then 1 else -1)) else tld h k
def bestD : Option (Nat × Int) → D
  | none => .non
  | some (k, s) => .tup [.int (k : Int), .int s]
theorem bestD_lv (b : Option (Nat × Int)) : lvS (bestD b) = .full := by
  rcases b with _ | ⟨k, s⟩ <;> rfl
theorem iabs_nonneg (x : Int) : 0 ≤ iabs x := by unfold iabs; split <;> omega
theorem tld_spec (h : Nat → Int) : ∀ n, 0 < n → ∃ k, k < n ∧ tld h n = (iabs (h k), some (k, if 0 ≤ h k then 1 else -1)) ∧ (∀ j, j < n → iabs (h j) ≤ iabs (h k)) ∧ ∀ j, j < k → iabs (h j) < iabs (h k)
  | 0, h0 => by omega
  | 1, _ => ⟨0, by omega, by
      unfold tld
      rw [if_pos (show (tld h 0).1 < iabs (h 0) by have := iabs_nonneg (h 0); show (-1 : Int) < _; omega)], fun j hj => by
      have : j = 0 := by omega
      rw [this]; omega, fun j hj => by omega⟩
  | n + 2, _ => by
    obtain ⟨k, hk, e, h1, h2⟩ := tld_spec h (n + 1) (by omega)
    have e2 : tld h (n + 2) = if (tld h (n + 1)).1 < iabs (h (n + 1)) then (iabs (h (n + 1)), some (n + 1, if 0 ≤ h (n + 1) then 1 else -1)) else tld h (n + 1) := rfl
    rw [e] at e2
    by_cases c : iabs (h k) < iabs (h (n + 1))
    · rw [if_pos c] at e2
      exact ⟨n + 1, by omega, e2, fun j hj => by
        by_cases q : j = n + 1
        · rw [q]; omega
        · have := h1 j (by omega); omega, fun j hj => by have := h1 j (by omega); omega⟩
    · rw [if_neg c] at e2
      exact ⟨k, by omega, e2, fun j hj => by
        by_cases q : j = n + 1
        · rw [q]; omega
        · exact h1 j (by omega), h2⟩
theorem comp_one {env : Env} {w : List Int} {i j : Nat} {lv : Lv} (hi : env[i]? = some (some (dI w, lv))) (hw : w.length ≤ 100000) (hj : j < env.length) :
    E.comp (E.iList (E.var i)) [j] [j] (E.c (.bl true)) (E.or (E.bin eqD (E.var j) (E.c (.int 1))) (E.bin eqD (E.var j) (E.un negD (E.c (.int 1))))) env = some (.lst ((w.map one1).map D.bl), .full) := by
  rw [comp_eq (xs := w) (fun x => [D.int x]) (fun x => D.bl (one1 x)) (by simp [hi]) hw fun x _ => ?_, List.map_map]
  · rfl
  · simp [hj]
    by_cases h : x = 1 <;> simp [h, one1]
theorem all_one {w : List Int} : w.all one1 = true ↔ ∀ x ∈ w, one1P x := by
  rw [List.all_eq_true]
  exact forall_congr' fun x => forall_congr' fun _ => one1_iff
theorem one_sml' {w : List Int} (h : ∀ x ∈ w, one1P x) (hl : w.length ≤ 100000) : smlR w := ⟨hl, fun x hx => one1P_sml (h x hx)⟩
theorem dot_rangeL {n : Nat} {f : Nat → Int} {w : List Int} (hw : w.length = n) : dot ((List.range n).map f) w = isum n fun i => f i * w.getD i 0 := by
  have e := list_range w 0
  rw [hw] at e
  rw [e, dot_range]
  exact isum_congr fun i hi => by rw [getD_range hi]
theorem V_told {n : Nat} {M : Mx} (h : Had n M) (w : List Int) (hwl : w.length ≤ 100000) : F_told_row [dM (tabOf n M), dI w] =
    some (if w.length = n ∧ w.all one1 = true then .ok (bestD (tld (fun k => isum n fun i => M k i * w.getD i 0) n).2) .full else .exc "NoNumbers") := by
  have e0 : env0 8 [dM (tabOf n M), dI w] = [some (dM (tabOf n M), .sh), some (dI w, .sh), none, none, none, none, none, none] := rfl
  have mt := mustTab_ok h
  have mn := F_mustNum n M w
  by_cases hl : w.length = n
  · rw [if_pos hl] at mn
    have c := comp_one (env := [some (dM (tabOf n M), .sh), some (dI w, .sh), none, none, none, none, none, none]) (w := w) (i := 1) (j := 7) rfl hwl (by simp)
    by_cases ha : w.all one1 = true
    · rw [if_pos ⟨hl, ha⟩]
      refine run_ret ?_
      unfold g_told_row
      rw [e0]
      refine seq_of (e := [some (dM (tabOf n M), .sh), some (dI w, .sh), none, none, none, none, none, none]) (by simp [mt]) ?_
      refine seq_of (e := [some (dM (tabOf n M), .sh), some (dI w, .sh), none, none, none, none, none, none]) (by simp [mn]) ?_
      refine seq_of (e := [some (dM (tabOf n M), .sh), some (dI w, .sh), none, none, none, none, none, none]) (by
        rw [ite_f (lv := .full) (by simp only [not_eq, blt_eq, evA_cons, evA_nil, c, allD_bls, all_map_id, ha]; rfl)]
        rfl) ?_
      refine seq_of (e := [some (dM (tabOf n M), .sh), some (dI w, .sh), some (.non, .full), none, none, none, none, none]) (by simp) ?_
      refine seq_of (e := [some (dM (tabOf n M), .sh), some (dI w, .sh), some (.non, .full), some (.int (-1), .full), none, none, none, none]) (by simp) ?_
      let hh : Nat → Int := fun k => isum n fun i => M k i * w.getD i 0
      have ws := one_sml' (all_one.mp ha) hwl
      have L : S.forL (E.iEnum [(E.var 0)]) [4, 5] [4, 5, 6] b1_told_row [some (dM (tabOf n M), .sh), some (dI w, .sh), some (.non, .full), some (.int (-1), .full), none, none, none, none] =
          some (.next [some (dM (tabOf n M), .sh), some (dI w, .sh), some (bestD (tld hh n).2, .full), some (.int (tld hh n).1, .full), none, none, none, none]) := by
        have L := forGo_all (js := [4, 5]) (ks := [4, 5, 6]) (g := b1_told_row) (fun (k : Nat) => [D.int (k : Int), dI ((List.range n).map (M k))]) (fun p => [some (dM (tabOf n M), .sh), some (dI w, .sh), some (bestD (tld hh p.length).2, .full), some (.int (tld hh p.length).1, .full), none, none, none, none]) (List.range n) fun p k q hq => by
          obtain ⟨rfl, hk⟩ := range_at hq
          have rs : smlR ((List.range n).map (M p.length)) := (tabOf_sml h.le h.pm).2 _ (by unfold tabOf; exact List.mem_map.mpr ⟨p.length, List.mem_range.mpr hk, rfl⟩)
          have ps := F_psum _ _ rs ws
          rw [dot_rangeL hl] at ps
          refine ⟨[some (dM (tabOf n M), .sh), some (dI w, .sh), some (bestD (tld hh (p ++ [p.length]).length).2, .full), some (.int (tld hh (p ++ [p.length]).length).1, .full), some (.int (p.length : Int), .full), some (dI ((List.range n).map (M p.length)), .sh), some (.int (hh p.length), .full), none], ?_, rfl⟩
          rw [List.length_append, List.length_singleton]
          show b1_told_row [some (dM (tabOf n M), .sh), some (dI w, .sh), some (bestD (tld hh p.length).2, .full), some (.int (tld hh p.length).1, .full), some (.int (p.length : Int), .full), some (dI ((List.range n).map (M p.length)), .sh), none, none] = _
          unfold b1_told_row
          refine seq_of (e := [some (dM (tabOf n M), .sh), some (dI w, .sh), some (bestD (tld hh p.length).2, .full), some (.int (tld hh p.length).1, .full), some (.int (p.length : Int), .full), some (dI ((List.range n).map (M p.length)), .sh), some (.int (hh p.length), .full), none]) (by
            rw [set_eq, xcall_eq]
            simp only [evA_cons, evA_nil, var_eq, List.getElem?_cons_zero, List.getElem?_cons_succ, ps]
            rfl) ?_
          have e2 : tld hh (p.length + 1) = if (tld hh p.length).1 < iabs (hh p.length) then (iabs (hh p.length), some (p.length, if 0 ≤ hh p.length then 1 else -1)) else tld hh p.length := rfl
          by_cases cc : (tld hh p.length).1 < iabs (hh p.length)
          · rw [ite_t (lv := .full) (by simp only [bin_eq, blt_eq, evA_cons, evA_nil, var_eq, List.getElem?_cons_zero, List.getElem?_cons_succ, absD_int, gtD_int]; exact congrArg (fun b => some (D.bl b, Lv.full)) (decide_eq_true cc))]
            rw [e2, if_pos cc]
            refine seq_of (e := [some (dM (tabOf n M), .sh), some (dI w, .sh), some (bestD (tld hh p.length).2, .full), some (.int (iabs (hh p.length)), .full), some (.int (p.length : Int), .full), some (dI ((List.range n).map (M p.length)), .sh), some (.int (hh p.length), .full), none]) (by simp [iabs]) ?_
            by_cases hs : 0 ≤ hh p.length <;> simp [hs, bestD]
          · rw [ite_f (lv := .full) (by simp only [bin_eq, blt_eq, evA_cons, evA_nil, var_eq, List.getElem?_cons_zero, List.getElem?_cons_succ, absD_int, gtD_int]; exact congrArg (fun b => some (D.bl b, Lv.full)) (decide_eq_false cc))]
            rw [e2, if_neg cc]
            rfl
        rw [List.length_range] at L
        rw [forL_eq, iEnum_of (ds := (List.range n).map fun k => dI ((List.range n).map (M k))) (by rw [← tabOf_D]; rfl), enum_range]
        exact L
      refine seq_of L ?_
      rfl
    · rw [if_neg fun q => ha q.2]
      refine run_exc (e := [some (dM (tabOf n M), .sh), some (dI w, .sh), none, none, none, none, none, none]) ?_
      unfold g_told_row
      rw [e0]
      refine seq_of (e := [some (dM (tabOf n M), .sh), some (dI w, .sh), none, none, none, none, none, none]) (by simp [mt]) ?_
      refine seq_of (e := [some (dM (tabOf n M), .sh), some (dI w, .sh), none, none, none, none, none, none]) (by simp [mn]) ?_
      refine seq_exc ?_
      rw [ite_t (lv := .full) (by simp only [not_eq, blt_eq, evA_cons, evA_nil, c, allD_bls, all_map_id, ha]; rfl)]
      rfl
  · rw [if_neg hl] at mn
    rw [if_neg fun q => hl q.1]
    refine run_exc (e := [some (dM (tabOf n M), .sh), some (dI w, .sh), none, none, none, none, none, none]) ?_
    unfold g_told_row
    rw [e0]
    refine seq_of (e := [some (dM (tabOf n M), .sh), some (dI w, .sh), none, none, none, none, none, none]) (by simp [mt]) ?_
    exact seq_exc (by simp [mn])
/-- a row, as it is or turned, with some places turned: the sums with all rows -/
theorem spoilt_sum {n : Nat} {M : Mx} (h : Had n M) {a : Nat} (ha : a < n) (t : Int) (fl : Nat → Bool) (k : Nat) (hk : k < n) :
    (isum n fun i => M k i * (t * M a i * (if fl i = true then -1 else 1))) = t * ((if k = a then (n : Int) else 0) - 2 * isum n fun i => if fl i = true then M k i * M a i else 0) := by
  have e : (if k = a then (n : Int) else 0) = isum n fun i => M k i * M a i := by
    by_cases e : k = a
    · subst e
      rw [if_pos rfl, isum_congr (g := fun _ => 1) fun i hi => (h.pm k i hk hi).sq, isum_const]; omega
    · rw [if_neg e, h.ro k a hk ha e]
  rw [e, show (isum n fun i => M k i * M a i) - 2 * (isum n fun i => if fl i = true then M k i * M a i else 0) = isum n fun i => M k i * M a i + (-2) * (if fl i = true then M k i * M a i else 0) by
    rw [isum_add, isum_mul]; omega, ← isum_mul]
  refine isum_congr fun i hi => ?_
  by_cases c : fl i = true
  · rw [if_pos c, if_pos c]; grind
  · rw [if_neg c, if_neg c]; grind
theorem fl_bound {n : Nat} {M : Mx} (h : Had n M) {a k : Nat} (ha : a < n) (hk : k < n) (fl : Nat → Bool) : -(cnt n fl : Int) ≤ (isum n fun i => if fl i = true then M k i * M a i else 0) ∧ (isum n fun i => if fl i = true then M k i * M a i else 0) ≤ cnt n fl := by
  rw [cnt_isum, ← isum_neg]
  constructor
  · refine isum_le fun i hi => ?_
    have := one1P_abs ((h.pm k i hk hi).mul (h.pm a i ha hi))
    by_cases c : fl i = true
    · rw [if_pos c, if_pos c]; omega
    · rw [if_neg c, if_neg c]; omega
  · refine isum_le fun i hi => ?_
    have := one1P_abs ((h.pm k i hk hi).mul (h.pm a i ha hi))
    by_cases c : fl i = true
    · rw [if_pos c, if_pos c]; omega
    · rw [if_neg c, if_neg c]; omega
/-- fewer than a quarter of its places turned: the row is told -/
theorem told_back {n : Nat} {M : Mx} (h : Had n M) {a : Nat} (ha : a < n) {t : Int} (ht : one1P t) (fl : Nat → Bool) (hf : 4 * cnt n fl < n) (g : Nat → Int) (hg : ∀ k, k < n → g k = isum n fun i => M k i * (t * M a i * (if fl i = true then -1 else 1))) :
    (tld g n).2 = some (a, t) := by
  obtain ⟨k, hk, e, h1, h2⟩ := tld_spec g n h.pos
  have ga := hg a ha
  have gk := hg k hk
  rw [spoilt_sum h ha t fl a ha, if_pos rfl] at ga
  rw [spoilt_sum h ha t fl k hk] at gk
  have ba := fl_bound h ha ha fl
  have bk := fl_bound h ha hk fl
  have ea : k = a := by
    by_cases q : k = a
    · exact q
    · rw [if_neg q] at gk
      have := h1 a ha
      rcases ht with rfl | rfl <;> (unfold iabs at this; split at this <;> split at this <;> omega)
  subst ea
  rw [e]
  congr 2
  rcases ht with rfl | rfl
  · rw [if_pos (by omega)]
  · rw [if_neg (by omega)]
theorem eqO_tup (xs ys : List D) : eqO (.tup xs) (.tup ys) = if okd (.tup xs) = true ∧ okd (.tup ys) = true then some (eqB (.tup xs) (.tup ys)) else none := rfl
theorem eqB_pair (a b c d : Int) : eqB (.tup [.int a, .int b]) (.tup [.int c, .int d]) = decide (a = c ∧ b = d) := by
  unfold eqB
  simp only [toPy, toPyA, PyData.eqv, PyData.eqvAll]
  by_cases h : a = c <;> by_cases h2 : b = d <;> simp [h, h2]
theorem eqD_pair (a b c d : Int) : eqD (.tup [.int a, .int b]) (.tup [.int c, .int d]) = some (.bl (decide (a = c ∧ b = d)), .full) := by
  refine eqD_of ?_
  rw [eqO_tup, if_pos ⟨rfl, rfl⟩, eqB_pair]
theorem neD_pair (a b c d : Int) : neD (.tup [.int a, .int b]) (.tup [.int c, .int d]) = some (.bl (!decide (a = c ∧ b = d)), .full) := by
  refine neD_of ?_
  rw [eqO_tup, if_pos ⟨rfl, rfl⟩, eqB_pair]
theorem shuffled_tab {n : Nat} (h : n ∈ sizes8) (ns : List Int) (at_ : Nat) : ∃ M, F__law_plain_table [.int (n : Int)] = some (.ok (dM (plainT n)) (plainLv n)) ∧ F__law_shuffled [.scr ns, .int (at_ : Int), dM (plainT n)] = some (.ok (dM (tabOf n M)) .full) ∧ Had n M := by
  obtain ⟨hsq, hlen, _⟩ := plain_sq n h
  obtain ⟨⟨_, h24⟩, hrow⟩ := isSq_iff.mp hsq
  obtain ⟨R, e, hR⟩ := plain_had h
  obtain ⟨M, e2, hM⟩ := shuf_had ns at_ n R hR
  refine ⟨M, V_plain h, ?_, hM⟩
  rw [V_shuffled ns at_ (plainT n) (plainT n).length rfl (by omega) hrow, e, e2]
end PM

set_option Elab.async false
set_option linter.all false
set_option maxRecDepth 100000
set_option maxHeartbeats 4000000
/-! The mathematics, part n: equality with itself; products. -/
namespace PM
open PySem hiding Env
open PL
mutual
theorem eqv_self : ∀ d : D, PyData.eqv (toPy d) (toPy d) = true
  | .non => by simp [toPy, PyData.eqv]
  | .bl b => by simp [toPy, PyData.eqv]
  | .int i => by simp [toPy, PyData.eqv]
  | .str s => by simp [toPy, PyData.eqv]
  | .lst xs => by
    unfold toPy PyData.eqv
    exact eqvA_self xs
  | .tup xs => by
    unfold toPy PyData.eqv
    exact eqvA_self xs
  | .scr _ => by simp [toPy, PyData.eqv]
  | .ex _ _ => by simp [toPy, PyData.eqv]
theorem eqvA_self : ∀ ds : List D, PyData.eqvAll (toPyA ds) (toPyA ds) = true
  | [] => by simp [toPyA, PyData.eqvAll]
  | d :: ds => by
    have h1 := eqv_self d
    have h2 := eqvA_self ds
    unfold toPyA
    simp [PyData.eqvAll, h1, h2]
end
theorem eqO_lst (xs ys : List D) : eqO (.lst xs) (.lst ys) = if okd (.lst xs) = true ∧ okd (.lst ys) = true then some (eqB (.lst xs) (.lst ys)) else none := rfl
theorem eqL_self {xs : List D} (h : okd (.lst xs) = true) : eqD (.lst xs) (.lst xs) = some (.bl true, .full) := by
  refine eqD_of ?_
  rw [eqO_lst, if_pos ⟨h, h⟩]
  exact congrArg some (eqv_self _)
theorem neL_self {xs : List D} (h : okd (.lst xs) = true) : neD (.lst xs) (.lst xs) = some (.bl false, .full) := by
  have e : eqO (.lst xs) (.lst xs) = some true := by
    rw [eqO_lst, if_pos ⟨h, h⟩]
    exact congrArg some (eqv_self _)
  exact neD_of e
theorem okd_two (a b : List (List Int)) : okd (.lst [dM a, dM b]) = true := by
  have h1 := okd_rows a
  have h2 := okd_rows b
  have n1 : noScr (dM a) = true := (Bool.and_eq_true_iff.mp h1).1
  have n2 : noScr (dM b) = true := (Bool.and_eq_true_iff.mp h2).1
  have d1 := dep_rows a
  have d2 := dep_rows b
  have e1 : dep (dM a) = depA (a.map dI) + 1 := by unfold dep; rfl
  have e2 : dep (dM b) = depA (b.map dI) + 1 := by unfold dep; rfl
  have e3 : dep (.lst [dM a, dM b]) = max (dep (dM a)) (max (dep (dM b)) 0) + 1 := by
    rw [dep, depA, depA, depA]
  have e4 : noScr (.lst [dM a, dM b]) = true := by
    rw [noScr, noScrA, noScrA, noScrA, n1, n2]; rfl
  unfold okd
  rw [e4, Bool.true_and]
  exact decide_eq_true (by omega)
/-! products -/
def rowP (left right : List Int) : List Int := left.flatMap fun x => right.map fun y => x * y
def prodR (one other : List (List Int)) : List (List Int) := one.flatMap fun left => other.map fun right => rowP left right
def kron (m : Nat) (M N : Mx) : Mx := fun i j => M (i / m) (j / m) * N (i % m) (j % m)
theorem range_mul (m : Nat) : ∀ n, List.range (n * m) = (List.range n).flatMap fun k => (List.range m).map fun l => k * m + l
  | 0 => by rw [Nat.zero_mul]; rfl
  | n + 1 => by
    rw [Nat.add_mul, Nat.one_mul, List.range_add, range_mul m n, List.range_succ, List.flatMap_append]
    simp
theorem isum_mul2 (m : Nat) (f : Nat → Int) : ∀ n, isum (n * m) f = isum n fun k => isum m fun l => f (k * m + l)
  | 0 => by rw [Nat.zero_mul]; rfl
  | n + 1 => by
    rw [isum_succ, ← isum_mul2 m f n]
    unfold isum
    rw [Nat.add_mul, Nat.one_mul, List.range_add, List.map_append, List.sum_append, List.map_map]
    rfl
theorem kron_at {m : Nat} {M N : Mx} {k l a b : Nat} (hl : l < m) (hb : b < m) : kron m M N (k * m + l) (a * m + b) = M k a * N l b := by
  unfold kron
  have e1 : (k * m + l) / m = k := by rw [Nat.add_comm, Nat.add_mul_div_right _ _ (by omega), Nat.div_eq_of_lt hl, Nat.zero_add]
  have e2 : (a * m + b) / m = a := by rw [Nat.add_comm, Nat.add_mul_div_right _ _ (by omega), Nat.div_eq_of_lt hb, Nat.zero_add]
  have e3 : (k * m + l) % m = l := by rw [Nat.add_comm, Nat.add_mul_mod_self_right, Nat.mod_eq_of_lt hl]
  have e4 : (a * m + b) % m = b := by rw [Nat.add_comm, Nat.add_mul_mod_self_right, Nat.mod_eq_of_lt hb]
  rw [e1, e2, e3, e4]
theorem rowP_range {n m : Nat} (f g : Nat → Int) : rowP ((List.range n).map f) ((List.range m).map g) = (List.range (n * m)).map fun j => f (j / m) * g (j % m) := by
  unfold rowP
  rw [range_mul, List.map_flatMap, List.flatMap_map]
  congr 1
  funext k
  rw [List.map_map, List.map_map]
  refine List.map_congr_left fun l hl => ?_
  have hl := List.mem_range.mp hl
  show f k * g l = f ((k * m + l) / m) * g ((k * m + l) % m)
  rw [Nat.add_comm, Nat.add_mul_div_right _ _ (by omega), Nat.div_eq_of_lt hl, Nat.zero_add, Nat.add_mul_mod_self_right, Nat.mod_eq_of_lt hl]
theorem prodR_tab {n m : Nat} (M N : Mx) : prodR (tabOf n M) (tabOf m N) = tabOf (n * m) (kron m M N) := by
  unfold prodR tabOf
  rw [range_mul (m := m) n, List.map_flatMap, List.flatMap_map]
  congr 1
  funext k
  rw [List.map_map, List.map_map]
  refine List.map_congr_left fun l hl => ?_
  have hl := List.mem_range.mp hl
  show rowP ((List.range n).map (M k)) ((List.range m).map (N l)) = _
  rw [rowP_range, ← range_mul]
  refine List.map_congr_left fun j hj => ?_
  show _ = kron m M N (k * m + l) j
  unfold kron
  rw [show (k * m + l) / m = k by rw [Nat.add_comm, Nat.add_mul_div_right _ _ (by omega), Nat.div_eq_of_lt hl, Nat.zero_add], show (k * m + l) % m = l by rw [Nat.add_comm, Nat.add_mul_mod_self_right, Nat.mod_eq_of_lt hl]]
theorem split_mul {n m i : Nat} (hm : 0 < m) (hi : i < n * m) : ∃ k l, k < n ∧ l < m ∧ i = k * m + l :=
  ⟨i / m, i % m, (Nat.div_lt_iff_lt_mul hm).mpr hi, Nat.mod_lt _ hm, by rw [Nat.mul_comm]; exact (Nat.div_add_mod i m).symm⟩
theorem kron_had {n m : Nat} {M N : Mx} (hM : Had n M) (hN : Had m N) (h : n * m ≤ 24) : Had (n * m) (kron m M N) := by
  have hm := hN.pos
  have hn := hM.pos
  refine ⟨Nat.mul_pos hn hm, h, fun i j hi hj => ?_, fun i j hi hj hne => ?_, fun i j hi hj hne => ?_⟩
  · obtain ⟨k, l, hk, hl, rfl⟩ := split_mul hm hi
    obtain ⟨a, b, ha, hb, rfl⟩ := split_mul hm hj
    rw [kron_at hl hb]
    exact (hM.pm k a hk ha).mul (hN.pm l b hl hb)
  · obtain ⟨k, l, hk, hl, rfl⟩ := split_mul hm hi
    obtain ⟨k', l', hk', hl', rfl⟩ := split_mul hm hj
    rw [isum_mul2, isum_congr (g := fun a => (M k a * M k' a) * isum m fun b => N l b * N l' b) fun a ha => ?_, isum_mulr]
    · by_cases e : k = k'
      · subst e
        rw [hN.ro l l' hl hl' (fun e2 => hne (by rw [e2])), Int.mul_zero]
      · rw [hM.ro k k' hk hk' e, Int.zero_mul]
    · rw [← isum_mul]
      exact isum_congr fun b hb => by
        rw [kron_at hl hb, kron_at hl' hb]; grind
  · obtain ⟨k, l, hk, hl, rfl⟩ := split_mul hm hi
    obtain ⟨k', l', hk', hl', rfl⟩ := split_mul hm hj
    rw [isum_mul2, isum_congr (g := fun a => (M a k * M a k') * isum m fun b => N b l * N b l') fun a ha => ?_, isum_mulr]
    · by_cases e : k = k'
      · subst e
        rw [hN.co l l' hl hl' (fun e2 => hne (by rw [e2])), Int.mul_zero]
      · rw [hM.co k k' hk hk' e, Int.zero_mul]
    · rw [← isum_mul]
      exact isum_congr fun b hb => by
        rw [kron_at hb hl, kron_at hb hl']; grind
theorem rowP_snoc (p : List Int) (x : Int) (r : List Int) : rowP (p ++ [x]) r = rowP p r ++ r.map fun y => x * y := by
  unfold rowP
  rw [List.flatMap_append]
  simp
theorem prodR_snoc (p : List (List Int)) (x : List Int) (r : List (List Int)) : prodR (p ++ [x]) r = prodR p r ++ r.map fun y => rowP x y := by
  unfold prodR
  rw [List.flatMap_append]
  simp
theorem rowP_len (p r : List Int) : (rowP p r).length = p.length * r.length := by
  induction p with
  | nil => simp [rowP]
  | cons x p ih =>
    unfold rowP at ih ⊢
    rw [List.flatMap_cons, List.length_append, ih, List.length_map, List.length_cons, Nat.add_mul, Nat.one_mul]; omega
theorem prodR_len (p r : List (List Int)) : (prodR p r).length = p.length * r.length := by
  induction p with
  | nil => simp [prodR]
  | cons x p ih =>
    unfold prodR at ih ⊢
    rw [List.flatMap_cons, List.length_append, ih, List.length_map, List.length_cons, Nat.add_mul, Nat.one_mul]; omega
/-- small tables: at most 24 rows, ones -/
def Ones (rows : List (List Int)) : Prop := rows.length ≤ 24 ∧ ∀ r ∈ rows, r.length ≤ 24 ∧ ∀ x ∈ r, one1P x
theorem ones_tab {n : Nat} {M : Mx} (hn : n ≤ 24) (h : pm1 n M) : Ones (tabOf n M) := by
  refine ⟨by rw [tabOf_len]; exact hn, fun r hr => ?_⟩
  unfold tabOf at hr
  obtain ⟨k, hk, rfl⟩ := List.mem_map.mp hr
  refine ⟨by rw [List.length_map, List.length_range]; exact hn, fun x hx => ?_⟩
  obtain ⟨j, hj, rfl⟩ := List.mem_map.mp hx
  exact h k j (List.mem_range.mp hk) (List.mem_range.mp hj)
theorem V_prodby (one other : List (List Int)) (h1 : Ones one) (h2 : Ones other) : F_product_by [dM one, dM other] = some (.ok (dM (prodR one other)) .full) := by
  refine run_ret ?_
  unfold g_product_by
  have e0 : env0 8 [dM one, dM other] = [some (dM one, .sh), some (dM other, .sh), none, none, none, none, none, none] := rfl
  rw [e0]
  refine seq_of (e := [some (dM one, .sh), some (dM other, .sh), some (.lst [], .full), none, none, none, none, none]) (by simp) ?_
  let E1 : List (List Int) → Env := fun p => [some (dM one, .sh), some (dM other, .sh), some (dM (prodR p other), .full), none, none, none, none, none]
  have L1 : S.forL (E.iList (E.var 0)) [3] [3, 4, 5, 6] b1_product_by (E1 []) = some (.next (E1 one)) := by
    rw [forL_eq, show E.iList (E.var 0) (shOnly (E1 [])) = some (one.map fun r => [dI r]) by simp [E1, prodR]]
    refine forGo_all (fun r => [dI r]) E1 one fun p left q hp => ?_
    have hleft := h1.2 left (by rw [hp]; simp)
    have hpl : p.length < one.length := by rw [hp]; simp
    let E2 : List (List Int) → Env := fun p2 => [some (dM one, .sh), some (dM other, .sh), some (dM (prodR p other ++ p2.map fun y => rowP left y), .full), some (dI left, .sh), none, none, none, none]
    have L2 : S.forL (E.iList (E.var 1)) [4] [4, 5, 6] b2_product_by (E2 []) = some (.next (E2 other)) := by
      rw [forL_eq, show E.iList (E.var 1) (shOnly (E2 [])) = some (other.map fun r => [dI r]) by simp [E2]]
      refine forGo_all (fun r => [dI r]) E2 other fun p2 right q2 hp2 => ?_
      have hright := h2.2 right (by rw [hp2]; simp)
      have hpl2 : p2.length < other.length := by rw [hp2]; simp
      let E3 : List Int → Env := fun p3 => [some (dM one, .sh), some (dM other, .sh), some (dM (prodR p other ++ p2.map fun y => rowP left y), .full), some (dI left, .sh), some (dI right, .sh), some (dI (rowP p3 right), .full), none, none]
      have L3 : S.forL (E.iList (E.var 3)) [6] [6] b3_product_by (E3 []) = some (.next (E3 left)) := by
        rw [forL_eq, show E.iList (E.var 3) (shOnly (E3 [])) = some (left.map fun x => [D.int x]) by simp [E3]]
        refine forGo_all (fun x => [D.int x]) E3 left fun p3 x q3 hp3 => ?_
        have hx := hleft.2 x (by rw [hp3]; simp)
        have hpl3 : p3.length < left.length := by rw [hp3]; simp
        refine ⟨(E3 (p3 ++ [x])).set 6 (some (.int x, .full)), ?_, rfl⟩
        show b3_product_by ((E3 p3).set 6 (some (.int x, .full))) = _
        unfold b3_product_by
        have c : E.comp (E.iList (E.var 4)) [7] [7] (E.c (.bl true)) (E.bin mulD (E.var 6) (E.var 7)) ((E3 p3).set 6 (some (.int x, .full))) = some (dI (right.map fun y => x * y), .full) := by
          refine comp_lI (lv := .sh) (fun y => x * y) rfl (by have := hright.1; omega) fun y hy => ?_
          have m := mul_ok (one1P_sml hx) (one1P_sml (hright.2 y hy))
          simp [E3, m]
        unfold S.ext
        rw [c]
        have hg : ((E3 p3).set 6 (some (.int x, .full)))[5]? = some (some (dI (rowP p3 right), .full)) := rfl
        rw [hg]
        show (if ((rowP p3 right).map D.int).length + ((right.map fun y => x * y).map D.int).length < 1000000 then _ else none) = _
        have h24 : p3.length * right.length ≤ 24 * 24 := Nat.mul_le_mul (by omega) (by omega)
        rw [if_pos (by rw [List.length_map, rowP_len, List.length_map, List.length_map]; omega), ← List.map_append, ← rowP_snoc]
        rfl
      refine ⟨(E2 (p2 ++ [right])).set 4 (some (dI right, .sh)), ?_, rfl⟩
      show b2_product_by ((E2 p2).set 4 (some (dI right, .sh))) = _
      unfold b2_product_by
      refine seq_of (e := E3 []) (by simp [E2, E3, rowP]) ?_
      refine seq_of L3 ?_
      rw [appN_eq]
      have h24 : p.length * other.length ≤ 24 * 24 := Nat.mul_le_mul (by have := h1.1; omega) h2.1
      show (if ((prodR p other ++ p2.map fun y => rowP left y).map dI).length < 1000000 ∧ (2 : Nat) ≠ 5 then _ else none) = _
      rw [if_pos ⟨by rw [List.length_map, List.length_append, prodR_len, List.length_map]; have := h2.1; omega, by decide⟩, dM_snoc, List.append_assoc, show (p2.map fun y => rowP left y) ++ [rowP left right] = (p2 ++ [right]).map fun y => rowP left y by rw [List.map_append]; rfl]
      rfl
    refine ⟨(E1 (p ++ [left])).set 3 (some (dI left, .sh)), ?_, rfl⟩
    show b1_product_by ((E1 p).set 3 (some (dI left, .sh))) = _
    unfold b1_product_by
    have e1 : (E1 p).set 3 (some (dI left, .sh)) = E2 [] := by simp [E1, E2]
    rw [e1, L2]
    show some (Res.next (E2 other)) = some (.next ((E1 (p ++ [left])).set 3 (some (dI left, .sh))))
    simp only [E1, E2, prodR_snoc]
    rfl
  have e1 : ([some (dM one, .sh), some (dM other, .sh), some (.lst [], .full), none, none, none, none, none] : Env) = E1 [] := rfl
  rw [e1]
  exact seq_of L1 rfl
theorem V_product {n m : Nat} {M N : Mx} (hM : Had n M) (hN : Had m N) : F_product [dM (tabOf n M), dM (tabOf m N)] = some (if n * m ≤ 24 then .ok (dM (tabOf (n * m) (kron m M N))) .full else .exc "TooGreat") := by
  have e0 : env0 2 [dM (tabOf n M), dM (tabOf m N)] = [some (dM (tabOf n M), .sh), some (dM (tabOf m N), .sh)] := rfl
  have h1 := hM.le
  have h2 := hN.le
  have mu := mul_ok (i := (n : Int)) (j := (m : Int)) (by omega) (by omega)
  have pb := V_prodby (tabOf n M) (tabOf m N) (ones_tab h1 hM.pm) (ones_tab h2 hN.pm)
  rw [prodR_tab] at pb
  unfold F_product runB g_product
  rw [e0]
  have ec : (n : Int) * (m : Int) = ((n * m : Nat) : Int) := by simp
  by_cases h : n * m ≤ 24
  · have h3 : ¬ (24 < ((n * m : Nat) : Int)) := by omega
    simp only [seq_eq, drop_eq, xcall_eq, evA_cons, evA_nil, var_eq, List.getElem?_cons_zero, List.getElem?_cons_succ, mustTab_ok hM, mustTab_ok hN, site_eq, bin_eq, blt_eq, c_eq, lenD_lst, List.length_map, tabOf_len, mu, gtD_int, ec, decide_eq_false h3, nxt_eq, ret_eq, pb, if_pos h]
  · have h3 : 24 < ((n * m : Nat) : Int) := by omega
    simp only [seq_eq, drop_eq, xcall_eq, evA_cons, evA_nil, var_eq, List.getElem?_cons_zero, List.getElem?_cons_succ, mustTab_ok hM, mustTab_ok hN, site_eq, bin_eq, blt_eq, c_eq, lenD_lst, List.length_map, tabOf_len, mu, gtD_int, ec, decide_eq_true h3, raise_eq, if_neg h]
/-! try -/
theorem tryW_ok {L : List Str} {i j : Nat} {gb : SS} {env e : Env} (h : gb env = some (.next e)) : S.tryW L i j gb env = some (.next e) := by
  unfold S.tryW
  rw [h]
theorem tryW_exc {L : List Str} {i j : Nat} {gb : SS} {env e : Env} {c : Str} (h : gb env = some (.exc c e)) (hc : c ∈ L) (hi : i < e.length) (hij : i ≠ j) : S.tryW L i j gb env = some (.next ((e.set j (some (.str (whichS c), .full))).set i none)) := by
  unfold S.tryW
  rw [h]
  show (if _ then _ else none) = _
  rw [if_pos ⟨hc, hi, hij⟩]
end PM

set_option Elab.async false
set_option linter.all false
set_option maxRecDepth 100000
set_option maxHeartbeats 4000000
/-! The mathematics, part r: a place that moves through the script; numbers drawn from it; weighed and back. -/
namespace PM
open PySem hiding Env
open PL

theorem F_cellZ (ns : List Int) (k : Int) (h0 : 0 ≤ k) (h1 : k ≤ 1000) : F__law_cell_at [.scr ns, .int k] = some (.ok (.int (cellZ ns k)) .full) := by
  have e : k = ((k.toNat : Nat) : Int) := by omega
  rw [e, F_cell]
  rfl
def numE (c : Int) : Int := [c % 19 - 9, 0, c / 4 % 10 ^ 20 - 10 ^ 19, c / 4 % 2001 - 1000].getD (c / 1024 % 4).toNat 0
theorem numE_bd (c : Int) : -(10 ^ 20) ≤ numE c ∧ numE c ≤ 10 ^ 20 := by
  unfold numE
  obtain ⟨q, hq, hq4⟩ : ∃ q : Nat, c / 1024 % 4 = (q : Int) ∧ q < 4 := ⟨(c / 1024 % 4).toNat, by omega, by omega⟩
  rw [hq]
  show -(10 ^ 20) ≤ [c % 19 - 9, 0, c / 4 % 10 ^ 20 - 10 ^ 19, c / 4 % 2001 - 1000].getD q 0 ∧ [c % 19 - 9, 0, c / 4 % 10 ^ 20 - 10 ^ 19, c / 4 % 2001 - 1000].getD q 0 ≤ 10 ^ 20
  match q, hq4 with
  | 0, _ => exact ⟨by show _ ≤ c % 19 - 9; omega, by show c % 19 - 9 ≤ _; omega⟩
  | 1, _ => exact ⟨by show _ ≤ (0 : Int); decide, by show (0 : Int) ≤ _; decide⟩
  | 2, _ => exact ⟨by show _ ≤ c / 4 % 10 ^ 20 - 10 ^ 19; omega, by show c / 4 % 10 ^ 20 - 10 ^ 19 ≤ _; omega⟩
  | 3, _ => exact ⟨by show _ ≤ c / 4 % 2001 - 1000; omega, by show c / 4 % 2001 - 1000 ≤ _; omega⟩
def numF (ns : List Int) (s : Nat) (k : Nat) : Int := numE (cellZ ns ((s + k : Nat) : Int))
def numL (ns : List Int) (s n : Nat) : List Int := (List.range n).map (numF ns s)
theorem nextC_of {i j m : Nat} {env : Env} {ns : List Int} {lv : Lv} {k : Int} (hi : env[i]? = some (some (.scr ns, lv))) (hj : env[j]? = some (some (.lst [.int k], .full))) (h0 : 0 ≤ k) (h1 : k ≤ 1000) (hij : i ≠ j) :
    S.nextC i j m env = some (.next ((env.set j (some (.lst [.int (k + 1)], .full))).set m (some (.int (cellZ ns k), .full)))) := by
  unfold S.nextC
  rw [hi, hj]
  exact if_pos ⟨h0, h1, hij⟩
theorem pow20 : E.bin powD (E.c (.int 10)) (E.c (.int 20)) = fun _ => some (.int (10 ^ 20), .full) := by
  funext env
  rfl
theorem pow19 : E.bin powD (E.c (.int 10)) (E.c (.int 19)) = fun _ => some (.int (10 ^ 19), .full) := by
  funext env
  rfl
theorem V_numbers (ns : List Int) (s n : Nat) (hs : s + n ≤ 1000) : F__law_numbers [.scr ns, .lst [.int (s : Int)], .int (n : Int)] = some (.ok (dI (numL ns s n)) .full) := by
  have e0 : envM 7 [.scr ns, .lst [.int (s : Int)], .int (n : Int)] = [some (.scr ns, .sh), some (.lst [.int (s : Int)], .full), some (.int (n : Int), .full), none, none, none, none] := rfl
  have fin : g__law_numbers (envM 7 [.scr ns, .lst [.int (s : Int)], .int (n : Int)]) = some (.ret (dI (numL ns s n)) .full) := by
    rw [e0]
    unfold g__law_numbers
    let E1 : List Nat → Env := fun p => [some (.scr ns, .sh), some (.lst [.int ((s + p.length : Nat) : Int)], .full), some (.int (n : Int), .full), some (dI (p.map (numF ns s)), .full), none, none, none]
    refine seq_of (e := E1 []) (by simp [E1]) ?_
    have L1 : S.forR (E.iRng1 [(E.var 2)]) [4] [4, 5, 6] b1__law_numbers (E1 []) = some (.next (E1 (List.range n))) := by
      rw [forR_eq, rng1_eq (n := n) rfl (by omega)]
      refine forGo_all (fun (k : Nat) => [D.int (k : Int)]) E1 _ fun p k q hp => ?_
      obtain ⟨rfl, hk⟩ := range_at hp
      obtain ⟨c, hc⟩ : ∃ c, c = cellZ ns ((s + p.length : Nat) : Int) := ⟨_, rfl⟩
      let xs : List Int := [c % 19 - 9, 0, c / 4 % 10 ^ 20 - 10 ^ 19, c / 4 % 2001 - 1000]
      have ev : numF ns s p.length = xs.getD (c / 1024 % 4).toNat 0 := by unfold numF numE; rw [← hc]
      refine ⟨[some (.scr ns, .sh), some (.lst [.int ((s + p.length + 1 : Nat) : Int)], .full), some (.int (n : Int), .full), some (dI ((p ++ [p.length]).map (numF ns s)), .full), some (.int (p.length : Int), .full), some (.int c, .full), some (dI xs, .full)], ?_, ?_⟩
      · show b1__law_numbers [some (.scr ns, .sh), some (.lst [.int ((s + p.length : Nat) : Int)], .full), some (.int (n : Int), .full), some (dI (p.map (numF ns s)), .full), some (.int (p.length : Int), .full), none, none] = _
        unfold b1__law_numbers
        refine seq_of (nextC_of (i := 0) (j := 1) (m := 5) rfl rfl (by omega) (by omega) (by decide)) ?_
        rw [← hc]
        have m1 := modD_int (i := c) (j := 19) (by decide)
        have d4 := fdivD_int (i := c) (j := 4) (by decide)
        have m2 := modD_int (i := c / 4) (j := 10 ^ 20) (by decide)
        have m3 := modD_int (i := c / 4) (j := 2001) (by decide)
        have d5 := fdivD_int (i := c) (j := 1024) (by decide)
        have m4 := modD_int (i := c / 1024) (j := 4) (by decide)
        refine seq_of (e := [some (.scr ns, .sh), some (.lst [.int ((s + p.length + 1 : Nat) : Int)], .full), some (.int (n : Int), .full), some (dI (p.map (numF ns s)), .full), some (.int (p.length : Int), .full), some (.int c, .full), some (dI xs, .full)]) ?_ ?_
        · rw [set_eq, xof_eq, pow20, pow19]
          simp only [list_eq, evF_cons, evF_nil, bin_eq, c_eq, var_eq, List.set_cons_succ, List.set_cons_zero, List.getElem?_cons_zero, List.getElem?_cons_succ, lvS_int, m1, d4, m2, m3, subD_int]
          rfl
        · obtain ⟨q, hq, hq4⟩ : ∃ q : Nat, c / 1024 % 4 = (q : Int) ∧ q < 4 := ⟨(c / 1024 % 4).toNat, by omega, by omega⟩
          have hx : q < xs.length := hq4
          have ix := ix_ints (xs := xs) hx
          have ev2 : numF ns s p.length = xs[q] := by
            rw [ev, hq]
            exact getD_at hx
          rw [app_eq]
          simp only [bin_eq, c_eq, var_eq, List.getElem?_cons_zero, List.getElem?_cons_succ, lvS_int, lvS_lst, d5, m4, hq, ix]
          rw [if_pos (by simp; omega), dI_snoc, ← ev2, List.map_append]
          rfl
      · show [some (.scr ns, .sh), some (.lst [.int ((s + p.length + 1 : Nat) : Int)], .full), some (.int (n : Int), .full), some (dI ((p ++ [p.length]).map (numF ns s)), .full), none, none, none] = E1 (p ++ [p.length])
        simp only [E1, List.length_append, List.length_singleton]
        rfl
    refine seq_of L1 ?_
    rfl
  unfold F__law_numbers runM
  rw [fin]
theorem numL_len (ns : List Int) (s n : Nat) : (numL ns s n).length = n := by unfold numL; simp
theorem numL_bd (ns : List Int) (s n : Nat) : ∀ x ∈ numL ns s n, -(10 ^ 20) ≤ x ∧ x ≤ 10 ^ 20 := fun x hx => by
  unfold numL at hx
  obtain ⟨k, _, rfl⟩ := List.mem_map.mp hx
  exact numE_bd _
/-! weighed -/
def wsum (n : Nat) (M : Mx) (w : List Int) (k : Nat) : Int := isum n fun i => M k i * w.getD i 0
def csum (n : Nat) (M : Mx) (w : List Int) (j : Nat) : Int := isum n fun k => M k j * w.getD k 0
theorem row_sml {n : Nat} {M : Mx} (h : Had n M) {k : Nat} (hk : k < n) : smlR ((List.range n).map (M k)) := (tabOf_sml h.le h.pm).2 _ (by unfold tabOf; exact List.mem_map.mpr ⟨k, List.mem_range.mpr hk, rfl⟩)
theorem tabOf_mapI {α : Type} {n : Nat} {M : Mx} (f : List Int → α) : (tabOf n M).map f = (List.range n).map fun k => f ((List.range n).map (M k)) := by
  unfold tabOf
  rw [List.map_map]
  rfl
theorem V_weighed {n : Nat} {M : Mx} (h : Had n M) (w : List Int) (hw : smlR w) : F_weighed [dM (tabOf n M), dI w] =
    some (if w.length = n then .ok (dI ((List.range n).map (wsum n M w))) .full else .exc "NoNumbers") := by
  have e0 : env0 3 [dM (tabOf n M), dI w] = [some (dM (tabOf n M), .sh), some (dI w, .sh), none] := rfl
  have mt := mustTab_ok h
  have mn := F_mustNum n M w
  have hl := h.le
  by_cases hc : w.length = n
  · rw [if_pos hc] at mn ⊢
    refine run_ret ?_
    unfold g_weighed
    rw [e0]
    refine seq_of (e := [some (dM (tabOf n M), .sh), some (dI w, .sh), none]) (by simp [mt]) ?_
    refine seq_of (e := [some (dM (tabOf n M), .sh), some (dI w, .sh), none]) (by simp [mn]) ?_
    have cm : E.comp (E.iList (E.var 0)) [2] [2] (E.c (.bl true)) (E.call F_product_sum [(E.var 2), (E.var 1)]) [some (dM (tabOf n M), .sh), some (dI w, .sh), none] = some (dI ((List.range n).map (wsum n M w)), .full) := by
      rw [comp_lMI (xs := tabOf n M) (lv := .sh) (fun r => dot r w) rfl (by rw [tabOf_len]; omega) fun r hr => by
        have rs := (tabOf_sml h.le h.pm).2 r hr
        have ps := F_psum r w rs hw
        simp [ps], tabOf_mapI]
      exact congrArg (fun l => some (dI l, Lv.full)) (List.map_congr_left fun k _ => dot_rangeL hc)
    rw [ret_eq, xof_eq, cm]
  · rw [if_neg hc] at mn ⊢
    refine run_exc (e := [some (dM (tabOf n M), .sh), some (dI w, .sh), none]) ?_
    unfold g_weighed
    rw [e0]
    refine seq_of (e := [some (dM (tabOf n M), .sh), some (dI w, .sh), none]) (by simp [mt]) ?_
    exact seq_exc (by simp [mn])
theorem csum_bd {n : Nat} {M : Mx} (h : Had n M) {w : List Int} {b : Int} (hw : ∀ x ∈ w, -b ≤ x ∧ x ≤ b) (hl : w.length = n) (j : Nat) (hj : j < n) : -(n * b) ≤ csum n M w j ∧ csum n M w j ≤ n * b := by
  refine isum_abs fun k hk => ?_
  have hx := hw (w.getD k 0) (by rw [getD_at (by omega)]; exact List.getElem_mem _)
  rcases h.pm k j hk hj with e | e <;> rw [e] <;> omega
theorem wsum_bd {n : Nat} {M : Mx} (h : Had n M) {w : List Int} {b : Int} (hw : ∀ x ∈ w, -b ≤ x ∧ x ≤ b) (hl : w.length = n) (j : Nat) (hj : j < n) : -(n * b) ≤ wsum n M w j ∧ wsum n M w j ≤ n * b := by
  refine isum_abs fun k hk => ?_
  have hx := hw (w.getD k 0) (by rw [getD_at (by omega)]; exact List.getElem_mem _)
  rcases h.pm j k hj hk with e | e <;> rw [e] <;> omega
theorem ix_w {w : List Int} {n : Nat} (hl : w.length = n) {k : Nat} (hk : k < n) : ixD (dI w) (.int (k : Int)) = some (.int (w.getD k 0), .full) := by
  rw [ix_ints (by omega), getD_at (by omega)]
/-- the sums of the columns, weighed -/
theorem comp_csum {n : Nat} {M : Mx} {w : List Int} (h : Had n M) (hw : smlR w) (hl : w.length = n) {i iw j v : Nat} {env : Env} {lv lw : Lv} {fn : List SE} (hi : env[i]? = some (some (dM (tabOf n M), lv))) (hiw : env[iw]? = some (some (dI w, lw)))
    (hj : j < env.length) (hv : v < env.length) (hij : i ≠ j) (hiv : i ≠ v) (hjv : j ≠ v) (hwj : iw ≠ j) (hwv : iw ≠ v) (hf : ∀ e : Env, (∀ k, k ≠ j → k ≠ v → e[k]? = env[k]?) → evA fn e = some [.int (n : Int)]) :
    E.comp (E.iRng1 fn) [j] [j] (E.c (.bl true)) (E.blt sumD [(E.comp (E.iRng1 fn) [v] [v] (E.c (.bl true)) (E.bin mulD (E.bin ixD (E.bin ixD (E.var i) (E.var v)) (E.var j)) (E.bin ixD (E.var iw) (E.var v))))]) env = some (dI ((List.range n).map (csum n M w)), .full) := by
  have hn := h.le
  refine comp_rI (csum n M w) (hf _ fun _ _ _ => rfl) (by omega) fun c hc => ?_
  let e1 : Env := (env.set j none).set j (some (.int (c : Int), .full))
  have l1 : e1.length = env.length := by simp [e1]
  have o1 : ∀ k, k ≠ j → e1[k]? = env[k]? := fun k hk => by
    simp only [e1]
    rw [List.getElem?_set_ne (Ne.symm hk), List.getElem?_set_ne (Ne.symm hk)]
  have j1 : e1[j]? = some (some (.int (c : Int), .full)) := by
    simp only [e1]
    rw [List.getElem?_set_self (by simpa using hj)]
  show E.blt sumD [_] e1 = _
  have inner : E.comp (E.iRng1 fn) [v] [v] (E.c (.bl true)) (E.bin mulD (E.bin ixD (E.bin ixD (E.var i) (E.var v)) (E.var j)) (E.bin ixD (E.var iw) (E.var v))) e1 = some (dI ((List.range n).map fun k => M k c * w.getD k 0), .full) := by
    refine comp_rI (fun k => M k c * w.getD k 0) (hf _ fun k hk _ => o1 k hk) (by omega) fun k hk => ?_
    let e2 : Env := (e1.set v none).set v (some (.int (k : Int), .full))
    have o2 : ∀ k, k ≠ v → e2[k]? = e1[k]? := fun k hk => by
      simp only [e2]
      rw [List.getElem?_set_ne (Ne.symm hk), List.getElem?_set_ne (Ne.symm hk)]
    have v2 : e2[v]? = some (some (.int (k : Int), .full)) := by
      simp only [e2]
      rw [List.getElem?_set_self (by simpa [l1] using hv)]
    show E.bin mulD (E.bin ixD (E.bin ixD (E.var i) (E.var v)) (E.var j)) (E.bin ixD (E.var iw) (E.var v)) e2 = _
    have hx : w.getD k 0 ∈ w := by rw [getD_at (by omega)]; exact List.getElem_mem _
    have mu := mul_ok (one1P_sml (h.pm k c hk hc)) (hw.2 _ hx)
    simp only [bin_eq, var_eq, o2 i hiv, o1 i hij, hi, v2, o2 j hjv, j1, o2 iw hwv, o1 iw hwj, hiw, ix_tab hk, ix_row hc, ix_w hl hk, mu]
  rw [blt_eq, evA_cons, inner, evA_nil]
  exact sumD_ints _
theorem V_back {n : Nat} {M : Mx} (h : Had n M) (w : List Int) (hw : smlR w) : F_back [dM (tabOf n M), dI w] =
    some (if w.length = n ∧ ((List.range n).all fun j => decide (csum n M w j % n = 0)) = true then .ok (dI ((List.range n).map fun j => csum n M w j / n)) .full else .exc "NoNumbers") := by
  have e0 : env0 6 [dM (tabOf n M), dI w] = [some (dM (tabOf n M), .sh), some (dI w, .sh), none, none, none, none] := rfl
  have mt := mustTab_ok h
  have mn := F_mustNum n M w
  have hle := h.le
  have hpos := h.pos
  by_cases hc : w.length = n
  · rw [if_pos hc] at mn
    have p1 : S.drop (Xo.call F_must_be_table [(E.var 0)]) [some (dM (tabOf n M), .sh), some (dI w, .sh), none, none, none, none] = some (.next [some (dM (tabOf n M), .sh), some (dI w, .sh), none, none, none, none]) := by simp [mt]
    have p2 : S.drop (Xo.call F_must_be_numbers [(E.var 0), (E.var 1)]) [some (dM (tabOf n M), .sh), some (dI w, .sh), none, none, none, none] = some (.next [some (dM (tabOf n M), .sh), some (dI w, .sh), none, none, none, none]) := by simp [mn]
    have cm := comp_csum (i := 0) (iw := 1) (j := 3) (v := 5) (fn := [(E.blt lenD [(E.var 0)])]) (env := [some (dM (tabOf n M), .sh), some (dI w, .sh), none, none, none, none]) h hw hc rfl rfl (by simp) (by simp) (by decide) (by decide) (by decide) (by decide) (by decide) (fun e he => by
      have := he 0 (by decide) (by decide)
      simp only [evA_cons, evA_nil, blt_eq, var_eq, this, List.getElem?_cons_zero, lenD_lst, List.length_map, tabOf_len])
    have p3 : S.set 2 (Xo.of (E.comp (E.iRng1 [(E.blt lenD [(E.var 0)])]) [3] [3] (E.c (.bl true)) (E.blt sumD [(E.comp (E.iRng1 [(E.blt lenD [(E.var 0)])]) [5] [5] (E.c (.bl true)) (E.bin mulD (E.bin ixD (E.bin ixD (E.var 0) (E.var 5)) (E.var 3)) (E.bin ixD (E.var 1) (E.var 5))))]))) [some (dM (tabOf n M), .sh), some (dI w, .sh), none, none, none, none] = some (.next [some (dM (tabOf n M), .sh), some (dI w, .sh), some (dI ((List.range n).map (csum n M w)), .full), none, none, none]) := by
      rw [set_eq, xof_eq, cm]
      rfl
    have md : ∀ x : Int, modD (.int x) (.int (n : Int)) = some (.int (x % (n : Int)), .full) := fun x => modD_int (by omega)
    have fd : ∀ x : Int, fdivD (.int x) (.int (n : Int)) = some (.int (x / (n : Int)), .full) := fun x => fdivD_int (by omega)
    have c4 : E.comp (E.iList (E.var 2)) [4] [4] (E.c (.bl true)) (E.bin eqD (E.bin modD (E.var 4) (E.blt lenD [(E.var 0)])) (E.c (.int 0))) [some (dM (tabOf n M), .sh), some (dI w, .sh), some (dI ((List.range n).map (csum n M w)), .full), none, none, none] = some (.lst (((List.range n).map fun j => decide (csum n M w j % n = 0)).map D.bl), .full) := by
      rw [comp_eq (xs := (List.range n).map (csum n M w)) (fun x => [D.int x]) (fun x => D.bl (decide (x % n = 0))) (by simp) (by simp; omega) fun x _ => by simp [tabOf_len, md]]
      simp
    have c5 : E.comp (E.iList (E.var 2)) [4] [4] (E.c (.bl true)) (E.bin fdivD (E.var 4) (E.blt lenD [(E.var 0)])) [some (dM (tabOf n M), .sh), some (dI w, .sh), some (dI ((List.range n).map (csum n M w)), .full), none, none, none] = some (dI ((List.range n).map fun j => csum n M w j / n), .full) := by
      rw [comp_lI (lv := .sh) (xs := (List.range n).map (csum n M w)) (fun x => x / n) (by simp) (by simp; omega) fun x _ => by simp [tabOf_len, fd], List.map_map]
      rfl
    have tst : E.not (E.blt allD [(E.comp (E.iList (E.var 2)) [4] [4] (E.c (.bl true)) (E.bin eqD (E.bin modD (E.var 4) (E.blt lenD [(E.var 0)])) (E.c (.int 0))))]) [some (dM (tabOf n M), .sh), some (dI w, .sh), some (dI ((List.range n).map (csum n M w)), .full), none, none, none] = some (.bl (!((List.range n).all fun j => decide (csum n M w j % n = 0))), .full) := by
      rw [not_eq, blt_eq, evA_cons, c4, evA_nil]
      simp only [allD_bls, all_map_id]
    by_cases hd : ((List.range n).all fun j => decide (csum n M w j % n = 0)) = true
    · rw [if_pos ⟨hc, hd⟩]
      refine run_ret ?_
      unfold g_back
      rw [e0]
      refine seq_of p1 (seq_of p2 (seq_of p3 (seq_of (e := [some (dM (tabOf n M), .sh), some (dI w, .sh), some (dI ((List.range n).map (csum n M w)), .full), none, none, none]) ?_ ?_)))
      · rw [ite_f (lv := .full) (by rw [tst, hd]; rfl)]
        rfl
      · rw [ret_eq, xof_eq, c5]
    · rw [if_neg fun q => hd q.2]
      refine run_exc (e := [some (dM (tabOf n M), .sh), some (dI w, .sh), some (dI ((List.range n).map (csum n M w)), .full), none, none, none]) ?_
      unfold g_back
      rw [e0]
      refine seq_of p1 (seq_of p2 (seq_of p3 (seq_exc ?_)))
      rw [ite_t (lv := .full) (by rw [tst, Bool.eq_false_iff.mpr hd]; rfl)]
      rfl
  · rw [if_neg hc] at mn
    rw [if_neg fun q => hc q.1]
    refine run_exc (e := [some (dM (tabOf n M), .sh), some (dI w, .sh), none, none, none, none]) ?_
    unfold g_back
    rw [e0]
    refine seq_of (e := [some (dM (tabOf n M), .sh), some (dI w, .sh), none, none, none, none]) (by simp [mt]) ?_
    exact seq_exc (by simp [mn])
/-! ints like ints -/
theorem V_intsLike (found due : List Int) (h : found.length ≤ 100000) : F__law_ints_like [dI found, dI due] = some (.ok (.bl (decide (found = due))) .full) := by
  have e0 : env0 3 [dI found, dI due] = [some (dI found, .sh), some (dI due, .sh), none] := rfl
  by_cases hl : found.length = due.length
  · refine run_ret ?_
    unfold g__law_ints_like
    rw [e0]
    refine seq_of (e := [some (dI found, .sh), some (dI due, .sh), none]) (by
      rw [ite_f (lv := .full) (by simp [hl])]
      rfl) ?_
    have cm : E.comp (E.iList (E.var 0)) [2] [2] (E.c (.bl true)) (E.and (E.un (isiD "int") (E.var 2)) (E.not (E.un (isiD "bool") (E.var 2)))) [some (dI found, .sh), some (dI due, .sh), none] = some (.lst ((found.map fun _ => true).map D.bl), .full) := by
      rw [comp_eq (xs := found) (fun x => [D.int x]) (fun x => D.bl true) (by simp) h fun x _ => by simp]
      simp
    have al : (found.map fun _ => true).all id = true := by simp
    rw [ret_eq, xof_eq, and_eq, blt_eq, evA_cons, cm, evA_nil]
    simp only [allD_bls, al, bin_eq, var_eq, List.getElem?_cons_zero, List.getElem?_cons_succ, eqD_of (eqO_ints _ _)]
  · refine run_ret ?_
    unfold g__law_ints_like
    rw [e0]
    have hl2 : ¬ ((found.length : Int) = (due.length : Int)) := by omega
    have hne : decide (found = due) = false := decide_eq_false fun e => hl (by rw [e])
    refine seq_ret ?_
    rw [ite_t (lv := .full) (by simp [hl2]), hne]
    rfl
end PM
namespace PM
open PySem hiding Env
open PL
theorem okd_mi (a : List (List Int)) (b : List Int) : okd (.lst [dM a, dI b]) = true := by
  have h1 := okd_rows a
  have h2 := okd_ints b
  have n1 : noScr (dM a) = true := (Bool.and_eq_true_iff.mp h1).1
  have n2 : noScr (dI b) = true := (Bool.and_eq_true_iff.mp h2).1
  have d1 := dep_rows a
  have d2 := dep_ints b
  have e1 : dep (dM a) = depA (a.map dI) + 1 := by unfold dep; rfl
  have e2 : dep (dI b) = depA (b.map D.int) + 1 := by unfold dep; rfl
  have e3 : dep (.lst [dM a, dI b]) = max (dep (dM a)) (max (dep (dI b)) 0) + 1 := by
    rw [dep, depA, depA, depA]
  have e4 : noScr (.lst [dM a, dI b]) = true := by
    rw [noScr, noScrA, noScrA, noScrA, n1, n2]; rfl
  unfold okd
  rw [e4, Bool.true_and]
  exact decide_eq_true (by omega)
theorem forGo_upto {js ks : List Nat} {g : SS} (enc : Nat → List D) (P : Nat → Env → Prop) (n : Nat) (h : ∀ k e, k < n → P k e → ∃ e1, g (setE e js (enc k)) = some (.next e1) ∧ P (k + 1) (S.kill e1 ks)) : ∀ (d i : Nat) (e : Env), i + d = n → P i e →
    ∃ e', S.forGo js ks g ((List.range' i d).map enc) e = some (.next e') ∧ P n e'
  | 0, i, e, hi, p => ⟨e, rfl, by rw [← hi]; exact p⟩
  | d + 1, i, e, hi, p => by
    obtain ⟨e1, h1, h2⟩ := h i e (by omega) p
    obtain ⟨e', h3, h4⟩ := forGo_upto enc P n h d (i + 1) (S.kill e1 ks) (by omega) h2
    refine ⟨e', ?_, h4⟩
    rw [List.range'_succ, List.map_cons, forGo_cons, h1]
    exact h3
theorem forGo_cnt {js ks : List Nat} {g : SS} (enc : Nat → List D) (E : Nat → Env) (n : Nat) (h : ∀ k, k < n → ∃ e1, g (setE (E k) js (enc k)) = some (.next e1) ∧ S.kill e1 ks = E (k + 1)) : S.forGo js ks g ((List.range n).map enc) (E 0) = some (.next (E n)) := by
  obtain ⟨e', h1, h2⟩ := forGo_upto enc (fun k e => e = E k) n (fun k e hk he => by
    obtain ⟨e1, h1, h2⟩ := h k hk
    exact ⟨e1, by rw [he]; exact h1, h2⟩) n 0 (E 0) (by omega) rfl
  rw [List.range_eq_range', h1, h2]
theorem tabOf_set2 {n : Nat} {T : Mx} {k l : Nat} {x : Int} (hk : k < n) (hl : l < n) (h : k < (tabOf n T).length) : (tabOf n T).set k (((tabOf n T)[k]).set l x) = tabOf n fun i j => if i = k ∧ j = l then x else T i j := by
  rw [tabOf_row h]
  refine List.ext_getElem (by rw [List.length_set, tabOf_len, tabOf_len]) fun i h1 h2 => ?_
  rw [tabOf_len] at h2
  rw [List.getElem_set]
  by_cases e : k = i
  · subst e
    rw [if_pos rfl, tabOf_row (by rw [tabOf_len]; exact h2)]
    refine List.ext_getElem (by simp) fun j h3 h4 => ?_
    rw [List.getElem_set, List.getElem_map, List.getElem_map, List.getElem_range]
    by_cases f : l = j
    · rw [if_pos f, if_pos ⟨rfl, f.symm⟩]
    · rw [if_neg f, if_neg fun z => f z.2.symm]
  · rw [if_neg e, tabOf_row (by rw [tabOf_len]; exact h2), tabOf_row (by rw [tabOf_len]; exact h2)]
    exact List.map_congr_left fun j _ => by rw [if_neg fun z => e z.1.symm]
end PM

set_option Elab.async false
set_option linter.all false
set_option maxRecDepth 100000
set_option maxHeartbeats 4000000
/-! The mathematics, part v: moves there and back, moves done by the law. -/
namespace PM
open PySem hiding Env
open PL
/-- alike at the first n places -/
def eqn (n : Nat) (M N : Mx) : Prop := ∀ i j, i < n → j < n → M i j = N i j
theorem eqn.refl {n : Nat} (M : Mx) : eqn n M M := fun _ _ _ _ => rfl
theorem eqn.trans {n : Nat} {A B C : Mx} (h : eqn n A B) (k : eqn n B C) : eqn n A C := fun i j hi hj => (h i j hi hj).trans (k i j hi hj)
theorem swp_lt {n : Nat} {a b : Int} (ha : 0 ≤ a ∧ a < n) (hb : 0 ≤ b ∧ b < n) {i : Nat} (hi : i < n) : (swp a b i).toNat < n := by
  unfold swp
  split
  · omega
  · split <;> omega
theorem swp_swp {n : Nat} {a b : Int} (ha : 0 ≤ a ∧ a < n) (hb : 0 ≤ b ∧ b < n) {i : Nat} (hi : i < n) : (swp a b (swp a b i).toNat).toNat = i := by
  unfold swp
  by_cases h1 : (i : Int) = a
  · rw [if_pos h1]
    by_cases h2 : ((b.toNat : Nat) : Int) = a
    · rw [if_pos h2]; omega
    · rw [if_neg h2, if_pos (by omega)]; omega
  · rw [if_neg h1]
    by_cases h2 : (i : Int) = b
    · rw [if_pos h2, if_pos (by omega)]; omega
    · rw [if_neg h2, if_neg (by omega), if_neg (by omega)]; omega
theorem mv_two {n : Nat} {a b : Int} (h : 0 ≤ a ∧ a < b ∧ b < n) : (0 ≤ a ∧ a < n) ∧ (0 ≤ b ∧ b < n) := by omega
theorem mvM_congr {n : Nat} {m : Mv} (ok : mvOk n m = true) {M N : Mx} (h : eqn n M N) : eqn n (mvM m M) (mvM m N) := fun i j hi hj => by
  cases m with
  | row k =>
    show (if (i : Int) = k then - M i j else M i j) = if (i : Int) = k then - N i j else N i j
    rw [h i j hi hj]
  | col k =>
    show (if (j : Int) = k then - M i j else M i j) = if (j : Int) = k then - N i j else N i j
    rw [h i j hi hj]
  | rows a b => exact h _ _ (swp_lt (mv_two (of_decide_eq_true ok)).1 (mv_two (of_decide_eq_true ok)).2 hi) hj
  | cols a b => exact h _ _ hi (swp_lt (mv_two (of_decide_eq_true ok)).1 (mv_two (of_decide_eq_true ok)).2 hj)
theorem mvM_twice {n : Nat} {m : Mv} (ok : mvOk n m = true) (M : Mx) : eqn n (mvM m (mvM m M)) M := fun i j hi hj => by
  cases m with
  | row k =>
    show (if (i : Int) = k then - (if (i : Int) = k then - M i j else M i j) else (if (i : Int) = k then - M i j else M i j)) = M i j
    split <;> omega
  | col k =>
    show (if (j : Int) = k then - (if (j : Int) = k then - M i j else M i j) else (if (j : Int) = k then - M i j else M i j)) = M i j
    split <;> omega
  | rows a b =>
    have e := swp_swp (mv_two (of_decide_eq_true ok)).1 (mv_two (of_decide_eq_true ok)).2 hi
    show M (swp a b (swp a b i).toNat).toNat j = M i j
    rw [e]
  | cols a b =>
    have e := swp_swp (mv_two (of_decide_eq_true ok)).1 (mv_two (of_decide_eq_true ok)).2 hj
    show M i (swp a b (swp a b j).toNat).toNat = M i j
    rw [e]
theorem mvM_pm {n : Nat} {m : Mv} (ok : mvOk n m = true) {M : Mx} (h : pm1 n M) : pm1 n (mvM m M) := fun i j hi hj => by
  cases m with
  | row k =>
    show one1P (if (i : Int) = k then - M i j else M i j)
    split
    · exact (h i j hi hj).neg
    · exact h i j hi hj
  | col k =>
    show one1P (if (j : Int) = k then - M i j else M i j)
    split
    · exact (h i j hi hj).neg
    · exact h i j hi hj
  | rows a b => exact h _ _ (swp_lt (mv_two (of_decide_eq_true ok)).1 (mv_two (of_decide_eq_true ok)).2 hi) hj
  | cols a b => exact h _ _ hi (swp_lt (mv_two (of_decide_eq_true ok)).1 (mv_two (of_decide_eq_true ok)).2 hj)
theorem mvAll_cons (m : Mv) (ms : List Mv) (M : Mx) : mvAll (m :: ms) M = mvAll ms (mvM m M) := rfl
theorem mvAll_append (xs ys : List Mv) (M : Mx) : mvAll (xs ++ ys) M = mvAll ys (mvAll xs M) := by unfold mvAll; rw [List.foldl_append]
theorem mvAll_congr {n : Nat} : ∀ {ms : List Mv}, ms.all (mvOk n) = true → ∀ {M N : Mx}, eqn n M N → eqn n (mvAll ms M) (mvAll ms N)
  | [], _, _, _, h => h
  | m :: ms, ok, M, N, h => by
    rw [List.all_cons, Bool.and_eq_true] at ok
    exact mvAll_congr (ms := ms) ok.2 (mvM_congr ok.1 h)
theorem mvAll_pm {n : Nat} : ∀ {ms : List Mv}, ms.all (mvOk n) = true → ∀ {M : Mx}, pm1 n M → pm1 n (mvAll ms M)
  | [], _, _, h => h
  | m :: ms, ok, M, h => by
    rw [List.all_cons, Bool.and_eq_true] at ok
    exact mvAll_pm (ms := ms) ok.2 (mvM_pm ok.1 h)
theorem mvAll_back {n : Nat} : ∀ {ms : List Mv}, ms.all (mvOk n) = true → ∀ (M : Mx), eqn n (mvAll ms.reverse (mvAll ms M)) M
  | [], _, M => eqn.refl M
  | m :: ms, ok, M => by
    rw [List.all_cons, Bool.and_eq_true] at ok
    rw [List.reverse_cons, mvAll_append, mvAll_cons]
    exact eqn.trans (mvM_congr ok.1 (mvAll_back (ms := ms) ok.2 (mvM m M))) (mvM_twice ok.1 M)
theorem all_rev {α : Type} (p : α → Bool) (xs : List α) : xs.reverse.all p = xs.all p := List.all_reverse
/-! balance stays -/
def balP (n : Nat) (M : Mx) : Prop := ∀ k j, k < n → j < n → k ≠ j → isum n (fun i => M k i * M j i) = 0
theorem balP_iff {n : Nat} {M : Mx} : isBal (tabOf n M) = true ↔ balP n M := by
  rw [isBal_iff]
  refine ⟨fun h k j hk hj hkj => ?_, fun h k j hk hj => h k j hk (by omega) (by omega)⟩
  by_cases c : j < k
  · exact h k j hk c
  · rw [isum_congr (g := fun i => M j i * M k i) fun i _ => Int.mul_comm _ _]
    exact h j k hj (by omega)
/-- two places changed about do not change a sum -/
theorem isum_two (n : Nat) (f : Nat → Int) : ∀ {a b : Nat}, a < n → b < n → a ≠ b → isum n f = f a + f b + isum n fun i => if i = a ∨ i = b then 0 else f i := by
  intro a b ha hb hab
  have h1 := isum_one (n := n) (f := fun i => if i = a then f i else 0) ha fun j _ h => if_neg h
  have h2 := isum_one (n := n) (f := fun i => if i = b then f i else 0) hb fun j _ h => if_neg h
  simp only [if_true] at h1 h2
  rw [← h1, ← h2, ← isum_add, ← isum_add]
  refine isum_congr fun i _ => ?_
  by_cases c1 : i = a
  · subst c1
    rw [if_pos rfl, if_neg hab, if_pos (.inl rfl)]; omega
  · by_cases c2 : i = b
    · subst c2
      rw [if_neg c1, if_pos rfl, if_pos (.inr rfl)]; omega
    · rw [if_neg c1, if_neg c2, if_neg (by omega)]; omega
theorem isum_swp {n : Nat} {a b : Int} (h : 0 ≤ a ∧ a < b ∧ b < n) (f : Nat → Int) : isum n (fun i => f (swp a b i).toNat) = isum n f := by
  obtain ⟨x, rfl⟩ : ∃ x : Nat, a = (x : Int) := ⟨a.toNat, by omega⟩
  obtain ⟨y, rfl⟩ : ∃ y : Nat, b = (y : Int) := ⟨b.toNat, by omega⟩
  rw [isum_two n _ (a := x) (b := y) (by omega) (by omega) (by omega), isum_two n f (a := x) (b := y) (by omega) (by omega) (by omega)]
  have e1 : (swp (x : Int) (y : Int) (x : Nat)).toNat = y := by rw [swp_nat, if_pos rfl]
  have e2 : (swp (x : Int) (y : Int) (y : Nat)).toNat = x := by rw [swp_nat, if_neg (by omega), if_pos rfl]
  rw [e1, e2, isum_congr (f := fun i => if i = x ∨ i = y then 0 else f (swp (x : Int) (y : Int) (i : Nat)).toNat) (g := fun i => if i = x ∨ i = y then 0 else f i) fun i _ => by
    by_cases c : i = x ∨ i = y
    · rw [if_pos c, if_pos c]
    · rw [if_neg c, if_neg c, swp_nat, if_neg (by omega), if_neg (by omega)]]
  omega
theorem mvM_bal {n : Nat} {m : Mv} (ok : mvOk n m = true) {M : Mx} (h : balP n M) : balP n (mvM m M) := fun i j hi hj hij => by
  cases m with
  | row k =>
    have e := h i j hi hj hij
    show isum n (fun t => (if (i : Int) = k then - M i t else M i t) * (if (j : Int) = k then - M j t else M j t)) = 0
    by_cases c1 : (i : Int) = k
    · have c2 : ¬ (j : Int) = k := by omega
      simp only [if_pos c1, if_neg c2]
      rw [isum_congr (g := fun t => - (M i t * M j t)) fun t _ => by grind, isum_neg, e]; rfl
    · by_cases c2 : (j : Int) = k
      · simp only [if_neg c1, if_pos c2]
        rw [isum_congr (g := fun t => - (M i t * M j t)) fun t _ => by grind, isum_neg, e]; rfl
      · simp only [if_neg c1, if_neg c2]
        exact e
  | col k =>
    rw [← h i j hi hj hij]
    refine isum_congr fun t _ => ?_
    show (if (t : Int) = k then - M i t else M i t) * (if (t : Int) = k then - M j t else M j t) = _
    by_cases c : (t : Int) = k
    · rw [if_pos c, if_pos c]; grind
    · rw [if_neg c, if_neg c]
  | rows a b =>
    have q := mv_two (of_decide_eq_true ok)
    refine h _ _ (swp_lt q.1 q.2 hi) (swp_lt q.1 q.2 hj) fun z => hij ?_
    rw [← swp_swp q.1 q.2 hi, z, swp_swp q.1 q.2 hj]
  | cols a b =>
    rw [← h i j hi hj hij]
    exact isum_swp (of_decide_eq_true ok) fun t => M i t * M j t
theorem balP_congr {n : Nat} {M N : Mx} (h : eqn n M N) (b : balP n M) : balP n N := fun i j hi hj hij => by
  rw [← b i j hi hj hij]
  exact isum_congr fun t ht => by rw [h i t hi ht, h j t hj ht]
theorem mvAll_bal {n : Nat} : ∀ {ms : List Mv}, ms.all (mvOk n) = true → ∀ {M : Mx}, balP n M → balP n (mvAll ms M)
  | [], _, _, h => h
  | m :: ms, ok, M, h => by
    rw [List.all_cons, Bool.and_eq_true] at ok
    exact mvAll_bal (ms := ms) ok.2 (mvM_bal ok.1 h)
theorem isBal_mv {n : Nat} {ms : List Mv} (ok : ms.all (mvOk n) = true) (M : Mx) : isBal (tabOf n (mvAll ms M)) = isBal (tabOf n M) := by
  cases hb : isBal (tabOf n M) with
  | true => exact balP_iff.mpr (mvAll_bal ok (balP_iff.mp hb))
  | false =>
    cases hc : isBal (tabOf n (mvAll ms M)) with
    | false => rfl
    | true =>
      have := mvAll_bal (ms := ms.reverse) (by rw [all_rev]; exact ok) (balP_iff.mp hc)
      rw [balP_iff.mpr (balP_congr (mvAll_back ok M) this)] at hb
      exact hb
/-! the law's own moves -/
theorem V_lawdone (n : Nat) (M : Mx) (m : Mv) (hn : n ≤ 1000) (ok : mvOk n m = true) : F__law_done [dM (tabOf n M), mvD m] = some (.ok (dM (tabOf n (mvM m M))) .full) := by
  have e0 : env0 5 [dM (tabOf n M), mvD m] = [some (dM (tabOf n M), .sh), some (mvD m, lvS (mvD m)), none, none, none] := rfl
  have cp := F_copy' (n := n) (M := M) (by omega)
  refine run_ret ?_
  unfold g__law_done
  rw [e0, lvS_mv]
  refine seq_of (e := [some (dM (tabOf n M), .sh), some (mvD m, .full), some (dM (tabOf n M), .full), none, none]) (by simp [cp]) ?_
  have rng : ∀ N : Mx, E.iRng1 [(E.blt lenD [(E.var 0)])] [some (dM (tabOf n M), .sh), some (mvD m, .full), some (dM (tabOf n N), .full), none, none] = some ((List.range n).map fun (i : Nat) => [D.int (i : Int)]) := fun N => rng1_eq (by simp [tabOf_len]) (by omega)
  cases m with
  | row k =>
    obtain ⟨a, rfl⟩ : ∃ a : Nat, k = (a : Int) := ⟨k.toNat, by have := of_decide_eq_true ok; omega⟩
    have ha : a < n := by have := of_decide_eq_true ok; omega
    have cm : E.comp (E.iList (E.bin ixD (E.var 2) (E.bin ixD (E.var 1) (E.c (.int 1))))) [4] [4] (E.c (.bl true)) (E.un negD (E.var 4)) [some (dM (tabOf n M), .sh), some (mvD (.row (a : Int)), .full), some (dM (tabOf n M), .full), none, none] = some (dI (((List.range n).map (M a)).map fun x => -x), .full) :=
      comp_lI (lv := .sh) (fun x => -x) (by simp [mvD, ix_tab ha]) (by simp; omega) fun x _ => by simp
    have e1 : (tabOf n M).set a (((List.range n).map (M a)).map fun x => -x) = tabOf n (mvM (.row (a : Int)) M) := by
      refine List.ext_getElem (by rw [List.length_set, tabOf_len, tabOf_len]) fun i q1 q2 => ?_
      rw [tabOf_len] at q2
      rw [List.getElem_set]
      by_cases z : a = i
      · subst z
        rw [if_pos rfl, tabOf_row (by rw [tabOf_len]; exact q2), List.map_map]
        exact List.map_congr_left fun j _ => (if_pos rfl).symm
      · rw [if_neg z, tabOf_row (by rw [tabOf_len]; exact q2), tabOf_row (by rw [tabOf_len]; exact q2)]
        exact List.map_congr_left fun j _ => (if_neg (by omega)).symm
    refine seq_of (e := [some (dM (tabOf n M), .sh), some (mvD (.row (a : Int)), .full), some (dM (tabOf n (mvM (.row (a : Int)) M)), .full), none, none]) ?_ ?_
    · rw [ite_t (lv := .full) (by simp [mvD])]
      rw [setIx_of (i := 2) (k := a) (r := ((List.range n).map (M a)).map fun x => -x) (lk := .full) (rows := tabOf n M) rfl cm (by simp [mvD]) (by rw [tabOf_len]; exact ha), e1]
      rfl
    refine seq_of (e := [some (dM (tabOf n M), .sh), some (mvD (.row (a : Int)), .full), some (dM (tabOf n (mvM (.row (a : Int)) M)), .full), none, none]) (by
      rw [ite_f (lv := .full) (by simp [mvD]; decide)]
      rfl) ?_
    refine seq_of (e := [some (dM (tabOf n M), .sh), some (mvD (.row (a : Int)), .full), some (dM (tabOf n (mvM (.row (a : Int)) M)), .full), none, none]) ?_ rfl
    rw [forR_eq, rng]
    refine forGo_cnt (fun (i : Nat) => [D.int (i : Int)]) (fun _ => [some (dM (tabOf n M), .sh), some (mvD (.row (a : Int)), .full), some (dM (tabOf n (mvM (.row (a : Int)) M)), .full), none, none]) n fun q hq => ⟨[some (dM (tabOf n M), .sh), some (mvD (.row (a : Int)), .full), some (dM (tabOf n (mvM (.row (a : Int)) M)), .full), some (.int (q : Int), .full), none], ?_, rfl⟩
    show b1__law_done [some (dM (tabOf n M), .sh), some (mvD (.row (a : Int)), .full), some (dM (tabOf n (mvM (.row (a : Int)) M)), .full), some (.int (q : Int), .full), none] = _
    unfold b1__law_done
    simp [mvD, s_rc, show (("row" : Str) = "columns") = False from eq_false (by decide)]
  | col k =>
    obtain ⟨a, rfl⟩ : ∃ a : Nat, k = (a : Int) := ⟨k.toNat, by have := of_decide_eq_true ok; omega⟩
    have ha : a < n := by have := of_decide_eq_true ok; omega
    refine seq_of (e := [some (dM (tabOf n M), .sh), some (mvD (.col (a : Int)), .full), some (dM (tabOf n M), .full), none, none]) (by
      rw [ite_f (lv := .full) (by simp [mvD]; decide)]
      rfl) ?_
    refine seq_of (e := [some (dM (tabOf n M), .sh), some (mvD (.col (a : Int)), .full), some (dM (tabOf n M), .full), none, none]) (by
      rw [ite_f (lv := .full) (by simp [mvD]; decide)]
      rfl) ?_
    let N : Nat → Mx := fun q i j => if i < q then mvM (.col (a : Int)) M i j else M i j
    have z0 : tabOf n M = tabOf n (N 0) := tabOf_congr fun i j _ _ => (if_neg (by omega)).symm
    have z9 : tabOf n (N n) = tabOf n (mvM (.col (a : Int)) M) := tabOf_congr fun i j hi _ => if_pos hi
    refine seq_of (e := [some (dM (tabOf n M), .sh), some (mvD (.col (a : Int)), .full), some (dM (tabOf n (N n)), .full), none, none]) ?_ (by rw [z9]; rfl)
    rw [forR_eq, rng]
    show S.forGo [3] [3] b1__law_done _ [some (dM (tabOf n M), .sh), some (mvD (.col (a : Int)), .full), some (dM (tabOf n M), .full), none, none] = _
    have L := forGo_cnt (js := [3]) (ks := [3]) (g := b1__law_done) (fun (i : Nat) => [D.int (i : Int)]) (fun q => [some (dM (tabOf n M), .sh), some (mvD (.col (a : Int)), .full), some (dM (tabOf n (N q)), .full), none, none]) n fun q hq => ⟨[some (dM (tabOf n M), .sh), some (mvD (.col (a : Int)), .full), some (dM (tabOf n (N (q + 1))), .full), some (.int (q : Int), .full), none], by
      show b1__law_done [some (dM (tabOf n M), .sh), some (mvD (.col (a : Int)), .full), some (dM (tabOf n (N q)), .full), some (.int (q : Int), .full), none] = _
      unfold b1__law_done
      have hql : q < (tabOf n (N q)).length := by rw [tabOf_len]; exact hq
      have s := setIx2_of (i := 2) (fk := E.var 3) (fl := E.bin ixD (E.var 1) (E.c (.int 1))) (fv := E.un negD (E.bin ixD (E.bin ixD (E.var 0) (E.var 3)) (E.bin ixD (E.var 1) (E.c (.int 1))))) (env := [some (dM (tabOf n M), .sh), some (mvD (.col (a : Int)), .full), some (dM (tabOf n (N q)), .full), some (.int (q : Int), .full), none]) (k := q) (l := a) (x := - M q a) (lk := .full) (ll := .full) rfl (by
        simp [mvD, ix_tab hq, ix_row ha]) rfl (by simp [mvD]) hql (by rw [tabOf_row]; simpa using ha)
      rw [tabOf_set2 hq ha] at s
      refine seq_of (by
        rw [ite_t (lv := .full) (by simp [mvD])]
        exact s) ?_
      have en : (tabOf n fun i j => if i = q ∧ j = a then - M q a else N q i j) = tabOf n (N (q + 1)) := tabOf_congr fun i j hi hj => by
        show (if i = q ∧ j = a then - M q a else if i < q then (if (j : Int) = (a : Int) then - M i j else M i j) else M i j) = if i < q + 1 then (if (j : Int) = (a : Int) then - M i j else M i j) else M i j
        by_cases c1 : i = q
        · subst c1
          by_cases c2 : j = a
          · subst c2
            rw [if_pos ⟨rfl, rfl⟩, if_pos (by omega), if_pos rfl]
          · rw [if_neg (fun z => c2 z.2), if_neg (by omega), if_pos (by omega), if_neg (by omega)]
        · rw [if_neg (fun z => c1 z.1)]
          by_cases c3 : i < q
          · rw [if_pos c3, if_pos (show i < q + 1 by omega)]
          · rw [if_neg c3, if_neg (show ¬ i < q + 1 by omega)]
      rw [en]
      rw [ite_f (lv := .full) (by simp [mvD]; decide)]
      rfl, rfl⟩
    rw [← L, z0]
  | rows a' b' =>
    obtain ⟨a, rfl⟩ : ∃ a : Nat, a' = (a : Int) := ⟨a'.toNat, by have := of_decide_eq_true ok; omega⟩
    obtain ⟨b, rfl⟩ : ∃ b : Nat, b' = (b : Int) := ⟨b'.toNat, by have := of_decide_eq_true ok; omega⟩
    have hab : a < b := by have := of_decide_eq_true ok; omega
    have hb : b < n := by have := of_decide_eq_true ok; omega
    have ha : a < n := by omega
    refine seq_of (e := [some (dM (tabOf n M), .sh), some (mvD (.rows (a : Int) (b : Int)), .full), some (dM (tabOf n M), .full), none, none]) (by
      rw [ite_f (lv := .full) (by simp [mvD]; decide)]
      rfl) ?_
    have e1 : ((tabOf n M).set a ((List.range n).map (M b))).set b ((List.range n).map (M a)) = tabOf n (mvM (.rows (a : Int) (b : Int)) M) := by
      have := swap_list n (fun k => (List.range n).map (M k)) a b ha hb
      show (((List.range n).map fun k => (List.range n).map (M k)).set a ((List.range n).map (M b))).set b ((List.range n).map (M a)) = _
      rw [this]
      unfold tabOf
      refine List.map_congr_left fun i _ => ?_
      have e := swp_nat (a := a) (b := b) (i := i)
      rw [← e]
      rfl
    refine seq_of (e := [some (dM (tabOf n M), .sh), some (mvD (.rows (a : Int) (b : Int)), .full), some (dM (tabOf n (mvM (.rows (a : Int) (b : Int)) M)), .full), none, none]) ?_ ?_
    · rw [ite_t (lv := .full) (by simp [mvD])]
      refine seq_of (setIx_of (i := 2) (k := a) (r := (List.range n).map (M b)) (lk := .full) (rows := tabOf n M) rfl (by
        simp only [blt_eq, evA_cons, evA_nil, bin_eq, var_eq, c_eq, List.getElem?_cons_zero, List.getElem?_cons_succ, lvS_int, mvD, ix_t2, ix_tab hb, listC_lst, lvL_ints]) (by simp [mvD]) (by rw [tabOf_len]; exact ha)) ?_
      rw [setIx_of (i := 2) (k := b) (r := (List.range n).map (M a)) (lk := .full) (rows := (tabOf n M).set a ((List.range n).map (M b))) rfl (by
        simp only [blt_eq, evA_cons, evA_nil, bin_eq, var_eq, c_eq, List.set_cons_zero, List.set_cons_succ, List.getElem?_cons_zero, List.getElem?_cons_succ, lvS_int, mvD, ix_t1, ix_tab ha, listC_lst, lvL_ints]) (by simp [mvD]) (by rw [List.length_set, tabOf_len]; exact hb), e1]
      rfl
    refine seq_of (e := [some (dM (tabOf n M), .sh), some (mvD (.rows (a : Int) (b : Int)), .full), some (dM (tabOf n (mvM (.rows (a : Int) (b : Int)) M)), .full), none, none]) ?_ rfl
    rw [forR_eq, rng]
    refine forGo_cnt (fun (i : Nat) => [D.int (i : Int)]) (fun _ => [some (dM (tabOf n M), .sh), some (mvD (.rows (a : Int) (b : Int)), .full), some (dM (tabOf n (mvM (.rows (a : Int) (b : Int)) M)), .full), none, none]) n fun q hq => ⟨[some (dM (tabOf n M), .sh), some (mvD (.rows (a : Int) (b : Int)), .full), some (dM (tabOf n (mvM (.rows (a : Int) (b : Int)) M)), .full), some (.int (q : Int), .full), none], ?_, rfl⟩
    show b1__law_done [some (dM (tabOf n M), .sh), some (mvD (.rows (a : Int) (b : Int)), .full), some (dM (tabOf n (mvM (.rows (a : Int) (b : Int)) M)), .full), some (.int (q : Int), .full), none] = _
    unfold b1__law_done
    simp [mvD, s_Rc, show (("rows" : Str) = "columns") = False from eq_false (by decide)]
  | cols a' b' =>
    obtain ⟨a, rfl⟩ : ∃ a : Nat, a' = (a : Int) := ⟨a'.toNat, by have := of_decide_eq_true ok; omega⟩
    obtain ⟨b, rfl⟩ : ∃ b : Nat, b' = (b : Int) := ⟨b'.toNat, by have := of_decide_eq_true ok; omega⟩
    have hab : a < b := by have := of_decide_eq_true ok; omega
    have hb : b < n := by have := of_decide_eq_true ok; omega
    have ha : a < n := by omega
    refine seq_of (e := [some (dM (tabOf n M), .sh), some (mvD (.cols (a : Int) (b : Int)), .full), some (dM (tabOf n M), .full), none, none]) (by
      rw [ite_f (lv := .full) (by simp [mvD]; decide)]
      rfl) ?_
    refine seq_of (e := [some (dM (tabOf n M), .sh), some (mvD (.cols (a : Int) (b : Int)), .full), some (dM (tabOf n M), .full), none, none]) (by
      rw [ite_f (lv := .full) (by simp [mvD]; decide)]
      rfl) ?_
    let N : Nat → Mx := fun q i j => if i < q then mvM (.cols (a : Int) (b : Int)) M i j else M i j
    have z0 : tabOf n M = tabOf n (N 0) := tabOf_congr fun i j _ _ => (if_neg (by omega)).symm
    have z9 : tabOf n (N n) = tabOf n (mvM (.cols (a : Int) (b : Int)) M) := tabOf_congr fun i j hi _ => if_pos hi
    refine seq_of (e := [some (dM (tabOf n M), .sh), some (mvD (.cols (a : Int) (b : Int)), .full), some (dM (tabOf n (N n)), .full), none, none]) ?_ (by rw [z9]; rfl)
    rw [forR_eq, rng]
    show S.forGo [3] [3] b1__law_done _ [some (dM (tabOf n M), .sh), some (mvD (.cols (a : Int) (b : Int)), .full), some (dM (tabOf n M), .full), none, none] = _
    have L := forGo_cnt (js := [3]) (ks := [3]) (g := b1__law_done) (fun (i : Nat) => [D.int (i : Int)]) (fun q => [some (dM (tabOf n M), .sh), some (mvD (.cols (a : Int) (b : Int)), .full), some (dM (tabOf n (N q)), .full), none, none]) n fun q hq => ⟨[some (dM (tabOf n M), .sh), some (mvD (.cols (a : Int) (b : Int)), .full), some (dM (tabOf n (N (q + 1))), .full), some (.int (q : Int), .full), none], by
      show b1__law_done [some (dM (tabOf n M), .sh), some (mvD (.cols (a : Int) (b : Int)), .full), some (dM (tabOf n (N q)), .full), some (.int (q : Int), .full), none] = _
      unfold b1__law_done
      have hql : q < (tabOf n (N q)).length := by rw [tabOf_len]; exact hq
      have s := setIx2_of (i := 2) (fk := E.var 3) (fl := E.bin ixD (E.var 1) (E.c (.int 1))) (fv := E.bin ixD (E.bin ixD (E.var 0) (E.var 3)) (E.bin ixD (E.var 1) (E.c (.int 2)))) (env := [some (dM (tabOf n M), .sh), some (mvD (.cols (a : Int) (b : Int)), .full), some (dM (tabOf n (N q)), .full), some (.int (q : Int), .full), none]) (k := q) (l := a) (x := M q b) (lk := .full) (ll := .full) rfl (by
        simp [mvD, ix_tab hq, ix_row hb]) rfl (by simp [mvD]) hql (by rw [tabOf_row]; simpa using ha)
      rw [tabOf_set2 hq ha] at s
      let N1 : Mx := fun i j => if i = q ∧ j = a then M q b else N q i j
      have hql2 : q < (tabOf n N1).length := by rw [tabOf_len]; exact hq
      have s2 := setIx2_of (i := 2) (fk := E.var 3) (fl := E.bin ixD (E.var 1) (E.c (.int 2))) (fv := E.bin ixD (E.bin ixD (E.var 0) (E.var 3)) (E.bin ixD (E.var 1) (E.c (.int 1)))) (env := [some (dM (tabOf n M), .sh), some (mvD (.cols (a : Int) (b : Int)), .full), some (dM (tabOf n N1), .full), some (.int (q : Int), .full), none]) (k := q) (l := b) (x := M q a) (lk := .full) (ll := .full) rfl (by
        simp [mvD, ix_tab hq, ix_row ha]) rfl (by simp [mvD]) hql2 (by rw [tabOf_row]; simpa using hb)
      rw [tabOf_set2 hq hb] at s2
      refine seq_of (e := [some (dM (tabOf n M), .sh), some (mvD (.cols (a : Int) (b : Int)), .full), some (dM (tabOf n (N q)), .full), some (.int (q : Int), .full), none]) (by
        rw [ite_f (lv := .full) (by simp [mvD]; decide)]
        rfl) ?_
      rw [ite_t (lv := .full) (by simp [mvD])]
      refine seq_of s ?_
      show S.setIx2 _ _ _ _ [some (dM (tabOf n M), .sh), some (mvD (.cols (a : Int) (b : Int)), .full), some (dM (tabOf n N1), .full), some (.int (q : Int), .full), none] = _
      rw [s2]
      have en : (tabOf n fun i j => if i = q ∧ j = b then M q a else N1 i j) = tabOf n (N (q + 1)) := tabOf_congr fun i j hi hj => by
        show (if i = q ∧ j = b then M q a else if i = q ∧ j = a then M q b else if i < q then M i (swp a b j).toNat else M i j) = if i < q + 1 then M i (swp a b j).toNat else M i j
        by_cases c1 : i = q
        · subst c1
          rw [if_pos (show i < i + 1 by omega), swp_nat]
          by_cases c2 : j = b
          · rw [if_pos ⟨rfl, c2⟩, if_neg (by omega), if_pos c2]
          · rw [if_neg (fun z => c2 z.2)]
            by_cases c3 : j = a
            · rw [if_pos ⟨rfl, c3⟩, if_pos c3]
            · rw [if_neg (fun z => c3 z.2), if_neg (by omega), if_neg c3, if_neg c2]
        · rw [if_neg (fun z => c1 z.1), if_neg (fun z => c1 z.1)]
          by_cases c3 : i < q
          · rw [if_pos c3, if_pos (show i < q + 1 by omega)]
          · rw [if_neg c3, if_neg (show ¬ i < q + 1 by omega)]
      rw [en]
      rfl, rfl⟩
    rw [← L, z0]
end PM

set_option Elab.async false
set_option linter.all false
set_option maxRecDepth 100000
set_option maxHeartbeats 4000000
/-! The mathematics, part w: moves drawn, a move that is none; lists of moves compared. -/
namespace PM
open PySem hiding Env
open PL
/-- the move that a cell tells -/
def mvOf (n : Nat) (c : Int) : Option Mv :=
  if c % 4 < 2 then some (if c % 4 = 0 then .row (c / 4 % n) else .col (c / 4 % n))
  else if c / 4 % n = c / 128 % n then none
  else some (if c % 4 = 2 then .rows (min (c / 4 % n) (c / 128 % n)) (max (c / 4 % n) (c / 128 % n)) else .cols (min (c / 4 % n) (c / 128 % n)) (max (c / 4 % n) (c / 128 % n)))
def mvsL (ns : List Int) (s n : Nat) (l : List Nat) : List Mv := l.filterMap fun k => mvOf n (cellZ ns ((s + k : Nat) : Int))
theorem mvOf_ok {n : Nat} (hn : 1 ≤ n) (c : Int) (m : Mv) (h : mvOf n c = some m) : mvOk n m = true := by
  unfold mvOf at h
  have a := Int.emod_nonneg (c / 4) (show (n : Int) ≠ 0 by omega)
  have b := Int.emod_lt_of_pos (c / 4) (show 0 < (n : Int) by omega)
  have a' := Int.emod_nonneg (c / 128) (show (n : Int) ≠ 0 by omega)
  have b' := Int.emod_lt_of_pos (c / 128) (show 0 < (n : Int) by omega)
  generalize c / 4 % (n : Int) = x at *
  generalize c / 128 % (n : Int) = y at *
  split at h
  · cases h
    split <;> exact decide_eq_true ⟨a, b⟩
  · split at h
    · cases h
    · cases h
      split
      · exact decide_eq_true (by omega)
      · exact decide_eq_true (by omega)
theorem mvs_ok {n : Nat} (hn : 1 ≤ n) (ns : List Int) (s : Nat) (l : List Nat) : (mvsL ns s n l).all (mvOk n) = true := by
  rw [List.all_eq_true]
  intro m hm
  unfold mvsL at hm
  obtain ⟨k, _, h⟩ := List.mem_filterMap.mp hm
  exact mvOf_ok hn _ m h
theorem mvs_len (ns : List Int) (s n : Nat) (l : List Nat) : (mvsL ns s n l).length ≤ l.length := List.length_filterMap_le _ _
theorem mv_snoc (ms : List Mv) (m : Mv) : D.lst (ms.map mvD ++ [mvD m]) = .lst ((ms ++ [m]).map mvD) := by
  rw [List.map_append]; rfl
theorem flat_mvs : ∀ ms : List Mv, flatA (ms.map mvD) = true
  | [] => rfl
  | m :: ms => by
    rw [List.map_cons, flatA_cons, flat_mv, flat_mvs ms]; rfl
theorem lvL_mvs (ms : List Mv) : lvL (ms.map mvD) = .full := by unfold lvL; rw [if_pos (flat_mvs ms)]
theorem V_lawmoves (ns : List Int) (s n m : Nat) (hn : 1 ≤ n) (hs : s + m ≤ 1000) : F__law_moves [.scr ns, .lst [.int (s : Int)], .int (n : Int), .int (m : Int)] = some (.ok (.lst ((mvsL ns s n (List.range m)).map mvD)) .full) := by
  have e0 : envM 9 [.scr ns, .lst [.int (s : Int)], .int (n : Int), .int (m : Int)] = [some (.scr ns, .sh), some (.lst [.int (s : Int)], .full), some (.int (n : Int), .full), some (.int (m : Int), .full), none, none, none, none, none] := rfl
  have fin : g__law_moves (envM 9 [.scr ns, .lst [.int (s : Int)], .int (n : Int), .int (m : Int)]) = some (.ret (.lst ((mvsL ns s n (List.range m)).map mvD)) .full) := by
    rw [e0]
    unfold g__law_moves
    let E1 : List Nat → Env := fun p => [some (.scr ns, .sh), some (.lst [.int ((s + p.length : Nat) : Int)], .full), some (.int (n : Int), .full), some (.int (m : Int), .full), some (.lst ((mvsL ns s n p).map mvD), .full), none, none, none, none]
    refine seq_of (e := E1 []) (by simp [E1, mvsL]) ?_
    have L1 : S.forR (E.iRng1 [(E.var 3)]) [5] [5, 6, 7, 8] b1__law_moves (E1 []) = some (.next (E1 (List.range m))) := by
      rw [forR_eq, rng1_eq (n := m) rfl (by omega)]
      refine forGo_all (fun (k : Nat) => [D.int (k : Int)]) E1 _ fun p k q hp => ?_
      obtain ⟨rfl, hk⟩ := range_at hp
      have pl := mvs_len ns s n p
      obtain ⟨c, hc⟩ : ∃ c, c = cellZ ns ((s + p.length : Nat) : Int) := ⟨_, rfl⟩
      have eL : mvsL ns s n (p ++ [p.length]) = mvsL ns s n p ++ (mvOf n c).toList := by
        unfold mvsL
        rw [List.filterMap_append, hc]
        have : ∀ (o : Option Mv) (f : Nat → Option Mv) (k : Nat), f k = o → List.filterMap f [k] = o.toList := fun o f k h => by
          rw [List.filterMap_cons, h]
          cases o <;> rfl
        rw [this _ _ _ rfl]
      refine ⟨[some (.scr ns, .sh), some (.lst [.int ((s + p.length + 1 : Nat) : Int)], .full), some (.int (n : Int), .full), some (.int (m : Int), .full), some (.lst ((mvsL ns s n p ++ (mvOf n c).toList).map mvD), .full), some (.int (p.length : Int), .full), some (.int c, .full), some (.int (c / 4 % n), .full), some (.int (c / 128 % n), .full)], ?_, ?_⟩
      · show b1__law_moves [some (.scr ns, .sh), some (.lst [.int ((s + p.length : Nat) : Int)], .full), some (.int (n : Int), .full), some (.int (m : Int), .full), some (.lst ((mvsL ns s n p).map mvD), .full), some (.int (p.length : Int), .full), none, none, none] = _
        unfold b1__law_moves
        refine seq_of (nextC_of (i := 0) (j := 1) (m := 6) rfl rfl (by omega) (by omega) (by decide)) ?_
        rw [← hc]
        have d4 := fdivD_int (i := c) (j := 4) (by decide)
        have d128 := fdivD_int (i := c) (j := 128) (by decide)
        have m4 := modD_int (i := c) (j := 4) (by decide)
        have ma := modD_int (i := c / 4) (j := (n : Int)) (by omega)
        have mb := modD_int (i := c / 128) (j := (n : Int)) (by omega)
        refine seq_of (e := [some (.scr ns, .sh), some (.lst [.int ((s + p.length + 1 : Nat) : Int)], .full), some (.int (n : Int), .full), some (.int (m : Int), .full), some (.lst ((mvsL ns s n p).map mvD), .full), some (.int (p.length : Int), .full), some (.int c, .full), some (.int (c / 4 % n), .full), none]) (by simp [d4, ma]) ?_
        refine seq_of (e := [some (.scr ns, .sh), some (.lst [.int ((s + p.length + 1 : Nat) : Int)], .full), some (.int (n : Int), .full), some (.int (m : Int), .full), some (.lst ((mvsL ns s n p).map mvD), .full), some (.int (p.length : Int), .full), some (.int c, .full), some (.int (c / 4 % n), .full), some (.int (c / 128 % n), .full)]) (by simp [d128, mb]) ?_
        let E9 : Env := [some (.scr ns, .sh), some (.lst [.int ((s + p.length + 1 : Nat) : Int)], .full), some (.int (n : Int), .full), some (.int (m : Int), .full), some (.lst ((mvsL ns s n p).map mvD), .full), some (.int (p.length : Int), .full), some (.int c, .full), some (.int (c / 4 % n), .full), some (.int (c / 128 % n), .full)]
        have ap : ∀ (fe : SE) (mv : Mv), fe E9 = some (mvD mv, .full) → S.app 4 fe E9 = some (.next (E9.set 4 (some (.lst ((mvsL ns s n p ++ [mv]).map mvD), .full)))) := fun fe mv h => by
          rw [app_eq, h]
          show (if ((mvsL ns s n p).map mvD).length < 1000000 then some (Res.next (E9.set 4 (some (.lst ((mvsL ns s n p).map mvD ++ [mvD mv]), .full)))) else none) = _
          rw [if_pos (by simp; omega), mv_snoc]
        have h0 := Int.emod_nonneg c (show (4 : Int) ≠ 0 by decide)
        have h4 := Int.emod_lt_of_pos c (show (0 : Int) < 4 by decide)
        have s1 : ixD (.lst [.str "row", .str "column"]) (.int 0) = some (.str "row", .full) := rfl
        have s2 : ixD (.lst [.str "row", .str "column"]) (.int 1) = some (.str "column", .full) := rfl
        have s3 : ixD (.lst [.str "rows", .str "columns"]) (.int 0) = some (.str "rows", .full) := rfl
        have s4 : ixD (.lst [.str "rows", .str "columns"]) (.int 1) = some (.str "columns", .full) := rfl
        have mi : (if c / 128 % (n : Int) < c / 4 % n then c / 128 % (n : Int) else c / 4 % n) = min (c / 4 % (n : Int)) (c / 128 % n) := by
          generalize c / 4 % (n : Int) = x
          generalize c / 128 % (n : Int) = y
          split <;> omega
        have mx : (if c / 128 % (n : Int) > c / 4 % n then c / 128 % (n : Int) else c / 4 % n) = max (c / 4 % (n : Int)) (c / 128 % n) := by
          generalize c / 4 % (n : Int) = x
          generalize c / 128 % (n : Int) = y
          split <;> omega
        show S.ite _ _ _ E9 = _
        by_cases c2 : c % 4 < 2
        · rw [ite_t (lv := .full) (by simp [E9, m4, c2])]
          by_cases c0 : c % 4 = 0
          · have e : mvOf n c = some (.row (c / 4 % n)) := by unfold mvOf; rw [if_pos c2, if_pos c0]
            rw [e]
            exact ap _ _ (by simp [E9, m4, c0, s1, mvD])
          · have c1 : c % 4 = 1 := by omega
            have e : mvOf n c = some (.col (c / 4 % n)) := by unfold mvOf; rw [if_pos c2, if_neg c0]
            rw [e]
            exact ap _ _ (by simp [E9, m4, c1, s2, mvD])
        · rw [ite_f (lv := .full) (by simp [E9, m4, c2])]
          by_cases ce : c / 4 % (n : Int) = c / 128 % n
          · have e : mvOf n c = none := by unfold mvOf; rw [if_neg c2, if_pos ce]
            rw [e, ite_f (lv := .full) (by simp [E9, ce])]
            simp [E9]
          · rw [ite_t (lv := .full) (by simp [E9, ce])]
            by_cases c0 : c % 4 = 2
            · have e : mvOf n c = some (.rows (min (c / 4 % (n : Int)) (c / 128 % n)) (max (c / 4 % (n : Int)) (c / 128 % n))) := by unfold mvOf; rw [if_neg c2, if_neg ce, if_pos c0]
              rw [e]
              exact ap _ _ (by
                simp only [E9, tuple_eq, evA_cons, evA_nil, bin_eq, list_eq, evF_cons, evF_nil, blt_eq, c_eq, var_eq, List.getElem?_cons_zero, List.getElem?_cons_succ, lvS_int, m4, c0, subD_int, s3, show (2 : Int) - 2 = 0 from rfl, min2D_int, max2D_int, mi, mx, mvD]
                rfl)
            · have c1 : c % 4 = 3 := by omega
              have e : mvOf n c = some (.cols (min (c / 4 % (n : Int)) (c / 128 % n)) (max (c / 4 % (n : Int)) (c / 128 % n))) := by unfold mvOf; rw [if_neg c2, if_neg ce, if_neg c0]
              rw [e]
              exact ap _ _ (by
                simp only [E9, tuple_eq, evA_cons, evA_nil, bin_eq, list_eq, evF_cons, evF_nil, blt_eq, c_eq, var_eq, List.getElem?_cons_zero, List.getElem?_cons_succ, lvS_int, m4, c1, subD_int, s4, show (3 : Int) - 2 = 1 from rfl, min2D_int, max2D_int, mi, mx, mvD]
                rfl)
      · simp only [E1, eL, List.length_append, List.length_singleton]
        rfl
    refine seq_of L1 ?_
    rfl
  unfold F__law_moves runM
  rw [fin]
/-! a move that is none -/
theorem V_lawwrong (n : Nat) (c : Int) (hn : 1 ≤ n) : ∃ m, F__law_wrong [.int (n : Int), .int c] = some (.ok (mvD m) .full) ∧ mvOk n m = false := by
  have e0 : env0 6 [.int (n : Int), .int c] = [some (.int (n : Int), .full), some (.int c, .full), none, none, none, none] := rfl
  have m4 := modD_int (i := c) (j := 4) (by decide)
  have d4 := fdivD_int (i := c) (j := 4) (by decide)
  have m44 := modD_int (i := c / 4) (j := 4) (by decide)
  have d2048 := fdivD_int (i := c) (j := 2048) (by decide)
  have m20 := modD_int (i := c / 2048) (j := 10 ^ 20) (by decide)
  have d16 := fdivD_int (i := c) (j := 16) (by decide)
  have mn := modD_int (i := c / 16) (j := (n : Int)) (by omega)
  have d512 := fdivD_int (i := c) (j := 512) (by decide)
  have m5 := modD_int (i := c / 512) (j := 4) (by decide)
  have a0 := Int.emod_nonneg (c / 16) (show (n : Int) ≠ 0 by omega)
  have a1 := Int.emod_lt_of_pos (c / 16) (show 0 < (n : Int) by omega)
  have f0 := Int.emod_nonneg (c / 2048) (show (10 ^ 20 : Int) ≠ 0 by decide)
  obtain ⟨far, hfar⟩ : ∃ x, x = c / 2048 % 10 ^ 20 := ⟨_, rfl⟩
  obtain ⟨at_, hat⟩ : ∃ x, x = c / 16 % (n : Int) := ⟨_, rfl⟩
  rw [← hfar] at m20 f0
  rw [← hat] at mn a0 a1
  let kinds : List D := [.str "row", .str "column", .str "rows", .str "columns"]
  obtain ⟨q, hq, hq4⟩ : ∃ q : Nat, c % 4 = (q : Int) ∧ q < 4 := ⟨(c % 4).toNat, by omega, by omega⟩
  obtain ⟨r, hr, hr4⟩ : ∃ q : Nat, c / 4 % 4 = (q : Int) ∧ q < 4 := ⟨(c / 4 % 4).toNat, by omega, by omega⟩
  obtain ⟨t, ht, ht4⟩ : ∃ q : Nat, c / 512 % 4 = (q : Int) ∧ q < 4 := ⟨(c / 512 % 4).toNat, by omega, by omega⟩
  rw [hq] at m4
  rw [hr] at m44
  rw [ht] at m5
  let offs : List Int := [-1, (n : Int), -1 - far, (n : Int) + far]
  have ixo : ixD (dI offs) (.int (r : Int)) = some (.int (offs[r]'hr4), .full) := ix_ints (xs := offs) hr4
  obtain ⟨off, hoff⟩ : ∃ x, x = offs[r]'hr4 := ⟨_, rfl⟩
  rw [← hoff] at ixo
  have ob : off < 0 ∨ (n : Int) ≤ off := by
    have hm : off ∈ offs := by rw [hoff]; exact List.getElem_mem _
    simp only [offs, List.mem_cons, List.not_mem_nil, or_false] at hm
    rcases hm with e | e | e | e <;> omega
  obtain ⟨kd, hkd, hk2⟩ : ∃ kd : Str, ixD (.lst [.str "row", .str "column", .str "rows", .str "columns"]) (.int (q : Int)) = some (.str kd, .full) ∧ ((q = 0 ∧ kd = "row") ∨ (q = 1 ∧ kd = "column") ∨ (q = 2 ∧ kd = "rows") ∨ (q = 3 ∧ kd = "columns")) := by
    match q, hq4 with
    | 0, _ => exact ⟨"row", rfl, .inl ⟨rfl, rfl⟩⟩
    | 1, _ => exact ⟨"column", rfl, .inr (.inl ⟨rfl, rfl⟩)⟩
    | 2, _ => exact ⟨"rows", rfl, .inr (.inr (.inl ⟨rfl, rfl⟩))⟩
    | 3, _ => exact ⟨"columns", rfl, .inr (.inr (.inr ⟨rfl, rfl⟩))⟩
  have steps : ∀ (g : SS) (r : Res), g [some (.int (n : Int), .full), some (.int c, .full), some (.str kd, .full), some (.int far, .full), some (.int off, .full), some (.int at_, .full)] = some r →
      S.seq (S.set 2 (Xo.of (E.bin ixD (E.list [(E.c (.str "row")), (E.c (.str "column")), (E.c (.str "rows")), (E.c (.str "columns"))]) (E.bin modD (E.var 1) (E.c (.int 4)))))) (S.seq (S.set 3 (Xo.of (E.bin modD (E.bin fdivD (E.var 1) (E.c (.int 2048))) (E.bin powD (E.c (.int 10)) (E.c (.int 20)))))) (S.seq (S.set 4 (Xo.of (E.bin ixD (E.list [(E.un negD (E.c (.int 1))), (E.var 0), (E.bin subD (E.un negD (E.c (.int 1))) (E.var 3)), (E.bin addD (E.var 0) (E.var 3))]) (E.bin modD (E.bin fdivD (E.var 1) (E.c (.int 4))) (E.c (.int 4)))))) (S.seq (S.set 5 (Xo.of (E.bin modD (E.bin fdivD (E.var 1) (E.c (.int 16))) (E.var 0)))) g))) [some (.int (n : Int), .full), some (.int c, .full), none, none, none, none] = some r := fun g r h => by
    refine seq_of (e := [some (.int (n : Int), .full), some (.int c, .full), some (.str kd, .full), none, none, none]) (by simp [m4, hkd]) ?_
    refine seq_of (e := [some (.int (n : Int), .full), some (.int c, .full), some (.str kd, .full), some (.int far, .full), none, none]) (by
      rw [set_eq, xof_eq, pow20]
      simp only [bin_eq, var_eq, c_eq, List.getElem?_cons_zero, List.getElem?_cons_succ, lvS_int, d2048, m20]
      rfl) ?_
    refine seq_of (e := [some (.int (n : Int), .full), some (.int c, .full), some (.str kd, .full), some (.int far, .full), some (.int off, .full), none]) (by
      rw [set_eq, xof_eq]
      simp only [bin_eq, un_eq, list_eq, evF_cons, evF_nil, var_eq, c_eq, List.getElem?_cons_zero, List.getElem?_cons_succ, lvS_int, negD_int, subD_int, addD_int, d4, m44, show D.lst [.int (-1), .int (n : Int), .int (-1 - far), .int ((n : Int) + far)] = dI offs from rfl, ixo]
      rfl) ?_
    refine seq_of (e := [some (.int (n : Int), .full), some (.int c, .full), some (.str kd, .full), some (.int far, .full), some (.int off, .full), some (.int at_, .full)]) (by simp [d16, mn]) ?_
    exact h
  by_cases c2 : c % 4 < 2
  · have small : F__law_wrong [.int (n : Int), .int c] = some (.ok (.tup [.str kd, .int off]) .full) := by
      refine run_ret ?_
      unfold g__law_wrong
      rw [e0]
      refine steps _ _ (seq_ret ?_)
      rw [ite_t (lv := .full) (by
        have : ((q : Int) < 2) = True := eq_true (by omega)
        simp [m4, this])]
      simp
    have no : ¬ (0 ≤ off ∧ off < n) := by omega
    rcases hk2 with ⟨_, rfl⟩ | ⟨_, rfl⟩ | ⟨h, _⟩ | ⟨h, _⟩
    · exact ⟨.row off, small, decide_eq_false no⟩
    · exact ⟨.col off, small, decide_eq_false no⟩
    · omega
    · omega
  · let prs : List (Int × Int) := [(off, at_), (at_, off), (at_, at_), (at_, at_ - 1)]
    have ixp : ixD (.lst [.tup [.str kd, .int off, .int at_], .tup [.str kd, .int at_, .int off], .tup [.str kd, .int at_, .int at_], .tup [.str kd, .int at_, .int (at_ - 1)]]) (.int (t : Int)) = some (.tup [.str kd, .int (prs[t]'ht4).1, .int (prs[t]'ht4).2], .full) := by
      match t, ht4 with
      | 0, _ => rfl
      | 1, _ => rfl
      | 2, _ => rfl
      | 3, _ => rfl
    obtain ⟨pr, hpr⟩ : ∃ x, x = prs[t]'ht4 := ⟨_, rfl⟩
    rw [← hpr] at ixp
    have no : ¬ (0 ≤ pr.1 ∧ pr.1 < pr.2 ∧ pr.2 < n) := by
      have hm : pr ∈ prs := by rw [hpr]; exact List.getElem_mem _
      simp only [prs, List.mem_cons, List.not_mem_nil, or_false] at hm
      rcases hm with e | e | e | e <;> rw [e] <;> dsimp only <;> omega
    have big : F__law_wrong [.int (n : Int), .int c] = some (.ok (.tup [.str kd, .int pr.1, .int pr.2]) .full) := by
      refine run_ret ?_
      unfold g__law_wrong
      rw [e0]
      refine steps _ _ (seq_of (e := [some (.int (n : Int), .full), some (.int c, .full), some (.str kd, .full), some (.int far, .full), some (.int off, .full), some (.int at_, .full)]) ?_ ?_)
      · rw [ite_f (lv := .full) (by
          have : ((q : Int) < 2) = False := eq_false (by omega)
          simp [m4, this])]
        rfl
      · rw [ret_eq, xof_eq]
        simp only [bin_eq, list_eq, evF_cons, evF_nil, tuple_eq, evA_cons, evA_nil, var_eq, c_eq, List.getElem?_cons_zero, List.getElem?_cons_succ, lvS_int, lvS_str, flatA_cons, flatA_nil, flatD_str, flatD_int, Bool.and_self, if_true, subD_int, d512, m5, ixp]
    rcases hk2 with ⟨h, _⟩ | ⟨h, _⟩ | ⟨_, rfl⟩ | ⟨_, rfl⟩
    · omega
    · omega
    · exact ⟨.rows pr.1 pr.2, big, decide_eq_false no⟩
    · exact ⟨.cols pr.1 pr.2, big, decide_eq_false no⟩
/-! lists of moves compared -/
theorem noScr_mv (m : Mv) : noScr (mvD m) = true := by cases m <;> (simp only [mvD, noScr, noScrA, Bool.and_true]; decide +kernel)
theorem dep_mv (m : Mv) : dep (mvD m) = 1 := by cases m <;> (simp only [mvD, dep, depA]; rfl)
theorem noScr_mvs : ∀ ms : List Mv, noScrA (ms.map mvD) = true
  | [] => rfl
  | m :: ms => by rw [List.map_cons, noScrA, noScr_mv, noScr_mvs ms]; rfl
theorem dep_mvs : ∀ ms : List Mv, depA (ms.map mvD) ≤ 1
  | [] => by rw [List.map_nil, depA]; omega
  | m :: ms => by
    have := dep_mvs ms
    rw [List.map_cons, depA, dep_mv]; omega
theorem okd_mmv (a : List (List Int)) (ms : List Mv) : okd (.lst [dM a, .lst (ms.map mvD)]) = true := by
  have h1 := okd_rows a
  have n1 : noScr (dM a) = true := (Bool.and_eq_true_iff.mp h1).1
  have n2 : noScr (.lst (ms.map mvD)) = true := by rw [noScr]; exact noScr_mvs ms
  have d1 := dep_rows a
  have d2 := dep_mvs ms
  have e1 : dep (dM a) = depA (a.map dI) + 1 := by unfold dep; rfl
  have e2 : dep (.lst (ms.map mvD)) = depA (ms.map mvD) + 1 := by unfold dep; rfl
  have e3 : dep (.lst [dM a, .lst (ms.map mvD)]) = max (dep (dM a)) (max (dep (.lst (ms.map mvD))) 0) + 1 := by
    rw [dep, depA, depA, depA]
  have e4 : noScr (.lst [dM a, .lst (ms.map mvD)]) = true := by
    rw [noScr, noScrA, noScrA, noScrA, n1, n2]; rfl
  unfold okd
  rw [e4, Bool.true_and]
  exact decide_eq_true (by omega)
end PM

set_option Elab.async false
set_option linter.all false
set_option maxRecDepth 100000
set_option maxHeartbeats 4000000
/-! The mathematics, part y: tables by doubling, their rows as numbers; what leads one to the plain one. -/
namespace PM
open PySem hiding Env
open PL
def pc (x : Nat) : Nat := x % 2 + x / 2 % 2 + x / 4 % 2
/-- the table by doubling -/
def W (a b : Nat) : Int := if pc (a &&& b) % 2 = 0 then 1 else -1
theorem W_one (a b : Nat) : one1P (W a b) := by
  unfold W one1P
  split
  · exact .inl rfl
  · exact .inr rfl
def szs : List (Nat × Nat) := [(1, 0), (2, 1), (4, 2), (8, 3)]
theorem W_plain : ∀ p ∈ szs, plainT p.1 = tabOf p.1 W := by decide +kernel
theorem W_mul : ∀ a, a < 8 → ∀ b, b < 8 → ∀ c, c < 8 → W (a ^^^ b) c = W a c * W b c := by decide +kernel
theorem W_mulr : ∀ a, a < 8 → ∀ b, b < 8 → ∀ c, c < 8 → W c (a ^^^ b) = W c a * W c b := by decide +kernel
theorem W_zero : ∀ a, a < 8 → W 0 a = 1 ∧ W a 0 = 1 := by decide +kernel
theorem xor_lt : ∀ p ∈ szs, ∀ a, a < p.1 → ∀ b, b < p.1 → a ^^^ b < p.1 := by decide +kernel
theorem xor_two : ∀ a, a < 8 → ∀ b, b < 8 → (a ^^^ b) ^^^ b = a := by decide +kernel
theorem W_inj : ∀ p ∈ szs, ∀ a, a < p.1 → ∀ b, b < p.1 → (∀ c, c < p.1 → W a c = W b c) → a = b := by decide +kernel
/-- one to one, onto -/
structure Bij (n : Nat) (f : Nat → Nat) : Prop where
  lt : ∀ k, k < n → f k < n
  inj : ∀ k j, k < n → j < n → f k = f j → k = j
  sur : ∀ y, y < n → ∃ x, x < n ∧ f x = y
theorem Bij.comp {n : Nat} {f g : Nat → Nat} (hf : Bij n f) (hg : Bij n g) : Bij n fun k => f (g k) :=
  ⟨fun k hk => hf.lt _ (hg.lt k hk), fun k j hk hj e => hg.inj k j hk hj (hf.inj _ _ (hg.lt k hk) (hg.lt j hj) e), fun y hy => by
    obtain ⟨x, hx, e⟩ := hf.sur y hy
    obtain ⟨z, hz, e2⟩ := hg.sur x hx
    exact ⟨z, hz, by rw [e2, e]⟩⟩
theorem Bij.id (n : Nat) : Bij n fun k => k := ⟨fun _ h => h, fun _ _ _ _ e => e, fun y hy => ⟨y, hy, rfl⟩⟩
theorem Bij.of_perm {n : Nat} {l : List Nat} (h : l.Perm (List.range n)) : Bij n (fun k => l.getD k 0) := by
  have o := ord_of h
  have hl : l.length = n := by rw [h.length_eq, List.length_range]
  refine ⟨o.lt, o.inj, fun y hy => ?_⟩
  obtain ⟨i, hi, e⟩ := List.getElem_of_mem (h.mem_iff.mpr (List.mem_range.mpr hy))
  exact ⟨i, by omega, by rw [PM.getD_at hi, e]⟩
theorem Bij.xor {p : Nat × Nat} (hp : p ∈ szs) (h8 : p.1 ≤ 8) {f : Nat → Nat} (hf : Bij p.1 f) {c : Nat} (hc : c < p.1) : Bij p.1 fun k => f k ^^^ c :=
  ⟨fun k hk => xor_lt p hp _ (hf.lt k hk) c hc, fun k j hk hj e => hf.inj k j hk hj (by
    have this : (f k ^^^ c) ^^^ c = (f j ^^^ c) ^^^ c := congrArg (· ^^^ c) e
    rwa [xor_two _ (by have := hf.lt k hk; omega) c (by omega), xor_two _ (by have := hf.lt j hj; omega) c (by omega)] at this), fun y hy => by
    obtain ⟨x, hx, e⟩ := hf.sur (y ^^^ c) (xor_lt p hp y hy c hc)
    exact ⟨x, hx, by rw [e, xor_two y (by omega) c (by omega)]⟩⟩
theorem szs8 {p : Nat × Nat} (hp : p ∈ szs) : 1 ≤ p.1 ∧ p.1 ≤ 8 := by
  simp only [szs, List.mem_cons, List.not_mem_nil, or_false] at hp
  rcases hp with rfl | rfl | rfl | rfl <;> decide
/-- rows and columns of the table by doubling in some order, some turned -/
def Syl (n : Nat) (M : Mx) : Prop := ∃ (s t : Nat → Int) (π σ : Nat → Nat), (∀ k, k < n → one1P (s k)) ∧ (∀ k, k < n → one1P (t k)) ∧ Bij n π ∧ Bij n σ ∧ ∀ i j, i < n → j < n → M i j = s i * t j * W (π i) (σ j)
/-- the plain one of it -/
theorem Syl.plain {p : Nat × Nat} (hp : p ∈ szs) {M : Mx} (h : Syl p.1 M) : ∃ π σ, Bij p.1 π ∧ Bij p.1 σ ∧ π 0 = 0 ∧ σ 0 = 0 ∧ eqn p.1 (plM M) fun i j => W (π i) (σ j) := by
  obtain ⟨s, t, π, σ, hs, ht, hπ, hσ, e⟩ := h
  have h8 := szs8 hp
  have p0 := hπ.lt 0 (by omega)
  have s0 := hσ.lt 0 (by omega)
  refine ⟨fun k => π k ^^^ π 0, fun k => σ k ^^^ σ 0, hπ.xor hp h8.2 p0, hσ.xor hp h8.2 s0, Nat.xor_self _, Nat.xor_self _, fun i j hi hj => ?_⟩
  have pi := hπ.lt i hi
  have sj := hσ.lt j hj
  show M i j * M 0 j * (M i 0 * M 0 0) = W (π i ^^^ π 0) (σ j ^^^ σ 0)
  rw [e i j hi hj, e 0 j (by omega) hj, e i 0 hi (by omega), e 0 0 (by omega) (by omega), W_mul _ (by omega) _ (by omega) _ (by
    have := xor_lt p hp (σ j) sj (σ 0) s0
    omega), W_mulr _ (by omega) _ (by omega) _ (by omega), W_mulr _ (by omega) _ (by omega) _ (by omega)]
  have a1 := (hs i hi).sq
  have a2 := (hs 0 (by omega)).sq
  have a3 := (ht j hj).sq
  have a4 := (ht 0 (by omega)).sq
  generalize W (π i) (σ j) = w1
  generalize W (π 0) (σ j) = w2
  generalize W (π i) (σ 0) = w3
  generalize W (π 0) (σ 0) = w4
  generalize s i = x1 at *
  generalize s 0 = x2 at *
  generalize t j = x3 at *
  generalize t 0 = x4 at *
  have : x1 * x3 * w1 * (x2 * x3 * w2) * (x1 * x4 * w3 * (x2 * x4 * w4)) = (x1 * x1) * (x2 * x2) * (x3 * x3) * (x4 * x4) * (w1 * w2 * w3 * w4) := by grind
  rw [this, a1, a2, a3, a4]
  grind
/-! what the first rows span -/
def sp1 (kv : List Nat) (q : Nat) : List Nat := kv ++ kv.map fun x => q ^^^ x
def spn (u : List Nat) : List Nat := u.foldl sp1 [0]
def indF : List Nat → List Nat → Bool
  | _, [] => true
  | kv, q :: r => (!decide (q ∈ kv)) && indF (sp1 kv q) r
def ind (u : List Nat) : Bool := indF [0] u
theorem indF_snoc : ∀ (u kv : List Nat) (q : Nat), indF kv (u ++ [q]) = (indF kv u && !decide (q ∈ u.foldl sp1 kv))
  | [], kv, q => by
    show ((!decide (q ∈ kv)) && true) = (true && !decide (q ∈ kv))
    rw [Bool.and_true, Bool.true_and]
  | x :: u, kv, q => by
    show ((!decide (x ∈ kv)) && indF (sp1 kv x) (u ++ [q])) = (((!decide (x ∈ kv)) && indF (sp1 kv x) u) && !decide (q ∈ u.foldl sp1 (sp1 kv x)))
    rw [indF_snoc u (sp1 kv x) q, Bool.and_assoc]
theorem spn_snoc (u : List Nat) (q : Nat) : spn (u ++ [q]) = sp1 (spn u) q := by unfold spn; rw [List.foldl_append]; rfl
def lists (n : Nat) : Nat → List (List Nat)
  | 0 => [[]]
  | k + 1 => (List.range n).flatMap fun x => (lists n k).map fun l => x :: l
theorem mem_lists {n : Nat} : ∀ {u : List Nat}, (∀ x ∈ u, x < n) → u ∈ lists n u.length
  | [], _ => by simp [lists]
  | x :: u, h => by
    unfold lists
    exact List.mem_flatMap.mpr ⟨x, List.mem_range.mpr (h x List.mem_cons_self), List.mem_map.mpr ⟨u, mem_lists fun y hy => h y (List.mem_cons_of_mem _ hy), rfl⟩⟩
def covers (n : Nat) (u : List Nat) : Bool := (List.range n).all fun x => decide (x ∈ spn u)
/-- the number that ones and less ones write -/
def cod : List Int → Nat
  | [] => 0
  | x :: xs => (if x = -1 then 1 else 0) + 2 * cod xs
def cu (u : List Nat) (x : Nat) : Nat := cod (u.map fun q => W q x)
def ends (n : Nat) : List Nat := [1, 2, 4].filter fun t => decide (t < n)
def inv (n : Nat) (u : List Nat) (t : Nat) : Nat := ((List.range n).find? fun x => decide (cu u x = t)).getD 0
def eu (n : Nat) (u : List Nat) (q : Nat) : Nat := cod ((ends n).map fun t => W q (inv n u t))
def good (n : Nat) (u : List Nat) : Bool :=
  ((List.range n).all fun x => decide (cu u x < n) && decide (inv n u x < n) && decide (cu u (inv n u x) = x) && decide (inv n u (cu u x) = x)) &&
  ((List.range n).all fun q => decide (eu n u q < n) && (List.range n).all fun x => decide (W q x = W (eu n u q) (cu u x))) &&
  ((List.range n).all fun t => (List.range n).any fun q => decide (eu n u q = t)) && ((List.range n).all fun q => (List.range n).all fun r => decide (eu n u q = eu n u r → q = r))
theorem chk_good : ∀ p ∈ szs, ((List.range (p.2 + 1)).all fun k => (lists p.1 k).all fun u => !covers p.1 u || good p.1 u) = true := by decide +kernel
theorem chk_cov : ∀ p ∈ szs, ((lists p.1 p.2).all fun u => !ind u || covers p.1 u) = true := by decide +kernel
end PM

set_option Elab.async false
set_option linter.all false
set_option maxRecDepth 100000
set_option maxHeartbeats 4000000
/-! The mathematics, part z: small tables led to the plain one. -/
namespace PM
open PySem hiding Env
open PL

theorem cod_snoc : ∀ (p : List Int) (x : Int), cod (p ++ [x]) = cod p + (if x = -1 then 1 else 0) * 2 ^ p.length
  | [], x => by simp [cod]
  | y :: p, x => by
    show (if y = -1 then 1 else 0) + 2 * cod (p ++ [x]) = ((if y = -1 then 1 else 0) + 2 * cod p) + (if x = -1 then 1 else 0) * 2 ^ (p.length + 1)
    rw [cod_snoc p x, Nat.pow_succ]
    split <;> split <;> omega
theorem V_code (xs : List Int) (h : xs.length ≤ 10) : F_code [dI xs] = some (.ok (.int (cod xs : Nat)) .full) := by
  have e0 : env0 4 [dI xs] = [some (dI xs, .sh), none, none, none] := rfl
  refine run_ret ?_
  unfold g_code
  rw [e0]
  refine seq_of (e := [some (dI xs, .sh), some (.int 0, .full), none, none]) (by simp) ?_
  let E1 : List Int → Env := fun p => [some (dI xs, .sh), some (.int ((cod p : Nat) : Int), .full), some (.int ((2 ^ p.length : Nat) : Int), .full), none]
  refine seq_of (e := E1 []) (by simp [E1, cod]) ?_
  have L1 : S.forL (E.iList (E.var 0)) [3] [3] b1_code (E1 []) = some (.next (E1 xs)) := by
    rw [forL_eq, show E.iList (E.var 0) (shOnly (E1 [])) = some (xs.map fun x => [D.int x]) by simp [E1]]
    refine forGo_all (fun x => [D.int x]) E1 xs fun p x q hp => ?_
    have hpl : p.length ≤ 10 := by
      have : xs.length = p.length + (q.length + 1) := by rw [hp]; simp
      omega
    have hpw : 2 ^ p.length ≤ 1024 := Nat.pow_le_pow_right (by decide) hpl
    refine ⟨[some (dI xs, .sh), some (.int ((cod (p ++ [x]) : Nat) : Int), .full), some (.int ((2 ^ (p ++ [x]).length : Nat) : Int), .full), some (.int x, .full)], ?_, rfl⟩
    show b1_code [some (dI xs, .sh), some (.int ((cod p : Nat) : Int), .full), some (.int ((2 ^ p.length : Nat) : Int), .full), some (.int x, .full)] = _
    unfold b1_code
    have a1 : 0 ≤ ((2 ^ p.length : Nat) : Int) := Int.natCast_nonneg _
    have a2 : ((2 ^ p.length : Nat) : Int) ≤ 1024 := Int.ofNat_le.mpr hpw
    have mu := mul_ok (i := 2) (j := ((2 ^ p.length : Nat) : Int)) (by decide) (by omega)
    have e2 : (2 : Int) * ((2 ^ p.length : Nat) : Int) = ((2 ^ (p ++ [x]).length : Nat) : Int) := by
      rw [List.length_append, List.length_singleton, Nat.pow_succ]
      omega
    refine seq_of (e := [some (dI xs, .sh), some (.int ((cod (p ++ [x]) : Nat) : Int), .full), some (.int ((2 ^ p.length : Nat) : Int), .full), some (.int x, .full)]) ?_ ?_
    · by_cases hx : x = -1
      · rw [ite_t (lv := .full) (by simp [hx]), cod_snoc, if_pos hx]
        rw [set_eq, xof_eq]
        simp only [bin_eq, var_eq, List.getElem?_cons_zero, List.getElem?_cons_succ, lvS_int, addD_int]
        rw [show ((cod p : Nat) : Int) + ((2 ^ p.length : Nat) : Int) = ((cod p + 1 * 2 ^ p.length : Nat) : Int) by omega]
        rfl
      · rw [ite_f (lv := .full) (by simp [hx]), cod_snoc, if_neg hx]
        rw [show cod p + 0 * 2 ^ p.length = cod p by omega]
        rfl
    · rw [set_eq, xof_eq]
      simp only [bin_eq, var_eq, c_eq, List.getElem?_cons_zero, List.getElem?_cons_succ, lvS_int, mu, e2]
      rfl
  refine seq_of L1 ?_
  rfl
/-! sorting by changes -/
def mk (cols : Bool) (a b : Int) : Mv := if cols = true then .cols a b else .rows a b
def wd (cols : Bool) : Str := if cols = true then "columns" else "rows"
def act (cols : Bool) (κ : Nat → Nat) (M : Mx) : Mx := if cols = true then fun i j => M i (κ j) else fun i j => M (κ i) j
theorem mk_D (cols : Bool) (a b : Int) : mvD (mk cols a b) = .tup [.str (wd cols), .int a, .int b] := by cases cols <;> rfl
theorem mk_ok {n : Nat} (cols : Bool) {a b : Nat} (h : a < b) (hb : b < n) : mvOk n (mk cols (a : Int) (b : Int)) = true := by
  cases cols <;> exact decide_eq_true (by omega)
def sw2 (a b i : Nat) : Nat := if i = a then b else if i = b then a else i
theorem mk_act (cols : Bool) (a b : Nat) (M : Mx) : mvM (mk cols (a : Int) (b : Int)) M = act cols (sw2 a b) M := by
  cases cols
  · funext i j
    show M (swp a b i).toNat j = M (sw2 a b i) j
    rw [swp_nat]; rfl
  · funext i j
    show M i (swp a b j).toNat = M i (sw2 a b j)
    rw [swp_nat]; rfl
theorem act_act (cols : Bool) (κ ρ : Nat → Nat) (M : Mx) : act cols ρ (act cols κ M) = act cols (fun i => κ (ρ i)) M := by cases cols <;> rfl
theorem bij_sw {n a b : Nat} (ha : a < n) (hb : b < n) : Bij n (sw2 a b) := by
  have two : ∀ i, sw2 a b (sw2 a b i) = i := fun i => by
    unfold sw2
    by_cases h1 : i = a
    · rw [if_pos h1]
      by_cases h2 : b = a
      · rw [if_pos h2]; omega
      · rw [if_neg h2, if_pos rfl]; omega
    · rw [if_neg h1]
      by_cases h2 : i = b
      · rw [if_pos h2, if_pos rfl]; omega
      · rw [if_neg h2, if_neg h1, if_neg h2]
  have lt : ∀ i, i < n → sw2 a b i < n := fun i hi => by
    unfold sw2
    split
    · exact hb
    · split
      · exact ha
      · exact hi
  refine ⟨lt, fun i j _ _ e => ?_, fun y hy => ⟨sw2 a b y, lt y hy, two y⟩⟩
  have := congrArg (sw2 a b) e
  rwa [two, two] at this
theorem eqV_int (a b : Int) : L2.eqV (.int a) (.int b) = decide (a = b) := by
  show (a == b) = _
  by_cases h : a = b
  · rw [h]; simp
  · rw [decide_eq_false h]; exact beq_eq_false_iff_ne.mpr h
theorem mindex_at {n : Nat} {f : Nat → Int} {z : Int} {j : Nat} (hj : j < n) (e : f j = z) (h : ∀ i, i < j → f i ≠ z) : mindexD (dI ((List.range n).map f)) (.int z) = some (.int (j : Int), .full) := by
  have fi : (((List.range n).map f).map D.int).findIdx? (fun w => L2.eqV (vOf w) (vOf (.int z))) = some j := by
    rw [List.findIdx?_eq_some_iff_getElem]
    refine ⟨by simpa using hj, ?_, fun i hi => ?_⟩
    · simp only [List.getElem_map, List.getElem_range]
      show L2.eqV (.int (f j)) (.int z) = true
      rw [eqV_int]; exact decide_eq_true e
    · simp only [List.getElem_map, List.getElem_range]
      show ¬ L2.eqV (.int (f i)) (.int z) = true
      rw [eqV_int]
      exact fun w => h i hi (of_decide_eq_true w)
  show (if atomD (.int z) = true ∧ (((List.range n).map f).map D.int).all atomD = true then (match (((List.range n).map f).map D.int).findIdx? (fun w => L2.eqV (vOf w) (vOf (.int z))) with | some j => some (D.int (j : Nat), Lv.full) | none => none) else none) = _
  rw [if_pos ⟨rfl, by rw [List.all_map]; exact List.all_eq_true.mpr fun _ _ => rfl⟩, fi]
theorem V_sorting {n : Nat} (hn : n ≤ 100) {r0 : Nat → Nat} (hr : Bij n r0) (cols : Bool) : ∃ (κ : Nat → Nat) (ms : List Mv), F_sorting [dI ((List.range n).map fun j => (r0 j : Int)), .str (wd cols)] = some (.ok (.lst (ms.map mvD)) .full) ∧
    Bij n κ ∧ (∀ j, j < n → r0 (κ j) = j) ∧ ms.all (mvOk n) = true ∧ ms.length ≤ n ∧ ∀ M : Mx, mvAll ms M = act cols κ M := by
  let cd : D := dI ((List.range n).map fun j => (r0 j : Int))
  have e0 : env0 6 [cd, .str (wd cols)] = [some (cd, .sh), some (.str (wd cols), .full), none, none, none, none] := rfl
  let P : Nat → Env → Prop := fun k e => ∃ (κ : Nat → Nat) (ms : List Mv), e = [some (cd, .sh), some (.str (wd cols), .full), some (.lst (ms.map mvD), .full), some (dI ((List.range n).map fun j => (r0 (κ j) : Int)), .full), none, none] ∧ Bij n κ ∧ (∀ j, j < k → r0 (κ j) = j) ∧ ms.all (mvOk n) = true ∧ ms.length ≤ k ∧ ∀ M : Mx, mvAll ms M = act cols κ M
  have p0 : P 0 [some (cd, .sh), some (.str (wd cols), .full), some (.lst [], .full), some (cd, .full), none, none] := ⟨fun j => j, [], rfl, Bij.id n, fun j h => by omega, rfl, Nat.le_refl _, fun M => by cases cols <;> rfl⟩
  have hit : E.iRng1 [(E.blt lenD [(E.var 3)])] [some (cd, .sh), some (.str (wd cols), .full), some (.lst [], .full), some (cd, .full), none, none] = some ((List.range' 0 n).map fun (i : Nat) => [D.int (i : Int)]) := by
    rw [← List.range_eq_range']
    exact rng1_eq (by simp [cd]) (by omega)
  obtain ⟨e, h3, κ, ms, rfl, hκ, hs, ok, hl, hm⟩ := forGo_upto (js := [4]) (ks := [4, 5]) (g := b1_sorting) (fun (i : Nat) => [D.int (i : Int)]) P n (fun k e hk he => by
    obtain ⟨κ, ms, rfl, hκ, hs, ok, hl, hm⟩ := he
    obtain ⟨j, hj, ej⟩ := (hr.comp hκ).sur k hk
    have ej : r0 (κ j) = k := ej
    have hjk : k ≤ j := Nat.not_lt.mp fun z => by
      have := hs j z
      omega
    have ix := mindex_at (n := n) (f := fun j => (r0 (κ j) : Int)) (z := (k : Int)) (j := j) hj (by omega) (fun i hi => by
      have : r0 (κ i) ≠ k := fun z => by
        have := (hr.comp hκ).inj i j (by omega) hj (z.trans ej.symm)
        omega
      omega)
    by_cases hjk2 : j = k
    · subst hjk2
      refine ⟨[some (cd, .sh), some (.str (wd cols), .full), some (.lst (ms.map mvD), .full), some (dI ((List.range n).map fun j => (r0 (κ j) : Int)), .full), some (.int (j : Int), .full), some (.int (j : Int), .full)], ?_, κ, ms, rfl, hκ, fun i hi => ?_, ok, by omega, hm⟩
      · show b1_sorting [some (cd, .sh), some (.str (wd cols), .full), some (.lst (ms.map mvD), .full), some (dI ((List.range n).map fun j => (r0 (κ j) : Int)), .full), some (.int (j : Int), .full), none] = _
        unfold b1_sorting
        refine seq_of (e := [some (cd, .sh), some (.str (wd cols), .full), some (.lst (ms.map mvD), .full), some (dI ((List.range n).map fun j => (r0 (κ j) : Int)), .full), some (.int (j : Int), .full), some (.int (j : Int), .full)]) (by
          rw [set_eq, xof_eq]
          simp only [bin_eq, var_eq, List.getElem?_cons_zero, List.getElem?_cons_succ, lvS_int, ix]
          rfl) ?_
        rw [ite_f (lv := .full) (by simp)]
        rfl
      · by_cases c : i = j
        · rw [c, ej]
        · exact hs i (by omega)
    · have hlt : k < j := by omega
      let κ2 : Nat → Nat := fun i => κ (sw2 k j i)
      have fs := F_swI n (fun j => (r0 (κ j) : Int)) k j hk hj
      have es : ((List.range n).map fun i => ((r0 (κ (if i = k then j else if i = j then k else i)) : Nat) : Int)) = (List.range n).map fun j => (r0 (κ2 j) : Int) := rfl
      rw [es] at fs
      refine ⟨[some (cd, .sh), some (.str (wd cols), .full), some (.lst ((ms ++ [mk cols k j]).map mvD), .full), some (dI ((List.range n).map fun j => (r0 (κ2 j) : Int)), .full), some (.int (k : Int), .full), some (.int (j : Int), .full)], ?_, κ2, ms ++ [mk cols k j], rfl, hκ.comp (bij_sw hk hj), fun i hi => ?_, ?_, ?_, fun M => ?_⟩
      · show b1_sorting [some (cd, .sh), some (.str (wd cols), .full), some (.lst (ms.map mvD), .full), some (dI ((List.range n).map fun j => (r0 (κ j) : Int)), .full), some (.int (k : Int), .full), none] = _
        unfold b1_sorting
        refine seq_of (e := [some (cd, .sh), some (.str (wd cols), .full), some (.lst (ms.map mvD), .full), some (dI ((List.range n).map fun j => (r0 (κ j) : Int)), .full), some (.int (k : Int), .full), some (.int (j : Int), .full)]) (by
          rw [set_eq, xof_eq]
          simp only [bin_eq, var_eq, List.getElem?_cons_zero, List.getElem?_cons_succ, lvS_int, ix]
          rfl) ?_
        have : ¬ ((j : Int) = (k : Int)) := by omega
        rw [ite_t (lv := .full) (by simp [this])]
        refine seq_of (e := [some (cd, .sh), some (.str (wd cols), .full), some (.lst ((ms ++ [mk cols k j]).map mvD), .full), some (dI ((List.range n).map fun j => (r0 (κ j) : Int)), .full), some (.int (k : Int), .full), some (.int (j : Int), .full)]) (by
          rw [app_eq]
          simp only [tuple_eq, evA_cons, evA_nil, var_eq, List.getElem?_cons_zero, List.getElem?_cons_succ, lvS_int, lvS_str, flatA_cons, flatA_nil, flatD_str, flatD_int, Bool.and_self, if_true]
          rw [if_pos (by simp; omega), ← mk_D, mv_snoc]
          rfl) ?_
        rw [set_eq, xcall_eq]
        simp only [evA_cons, evA_nil, var_eq, List.getElem?_cons_zero, List.getElem?_cons_succ, lvS_int, fs]
        rfl
      · show r0 (κ (sw2 k j i)) = i
        unfold sw2
        by_cases c : i = k
        · rw [if_pos c, ej, c]
        · rw [if_neg c, if_neg (by omega)]
          exact hs i (by omega)
      · rw [List.all_append, ok, Bool.true_and]
        show (mvOk n (mk cols k j) && true) = true
        rw [mk_ok cols hlt hj]; rfl
      · rw [List.length_append, List.length_singleton]; omega
      · rw [mvAll_append, hm]
        show mvM (mk cols k j) (act cols κ M) = _
        rw [mk_act, act_act]) n 0 [some (cd, .sh), some (.str (wd cols), .full), some (.lst [], .full), some (cd, .full), none, none] (by omega) p0
  refine ⟨κ, ms, ?_, hκ, hs, ok, hl, hm⟩
  refine run_ret ?_
  unfold g_sorting
  show _ = _
  rw [e0]
  refine seq_of (e := [some (cd, .sh), some (.str (wd cols), .full), some (.lst [], .full), none, none, none]) (by simp) ?_
  refine seq_of (e := [some (cd, .sh), some (.str (wd cols), .full), some (.lst [], .full), some (cd, .full), none, none]) (by
    rw [set_eq, xof_eq]
    simp only [cd, blt_eq, evA_cons, evA_nil, var_eq, List.getElem?_cons_zero, listC_lst, lvL_ints]
    rfl) ?_
  refine seq_of (by
    rw [forR_eq, hit]
    exact h3) ?_
  rfl
/-! the first rows -/
def Rw (n : Nat) (σ : Nat → Nat) (q : Nat) : List Int := (List.range n).map fun j => W q (σ j)
theorem any_rows (r : List Int) : ∀ rows : List (List Int), ((rows.map dI).any fun y => eqB y (dI r)) = decide (r ∈ rows)
  | [] => rfl
  | q :: rows => by
    rw [List.map_cons, List.any_cons, any_rows r rows, eqB_ints]
    by_cases h : q = r
    · subst h; simp
    · have : ¬ r = q := fun e => h e.symm
      simp [h, this]
theorem notIn_rows (r : List Int) (rows : List (List Int)) : notInD (dI r) (dM rows) = some (.bl (!decide (r ∈ rows)), .full) := by
  show (if okd (dI r) = true ∧ okd (dM rows) = true then some (D.bl (!(rows.map dI).any fun y => eqB y (dI r)), Lv.full) else none) = _
  rw [if_pos ⟨okd_ints r, okd_rows rows⟩, any_rows]
theorem Rw_inj {p : Nat × Nat} (hp : p ∈ szs) {σ : Nat → Nat} (hσ : Bij p.1 σ) {a b : Nat} (ha : a < p.1) (hb : b < p.1) (h : Rw p.1 σ a = Rw p.1 σ b) : a = b := by
  refine W_inj p hp a ha b hb fun c hc => ?_
  obtain ⟨x, hx, e⟩ := hσ.sur c hc
  have := congrArg (fun l : List Int => l[x]?) h
  unfold Rw at this
  simp only [List.getElem?_map, List.getElem?_range hx, Option.map_some, Option.some.injEq] at this
  rwa [e] at this
theorem lvL_dM {rows : List (List Int)} (h : rows ≠ []) : lvL (rows.map dI) = .out := by
  cases rows with
  | nil => exact absurd rfl h
  | cons r rows => rfl
theorem rows_tail' (n : Nat) (N : Mx) : (tabOf n N).drop 1 = (List.range (n - 1)).map fun i => (List.range n).map (N (i + 1)) := by
  cases n with
  | zero => rfl
  | succ n =>
    unfold tabOf
    rw [List.range_succ_eq_map, List.map_cons, List.drop_succ_cons, List.drop_zero, List.map_map]
    rfl
theorem V_base {p : Nat × Nat} (hp : p ∈ szs) {π σ : Nat → Nat} (hπ : Bij p.1 π) (hσ : Bij p.1 σ) (h0 : π 0 = 0) : ∃ (u : List Nat) (lv : Lv), F_base_rows [dM (tabOf p.1 fun i j => W (π i) (σ j))] = some (.ok (dM (u.map (Rw p.1 σ))) lv) ∧ (lv = .out ∨ lv = .full) ∧
    u.length ≤ p.2 ∧ (∀ x ∈ u, x < p.1) ∧ covers p.1 u = true := by
  have h8 := szs8 hp
  obtain ⟨n, d⟩ := p
  simp only at *
  let R := Rw n σ
  let tb : D := dM (tabOf n fun i j => W (π i) (σ j))
  have e0 : env0 7 [tb] = [some (tb, .sh), none, none, none, none, none, none] := rfl
  have rone : ∀ q, ∀ x ∈ R q, one1P x := fun q x hx => by
    obtain ⟨j, _, rfl⟩ := List.mem_map.mp hx
    exact W_one _ _
  have rsm : ∀ q, smlR (R q) := fun q => ⟨by simp [R, Rw]; omega, fun x hx => one1P_sml (rone q x hx)⟩
  have rmul : ∀ a b, a < n → b < n → List.zipWith (· * ·) (R a) (R b) = R (a ^^^ b) := fun a b ha hb => by
    show List.zipWith (· * ·) ((List.range n).map fun j => W a (σ j)) ((List.range n).map fun j => W b (σ j)) = (List.range n).map fun j => W (a ^^^ b) (σ j)
    rw [List.zipWith_map, List.zipWith_self]
    refine List.map_congr_left fun j hj => ?_
    have := hσ.lt j (List.mem_range.mp hj)
    exact (W_mul a (by omega) b (by omega) (σ j) (by omega)).symm
  let P : Nat → Env → Prop := fun k e => ∃ (u : List Nat) (lv1 lv2 : Lv), e = [some (tb, .sh), some (dM (u.map R), lv1), some (dM ((spn u).map R), lv2), none, none, none, none] ∧ (lv1 = .out ∨ (lv1 = .full ∧ u = [])) ∧ ind u = true ∧ u.length ≤ d ∧ (∀ x ∈ u, x < n) ∧ (∀ x ∈ spn u, x < n) ∧ ∀ i, i ≤ k → i < n → π i ∈ spn u
  have w0 : R 0 = (List.range n).map fun j => W (π 0) (σ j) := by rw [h0]; rfl
  have p0 : P 0 [some (tb, .sh), some (.lst [], .full), some (dM [R 0], .full), none, none, none, none] := ⟨[], .full, .full, rfl, .inr ⟨rfl, rfl⟩, rfl, Nat.zero_le _, fun x hx => absurd hx (by simp), fun x hx => by
    have : x = 0 := by simpa [spn] using hx
    omega, fun i hi _ => by
    have : i = 0 := by omega
    rw [this, h0]; simp [spn]⟩
  have hit : E.iList (E.slice (E.var 0) (E.part (E.c (.int 1))) E.noPart) (shOnly [some (tb, .sh), some (.lst [], .full), some (dM [R 0], .full), none, none, none, none]) = some ((List.range' 0 (n - 1)).map fun (i : Nat) => [dI (R (π (i + 1)))]) := by
    simp only [iList_eq, slice_eq, part_eq, noPart_eq, c_eq, shOnly_some, var_eq, List.getElem?_cons_zero, tb]
    simp only [true_or, if_true, sliceD_lst, cut_tail, ← List.map_drop]
    rw [← List.range_eq_range', rows_tail' n]
    simp only [List.map_map]
    rfl
  obtain ⟨e, h3, u, lv1, lv2, rfl, hlv, hi, hl, hu, hsu, hall⟩ := forGo_upto (js := [3]) (ks := [3]) (g := b1_base_rows) (fun (i : Nat) => [dI (R (π (i + 1)))]) P (n - 1) (fun k e hk he => by
    obtain ⟨u, lv1, lv2, rfl, hlv, hi, hl, hu, hsu, hall⟩ := he
    obtain ⟨q, hq⟩ : ∃ q, q = π (k + 1) := ⟨_, rfl⟩
    have hqn : q < n := by rw [hq]; exact hπ.lt _ (by omega)
    rw [← hq]
    have mem : (R q ∈ (spn u).map R) ↔ q ∈ spn u := ⟨fun z => by
      obtain ⟨x, hx, ex⟩ := List.mem_map.mp z
      have := Rw_inj (p := (n, d)) hp hσ (hsu x hx) hqn ex
      rwa [← this], fun z => List.mem_map.mpr ⟨q, z, rfl⟩⟩
    have tst : E.bin notInD (E.blt listC [(E.var 3)]) (E.var 2) [some (tb, .sh), some (dM (u.map R), lv1), some (dM ((spn u).map R), lv2), some (dI (R q), .sh), none, none, none] = some (.bl (!decide (q ∈ spn u)), .full) := by
      simp only [bin_eq, blt_eq, evA_cons, evA_nil, var_eq, List.getElem?_cons_zero, List.getElem?_cons_succ, listC_lst, lvL_ints, notIn_rows]
      congr 4
      exact decide_eq_decide.mpr mem
    by_cases hin : q ∈ spn u
    · refine ⟨[some (tb, .sh), some (dM (u.map R), lv1), some (dM ((spn u).map R), lv2), some (dI (R q), .sh), none, none, none], ?_, u, lv1, lv2, rfl, hlv, hi, hl, hu, hsu, fun i hik hin2 => ?_⟩
      · show b1_base_rows [some (tb, .sh), some (dM (u.map R), lv1), some (dM ((spn u).map R), lv2), some (dI (R q), .sh), none, none, none] = _
        unfold b1_base_rows
        rw [ite_f (lv := .full) (by rw [tst, decide_eq_true hin]; rfl)]
        rfl
      · by_cases c : i = k + 1
        · rw [c, ← hq]; exact hin
        · exact hall i (by omega) hin2
    · have ind' : ind (u ++ [q]) = true := by
        unfold ind
        rw [indF_snoc]
        show (ind u && !decide (q ∈ spn u)) = true
        rw [hi, decide_eq_false hin]; rfl
      have hld : u.length < d := by
        refine Nat.lt_of_le_of_ne hl fun e => ?_
        have ch := chk_cov (n, d) hp
        have m := mem_lists hu
        rw [e] at m
        have := List.all_eq_true.mp ch u m
        rw [hi] at this
        have cv : covers n u = true := by simpa using this
        have := List.all_eq_true.mp cv q (List.mem_range.mpr hqn)
        exact hin (of_decide_eq_true this)
      have hu' : ∀ x ∈ u ++ [q], x < n := fun x hx => by
        rcases List.mem_append.mp hx with h | h
        · exact hu x h
        · rw [List.mem_singleton.mp h]; exact hqn
      have hs' : ∀ x ∈ spn (u ++ [q]), x < n := fun x hx => by
        rw [spn_snoc] at hx
        rcases List.mem_append.mp hx with h | h
        · exact hsu x h
        · obtain ⟨y, hy, rfl⟩ := List.mem_map.mp h
          exact xor_lt (n, d) hp q hqn y (hsu y hy)
      refine ⟨[some (tb, .sh), some (dM ((u ++ [q]).map R), .out), some (dM ((spn (u ++ [q])).map R), .out), some (dI (R q), .sh), none, none, none], ?_, u ++ [q], .out, .out, rfl, .inl rfl, ind', by rw [List.length_append, List.length_singleton]; omega, hu', hs', fun i hik hin2 => ?_⟩
      · show b1_base_rows [some (tb, .sh), some (dM (u.map R), lv1), some (dM ((spn u).map R), lv2), some (dI (R q), .sh), none, none, none] = _
        unfold b1_base_rows
        rw [ite_t (lv := .full) (by rw [tst, decide_eq_false hin]; rfl)]
        have ul : u.length ≤ 3 := by
          simp only [szs, List.mem_cons, List.not_mem_nil, or_false, Prod.mk.injEq] at hp
          omega
        refine seq_of (e := [some (tb, .sh), some (dM ((u ++ [q]).map R), .out), some (dM ((spn u).map R), lv2), some (dI (R q), .sh), none, none, none]) (by
          unfold S.appS
          simp only [List.getElem?_cons_zero, List.getElem?_cons_succ]
          rw [if_pos ⟨by simp; omega, by
            rcases hlv with h | ⟨h, h2⟩
            · exact .inl h
            · exact .inr ⟨h, by rw [h2]; rfl⟩⟩]
          rw [List.map_append]
          rw [show ((u.map R).map dI) ++ [dI (R q)] = ((u.map R) ++ [q].map R).map dI by rw [List.map_append]; rfl]
          rfl) ?_
        rw [frz_eq]
        simp only [List.getElem?_cons_zero, List.getElem?_cons_succ, List.set_cons_succ, List.set_cons_zero, lvS_lst]
        have sl : ∀ v : List Nat, v.length ≤ 3 → (spn v).length ≤ 8 := fun v hv => by
          have g : ∀ (v kv : List Nat), (v.foldl sp1 kv).length = kv.length * 2 ^ v.length := by
            intro v
            induction v with
            | nil => intro kv; simp
            | cons x v ih =>
              intro kv
              rw [List.foldl_cons, ih, List.length_cons, Nat.pow_succ]
              unfold sp1
              rw [List.length_append, List.length_map]
              generalize 2 ^ v.length = w
              rw [← Nat.two_mul, Nat.mul_comm 2, Nat.mul_assoc, Nat.mul_comm 2 w]
          have := g v [0]
          unfold spn
          rw [this]
          have : 2 ^ v.length ≤ 2 ^ 3 := Nat.pow_le_pow_right (by decide) hv
          simp only [List.length_singleton]
          omega
        have val : ∀ (x y : Option (D × Lv)), E.bin addD (E.var 2) (E.comp (E.iList (E.var 2)) [4] [4] (E.c (.bl true)) (E.comp (E.iZip [(E.var 3), (E.var 4)]) [5, 6] [5, 6] (E.c (.bl true)) (E.bin mulD (E.var 5) (E.var 6)))) [x, y, some (dM ((spn u).map R), .sh), some (dI (R q), .sh), none, none, none] = some (dM ((spn (u ++ [q])).map R), .out) := fun x y => by
          have cm : E.comp (E.iList (E.var 2)) [4] [4] (E.c (.bl true)) (E.comp (E.iZip [(E.var 3), (E.var 4)]) [5, 6] [5, 6] (E.c (.bl true)) (E.bin mulD (E.var 5) (E.var 6))) [x, y, some (dM ((spn u).map R), .sh), some (dI (R q), .sh), none, none, none] = some (dM (((spn u).map fun z => q ^^^ z).map R), .full) := by
            rw [comp_eq (xs := spn u) (fun z => [dI (R z)]) (fun z => dI (R (q ^^^ z))) (by
              simp only [iList_eq, var_eq, List.getElem?_cons_zero, List.getElem?_cons_succ, List.map_map]
              rfl) (by have := sl u ul; omega) fun z hz => by
              have zc := zip_comp (env := [x, y, some (dM ((spn u).map R), .sh), some (dI (R q), .sh), some (dI (R z), .sh), none, none]) (xs := R q) (ys := R z) (fs := [(E.var 3), (E.var 4)]) (i := 5) (j := 6) (by simp) (rsm q) (rsm z) (by simp) (by simp) (by decide)
              show E.comp _ _ _ _ _ [x, y, some (dM ((spn u).map R), .sh), some (dI (R q), .sh), some (dI (R z), .sh), none, none] = _
              rw [zc, rmul q z hqn (hsu z hz)]]
            simp only [dM, List.map_map]
            rfl
          rw [bin_eq, cm]
          simp only [var_eq, List.getElem?_cons_zero, List.getElem?_cons_succ]
          rw [addD_lst, if_pos (by have := sl u ul; simp; omega), ← List.map_append, ← List.map_append, ← show sp1 (spn u) q = spn u ++ (spn u).map (fun z => q ^^^ z) from rfl, ← spn_snoc, lvL_dM (by
            rw [spn_snoc]
            unfold sp1
            intro z
            have z := congrArg List.length z
            simp at z
            have : 0 ∈ spn u := by rw [← h0]; exact hall 0 (by omega) (by omega)
            rw [z] at this
            simp at this)]
        rw [set_eq, xof_eq, val]
        simp only [shOnly_some, shOnly_none, shOnly_nil]
        rw [xof_eq]
        simp only [true_or, if_true]
        rw [val]
        rfl
      · by_cases c : i = k + 1
        · rw [c, ← hq, spn_snoc]
          refine List.mem_append.mpr (.inr (List.mem_map.mpr ⟨0, ?_, Nat.xor_zero _⟩))
          rw [← h0]
          exact hall 0 (by omega) (by omega)
        · rw [spn_snoc]
          exact List.mem_append.mpr (.inl (hall i (by omega) hin2))) (n - 1) 0 [some (tb, .sh), some (.lst [], .full), some (dM [R 0], .full), none, none, none, none] (by omega) p0
  refine ⟨u, lv1, ?_, hlv.elim .inl fun z => .inr z.1, hl, hu, ?_⟩
  · refine run_ret ?_
    unfold g_base_rows
    rw [e0]
    refine seq_of (e := [some (tb, .sh), some (.lst [], .full), none, none, none, none, none]) (by simp) ?_
    have i0 : ixD tb (.int 0) = some (dI (R 0), .sh) := by
      rw [w0]
      exact ix_tab (k := 0) (by omega)
    refine seq_of (e := [some (tb, .sh), some (.lst [], .full), some (dM [R 0], .full), none, none, none, none]) (by
      rw [set_eq, xof_eq]
      simp only [list_eq, evF_cons, evF_nil, blt_eq, evA_cons, evA_nil, bin_eq, var_eq, c_eq, List.getElem?_cons_zero, i0, listC_lst, lvL_ints]
      rfl) ?_
    refine seq_of (by
      rw [forL_eq, hit]
      exact h3) ?_
    rfl
  · refine List.all_eq_true.mpr fun x hx => ?_
    obtain ⟨i, hi2, e⟩ := hπ.sur x (List.mem_range.mp hx)
    exact decide_eq_true (e ▸ hall i (by omega) hi2)
end PM

set_option Elab.async false
set_option linter.all false
set_option maxRecDepth 100000
set_option maxHeartbeats 4000000
/-! The mathematics: moves to the plain table; one table led into another. -/
namespace PM
open PySem hiding Env
open PL

theorem loopMv {n : Nat} (hn : n ≤ 1000) (x1 x2 x4 x5 x6 x7 x8 x9 x10 x11 : Option (D × Lv)) : ∀ (ms : List Mv) (M : Mx) (lv : Lv), ms.all (mvOk n) = true → ∃ lv', S.forGo [3] [3] (S.set 0 (Xo.call F_moved_by [(E.var 0), (E.var 3)])) (ms.map fun m => [mvD m]) [some (dM (tabOf n M), lv), x1, x2, none, x4, x5, x6, x7, x8, x9, x10, x11] =
    some (.next [some (dM (tabOf n (mvAll ms M)), lv'), x1, x2, none, x4, x5, x6, x7, x8, x9, x10, x11])
  | [], M, lv, _ => ⟨lv, rfl⟩
  | m :: ms, M, lv, ok => by
    rw [List.all_cons, Bool.and_eq_true] at ok
    have v := V_moved_by n M m (by omega) ok.1
    obtain ⟨lv', h⟩ := loopMv hn x1 x2 x4 x5 x6 x7 x8 x9 x10 x11 ms (mvM m M) .full ok.2
    refine ⟨lv', ?_⟩
    have st : (S.set 0 (Xo.call F_moved_by [(E.var 0), (E.var 3)])) [some (dM (tabOf n M), lv), x1, x2, some (mvD m, lvS (mvD m)), x4, x5, x6, x7, x8, x9, x10, x11] = some (.next [some (dM (tabOf n (mvM m M)), .full), x1, x2, some (mvD m, lvS (mvD m)), x4, x5, x6, x7, x8, x9, x10, x11]) := by
      rw [set_eq, xcall_eq]
      simp only [evA_cons, evA_nil, var_eq, List.getElem?_cons_zero, List.getElem?_cons_succ, v]
      rfl
    rw [List.map_cons, forGo_cons]
    show (match (S.set 0 (Xo.call F_moved_by [(E.var 0), (E.var 3)])) [some (dM (tabOf n M), lv), x1, x2, some (mvD m, lvS (mvD m)), x4, x5, x6, x7, x8, x9, x10, x11] with | some (.next e) => S.forGo [3] [3] _ (ms.map fun m => [mvD m]) (S.kill e [3]) | r => r) = _
    rw [st]
    exact h
theorem flip_cols : ∀ (l : List Nat) (M : Mx), l.Nodup → mvAll (l.map fun (k : Nat) => Mv.col (k : Int)) M = fun i j => if j ∈ l then - M i j else M i j
  | [], M, _ => by funext i j; simp [mvAll]
  | k :: l, M, h => by
    rw [List.nodup_cons] at h
    rw [List.map_cons, mvAll_cons, flip_cols l _ h.2]
    funext i j
    show (if j ∈ l then - (if (j : Int) = (k : Int) then - M i j else M i j) else (if (j : Int) = (k : Int) then - M i j else M i j)) = _
    by_cases c : j = k
    · subst c
      rw [if_neg h.1, if_pos rfl, if_pos List.mem_cons_self]
    · have c2 : ¬ (j : Int) = (k : Int) := by omega
      rw [if_neg c2]
      by_cases d : j ∈ l
      · rw [if_pos d, if_pos (List.mem_cons_of_mem _ d)]
      · rw [if_neg d, if_neg (by simp [c, d])]
theorem flip_rows : ∀ (l : List Nat) (M : Mx), l.Nodup → mvAll (l.map fun (k : Nat) => Mv.row (k : Int)) M = fun i j => if i ∈ l then - M i j else M i j
  | [], M, _ => by funext i j; simp [mvAll]
  | k :: l, M, h => by
    rw [List.nodup_cons] at h
    rw [List.map_cons, mvAll_cons, flip_rows l _ h.2]
    funext i j
    show (if i ∈ l then - (if (i : Int) = (k : Int) then - M i j else M i j) else (if (i : Int) = (k : Int) then - M i j else M i j)) = _
    by_cases c : i = k
    · subst c
      rw [if_neg h.1, if_pos rfl, if_pos List.mem_cons_self]
    · have c2 : ¬ (i : Int) = (k : Int) := by omega
      rw [if_neg c2]
      by_cases d : i ∈ l
      · rw [if_pos d, if_pos (List.mem_cons_of_mem _ d)]
      · rw [if_neg d, if_neg (by simp [c, d])]
theorem pick_nodup (n : Nat) (p : Nat → Bool) : ((List.range n).filter p).Nodup := List.nodup_range.filter p
theorem filt_len (n : Nat) (p : Nat → Bool) : ((List.range n).filter p).length ≤ n := by
  have := List.length_filter_le p (List.range n)
  rwa [List.length_range] at this
/-- what good first rows give -/
theorem good_facts {n : Nat} {u : List Nat} (h : good n u = true) : Bij n (cu u) ∧ Bij n (eu n u) ∧ (∀ x, x < n → inv n u x < n ∧ cu u (inv n u x) = x ∧ inv n u (cu u x) = x) ∧ ∀ q x, q < n → x < n → W q x = W (eu n u q) (cu u x) := by
  unfold good at h
  simp only [Bool.and_eq_true, List.all_eq_true, List.mem_range, decide_eq_true_eq, List.any_eq_true] at h
  obtain ⟨⟨⟨h1, h2⟩, h3⟩, h4⟩ := h
  refine ⟨⟨fun k hk => (h1 k hk).1.1.1, fun k j hk hj e => ?_, fun y hy => ⟨inv n u y, (h1 y hy).1.1.2, (h1 y hy).1.2⟩⟩, ⟨fun k hk => (h2 k hk).1, fun k j hk hj e => h4 k hk j hj e, fun y hy => ?_⟩, fun x hx => ⟨(h1 x hx).1.1.2, (h1 x hx).1.2, (h1 x hx).2⟩, fun q x hq hx => (h2 q hq).2 x hx⟩
  · rw [← (h1 k hk).2, e, (h1 j hj).2]
  · obtain ⟨q, hq, e⟩ := h3 y hy
    exact ⟨q, hq, e⟩
theorem V_toPlain {p : Nat × Nat} (hp : p ∈ szs) {M : Mx} (hM : pm1 p.1 M) (hS : Syl p.1 M) : ∃ ms, F_moves_to_plain [dM (tabOf p.1 M)] = some (.ok (.lst (ms.map mvD)) .full) ∧ ms.all (mvOk p.1) = true ∧ ms.length ≤ 4 * p.1 ∧ eqn p.1 (mvAll ms M) W := by
  have h8 := szs8 hp
  obtain ⟨π, σ, hπ, hσ, hπ0, hσ0, epl⟩ := hS.plain hp
  obtain ⟨u, lvb, vb, hlvb, ul, un, uc⟩ := V_base hp hπ hσ hπ0
  have gd : good p.1 u = true := by
    have ch := chk_good p hp
    have m := mem_lists un
    have := List.all_eq_true.mp (List.all_eq_true.mp ch u.length (List.mem_range.mpr (by omega))) u m
    rw [uc] at this
    simpa using this
  obtain ⟨bcu, beu, hinv, hW⟩ := good_facts gd
  have ul3 : u.length ≤ 3 := by
    simp only [szs, List.mem_cons, List.not_mem_nil, or_false] at hp
    rcases hp with rfl | rfl | rfl | rfl <;> simp only at ul <;> omega
  obtain ⟨n, d⟩ := p
  simp only at *
  have e0 : env0 12 [dM (tabOf n M)] = [some (dM (tabOf n M), .sh), none, none, none, none, none, none, none, none, none, none, none] := rfl
  -- the columns turned
  let pA : Nat → Bool := fun k => decide (M 0 k = -1)
  let lA : List Nat := (List.range n).filter pA
  let msA : List Mv := lA.map fun (k : Nat) => Mv.col (k : Int)
  have okA : msA.all (mvOk n) = true := by
    rw [List.all_eq_true]
    intro m hm
    obtain ⟨k, hk, rfl⟩ := List.mem_map.mp hm
    have := List.mem_range.mp (List.mem_filter.mp hk).1
    exact decide_eq_true (by omega)
  have M1e : mvAll msA M = fun i j => if j ∈ lA then - M i j else M i j := flip_cols lA M (pick_nodup n pA)
  obtain ⟨M1, hM1⟩ : ∃ X, X = mvAll msA M := ⟨_, rfl⟩
  have M1v : ∀ i j, i < n → j < n → M1 i j = M i j * M 0 j := fun i j hi hj => by
    rw [hM1, M1e]
    show (if j ∈ lA then - M i j else M i j) = _
    have o := hM 0 j (by omega) hj
    by_cases c : M 0 j = -1
    · have hm : j ∈ lA := List.mem_filter.mpr ⟨List.mem_range.mpr hj, decide_eq_true c⟩
      rw [if_pos hm, c]; omega
    · have hm : ¬ j ∈ lA := fun z => c (of_decide_eq_true (List.mem_filter.mp z).2)
      rw [if_neg hm, show M 0 j = 1 from o.resolve_right c]; omega
  -- the rows turned
  let pB : Nat → Bool := fun k => decide (M1 k 0 = -1)
  let lB : List Nat := (List.range n).filter pB
  let msB : List Mv := lB.map fun (k : Nat) => Mv.row (k : Int)
  have okB : msB.all (mvOk n) = true := by
    rw [List.all_eq_true]
    intro m hm
    obtain ⟨k, hk, rfl⟩ := List.mem_map.mp hm
    have := List.mem_range.mp (List.mem_filter.mp hk).1
    exact decide_eq_true (by omega)
  have M2e : mvAll msB M1 = fun i j => if i ∈ lB then - M1 i j else M1 i j := flip_rows lB M1 (pick_nodup n pB)
  obtain ⟨M2, hM2⟩ : ∃ X, X = mvAll msB M1 := ⟨_, rfl⟩
  have M2v : eqn n M2 fun i j => W (π i) (σ j) := fun i j hi hj => by
    have o : one1P (M1 i 0) := by
      rw [M1v i 0 hi (by omega)]
      exact (hM i 0 hi (by omega)).mul (hM 0 0 (by omega) (by omega))
    have e : M2 i j = M1 i j * M1 i 0 := by
      rw [hM2, M2e]
      show (if i ∈ lB then - M1 i j else M1 i j) = _
      by_cases c : M1 i 0 = -1
      · have hm : i ∈ lB := List.mem_filter.mpr ⟨List.mem_range.mpr hi, decide_eq_true c⟩
        rw [if_pos hm, c]; omega
      · have hm : ¬ i ∈ lB := fun z => c (of_decide_eq_true (List.mem_filter.mp z).2)
        rw [if_neg hm, show M1 i 0 = 1 from o.resolve_right c]; omega
    rw [e, M1v i j hi hj, M1v i 0 hi (by omega)]
    exact epl i j hi hj
  have tM2 : tabOf n M2 = tabOf n fun i j => W (π i) (σ j) := tabOf_congr M2v
  -- the columns in order
  obtain ⟨κ, ms3, vs3, hκ, hs3, ok3, len3, act3⟩ := V_sorting (n := n) (by omega) (bcu.comp hσ) true
  obtain ⟨M3, hM3⟩ : ∃ X, X = mvAll ms3 M2 := ⟨_, rfl⟩
  have M3v : eqn n M3 fun i j => W (π i) (inv n u j) := fun i j hi hj => by
    rw [hM3, act3]
    show M2 i (κ j) = W (π i) (inv n u j)
    rw [M2v i (κ j) hi (hκ.lt j hj)]
    have e : cu u (σ (κ j)) = j := hs3 j hj
    have := (hinv (σ (κ j)) (hσ.lt _ (hκ.lt j hj))).2.2
    rw [e] at this
    rw [this]
  have tM3 : tabOf n M3 = tabOf n fun i j => W (π i) (inv n u j) := tabOf_congr M3v
  -- the rows in order
  obtain ⟨ρ, ms4, vs4, hρ, hs4, ok4, len4, act4⟩ := V_sorting (n := n) (by omega) (beu.comp hπ) false
  have M4v : eqn n (mvAll ms4 M3) W := fun i j hi hj => by
    rw [act4]
    show M3 (ρ i) j = W i j
    rw [M3v (ρ i) j (hρ.lt i hi) hj]
    have e : eu n u (π (ρ i)) = i := hs4 i hi
    show W (π (ρ i)) (inv n u j) = W i j
    rw [hW _ _ (hπ.lt _ (hρ.lt i hi)) (hinv j hj).1, e, (hinv j hj).2.1]
  refine ⟨msA ++ msB ++ ms3 ++ ms4, ?_, ?_, ?_, ?_⟩
  · refine run_ret ?_
    unfold g_moves_to_plain
    rw [e0]
    refine seq_of (e := [some (dM (tabOf n M), .sh), some (.int (n : Int), .full), none, none, none, none, none, none, none, none, none, none]) (by simp [tabOf_len]) ?_
    have cA : E.comp (E.iRng1 [(E.var 1)]) [9] [9] (E.bin eqD (E.bin ixD (E.bin ixD (E.var 0) (E.c (.int 0))) (E.var 9)) (E.un negD (E.c (.int 1)))) (E.tuple [(E.c (.str "column")), (E.var 9)]) [some (dM (tabOf n M), .sh), some (.int (n : Int), .full), none, none, none, none, none, none, none, none, none, none] = some (.lst (msA.map mvD), .full) := by
      rw [comp_if (xs := List.range n) (fun (k : Nat) => [D.int (k : Int)]) pA (fun (k : Nat) => mvD (.col (k : Int))) (rng1_eq rfl (by omega)) (by simp; omega) (fun k hk => ⟨.full, by
        have i0 : ixD (dM (tabOf n M)) (.int 0) = some (dI ((List.range n).map (M 0)), .sh) := ix_tab (k := 0) (by omega)
        have i1 : ixD (dI ((List.range n).map (M 0))) (.int (k : Int)) = some (.int (M 0 k), .full) := ix_row (List.mem_range.mp hk)
        show E.bin eqD _ _ [some (dM (tabOf n M), .sh), some (.int (n : Int), .full), none, none, none, none, none, none, none, some (.int (k : Int), .full), none, none] = _
        simp only [bin_eq, un_eq, var_eq, c_eq, List.getElem?_cons_zero, List.getElem?_cons_succ, lvS_int, i0, i1, negD_int, eqD_int]
        rfl⟩) fun k _ _ => rfl]
      simp only [msA, List.map_map]
      rfl
    refine seq_of (e := [some (dM (tabOf n M), .sh), some (.int (n : Int), .full), some (.lst (msA.map mvD), .full), none, none, none, none, none, none, none, none, none]) (by
      rw [set_eq, xof_eq, cA]
      rfl) ?_
    obtain ⟨lv1, L1⟩ := loopMv (n := n) (by omega) (some (.int (n : Int), .full)) (some (.lst (msA.map mvD), .sh)) none none none none none none none none msA M .sh okA
    rw [← hM1] at L1
    have its : ∀ ms : List Mv, (ms.map mvD).map (fun d => [d]) = ms.map fun m => [mvD m] := fun ms => by rw [List.map_map]; rfl
    refine seq_of (e := [some (dM (tabOf n M1), lv1), some (.int (n : Int), .full), some (.lst (msA.map mvD), .sh), none, none, none, none, none, none, none, none, none]) (by
      rw [frz_eq]
      simp only [List.getElem?_cons_zero, List.getElem?_cons_succ, List.set_cons_succ, List.set_cons_zero, lvS_lst]
      rw [forL_eq]
      simp only [iList_eq, var_eq, shOnly_some, shOnly_none, shOnly_nil, List.getElem?_cons_zero, List.getElem?_cons_succ, true_or, if_true, its]
      exact L1) ?_
    have cB : E.comp (E.iRng1 [(E.var 1)]) [9] [9] (E.bin eqD (E.bin ixD (E.bin ixD (E.var 0) (E.var 9)) (E.c (.int 0))) (E.un negD (E.c (.int 1)))) (E.tuple [(E.c (.str "row")), (E.var 9)]) [some (dM (tabOf n M1), lv1), some (.int (n : Int), .full), some (.lst (msA.map mvD), .sh), none, none, none, none, none, none, none, none, none] = some (.lst (msB.map mvD), .full) := by
      rw [comp_if (xs := List.range n) (fun (k : Nat) => [D.int (k : Int)]) pB (fun (k : Nat) => mvD (.row (k : Int))) (rng1_eq rfl (by omega)) (by simp; omega) (fun k hk => ⟨.full, by
        have i0 : ixD (dM (tabOf n M1)) (.int (k : Int)) = some (dI ((List.range n).map (M1 k)), .sh) := ix_tab (List.mem_range.mp hk)
        have i1 : ixD (dI ((List.range n).map (M1 k))) (.int 0) = some (.int (M1 k 0), .full) := ix_row (k := 0) (by omega)
        show E.bin eqD _ _ [some (dM (tabOf n M1), lv1), some (.int (n : Int), .full), some (.lst (msA.map mvD), .sh), none, none, none, none, none, none, some (.int (k : Int), .full), none, none] = _
        simp only [bin_eq, un_eq, var_eq, c_eq, List.getElem?_cons_zero, List.getElem?_cons_succ, lvS_int, i0, i1, negD_int, eqD_int]
        rfl⟩) fun k _ _ => rfl]
      simp only [msB, List.map_map]
      rfl
    refine seq_of (e := [some (dM (tabOf n M1), lv1), some (.int (n : Int), .full), some (.lst (msA.map mvD), .sh), none, some (.lst (msB.map mvD), .full), none, none, none, none, none, none, none]) (by
      rw [set_eq, xof_eq, cB]
      rfl) ?_
    obtain ⟨lv2, L2⟩ := loopMv (n := n) (by omega) (some (.int (n : Int), .full)) (some (.lst (msA.map mvD), .sh)) (some (.lst (msB.map mvD), .sh)) none none none none none none none msB M1 lv1 okB
    rw [← hM2, tM2] at L2
    refine seq_of (e := [some (dM (tabOf n fun i j => W (π i) (σ j)), lv2), some (.int (n : Int), .full), some (.lst (msA.map mvD), .sh), none, some (.lst (msB.map mvD), .sh), none, none, none, none, none, none, none]) (by
      rw [frz_eq]
      simp only [List.getElem?_cons_zero, List.getElem?_cons_succ, List.set_cons_succ, List.set_cons_zero, lvS_lst]
      rw [forL_eq]
      simp only [iList_eq, var_eq, shOnly_some, shOnly_none, shOnly_nil, List.getElem?_cons_zero, List.getElem?_cons_succ, true_or, if_true, its]
      exact L2) ?_
    refine seq_of (e := [some (dM (tabOf n fun i j => W (π i) (σ j)), .sh), some (.int (n : Int), .full), some (.lst (msA.map mvD), .sh), none, some (.lst (msB.map mvD), .sh), some (dM (u.map (Rw n σ)), lvb), none, none, none, none, none, none]) (by
      rw [frz_eq]
      simp only [List.getElem?_cons_zero, List.getElem?_cons_succ, List.set_cons_succ, List.set_cons_zero, lvS_lst]
      rw [set_eq, xcall_eq]
      simp only [evA_cons, evA_nil, var_eq, List.getElem?_cons_zero, lvS_lst, vb]
      rcases hlvb with h | h <;> rw [h]
      · simp only [shOnly_some, shOnly_none, shOnly_nil, true_or, if_true]
        rw [xcall_eq]
        simp only [evA_cons, evA_nil, var_eq, List.getElem?_cons_zero, lvS_lst, vb, h]
        rfl
      · rfl) ?_
    have c3 : E.comp (E.iRng1 [(E.var 1)]) [9] [9] (E.c (.bl true)) (E.call F_code [(E.comp (E.iList (E.var 5)) [11] [11] (E.c (.bl true)) (E.bin ixD (E.var 11) (E.var 9)))]) [some (dM (tabOf n fun i j => W (π i) (σ j)), .sh), some (.int (n : Int), .full), some (.lst (msA.map mvD), .sh), none, some (.lst (msB.map mvD), .sh), some (dM (u.map (Rw n σ)), lvb), none, none, none, none, none, none] = some (dI ((List.range n).map fun k => ((cu u (σ k) : Nat) : Int)), .full) := by
      refine comp_rI (fun k => ((cu u (σ k) : Nat) : Int)) rfl (by omega) fun k hk => ?_
      show E.call F_code _ [some (dM (tabOf n fun i j => W (π i) (σ j)), .sh), some (.int (n : Int), .full), some (.lst (msA.map mvD), .sh), none, some (.lst (msB.map mvD), .sh), some (dM (u.map (Rw n σ)), lvb), none, none, none, some (.int (k : Int), .full), none, none] = _
      have ci : E.comp (E.iList (E.var 5)) [11] [11] (E.c (.bl true)) (E.bin ixD (E.var 11) (E.var 9)) [some (dM (tabOf n fun i j => W (π i) (σ j)), .sh), some (.int (n : Int), .full), some (.lst (msA.map mvD), .sh), none, some (.lst (msB.map mvD), .sh), some (dM (u.map (Rw n σ)), lvb), none, none, none, some (.int (k : Int), .full), none, none] = some (dI (u.map fun q => W q (σ k)), .full) := by
        rw [comp_eq (xs := u) (fun q => [dI (Rw n σ q)]) (fun q => D.int (W q (σ k))) (by
          simp only [iList_eq, var_eq, List.getElem?_cons_zero, List.getElem?_cons_succ, List.map_map]
          rfl) (by omega) fun q _ => by
          have i1 : ixD (dI (Rw n σ q)) (.int (k : Int)) = some (.int (W q (σ k)), .full) := ix_row (f := fun j => W q (σ j)) hk
          show E.bin ixD _ _ [some (dM (tabOf n fun i j => W (π i) (σ j)), .sh), some (.int (n : Int), .full), some (.lst (msA.map mvD), .sh), none, some (.lst (msB.map mvD), .sh), some (dM (u.map (Rw n σ)), lvb), none, none, none, some (.int (k : Int), .full), none, some (dI (Rw n σ q), .sh)] = _
          simp only [bin_eq, var_eq, List.getElem?_cons_zero, List.getElem?_cons_succ, lvS_int, i1], dI, List.map_map]
        rfl
      have vc := V_code (u.map fun q => W q (σ k)) (by rw [List.length_map]; omega)
      rw [call_eq, evA_cons, ci, evA_nil]
      simp only [vc]
      rfl
    have vs3' : F_sorting [dI ((List.range n).map fun k => ((cu u (σ k) : Nat) : Int)), .str "columns"] = some (.ok (.lst (ms3.map mvD)) .full) := vs3
    refine seq_of (e := [some (dM (tabOf n fun i j => W (π i) (σ j)), .sh), some (.int (n : Int), .full), some (.lst (msA.map mvD), .sh), none, some (.lst (msB.map mvD), .sh), some (dM (u.map (Rw n σ)), lvb), some (.lst (ms3.map mvD), .full), none, none, none, none, none]) (by
      rw [set_eq, xcall_eq, evA_cons, c3]
      simp only [evA_cons, evA_nil, c_eq, vs3']
      rfl) ?_
    obtain ⟨lv3, L3⟩ := loopMv (n := n) (by omega) (some (.int (n : Int), .full)) (some (.lst (msA.map mvD), .sh)) (some (.lst (msB.map mvD), .sh)) (some (dM (u.map (Rw n σ)), lvb)) (some (.lst (ms3.map mvD), .sh)) none none none none none ms3 M2 .sh ok3
    rw [← hM3, tM3, tM2] at L3
    refine seq_of (e := [some (dM (tabOf n fun i j => W (π i) (inv n u j)), lv3), some (.int (n : Int), .full), some (.lst (msA.map mvD), .sh), none, some (.lst (msB.map mvD), .sh), some (dM (u.map (Rw n σ)), lvb), some (.lst (ms3.map mvD), .sh), none, none, none, none, none]) (by
      rw [frz_eq]
      simp only [List.getElem?_cons_zero, List.getElem?_cons_succ, List.set_cons_succ, List.set_cons_zero, lvS_lst]
      rw [forL_eq]
      simp only [iList_eq, var_eq, shOnly_some, shOnly_none, shOnly_nil, List.getElem?_cons_zero, List.getElem?_cons_succ, true_or, if_true, its]
      exact L3) ?_
    have c7 : ∀ x0 : Option (D × Lv), E.comp (E.iTup (E.tuple [(E.c (.int 1)), (E.c (.int 2)), (E.c (.int 4))])) [10] [10] (E.bin ltD (E.var 10) (E.var 1)) (E.var 10) [x0, some (.int (n : Int), .full), some (.lst (msA.map mvD), .sh), none, some (.lst (msB.map mvD), .sh), some (dM (u.map (Rw n σ)), lvb), some (.lst (ms3.map mvD), .sh), none, none, none, none, none] = some (.lst ((ends n).map fun (t : Nat) => D.int (t : Int)), .full) := fun x0 =>
      comp_if (xs := ([1, 2, 4] : List Nat)) (fun (t : Nat) => [D.int (t : Int)]) (fun t => decide (t < n)) (fun (t : Nat) => D.int (t : Int)) rfl (by decide) (fun t _ => ⟨.full, by
        show E.bin ltD _ _ [x0, some (.int (n : Int), .full), some (.lst (msA.map mvD), .sh), none, some (.lst (msB.map mvD), .sh), some (dM (u.map (Rw n σ)), lvb), some (.lst (ms3.map mvD), .sh), none, none, none, some (.int (t : Int), .full), none] = _
        simp only [bin_eq, var_eq, List.getElem?_cons_zero, List.getElem?_cons_succ, lvS_int, ltD_int]
        congr 3
        exact decide_eq_decide.mpr (by omega)⟩) fun t _ _ => rfl
    refine seq_of (e := [some (dM (tabOf n fun i j => W (π i) (inv n u j)), lv3), some (.int (n : Int), .full), some (.lst (msA.map mvD), .sh), none, some (.lst (msB.map mvD), .sh), some (dM (u.map (Rw n σ)), lvb), some (.lst (ms3.map mvD), .sh), some (.lst ((ends n).map fun (t : Nat) => D.int (t : Int)), .full), none, none, none, none]) (by
      rw [set_eq, xof_eq, c7]
      rfl) ?_
    let E8 : Env := [some (dM (tabOf n fun i j => W (π i) (inv n u j)), lv3), some (.int (n : Int), .full), some (.lst (msA.map mvD), .sh), none, some (.lst (msB.map mvD), .sh), some (dM (u.map (Rw n σ)), lvb), some (.lst (ms3.map mvD), .sh), some (.lst ((ends n).map fun (t : Nat) => D.int (t : Int)), .full), none, none, none, none]
    have el : (ends n).length ≤ 3 := List.length_filter_le _ _
    have c8 : E.comp (E.iList (E.var 0)) [11] [11] (E.c (.bl true)) (E.call F_code [(E.comp (E.iList (E.var 7)) [10] [10] (E.c (.bl true)) (E.bin ixD (E.var 11) (E.var 10)))]) E8 = some (dI ((List.range n).map fun i => ((eu n u (π i) : Nat) : Int)), .full) := by
      rw [comp_lMI (lv := .sh) (xs := tabOf n fun i j => W (π i) (inv n u j)) (fun r => ((cod ((ends n).map fun t => r.getD t 0) : Nat) : Int)) rfl (by rw [tabOf_len]; omega) fun r hr => by
        have hrl : r.length = n := by
          unfold tabOf at hr
          obtain ⟨i, _, rfl⟩ := List.mem_map.mp hr
          simp
        show E.call F_code _ [some (dM (tabOf n fun i j => W (π i) (inv n u j)), lv3), some (.int (n : Int), .full), some (.lst (msA.map mvD), .sh), none, some (.lst (msB.map mvD), .sh), some (dM (u.map (Rw n σ)), lvb), some (.lst (ms3.map mvD), .sh), some (.lst ((ends n).map fun (t : Nat) => D.int (t : Int)), .full), none, none, none, some (dI r, .sh)] = _
        have ci : E.comp (E.iList (E.var 7)) [10] [10] (E.c (.bl true)) (E.bin ixD (E.var 11) (E.var 10)) [some (dM (tabOf n fun i j => W (π i) (inv n u j)), lv3), some (.int (n : Int), .full), some (.lst (msA.map mvD), .sh), none, some (.lst (msB.map mvD), .sh), some (dM (u.map (Rw n σ)), lvb), some (.lst (ms3.map mvD), .sh), some (.lst ((ends n).map fun (t : Nat) => D.int (t : Int)), .full), none, none, none, some (dI r, .sh)] = some (dI ((ends n).map fun t => r.getD t 0), .full) := by
          rw [comp_eq (xs := ends n) (fun (t : Nat) => [D.int (t : Int)]) (fun t => D.int (r.getD t 0)) (by
            simp only [iList_eq, var_eq, List.getElem?_cons_zero, List.getElem?_cons_succ, List.map_map]
            rfl) (by omega) fun t ht => by
            have tn : t < n := of_decide_eq_true (List.mem_filter.mp ht).2
            have i1 : ixD (dI r) (.int (t : Int)) = some (.int (r.getD t 0), .full) := by
              rw [ix_ints (by omega), PM.getD_at (by omega)]
            show E.bin ixD _ _ [some (dM (tabOf n fun i j => W (π i) (inv n u j)), lv3), some (.int (n : Int), .full), some (.lst (msA.map mvD), .sh), none, some (.lst (msB.map mvD), .sh), some (dM (u.map (Rw n σ)), lvb), some (.lst (ms3.map mvD), .sh), some (.lst ((ends n).map fun (t : Nat) => D.int (t : Int)), .full), none, none, some (.int (t : Int), .full), some (dI r, .sh)] = _
            simp only [bin_eq, var_eq, List.getElem?_cons_zero, List.getElem?_cons_succ, lvS_int, i1], dI, List.map_map]
          rfl
        have vc := V_code ((ends n).map fun t => r.getD t 0) (by rw [List.length_map]; omega)
        rw [call_eq, evA_cons, ci, evA_nil]
        simp only [vc], tabOf_mapI]
      refine congrArg (fun l => some (dI l, Lv.full)) (List.map_congr_left fun i hi => ?_)
      show ((cod ((ends n).map fun t => ((List.range n).map fun j => W (π i) (inv n u j)).getD t 0) : Nat) : Int) = ((cod ((ends n).map fun t => W (π i) (inv n u t)) : Nat) : Int)
      have eq : ((ends n).map fun t => ((List.range n).map fun j => W (π i) (inv n u j)).getD t 0) = (ends n).map fun t => W (π i) (inv n u t) := List.map_congr_left fun t ht => by
        have tn : t < n := of_decide_eq_true (List.mem_filter.mp ht).2
        exact getD_range tn _ _
      rw [eq]
    have vs4' : F_sorting [dI ((List.range n).map fun i => ((eu n u (π i) : Nat) : Int)), .str "rows"] = some (.ok (.lst (ms4.map mvD)) .full) := vs4
    refine seq_of (e := E8.set 8 (some (.lst (ms4.map mvD), .full))) (by
      show S.set 8 _ E8 = _
      rw [set_eq, xcall_eq, evA_cons, c8]
      simp only [evA_cons, evA_nil, c_eq, vs4']) ?_
    have lA' : msA.length ≤ n := by rw [List.length_map]; exact filt_len n pA
    have lB' : msB.length ≤ n := by rw [List.length_map]; exact filt_len n pB
    have ad : ∀ xs ys : List Mv, xs.length + ys.length ≤ 1000000 → addD (.lst (xs.map mvD)) (.lst (ys.map mvD)) = some (.lst ((xs ++ ys).map mvD), .full) := fun xs ys h => by
      rw [addD_lst, if_pos (by simpa using h), ← List.map_append, lvL_mvs]
    have a1 := ad msA msB (by omega)
    have a2 := ad (msA ++ msB) ms3 (by rw [List.length_append]; omega)
    have a3 := ad (msA ++ msB ++ ms3) ms4 (by rw [List.length_append, List.length_append]; omega)
    rw [ret_eq, xof_eq]
    simp only [E8, bin_eq, var_eq, List.set_cons_succ, List.set_cons_zero, List.getElem?_cons_zero, List.getElem?_cons_succ, a1, a2, a3]
  · rw [List.all_append, List.all_append, List.all_append, okA, okB, ok3, ok4]; rfl
  · have lA' : msA.length ≤ n := by rw [List.length_map]; exact filt_len n pA
    have lB' : msB.length ≤ n := by rw [List.length_map]; exact filt_len n pB
    rw [List.length_append, List.length_append, List.length_append]
    omega
  · rw [mvAll_append, mvAll_append, mvAll_append, ← hM1, ← hM2, ← hM3]
    exact M4v
end PM

set_option Elab.async false
set_option linter.all false
set_option maxRecDepth 100000
set_option maxHeartbeats 4000000
/-! The mathematics: led, and what leads. -/
namespace PM
open PySem hiding Env
open PL
theorem had_pm {n : Nat} {M : Mx} (h : Had n M) : pm1 n M := h.pm
theorem V_led_no {n m : Nat} {M N : Mx} (hM : Had n M) (hN : Had m N) (h : n ≠ m ∨ 8 < n) : F_led [dM (tabOf n M), dM (tabOf m N)] = some (.exc (if n = m then "TooGreat" else "Unlike")) := by
  have e0 : env0 2 [dM (tabOf n M), dM (tabOf m N)] = [some (dM (tabOf n M), .sh), some (dM (tabOf m N), .sh)] := rfl
  have t1 := mustTab_ok hM
  have t2 := mustTab_ok hN
  refine run_exc (e := [some (dM (tabOf n M), .sh), some (dM (tabOf m N), .sh)]) ?_
  unfold g_led
  rw [e0]
  refine seq_of (e := [some (dM (tabOf n M), .sh), some (dM (tabOf m N), .sh)]) (by simp [t1]) ?_
  refine seq_of (e := [some (dM (tabOf n M), .sh), some (dM (tabOf m N), .sh)]) (by simp [t2]) ?_
  by_cases e : n = m
  · rw [if_pos e]
    have hn : 8 < n := h.resolve_left fun z => z e
    refine seq_of (e := [some (dM (tabOf n M), .sh), some (dM (tabOf m N), .sh)]) (by
      rw [ite_f (lv := .full) (by simp [tabOf_len, e])]
      rfl) ?_
    refine seq_exc ?_
    rw [ite_t (lv := .full) (by
      simp only [bin_eq, blt_eq, evA_cons, evA_nil, var_eq, c_eq, List.getElem?_cons_zero, lenD_lst, List.length_map, tabOf_len, gtD_int]
      rw [decide_eq_true (by omega)])]
    rfl
  · rw [if_neg e]
    have : ¬ ((n : Int) = (m : Int)) := by omega
    refine seq_exc ?_
    rw [ite_t (lv := .full) (by simp [tabOf_len, this])]
    rfl
theorem V_led {p : Nat × Nat} (hp : p ∈ szs) {M N : Mx} (hM : Had p.1 M) (hN : Had p.1 N) (sM : Syl p.1 M) (sN : Syl p.1 N) : ∃ ms, F_led [dM (tabOf p.1 M), dM (tabOf p.1 N)] = some (.ok (.lst (ms.map mvD)) .full) ∧ ms.all (mvOk p.1) = true ∧ ms.length ≤ 64 ∧ tabOf p.1 (mvAll ms M) = tabOf p.1 N := by
  have h8 := szs8 hp
  obtain ⟨m1, v1, o1, l1, q1⟩ := V_toPlain hp hM.pm sM
  obtain ⟨m2, v2, o2, l2, q2⟩ := V_toPlain hp hN.pm sN
  obtain ⟨n, d⟩ := p
  simp only at *
  have e0 : env0 2 [dM (tabOf n M), dM (tabOf n N)] = [some (dM (tabOf n M), .sh), some (dM (tabOf n N), .sh)] := rfl
  have t1 := mustTab_ok hM
  have t2 := mustTab_ok hN
  refine ⟨m1 ++ m2.reverse, ?_, ?_, ?_, ?_⟩
  · refine run_ret ?_
    unfold g_led
    rw [e0]
    refine seq_of (e := [some (dM (tabOf n M), .sh), some (dM (tabOf n N), .sh)]) (by simp [t1]) ?_
    refine seq_of (e := [some (dM (tabOf n M), .sh), some (dM (tabOf n N), .sh)]) (by simp [t2]) ?_
    refine seq_of (e := [some (dM (tabOf n M), .sh), some (dM (tabOf n N), .sh)]) (by
      rw [ite_f (lv := .full) (by simp [tabOf_len])]
      rfl) ?_
    refine seq_of (e := [some (dM (tabOf n M), .sh), some (dM (tabOf n N), .sh)]) (by
      rw [ite_f (lv := .full) (by
        simp only [bin_eq, blt_eq, evA_cons, evA_nil, var_eq, c_eq, List.getElem?_cons_zero, lenD_lst, List.length_map, tabOf_len, gtD_int]
        rw [decide_eq_false (by omega)])]
      rfl) ?_
    have rv : listRevD (.lst (m2.map mvD)) = some (.lst (m2.reverse.map mvD), .full) := by
      show some (D.lst (m2.map mvD).reverse, lvL (m2.map mvD).reverse) = _
      rw [← List.map_reverse, lvL_mvs]
    have ad : addD (.lst (m1.map mvD)) (.lst (m2.reverse.map mvD)) = some (.lst ((m1 ++ m2.reverse).map mvD), .full) := by
      rw [addD_lst, if_pos (by simp; omega), ← List.map_append, lvL_mvs]
    rw [ret_eq, xof_eq]
    simp only [bin_eq, un_eq, call_eq, evA_cons, evA_nil, var_eq, List.getElem?_cons_zero, List.getElem?_cons_succ, lvS_lst, v1, v2, rv, ad]
  · rw [List.all_append, o1, all_rev, o2]; rfl
  · rw [List.length_append, List.length_reverse]; omega
  · rw [mvAll_append]
    have o2' : m2.reverse.all (mvOk n) = true := by rw [all_rev]; exact o2
    have a := mvAll_congr o2' (eqn.trans q1 fun i j hi hj => (q2 i j hi hj).symm)
    exact tabOf_congr (eqn.trans a (mvAll_back o2 N))
/-! moves looked at by the law -/
theorem in_rc1 : inTD false (.str "row") (.tup [.str "row", .str "column"]) = some (.bl true, .full) := by kernel_rfl
theorem in_rc2 : inTD false (.str "column") (.tup [.str "row", .str "column"]) = some (.bl true, .full) := by kernel_rfl
theorem in_rc3 : inTD false (.str "rows") (.tup [.str "row", .str "column"]) = some (.bl false, .full) := by kernel_rfl
theorem in_rc4 : inTD false (.str "columns") (.tup [.str "row", .str "column"]) = some (.bl false, .full) := by kernel_rfl
theorem in_rs3 : inTD false (.str "rows") (.tup [.str "rows", .str "columns"]) = some (.bl true, .full) := by kernel_rfl
theorem in_rs4 : inTD false (.str "columns") (.tup [.str "rows", .str "columns"]) = some (.bl true, .full) := by kernel_rfl
theorem isi_mv (m : Mv) : isiD "tuple" (mvD m) = some (.bl true, .full) := by cases m <;> rfl
def mvArgs : Mv → List Int
  | .row k => [k]
  | .col k => [k]
  | .rows a b => [a, b]
  | .cols a b => [a, b]
theorem slice_mv (m : Mv) : sliceD (mvD m) (some 1) none = some (.tup ((mvArgs m).map D.int), .full) := by cases m <;> rfl
theorem len_mv (m : Mv) : lenD [mvD m] = some (.int ((mvArgs m).length + 1 : Nat), .full) := by cases m <;> rfl
theorem V_ismv (n : Nat) (m : Mv) : F__law_is_move [.int (n : Int), mvD m] = some (.ok (.bl (mvOk n m)) .full) := by
  have e0 : env0 3 [.int (n : Int), mvD m] = [some (.int (n : Int), .full), some (mvD m, lvS (mvD m)), none] := rfl
  have al : (mvArgs m).length = 1 ∨ (mvArgs m).length = 2 := by cases m <;> simp [mvArgs]
  refine run_ret ?_
  unfold g__law_is_move
  rw [e0, lvS_mv]
  have cm : E.comp (E.iTup (E.slice (E.var 1) (E.part (E.c (.int 1))) E.noPart)) [2] [2] (E.c (.bl true)) (E.call F__law_whole [(E.var 2)]) [some (.int (n : Int), .full), some (mvD m, .full), none] = some (.lst (((mvArgs m).map fun _ => true).map D.bl), .full) := by
    rw [comp_eq (xs := mvArgs m) (fun x => [D.int x]) (fun x => D.bl true) (by
      simp only [iTup_eq, slice_eq, part_eq, noPart_eq, c_eq, var_eq, List.getElem?_cons_zero, List.getElem?_cons_succ, slice_mv, List.map_map]
      rfl) (by omega) fun x _ => by
      show E.call F__law_whole [(E.var 2)] [some (.int (n : Int), .full), some (mvD m, .full), some (.int x, .full)] = _
      rw [call_eq, evA_cons, evA_nil]
      simp only [var_eq, List.getElem?_cons_zero, List.getElem?_cons_succ, lvS_int]
      rfl]
    rw [List.map_map]
    rfl
  refine seq_of (e := [some (.int (n : Int), .full), some (mvD m, .full), none]) (by
    rw [ite_f (lv := .full) (by
      have b3 : leD (.int 2) (.int (((mvArgs m).length + 1 : Nat) : Int)) = some (.bl true, .full) := by rw [leD_int, decide_eq_true (by omega)]
      have b4 : leD (.int (((mvArgs m).length + 1 : Nat) : Int)) (.int 3) = some (.bl true, .full) := by rw [leD_int, decide_eq_true (by omega)]
      have al2 : ((mvArgs m).map fun _ => true).all id = true := by rw [List.all_map]; exact List.all_eq_true.mpr fun _ _ => rfl
      rw [or_eq, not_eq, un_eq, var_eq]
      simp only [List.getElem?_cons_zero, List.getElem?_cons_succ, isi_mv, Bool.not_true]
      rw [or_eq, not_eq, chain_eq]
      simp only [c_eq, blt_eq, evA_cons, evA_nil, var_eq, List.getElem?_cons_zero, List.getElem?_cons_succ, len_mv, b3, b4, Bool.not_true]
      rw [not_eq, blt_eq, evA_cons, cm, evA_nil]
      simp only [allD_bls, al2, Bool.not_true])]
    rfl) ?_
  cases m with
  | row k =>
    refine seq_ret ?_
    rw [ite_t (lv := .full) (by simp [mvD, in_rc1])]
    by_cases h : (0 : Int) ≤ k <;> simp [mvD, mvOk, h]
  | col k =>
    refine seq_ret ?_
    rw [ite_t (lv := .full) (by simp [mvD, in_rc2])]
    by_cases h : (0 : Int) ≤ k <;> simp [mvD, mvOk, h]
  | rows a b =>
    refine seq_of (e := [some (.int (n : Int), .full), some (mvD (.rows a b), .full), none]) (by
      rw [ite_f (lv := .full) (by simp [mvD, in_rc3])]
      rfl) ?_
    by_cases h : (0 : Int) ≤ a <;> by_cases h2 : a < b <;> simp [mvD, mvOk, h, h2, in_rs3]
  | cols a b =>
    refine seq_of (e := [some (.int (n : Int), .full), some (mvD (.cols a b), .full), none]) (by
      rw [ite_f (lv := .full) (by simp [mvD, in_rc4])]
      rfl) ?_
    by_cases h : (0 : Int) ≤ a <;> by_cases h2 : a < b <;> simp [mvD, mvOk, h, h2, in_rs4]
theorem V_leads {n : Nat} (hn : n ≤ 1000) (A B : Mx) (ms : List Mv) (ok : ms.all (mvOk n) = true) (hl : ms.length ≤ 100) (h : tabOf n (mvAll ms A) = tabOf n B) : F__law_leads [.lst (ms.map mvD), dM (tabOf n A), dM (tabOf n B)] = some (.ok (.bl true) .full) := by
  have e0 : env0 5 [.lst (ms.map mvD), dM (tabOf n A), dM (tabOf n B)] = [some (.lst (ms.map mvD), .sh), some (dM (tabOf n A), .sh), some (dM (tabOf n B), .sh), none, none] := rfl
  refine run_ret ?_
  unfold g__law_leads
  rw [e0]
  refine seq_of (e := [some (.lst (ms.map mvD), .sh), some (dM (tabOf n A), .sh), some (dM (tabOf n B), .sh), none, none]) (by
    rw [ite_f (lv := .full) (by
      simp only [or_eq, not_eq, un_eq, bin_eq, blt_eq, evA_cons, evA_nil, var_eq, c_eq, List.getElem?_cons_zero, isi_list, Bool.not_true, lenD_lst, List.length_map, gtD_int]
      rw [decide_eq_false (by omega)])]
    rfl) ?_
  have cp := F_copy' (n := n) (M := A) (by omega)
  let E1 : List Mv → Env := fun p => [some (.lst (ms.map mvD), .sh), some (dM (tabOf n A), .sh), some (dM (tabOf n B), .sh), some (dM (tabOf n (mvAll p A)), .full), none]
  refine seq_of (e := E1 []) (by
    rw [set_eq, xcall_eq]
    simp only [evA_cons, evA_nil, var_eq, List.getElem?_cons_zero, List.getElem?_cons_succ, lvS_lst, cp]
    rfl) ?_
  have L1 : S.forL (E.iList (E.var 0)) [4] [4] b1__law_leads (E1 []) = some (.next (E1 ms)) := by
    rw [forL_eq, show E.iList (E.var 0) (shOnly (E1 [])) = some (ms.map fun m => [mvD m]) by simp [E1]]
    refine forGo_all (fun m => [mvD m]) E1 ms fun p m q hq => ⟨[some (.lst (ms.map mvD), .sh), some (dM (tabOf n A), .sh), some (dM (tabOf n B), .sh), some (dM (tabOf n (mvAll (p ++ [m]) A)), .full), some (mvD m, .full)], ?_, rfl⟩
    have hm : mvOk n m = true := List.all_eq_true.mp ok m (by rw [hq]; simp)
    have vd := V_lawdone n (mvAll p A) m hn hm
    have vi := V_ismv n m
    rw [hm] at vi
    show b1__law_leads [some (.lst (ms.map mvD), .sh), some (dM (tabOf n A), .sh), some (dM (tabOf n B), .sh), some (dM (tabOf n (mvAll p A)), .full), some (mvD m, lvS (mvD m))] = _
    rw [lvS_mv]
    unfold b1__law_leads
    refine seq_of (e := [some (.lst (ms.map mvD), .sh), some (dM (tabOf n A), .sh), some (dM (tabOf n B), .sh), some (dM (tabOf n (mvAll p A)), .full), some (mvD m, .full)]) (by
      rw [ite_f (lv := .full) (by
        simp only [not_eq, call_eq, blt_eq, evA_cons, evA_nil, var_eq, List.getElem?_cons_zero, List.getElem?_cons_succ, lenD_lst, List.length_map, tabOf_len, vi, Bool.not_true])]
      rfl) ?_
    rw [set_eq, xcall_eq, show mvAll (p ++ [m]) A = mvM m (mvAll p A) by rw [mvAll_append]; rfl]
    simp only [evA_cons, evA_nil, var_eq, List.getElem?_cons_zero, List.getElem?_cons_succ, vd]
    rfl
  refine seq_of L1 ?_
  rw [ret_eq, xof_eq]
  simp only [E1, bin_eq, var_eq, List.getElem?_cons_zero, List.getElem?_cons_succ]
  rw [h, eqD_of (eqO_rows _ _), decide_eq_true rfl]
/-! what is drawn -/
theorem szs_of {n : Nat} (h : n ∈ sizes8) (h8 : n ≤ 8) : ∃ d, (n, d) ∈ szs := by
  simp only [sizes8, List.mem_cons, List.not_mem_nil, or_false] at h
  rcases h with rfl | rfl | rfl | rfl | rfl | rfl | rfl | rfl
  · exact ⟨2, by decide⟩
  · exact ⟨3, by decide⟩
  · exact ⟨0, by decide⟩
  · exact ⟨1, by decide⟩
  · omega
  · omega
  · omega
  · omega
theorem W_syl {p : Nat × Nat} : Syl p.1 W := ⟨fun _ => 1, fun _ => 1, fun k => k, fun k => k, fun _ _ => .inl rfl, fun _ _ => .inl rfl, Bij.id _, Bij.id _, fun i j _ _ => by rw [Int.one_mul, Int.one_mul]⟩
theorem syl_congr {n : Nat} {M N : Mx} (h : tabOf n M = tabOf n N) (s : Syl n M) : Syl n N := by
  obtain ⟨a, b, π, σ, h1, h2, h3, h4, h5⟩ := s
  exact ⟨a, b, π, σ, h1, h2, h3, h4, fun i j hi hj => by rw [← tabOf_eq.mp h i j hi hj, h5 i j hi hj]⟩
theorem drawn {n : Nat} (h : n ∈ sizes8) (ns : List Int) (at_ : Nat) : ∃ M, F__law_shuffled [.scr ns, .int (at_ : Int), dM (plainT n)] = some (.ok (dM (tabOf n M)) .full) ∧ Had n M ∧ (n ≤ 8 → Syl n M) := by
  obtain ⟨M, _, v, hM⟩ := shuffled_tab h ns at_
  refine ⟨M, v, hM, fun h8 => ?_⟩
  obtain ⟨d, hd⟩ := szs_of h h8
  have e := W_plain (n, d) hd
  obtain ⟨hsq, hlen, _⟩ := plain_sq n h
  obtain ⟨⟨_, h24⟩, hrow⟩ := isSq_iff.mp hsq
  have v2 := V_shuffled ns at_ (plainT n) (plainT n).length rfl (by omega) hrow
  rw [v] at v2
  have e2 : tabOf n M = shuf ns at_ (plainT n) := by
    have := Option.some.inj v2
    have := (Out.ok.inj this).1
    have r : ∀ a b : List (List Int), dM a = dM b → a = b := fun a b z => by
      have q := eqB_rows a b
      rw [← z, eqB_rows] at q
      have : decide (a = b) = decide (a = a) := q.symm
      exact of_decide_eq_true (this.trans (decide_eq_true rfl))
    exact r _ _ this
  rw [show plainT n = tabOf n W from e, shuf_tabOf] at e2
  refine syl_congr e2.symm ⟨fun k => sgn (cellAt ns (at_ + 2)) ((ordOf (cellAt ns at_) n).getD k 0), fun j => sgn (cellAt ns (at_ + 3)) ((ordOf (cellAt ns (at_ + 1)) n).getD j 0), _, _, fun _ _ => sgn_one _ _, fun _ _ => sgn_one _ _, Bij.of_perm (ordOf_perm (cellAt ns at_) n), Bij.of_perm (ordOf_perm (cellAt ns (at_ + 1)) n), fun i j _ _ => ?_⟩
  grind
theorem plain_syl {n : Nat} (h : n ∈ sizes8) : ∃ M, plainT n = tabOf n M ∧ Had n M ∧ (n ≤ 8 → Syl n M) := by
  obtain ⟨M, e, hM⟩ := plain_had h
  refine ⟨M, e, hM, fun h8 => ?_⟩
  obtain ⟨d, hd⟩ := szs_of h h8
  have w := W_plain (n, d) hd
  exact syl_congr (w.symm.trans e) (W_syl (p := (n, d)))
end PM

set_option Elab.async false
set_option linter.all false
set_option maxRecDepth 100000
set_option maxHeartbeats 4000000
namespace Lk07
open PySem PL PM
def g__law_asked : SS :=
  (S.seq (S.set 2 (Xo.of (E.c .non)))
  (S.seq (S.tryW ["NoSquare", "NoTable", "NoMove", "Unlike", "TooGreat"] 3 2 (S.set 2 (Xo.call F_led [(E.var 0), (E.var 1)])))
  (S.retN 2)))
def F__law_asked : List D → Option Out := runB g__law_asked 4
def g_law : SS :=
  (S.seq (S.set 1 (Xo.call F__law_cell_at [(E.var 0), (E.c (.int 0))]))
  (S.seq (S.set 2 (Xo.of (E.bin ixD (E.list [(E.c (.int 4)), (E.c (.int 8)), (E.c (.int 8)), (E.c (.int 1)), (E.c (.int 2)), (E.c (.int 8)), (E.c (.int 4)), (E.c (.int 12))]) (E.bin modD (E.var 1) (E.c (.int 8))))))
  (S.seq (S.set 3 (Xo.call F__law_shuffled [(E.var 0), (E.c (.int 1)), (E.call F__law_plain_table [(E.var 2)])]))
  (S.seq (S.set 4 (Xo.call F__law_shuffled [(E.var 0), (E.c (.int 5)), (E.call F__law_plain_table [(E.var 2)])]))
  (S.seq (S.ite (E.bin eqD (E.bin modD (E.bin fdivD (E.var 1) (E.c (.int 8))) (E.c (.int 8))) (E.c (.int 1))) (S.set 4 (Xo.call F__law_copy [(E.var 3)])) S.nxt)
  (S.seq (S.ite (E.bin eqD (E.bin modD (E.bin fdivD (E.var 1) (E.c (.int 64))) (E.c (.int 8))) (E.c (.int 1))) (S.set 4 (Xo.call F__law_plain_table [(E.bin ixD (E.list [(E.c (.int 1)), (E.c (.int 2)), (E.c (.int 4)), (E.c (.int 8)), (E.c (.int 12)), (E.c (.int 16))]) (E.bin modD (E.bin fdivD (E.var 1) (E.c (.int 512))) (E.c (.int 6))))])) S.nxt)
  (S.seq (S.set 5 (Xo.of (E.list [(E.call F__law_copy [(E.var 3)]), (E.call F__law_copy [(E.var 4)])])))
  (S.seq (S.set 6 (Xo.call F__law_asked [(E.bin ixD (E.var 5) (E.c (.int 0))), (E.bin ixD (E.var 5) (E.c (.int 1)))]))
  (S.seq (S.ite (E.bin neD (E.blt lenD [(E.var 3)]) (E.blt lenD [(E.var 4)])) (S.ret (Xo.of (E.bin eqD (E.var 6) (E.c (.str "unlike"))))) S.nxt)
  (S.seq (S.ite (E.bin gtD (E.var 2) (E.c (.int 8))) (S.ret (Xo.of (E.bin eqD (E.var 6) (E.c (.str "great"))))) S.nxt)
  (S.seq (S.ite (E.or (E.not (E.call F__law_leads [(E.var 6), (E.var 3), (E.var 4)])) (E.bin neD (E.var 5) (E.list [(E.var 3), (E.var 4)]))) (S.ret (Xo.of (E.c (.bl false)))) S.nxt)
  (S.seq (S.ite (E.bin neD (E.call F_moved [(E.call F__law_copy [(E.var 3)]), (E.blt listC [(E.var 6)])]) (E.var 4)) (S.ret (Xo.of (E.c (.bl false)))) S.nxt)
  (S.seq (S.app 6 (E.tuple [(E.c (.str "row")), (E.c (.int 99))]))
  (S.ret (Xo.call F__law_leads [(E.call F__law_asked [(E.bin ixD (E.var 5) (E.c (.int 0))), (E.bin ixD (E.var 5) (E.c (.int 1)))]), (E.var 3), (E.var 4)])))))))))))))))
def F_law : List D → Option Out := runB g_law 7
end Lk07

set_option Elab.async false
set_option linter.all false
set_option maxRecDepth 100000
set_option maxHeartbeats 4000000
namespace Lk07
open PySem PySem.Spec PyProof.Rows L2 PL PM
def topS (i : Nat) : Stmt := PySem.Challenge.pw_plustables_k07_whole_led_into_one_anothe.main.body.getD i (.Pass ⟨0, 0, 0, 0⟩)
abbrev s_is_square : Stmt := topS 12
theorem sc_is_square : FnScope ["rows", "row", "number"] ["rows"] (defScope s_is_square) := ⟨rfl, rfl, rfl, by decide +kernel, rfl, by decide +kernel, by decide +kernel⟩
abbrev s_must_be_square : Stmt := topS 13
theorem sc_must_be_square : FnScope ["rows"] ["rows"] (defScope s_must_be_square) := ⟨rfl, rfl, rfl, by decide +kernel, rfl, by decide +kernel, by decide +kernel⟩
abbrev s_product_sum : Stmt := topS 14
theorem sc_product_sum : FnScope ["one", "other", "left", "right"] ["one", "other"] (defScope s_product_sum) := ⟨rfl, rfl, rfl, by decide +kernel, rfl, by decide +kernel, by decide +kernel⟩
abbrev s_balanced : Stmt := topS 15
theorem sc_balanced : FnScope ["rows", "k", "j"] ["rows"] (defScope s_balanced) := ⟨rfl, rfl, rfl, by decide +kernel, rfl, by decide +kernel, by decide +kernel⟩
abbrev s_must_be_table : Stmt := topS 16
theorem sc_must_be_table : FnScope ["rows"] ["rows"] (defScope s_must_be_table) := ⟨rfl, rfl, rfl, by decide +kernel, rfl, by decide +kernel, by decide +kernel⟩
abbrev s_is_move : Stmt := topS 19
theorem sc_is_move : FnScope ["size", "move"] ["size", "move"] (defScope s_is_move) := ⟨rfl, rfl, rfl, by decide +kernel, rfl, by decide +kernel, by decide +kernel⟩
abbrev s_swapped : Stmt := topS 20
theorem sc_swapped : FnScope ["row", "one", "other", "found"] ["row", "one", "other"] (defScope s_swapped) := ⟨rfl, rfl, rfl, by decide +kernel, rfl, by decide +kernel, by decide +kernel⟩
abbrev s_moved_by : Stmt := topS 21
theorem sc_moved_by : FnScope ["rows", "move", "row", "k", "number"] ["rows", "move"] (defScope s_moved_by) := ⟨rfl, rfl, rfl, by decide +kernel, rfl, by decide +kernel, by decide +kernel⟩
abbrev s_moved : Stmt := topS 22
theorem sc_moved : FnScope ["rows", "moves", "move", "found", "row"] ["rows", "moves"] (defScope s_moved) := ⟨rfl, rfl, rfl, by decide +kernel, rfl, by decide +kernel, by decide +kernel⟩
abbrev s_code : Stmt := topS 23
theorem sc_code : FnScope ["numbers", "found", "worth", "number"] ["numbers"] (defScope s_code) := ⟨rfl, rfl, rfl, by decide +kernel, rfl, by decide +kernel, by decide +kernel⟩
abbrev s_base_rows : Stmt := topS 24
theorem sc_base_rows : FnScope ["rows", "found", "known", "row", "other", "left", "right"] ["rows"] (defScope s_base_rows) := ⟨rfl, rfl, rfl, by decide +kernel, rfl, by decide +kernel, by decide +kernel⟩
abbrev s_sorting : Stmt := topS 25
theorem sc_sorting : FnScope ["codes", "word", "found", "row", "place", "at"] ["codes", "word"] (defScope s_sorting) := ⟨rfl, rfl, rfl, by decide +kernel, rfl, by decide +kernel, by decide +kernel⟩
abbrev s_moves_to_plain : Stmt := topS 26
theorem sc_moves_to_plain : FnScope ["rows", "size", "found", "move", "turns", "base", "changes", "ends", "last", "k", "place", "row"] ["rows"] (defScope s_moves_to_plain) := ⟨rfl, rfl, rfl, by decide +kernel, rfl, by decide +kernel, by decide +kernel⟩
abbrev s_led : Stmt := topS 27
theorem sc_led : FnScope ["one", "other"] ["one", "other"] (defScope s_led) := ⟨rfl, rfl, rfl, by decide +kernel, rfl, by decide +kernel, by decide +kernel⟩
abbrev s__law_cell_at : Stmt := topS 29
theorem sc__law_cell_at : FnScope ["script", "k"] ["script", "k"] (defScope s__law_cell_at) := ⟨rfl, rfl, rfl, by decide +kernel, rfl, by decide +kernel, by decide +kernel⟩
abbrev s__law_whole : Stmt := topS 30
theorem sc__law_whole : FnScope ["found"] ["found"] (defScope s__law_whole) := ⟨rfl, rfl, rfl, by decide +kernel, rfl, by decide +kernel, by decide +kernel⟩
abbrev s__law_stir : Stmt := topS 31
theorem sc__law_stir : FnScope ["seed"] ["seed"] (defScope s__law_stir) := ⟨rfl, rfl, rfl, by decide +kernel, rfl, by decide +kernel, by decide +kernel⟩
abbrev s__law_doubled : Stmt := topS 32
theorem sc__law_doubled : FnScope ["rows", "found", "row", "number"] ["rows"] (defScope s__law_doubled) := ⟨rfl, rfl, rfl, by decide +kernel, rfl, by decide +kernel, by decide +kernel⟩
abbrev s__law_by_prime : Stmt := topS 33
theorem sc__law_by_prime : FnScope ["prime", "squares", "found", "k", "row", "j"] ["prime"] (defScope s__law_by_prime) := ⟨rfl, rfl, rfl, by decide +kernel, rfl, by decide +kernel, by decide +kernel⟩
abbrev s__law_plain_table : Stmt := topS 34
theorem sc__law_plain_table : FnScope ["size", "found"] ["size"] (defScope s__law_plain_table) := ⟨rfl, rfl, rfl, by decide +kernel, rfl, by decide +kernel, by decide +kernel⟩
abbrev s__law_shuffled : Stmt := topS 35
theorem sc__law_shuffled : FnScope ["script", "at", "rows", "size", "order", "other", "k", "found", "turn", "line", "j"] ["script", "at", "rows"] (defScope s__law_shuffled) := ⟨rfl, rfl, rfl, by decide +kernel, rfl, by decide +kernel, by decide +kernel⟩
abbrev s__law_copy : Stmt := topS 39
theorem sc__law_copy : FnScope ["rows", "row"] ["rows"] (defScope s__law_copy) := ⟨rfl, rfl, rfl, by decide +kernel, rfl, by decide +kernel, by decide +kernel⟩
abbrev s__law_which : Stmt := topS 40
theorem sc__law_which : FnScope ["e", "low", "told"] ["e"] (defScope s__law_which) := ⟨rfl, rfl, rfl, by decide +kernel, rfl, by decide +kernel, by decide +kernel⟩
abbrev s__law_done : Stmt := topS 41
theorem sc__law_done : FnScope ["rows", "move", "found", "k", "number"] ["rows", "move"] (defScope s__law_done) := ⟨rfl, rfl, rfl, by decide +kernel, rfl, by decide +kernel, by decide +kernel⟩
abbrev s__law_is_move : Stmt := topS 42
theorem sc__law_is_move : FnScope ["size", "move", "one"] ["size", "move"] (defScope s__law_is_move) := ⟨rfl, rfl, rfl, by decide +kernel, rfl, by decide +kernel, by decide +kernel⟩
abbrev s__law_leads : Stmt := topS 43
theorem sc__law_leads : FnScope ["found", "one", "other", "here", "move"] ["found", "one", "other"] (defScope s__law_leads) := ⟨rfl, rfl, rfl, by decide +kernel, rfl, by decide +kernel, by decide +kernel⟩
abbrev s__law_asked : Stmt := topS 44
theorem sc__law_asked : FnScope ["one", "other", "told", "e"] ["one", "other"] (defScope s__law_asked) := ⟨rfl, rfl, rfl, by decide +kernel, rfl, by decide +kernel, by decide +kernel⟩
abbrev s_law : Stmt := topS 45
theorem sc_law : FnScope ["script", "cell", "size", "one", "other", "handed", "found"] ["script"] (defScope s_law) := ⟨rfl, rfl, rfl, by decide +kernel, rfl, by decide +kernel, by decide +kernel⟩
structure Tb (K : PySem.W.Frag) (mg : Str → Option Value) : Prop where
  d_is_square : ∃ f fd, Fun K "is_square" "is_square" s_is_square f fd ∧ mg "is_square" = some (.ref f)
  d_must_be_square : ∃ f fd, Fun K "must_be_square" "must_be_square" s_must_be_square f fd ∧ mg "must_be_square" = some (.ref f)
  d_product_sum : ∃ f fd, Fun K "product_sum" "product_sum" s_product_sum f fd ∧ mg "product_sum" = some (.ref f)
  d_balanced : ∃ f fd, Fun K "balanced" "balanced" s_balanced f fd ∧ mg "balanced" = some (.ref f)
  d_must_be_table : ∃ f fd, Fun K "must_be_table" "must_be_table" s_must_be_table f fd ∧ mg "must_be_table" = some (.ref f)
  d_is_move : ∃ f fd, Fun K "is_move" "is_move" s_is_move f fd ∧ mg "is_move" = some (.ref f)
  d_swapped : ∃ f fd, Fun K "swapped" "swapped" s_swapped f fd ∧ mg "swapped" = some (.ref f)
  d_moved_by : ∃ f fd, Fun K "moved_by" "moved_by" s_moved_by f fd ∧ mg "moved_by" = some (.ref f)
  d_moved : ∃ f fd, Fun K "moved" "moved" s_moved f fd ∧ mg "moved" = some (.ref f)
  d_code : ∃ f fd, Fun K "code" "code" s_code f fd ∧ mg "code" = some (.ref f)
  d_base_rows : ∃ f fd, Fun K "base_rows" "base_rows" s_base_rows f fd ∧ mg "base_rows" = some (.ref f)
  d_sorting : ∃ f fd, Fun K "sorting" "sorting" s_sorting f fd ∧ mg "sorting" = some (.ref f)
  d_moves_to_plain : ∃ f fd, Fun K "moves_to_plain" "moves_to_plain" s_moves_to_plain f fd ∧ mg "moves_to_plain" = some (.ref f)
  d_led : ∃ f fd, Fun K "led" "led" s_led f fd ∧ mg "led" = some (.ref f)
  d__law_cell_at : ∃ f fd, Fun K "_law_cell_at" "_law_cell_at" s__law_cell_at f fd ∧ mg "_law_cell_at" = some (.ref f)
  d__law_whole : ∃ f fd, Fun K "_law_whole" "_law_whole" s__law_whole f fd ∧ mg "_law_whole" = some (.ref f)
  d__law_stir : ∃ f fd, Fun K "_law_stir" "_law_stir" s__law_stir f fd ∧ mg "_law_stir" = some (.ref f)
  d__law_doubled : ∃ f fd, Fun K "_law_doubled" "_law_doubled" s__law_doubled f fd ∧ mg "_law_doubled" = some (.ref f)
  d__law_by_prime : ∃ f fd, Fun K "_law_by_prime" "_law_by_prime" s__law_by_prime f fd ∧ mg "_law_by_prime" = some (.ref f)
  d__law_plain_table : ∃ f fd, Fun K "_law_plain_table" "_law_plain_table" s__law_plain_table f fd ∧ mg "_law_plain_table" = some (.ref f)
  d__law_shuffled : ∃ f fd, Fun K "_law_shuffled" "_law_shuffled" s__law_shuffled f fd ∧ mg "_law_shuffled" = some (.ref f)
  d__law_copy : ∃ f fd, Fun K "_law_copy" "_law_copy" s__law_copy f fd ∧ mg "_law_copy" = some (.ref f)
  d__law_which : ∃ f fd, Fun K "_law_which" "_law_which" s__law_which f fd ∧ mg "_law_which" = some (.ref f)
  d__law_done : ∃ f fd, Fun K "_law_done" "_law_done" s__law_done f fd ∧ mg "_law_done" = some (.ref f)
  d__law_is_move : ∃ f fd, Fun K "_law_is_move" "_law_is_move" s__law_is_move f fd ∧ mg "_law_is_move" = some (.ref f)
  d__law_leads : ∃ f fd, Fun K "_law_leads" "_law_leads" s__law_leads f fd ∧ mg "_law_leads" = some (.ref f)
  d__law_asked : ∃ f fd, Fun K "_law_asked" "_law_asked" s__law_asked f fd ∧ mg "_law_asked" = some (.ref f)
  d_law : ∃ f fd, Fun K "law" "law" s_law f fd ∧ mg "law" = some (.ref f)
  z_len : mg "len" = none
  z_all : mg "all" = none
  z_sum : mg "sum" = none
  z_zip : mg "zip" = none
  z_range : mg "range" = none
  z_list : mg "list" = none
  z_enumerate : mg "enumerate" = none
  z_reversed : mg "reversed" = none
  z_isinstance : mg "isinstance" = none
  z_int : mg "int" = none
  z_bool : mg "bool" = none
  z_ValueError : mg "ValueError" = none
  z_tuple : mg "tuple" = none
  c_MOST_ROWS : ∃ t, mg "MOST_ROWS" = some (.int 24 t)
  c_MOST_LED : ∃ t, mg "MOST_LED" = some (.int 8 t)
  x_NoSquare : ExcF K mg "NoSquare"
  x_NoTable : ExcF K mg "NoTable"
  x_NoMove : ExcF K mg "NoMove"
  x_Unlike : ExcF K mg "Unlike"
  x_TooGreat : ExcF K mg "TooGreat"
  n_NoMove : ∃ C, mg "NoMove" = some (.ref C)
  n_NoNote : ∃ C, mg "NoNote" = some (.ref C)
  n_NoNumbers : ∃ C, mg "NoNumbers" = some (.ref C)
  n_NoSize : ∃ C, mg "NoSize" = some (.ref C)
  n_NoSquare : ∃ C, mg "NoSquare" = some (.ref C)
  n_NoTable : ∃ C, mg "NoTable" = some (.ref C)
  n_TooGreat : ∃ C, mg "TooGreat" = some (.ref C)
  n_Unlike : ∃ C, mg "Unlike" = some (.ref C)
  tab : ErrTab K mg ["NoSquare", "NoTable", "NoMove", "Unlike", "TooGreat"]
section
variable {P : Program} {w : World} {K : PySem.W.Frag} {mg : Str → Option Value} {base : Heap}
theorem has_is_square (T : Tb K mg) : Has P w K mg base 1 "is_square" ["rows"] F_is_square := by
  refine mkHas (g := g_is_square) (N := ["rows", "row", "number"]) T.d_is_square sc_is_square (fun f fd F => F.binds fun _ _ _ _ _ _ us hl => match us, hl with | [_], _ => rfl) (fun cdv f A outer s H E hr tk hp => ?_)
  have hu := hu65 hr
  exact ⟨_, (DSs.cons
    (DS.ite (DT.not (DT.leLe DE.int (DE.len T.z_len (DA.cons (DE.var 0) DA.nil)) (DE.globI T.c_MOST_ROWS))) (DSs.one (DS.ret (DX.of DE.bl))) DSs.nil)
    (DSs.cons
    (DS.forL (ks := [1]) hp (DI.list (DE.var 0)) (pg_name (i := 1) sc_is_square.nd rfl (by first | exact Or.inl rfl | exact Or.inr rfl)) smG_name (DSs.one (DS.ite (DT.ofW (DW.or (DT.ne hu (DE.len T.z_len (DA.cons (DE.var 1) DA.nil)) (DE.len T.z_len (DA.cons (DE.var 0) DA.nil))) (DW.or1 (DT.not (DT.val (DE.all T.z_all (DA.cons (DE.comp (own := [("number", 2)]) _ rfl sc_is_square.nd (DI.list (DE.var 1)) (blkOk_by (by kernel_rfl)) (fun _ _ _ _ _ => (pg_name (i := 2) sc_is_square.nd rfl (by first | exact Or.inl rfl | exact Or.inr rfl))) smG_name (fun _ _ _ _ _ => DTs.nil) (fun _ _ _ _ _ => (DE.or (DE.eq hu (DE.var 2) DE.int) (DE.one (DE.eq hu (DE.var 2) (DE.neg DE.int)))))) DA.nil))))))) (DSs.one (DS.ret (DX.of DE.bl))) DSs.nil)))
    (DSs.one (DS.ret (DX.of DE.bl)))))⟩
theorem has_must_be_square (T : Tb K mg) : Has P w K mg base 2 "must_be_square" ["rows"] F_must_be_square := by
  have h_is_square := has_is_square (P := P) (w := w) (base := base) T
  refine mkHas (g := g_must_be_square) (N := ["rows"]) T.d_must_be_square sc_must_be_square (fun f fd F => F.binds fun _ _ _ _ _ _ us hl => match us, hl with | [_], _ => rfl) (fun cdv f A outer s H E hr tk hp => ?_)
  have hu := hu65 hr
  exact ⟨_, (DSs.one (DS.ite (DT.not (DT.val (DE.callH h_is_square (hr.mono (by decide)) (DA.cons (DE.var 0) DA.nil)))) (DSs.one (DS.raise T.x_NoSquare tk)) DSs.nil))⟩
theorem has_product_sum (T : Tb K mg) : Has P w K mg base 1 "product_sum" ["one", "other"] F_product_sum := by
  refine mkHas (g := g_product_sum) (N := ["one", "other", "left", "right"]) T.d_product_sum sc_product_sum (fun f fd F => F.binds fun _ _ _ _ _ _ us hl => match us, hl with | [_, _], _ => rfl) (fun cdv f A outer s H E hr tk hp => ?_)
  have hu := hu65 hr
  exact ⟨_, (DSs.one (DS.ret (DX.of (DE.sum T.z_sum (DA.cons (DE.comp (own := [("left", 2), ("right", 3)]) _ rfl sc_product_sum.nd (DI.zip T.z_zip (DA.cons (DE.var 0) (DA.cons (DE.var 1) DA.nil))) (blkOk_by (by kernel_rfl)) (fun _ _ _ _ _ => (pg_tup rfl (pgs_cons (pg_name (i := 2) sc_product_sum.nd rfl (by first | exact Or.inl rfl | exact Or.inr rfl)) (pgs_cons (pg_name (i := 3) sc_product_sum.nd rfl (by first | exact Or.inl rfl | exact Or.inr rfl)) pgs_nil)))) smG_two (fun _ _ _ _ _ => DTs.nil) (fun _ _ _ _ _ => (DE.mul (DE.var 2) (DE.var 3)))) DA.nil)))))⟩
theorem has_balanced (T : Tb K mg) : Has P w K mg base 2 "balanced" ["rows"] F_balanced := by
  have h_product_sum := has_product_sum (P := P) (w := w) (base := base) T
  refine mkHas (g := g_balanced) (N := ["rows", "k", "j"]) T.d_balanced sc_balanced (fun f fd F => F.binds fun _ _ _ _ _ _ us hl => match us, hl with | [_], _ => rfl) (fun cdv f A outer s H E hr tk hp => ?_)
  have hu := hu65 hr
  exact ⟨_, (DSs.cons
    (DS.forR (ks := [1, 2]) hp (DR.rng1 T.z_range (DA.cons (DE.len T.z_len (DA.cons (DE.var 0) DA.nil)) DA.nil)) (pg_name (i := 1) sc_balanced.nd rfl (by first | exact Or.inl rfl | exact Or.inr rfl)) smG_name (DSs.one (DS.forR (ks := [2]) hp (DR.rng1 T.z_range (DA.cons (DE.var 1) DA.nil)) (pg_name (i := 2) sc_balanced.nd rfl (by first | exact Or.inl rfl | exact Or.inr rfl)) smG_name (DSs.one (DS.ite (DT.ne hu (DE.callH h_product_sum (hr.mono (by decide)) (DA.cons (DE.ix (DE.var 0) (DE.var 1)) (DA.cons (DE.ix (DE.var 0) (DE.var 2)) DA.nil))) DE.int) (DSs.one (DS.ret (DX.of DE.bl))) DSs.nil)))))
    (DSs.one (DS.ret (DX.of DE.bl))))⟩
theorem has_must_be_table (T : Tb K mg) : Has P w K mg base 3 "must_be_table" ["rows"] F_must_be_table := by
  have h_must_be_square := has_must_be_square (P := P) (w := w) (base := base) T
  have h_balanced := has_balanced (P := P) (w := w) (base := base) T
  refine mkHas (g := g_must_be_table) (N := ["rows"]) T.d_must_be_table sc_must_be_table (fun f fd F => F.binds fun _ _ _ _ _ _ us hl => match us, hl with | [_], _ => rfl) (fun cdv f A outer s H E hr tk hp => ?_)
  have hu := hu65 hr
  exact ⟨_, (DSs.cons
    (DS.drop (DX.callH h_must_be_square (hr.mono (by decide)) tk (DA.cons (DE.var 0) DA.nil)))
    (DSs.one (DS.ite (DT.not (DT.val (DE.callH h_balanced (hr.mono (by decide)) (DA.cons (DE.var 0) DA.nil)))) (DSs.one (DS.raise T.x_NoTable tk)) DSs.nil)))⟩
theorem has_is_move (T : Tb K mg) : Has P w K mg base 1 "is_move" ["size", "move"] F_is_move := by
  refine mkHas (g := g_is_move) (N := ["size", "move"]) T.d_is_move sc_is_move (fun f fd F => F.binds fun _ _ _ _ _ _ us hl => match us, hl with | [_, _], _ => rfl) (fun cdv f A outer s H E hr tk hp => ?_)
  have hu := hu65 hr
  exact ⟨_, (DSs.cons
    (DS.ite (DT.ofW (DW.or (DT.eq hu (DE.ix (DE.var 1) DE.int) DE.str) (DW.or1 (DT.eq hu (DE.ix (DE.var 1) DE.int) DE.str)))) (DSs.one (DS.ret (DX.of (DE.leLt DE.int (DE.ix (DE.var 1) DE.int) (DE.var 0))))) DSs.nil)
    (DSs.one (DS.ret (DX.of (DE.leLtLt DE.int (DE.ix (DE.var 1) DE.int) (DE.ix (DE.var 1) DE.int) (DE.var 0))))))⟩
theorem has_swapped (T : Tb K mg) : Has P w K mg base 1 "swapped" ["row", "one", "other"] F_swapped := by
  refine mkHas (g := g_swapped) (N := ["row", "one", "other", "found"]) T.d_swapped sc_swapped (fun f fd F => F.binds fun _ _ _ _ _ _ us hl => match us, hl with | [_, _, _], _ => rfl) (fun cdv f A outer s H E hr tk hp => ?_)
  have hu := hu65 hr
  exact ⟨_, (DSs.cons
    (DS.set 3 (DX.of (DE.listC T.z_list (DA.cons (DE.var 0) DA.nil))) sc_swapped.nd)
    (DSs.cons
    (DS.setIx (i := 3) (DE.var 1) (DE.ix (DE.var 0) (DE.var 2)) (fun hk he => ps_asg he (pg_sub (pv 3) hk set_list)))
    (DSs.cons
    (DS.setIx (i := 3) (DE.var 2) (DE.ix (DE.var 0) (DE.var 1)) (fun hk he => ps_asg he (pg_sub (pv 3) hk set_list)))
    (DSs.one (DS.retN 3)))))⟩
theorem has_moved_by (T : Tb K mg) : Has P w K mg base 2 "moved_by" ["rows", "move"] F_moved_by := by
  have h_swapped := has_swapped (P := P) (w := w) (base := base) T
  refine mkHas (g := g_moved_by) (N := ["rows", "move", "row", "k", "number"]) T.d_moved_by sc_moved_by (fun f fd F => F.binds fun _ _ _ _ _ _ us hl => match us, hl with | [_, _], _ => rfl) (fun cdv f A outer s H E hr tk hp => ?_)
  have hu := hu65 hr
  exact ⟨_, (DSs.cons
    (DS.ite (DT.eq hu (DE.ix (DE.var 1) DE.int) DE.str) (DSs.one (DS.ret (DX.of (DE.comp (own := [("k", 3), ("row", 2)]) _ rfl sc_moved_by.nd (DI.enum T.z_enumerate (DA.cons (DE.var 0) DA.nil)) (blkOk_by (by kernel_rfl)) (fun _ _ _ _ _ => (pg_tup rfl (pgs_cons (pg_name (i := 3) sc_moved_by.nd rfl (by first | exact Or.inl rfl | exact Or.inr rfl)) (pgs_cons (pg_name (i := 2) sc_moved_by.nd rfl (by first | exact Or.inl rfl | exact Or.inr rfl)) pgs_nil)))) smG_two (fun _ _ _ _ _ => DTs.nil) (fun _ _ _ _ _ => (DE.comp (own := [("number", 4)]) _ rfl sc_moved_by.nd (DI.list (DE.var 2)) (blkOk_by (by kernel_rfl)) (fun _ _ _ _ _ => (pg_name (i := 4) sc_moved_by.nd rfl (by first | exact Or.inl rfl | exact Or.inr rfl))) smG_name (fun _ _ _ _ _ => DTs.nil) (fun _ _ _ _ _ => (DE.ifExp (DT.eq hu (DE.var 3) (DE.ix (DE.var 1) DE.int)) (DE.neg (DE.var 4)) (DE.var 4))))))))) DSs.nil)
    (DSs.cons
    (DS.ite (DT.eq hu (DE.ix (DE.var 1) DE.int) DE.str) (DSs.one (DS.ret (DX.of (DE.comp (own := [("row", 2)]) _ rfl sc_moved_by.nd (DI.list (DE.var 0)) (blkOk_by (by kernel_rfl)) (fun _ _ _ _ _ => (pg_name (i := 2) sc_moved_by.nd rfl (by first | exact Or.inl rfl | exact Or.inr rfl))) smG_name (fun _ _ _ _ _ => DTs.nil) (fun _ _ _ _ _ => (DE.comp (own := [("k", 3), ("number", 4)]) _ rfl sc_moved_by.nd (DI.enum T.z_enumerate (DA.cons (DE.var 2) DA.nil)) (blkOk_by (by kernel_rfl)) (fun _ _ _ _ _ => (pg_tup rfl (pgs_cons (pg_name (i := 3) sc_moved_by.nd rfl (by first | exact Or.inl rfl | exact Or.inr rfl)) (pgs_cons (pg_name (i := 4) sc_moved_by.nd rfl (by first | exact Or.inl rfl | exact Or.inr rfl)) pgs_nil)))) smG_two (fun _ _ _ _ _ => DTs.nil) (fun _ _ _ _ _ => (DE.ifExp (DT.eq hu (DE.var 3) (DE.ix (DE.var 1) DE.int)) (DE.neg (DE.var 4)) (DE.var 4))))))))) DSs.nil)
    (DSs.cons
    (DS.ite (DT.eq hu (DE.ix (DE.var 1) DE.int) DE.str) (DSs.one (DS.ret (DX.of (DE.comp (own := [("row", 2)]) _ rfl sc_moved_by.nd (DI.list (DE.callH h_swapped (hr.mono (by decide)) (DA.cons (DE.var 0) (DA.cons (DE.ix (DE.var 1) DE.int) (DA.cons (DE.ix (DE.var 1) DE.int) DA.nil))))) (blkOk_by (by kernel_rfl)) (fun _ _ _ _ _ => (pg_name (i := 2) sc_moved_by.nd rfl (by first | exact Or.inl rfl | exact Or.inr rfl))) smG_name (fun _ _ _ _ _ => DTs.nil) (fun _ _ _ _ _ => (DE.listC T.z_list (DA.cons (DE.var 2) DA.nil))))))) DSs.nil)
    (DSs.one (DS.ret (DX.of (DE.comp (own := [("row", 2)]) _ rfl sc_moved_by.nd (DI.list (DE.var 0)) (blkOk_by (by kernel_rfl)) (fun _ _ _ _ _ => (pg_name (i := 2) sc_moved_by.nd rfl (by first | exact Or.inl rfl | exact Or.inr rfl))) smG_name (fun _ _ _ _ _ => DTs.nil) (fun _ _ _ _ _ => (DE.callH h_swapped (hr.mono (by decide)) (DA.cons (DE.var 2) (DA.cons (DE.ix (DE.var 1) DE.int) (DA.cons (DE.ix (DE.var 1) DE.int) DA.nil))))))))))))⟩
theorem has_moved (T : Tb K mg) : Has P w K mg base 3 "moved" ["rows", "moves"] F_moved := by
  have h_must_be_square := has_must_be_square (P := P) (w := w) (base := base) T
  have h_moved_by := has_moved_by (P := P) (w := w) (base := base) T
  have h_is_move := has_is_move (P := P) (w := w) (base := base) T
  refine mkHas (g := g_moved) (N := ["rows", "moves", "move", "found", "row"]) T.d_moved sc_moved (fun f fd F => F.binds fun _ _ _ _ _ _ us hl => match us, hl with | [_, _], _ => rfl) (fun cdv f A outer s H E hr tk hp => ?_)
  have hu := hu65 hr
  exact ⟨_, (DSs.cons
    (DS.drop (DX.callH h_must_be_square (hr.mono (by decide)) tk (DA.cons (DE.var 0) DA.nil)))
    (DSs.cons
    (DS.forL (ks := [2]) hp (DI.list (DE.var 1)) (pg_name (i := 2) sc_moved.nd rfl (by first | exact Or.inl rfl | exact Or.inr rfl)) smG_name (DSs.one (DS.ite (DT.not (DT.val (DE.callH h_is_move (hr.mono (by decide)) (DA.cons (DE.len T.z_len (DA.cons (DE.var 0) DA.nil)) (DA.cons (DE.var 2) DA.nil))))) (DSs.one (DS.raise T.x_NoMove tk)) DSs.nil)))
    (DSs.cons
    (DS.setC (own := [("row", 4)]) 3 sc_moved.nd (DI.list (DE.var 0)) (blkOk_by (by kernel_rfl)) (fun _ _ _ _ _ => (pg_name (i := 4) sc_moved.nd rfl (by first | exact Or.inl rfl | exact Or.inr rfl))) smG_name (fun _ _ _ _ _ => DTs.nil) (fun _ _ _ _ _ => (DE.listC T.z_list (DA.cons (DE.var 4) DA.nil))) (sw_true rfl rfl rfl (by kernel_rfl)))
    (DSs.cons
    (DS.forL (ks := [2]) hp (DI.list (DE.var 1)) (pg_name (i := 2) sc_moved.nd rfl (by first | exact Or.inl rfl | exact Or.inr rfl)) smG_name (DSs.one (DS.set 3 (DX.callH h_moved_by (hr.mono (by decide)) tk (DA.cons (DE.var 3) (DA.cons (DE.var 2) DA.nil))) sc_moved.nd)))
    (DSs.one (DS.retN 3))))))⟩
theorem has_code (T : Tb K mg) : Has P w K mg base 1 "code" ["numbers"] F_code := by
  refine mkHas (g := g_code) (N := ["numbers", "found", "worth", "number"]) T.d_code sc_code (fun f fd F => F.binds fun _ _ _ _ _ _ us hl => match us, hl with | [_], _ => rfl) (fun cdv f A outer s H E hr tk hp => ?_)
  have hu := hu65 hr
  exact ⟨_, (DSs.cons
    (DS.set 1 (DX.of DE.int) sc_code.nd)
    (DSs.cons
    (DS.set 2 (DX.of DE.int) sc_code.nd)
    (DSs.cons
    (DS.forL (ks := [3]) hp (DI.list (DE.var 0)) (pg_name (i := 3) sc_code.nd rfl (by first | exact Or.inl rfl | exact Or.inr rfl)) smG_name (DSs.cons
    (DS.ite (DT.eq hu (DE.var 3) (DE.neg DE.int)) (DSs.one (DS.set 1 (DX.of (DE.add (DE.var 1) (DE.var 2))) sc_code.nd)) DSs.nil)
    (DSs.one (DS.set 2 (DX.of (DE.mul DE.int (DE.var 2))) sc_code.nd))))
    (DSs.one (DS.retN 1)))))⟩
theorem has_base_rows (T : Tb K mg) : Has P w K mg base 1 "base_rows" ["rows"] F_base_rows := by
  refine mkHas (g := g_base_rows) (N := ["rows", "found", "known", "row", "other", "left", "right"]) T.d_base_rows sc_base_rows (fun f fd F => F.binds fun _ _ _ _ _ _ us hl => match us, hl with | [_], _ => rfl) (fun cdv f A outer s H E hr tk hp => ?_)
  have hu := hu65 hr
  exact ⟨_, (DSs.cons
    (DS.set 1 (DX.of (DE.list DA.nil)) sc_base_rows.nd)
    (DSs.cons
    (DS.set 2 (DX.of (DE.list (DA.cons (DE.listC T.z_list (DA.cons (DE.ix (DE.var 0) DE.int) DA.nil)) DA.nil))) sc_base_rows.nd)
    (DSs.cons
    (DS.forL (ks := [3]) hp (DI.list (DE.slice (DE.var 0) (DO.some DE.int) DO.non)) (pg_name (i := 3) sc_base_rows.nd rfl (by first | exact Or.inl rfl | exact Or.inr rfl)) smG_name (DSs.one (DS.ite (DT.notInL hu (DE.listC T.z_list (DA.cons (DE.var 3) DA.nil)) (DE.var 2)) (DSs.cons
    (DS.appS (i := 1) (j := 3) (ps_expr (pe_bm PySem.F.plainAttrs_list PySem.F.slot_list_append PySem.F.type_list_append mt_append (pv 1) (pa_cons (pv 3) pa_nil))))
    (DSs.one (DS.frz 2 (DS.set 2 (DX.of (DE.add (DE.var 2) (DE.comp (own := [("other", 4)]) _ rfl sc_base_rows.nd (DI.list (DE.var 2)) (blkOk_by (by kernel_rfl)) (fun _ _ _ _ _ => (pg_name (i := 4) sc_base_rows.nd rfl (by first | exact Or.inl rfl | exact Or.inr rfl))) smG_name (fun _ _ _ _ _ => DTs.nil) (fun _ _ _ _ _ => (DE.comp (own := [("left", 5), ("right", 6)]) _ rfl sc_base_rows.nd (DI.zip T.z_zip (DA.cons (DE.var 3) (DA.cons (DE.var 4) DA.nil))) (blkOk_by (by kernel_rfl)) (fun _ _ _ _ _ => (pg_tup rfl (pgs_cons (pg_name (i := 5) sc_base_rows.nd rfl (by first | exact Or.inl rfl | exact Or.inr rfl)) (pgs_cons (pg_name (i := 6) sc_base_rows.nd rfl (by first | exact Or.inl rfl | exact Or.inr rfl)) pgs_nil)))) smG_two (fun _ _ _ _ _ => DTs.nil) (fun _ _ _ _ _ => (DE.mul (DE.var 5) (DE.var 6)))))))) sc_base_rows.nd)))) DSs.nil)))
    (DSs.one (DS.retN 1)))))⟩
theorem has_sorting (T : Tb K mg) : Has P w K mg base 2 "sorting" ["codes", "word"] F_sorting := by
  have h_swapped := has_swapped (P := P) (w := w) (base := base) T
  refine mkHas (g := g_sorting) (N := ["codes", "word", "found", "row", "place", "at"]) T.d_sorting sc_sorting (fun f fd F => F.binds fun _ _ _ _ _ _ us hl => match us, hl with | [_, _], _ => rfl) (fun cdv f A outer s H E hr tk hp => ?_)
  have hu := hu65 hr
  exact ⟨_, (DSs.cons
    (DS.set 2 (DX.of (DE.list DA.nil)) sc_sorting.nd)
    (DSs.cons
    (DS.set 3 (DX.of (DE.listC T.z_list (DA.cons (DE.var 0) DA.nil))) sc_sorting.nd)
    (DSs.cons
    (DS.forR (ks := [4, 5]) hp (DR.rng1 T.z_range (DA.cons (DE.len T.z_len (DA.cons (DE.var 3) DA.nil)) DA.nil)) (pg_name (i := 4) sc_sorting.nd rfl (by first | exact Or.inl rfl | exact Or.inr rfl)) smG_name (DSs.cons
    (DS.set 5 (DX.of (DE.mindex (DE.var 3) (DE.var 4) (fun ho he => (pe_bm PySem.F.plainAttrs_list PySem.F.slot_list_index PySem.F.type_list_index mt_index ho (pa_cons he pa_nil))))) sc_sorting.nd)
    (DSs.one (DS.ite (DT.ne hu (DE.var 5) (DE.var 4)) (DSs.cons
    (DS.app (i := 2) (DE.tuple (DA.cons (DE.var 1) (DA.cons (DE.var 4) (DA.cons (DE.var 5) DA.nil)))) (fun he => ps_expr (pe_bm PySem.F.plainAttrs_list PySem.F.slot_list_append PySem.F.type_list_append mt_append (pv 2) (pa_cons he pa_nil))))
    (DSs.one (DS.set 3 (DX.callH h_swapped (hr.mono (by decide)) tk (DA.cons (DE.var 3) (DA.cons (DE.var 4) (DA.cons (DE.var 5) DA.nil)))) sc_sorting.nd))) DSs.nil))))
    (DSs.one (DS.retN 2)))))⟩
theorem has_moves_to_plain (T : Tb K mg) : Has P w K mg base 3 "moves_to_plain" ["rows"] F_moves_to_plain := by
  have h_base_rows := has_base_rows (P := P) (w := w) (base := base) T
  have h_sorting := has_sorting (P := P) (w := w) (base := base) T
  have h_moved_by := has_moved_by (P := P) (w := w) (base := base) T
  have h_code := has_code (P := P) (w := w) (base := base) T
  refine mkHas (g := g_moves_to_plain) (N := ["rows", "size", "found", "move", "turns", "base", "changes", "ends", "last", "k", "place", "row"]) T.d_moves_to_plain sc_moves_to_plain (fun f fd F => F.binds fun _ _ _ _ _ _ us hl => match us, hl with | [_], _ => rfl) (fun cdv f A outer s H E hr tk hp => ?_)
  have hu := hu65 hr
  exact ⟨_, (DSs.cons
    (DS.set 1 (DX.of (DE.len T.z_len (DA.cons (DE.var 0) DA.nil))) sc_moves_to_plain.nd)
    (DSs.cons
    (DS.setC (own := [("k", 9)]) 2 sc_moves_to_plain.nd (DR.di (DR.rng1 T.z_range (DA.cons (DE.var 1) DA.nil))) (blkOk_by (by kernel_rfl)) (fun _ _ _ _ _ => (pg_name (i := 9) sc_moves_to_plain.nd rfl (by first | exact Or.inl rfl | exact Or.inr rfl))) smG_name (fun _ _ _ _ _ => (DTs.one (DT.eq hu (DE.ix (DE.ix (DE.var 0) DE.int) (DE.var 9)) (DE.neg DE.int)))) (fun _ _ _ _ _ => (DE.tuple (DA.cons DE.str (DA.cons (DE.var 9) DA.nil)))) (sw_true rfl rfl rfl (by kernel_rfl)))
    (DSs.cons
    (DS.frz 2 (DS.forL (ks := [3]) hp (DI.list (DE.var 2)) (pg_name (i := 3) sc_moves_to_plain.nd rfl (by first | exact Or.inl rfl | exact Or.inr rfl)) smG_name (DSs.one (DS.set 0 (DX.callH h_moved_by (hr.mono (by decide)) tk (DA.cons (DE.var 0) (DA.cons (DE.var 3) DA.nil))) sc_moves_to_plain.nd))))
    (DSs.cons
    (DS.setC (own := [("k", 9)]) 4 sc_moves_to_plain.nd (DR.di (DR.rng1 T.z_range (DA.cons (DE.var 1) DA.nil))) (blkOk_by (by kernel_rfl)) (fun _ _ _ _ _ => (pg_name (i := 9) sc_moves_to_plain.nd rfl (by first | exact Or.inl rfl | exact Or.inr rfl))) smG_name (fun _ _ _ _ _ => (DTs.one (DT.eq hu (DE.ix (DE.ix (DE.var 0) (DE.var 9)) DE.int) (DE.neg DE.int)))) (fun _ _ _ _ _ => (DE.tuple (DA.cons DE.str (DA.cons (DE.var 9) DA.nil)))) (sw_true rfl rfl rfl (by kernel_rfl)))
    (DSs.cons
    (DS.frz 4 (DS.forL (ks := [3]) hp (DI.list (DE.var 4)) (pg_name (i := 3) sc_moves_to_plain.nd rfl (by first | exact Or.inl rfl | exact Or.inr rfl)) smG_name (DSs.one (DS.set 0 (DX.callH h_moved_by (hr.mono (by decide)) tk (DA.cons (DE.var 0) (DA.cons (DE.var 3) DA.nil))) sc_moves_to_plain.nd))))
    (DSs.cons
    (DS.frz 0 (DS.set 5 (DX.callH h_base_rows (hr.mono (by decide)) tk (DA.cons (DE.var 0) DA.nil)) sc_moves_to_plain.nd))
    (DSs.cons
    (DS.set 6 (DX.callH h_sorting (hr.mono (by decide)) tk (DA.cons (DE.comp (own := [("k", 9)]) _ rfl sc_moves_to_plain.nd (DR.di (DR.rng1 T.z_range (DA.cons (DE.var 1) DA.nil))) (blkOk_by (by kernel_rfl)) (fun _ _ _ _ _ => (pg_name (i := 9) sc_moves_to_plain.nd rfl (by first | exact Or.inl rfl | exact Or.inr rfl))) smG_name (fun _ _ _ _ _ => DTs.nil) (fun _ _ _ _ _ => (DE.callH h_code (hr.mono (by decide)) (DA.cons (DE.comp (own := [("row", 11)]) _ rfl sc_moves_to_plain.nd (DI.list (DE.var 5)) (blkOk_by (by kernel_rfl)) (fun _ _ _ _ _ => (pg_name (i := 11) sc_moves_to_plain.nd rfl (by first | exact Or.inl rfl | exact Or.inr rfl))) smG_name (fun _ _ _ _ _ => DTs.nil) (fun _ _ _ _ _ => (DE.ix (DE.var 11) (DE.var 9)))) DA.nil)))) (DA.cons DE.str DA.nil))) sc_moves_to_plain.nd)
    (DSs.cons
    (DS.frz 6 (DS.forL (ks := [3]) hp (DI.list (DE.var 6)) (pg_name (i := 3) sc_moves_to_plain.nd rfl (by first | exact Or.inl rfl | exact Or.inr rfl)) smG_name (DSs.one (DS.set 0 (DX.callH h_moved_by (hr.mono (by decide)) tk (DA.cons (DE.var 0) (DA.cons (DE.var 3) DA.nil))) sc_moves_to_plain.nd))))
    (DSs.cons
    (DS.set 7 (DX.of (DE.comp (own := [("place", 10)]) _ rfl sc_moves_to_plain.nd (DI.tup (DE.tuple (DA.cons DE.int (DA.cons DE.int (DA.cons DE.int DA.nil))))) (blkOk_by (by kernel_rfl)) (fun _ _ _ _ _ => (pg_name (i := 10) sc_moves_to_plain.nd rfl (by first | exact Or.inl rfl | exact Or.inr rfl))) smG_name (fun _ _ _ _ _ => (DTs.one (DT.lt (DE.var 10) (DE.var 1)))) (fun _ _ _ _ _ => (DE.var 10)))) sc_moves_to_plain.nd)
    (DSs.cons
    (DS.set 8 (DX.callH h_sorting (hr.mono (by decide)) tk (DA.cons (DE.comp (own := [("row", 11)]) _ rfl sc_moves_to_plain.nd (DI.list (DE.var 0)) (blkOk_by (by kernel_rfl)) (fun _ _ _ _ _ => (pg_name (i := 11) sc_moves_to_plain.nd rfl (by first | exact Or.inl rfl | exact Or.inr rfl))) smG_name (fun _ _ _ _ _ => DTs.nil) (fun _ _ _ _ _ => (DE.callH h_code (hr.mono (by decide)) (DA.cons (DE.comp (own := [("place", 10)]) _ rfl sc_moves_to_plain.nd (DI.list (DE.var 7)) (blkOk_by (by kernel_rfl)) (fun _ _ _ _ _ => (pg_name (i := 10) sc_moves_to_plain.nd rfl (by first | exact Or.inl rfl | exact Or.inr rfl))) smG_name (fun _ _ _ _ _ => DTs.nil) (fun _ _ _ _ _ => (DE.ix (DE.var 11) (DE.var 10)))) DA.nil)))) (DA.cons DE.str DA.nil))) sc_moves_to_plain.nd)
    (DSs.one (DS.ret (DX.of (DE.add (DE.add (DE.add (DE.var 2) (DE.var 4)) (DE.var 6)) (DE.var 8)))))))))))))))⟩
theorem has_led (T : Tb K mg) : Has P w K mg base 4 "led" ["one", "other"] F_led := by
  have h_must_be_table := has_must_be_table (P := P) (w := w) (base := base) T
  have h_moves_to_plain := has_moves_to_plain (P := P) (w := w) (base := base) T
  refine mkHas (g := g_led) (N := ["one", "other"]) T.d_led sc_led (fun f fd F => F.binds fun _ _ _ _ _ _ us hl => match us, hl with | [_, _], _ => rfl) (fun cdv f A outer s H E hr tk hp => ?_)
  have hu := hu65 hr
  exact ⟨_, (DSs.cons
    (DS.drop (DX.callH h_must_be_table (hr.mono (by decide)) tk (DA.cons (DE.var 0) DA.nil)))
    (DSs.cons
    (DS.drop (DX.callH h_must_be_table (hr.mono (by decide)) tk (DA.cons (DE.var 1) DA.nil)))
    (DSs.cons
    (DS.ite (DT.ne hu (DE.len T.z_len (DA.cons (DE.var 0) DA.nil)) (DE.len T.z_len (DA.cons (DE.var 1) DA.nil))) (DSs.one (DS.raise T.x_Unlike tk)) DSs.nil)
    (DSs.cons
    (DS.ite (DT.gt (DE.len T.z_len (DA.cons (DE.var 0) DA.nil)) (DE.globI T.c_MOST_LED)) (DSs.one (DS.raise T.x_TooGreat tk)) DSs.nil)
    (DSs.one (DS.ret (DX.of (DE.add (DE.callH h_moves_to_plain (hr.mono (by decide)) (DA.cons (DE.var 0) DA.nil)) (DE.listRev T.z_list T.z_reversed (DE.callH h_moves_to_plain (hr.mono (by decide)) (DA.cons (DE.var 1) DA.nil)))))))))))⟩
theorem has__law_cell_at (T : Tb K mg) : Has P w K mg base 1 "_law_cell_at" ["script", "k"] F__law_cell_at := by
  refine mkHas (g := g__law_cell_at) (N := ["script", "k"]) T.d__law_cell_at sc__law_cell_at (fun f fd F => F.binds fun _ _ _ _ _ _ us hl => match us, hl with | [_, _], _ => rfl) (fun cdv f A outer s H E hr tk hp => ?_)
  have hu := hu65 hr
  exact ⟨_, (DSs.cons
    (DS.ite (DT.lt (DE.var 1) (DE.len T.z_len (DA.cons (DE.var 0) DA.nil))) (DSs.one (DS.ret (DX.of (DE.ix (DE.var 0) (DE.var 1))))) DSs.nil)
    (DSs.one (DS.ret (DX.of DE.int))))⟩
theorem has__law_whole (T : Tb K mg) : Has P w K mg base 1 "_law_whole" ["found"] F__law_whole := by
  refine mkHas (g := g__law_whole) (N := ["found"]) T.d__law_whole sc__law_whole (fun f fd F => F.binds fun _ _ _ _ _ _ us hl => match us, hl with | [_], _ => rfl) (fun cdv f A outer s H E hr tk hp => ?_)
  have hu := hu65 hr
  exact ⟨_, (DSs.one (DS.ret (DX.of (DE.and (DE.isi "int" T.z_isinstance T.z_int (DE.var 0)) (DE.one (DE.not (DE.isi "bool" T.z_isinstance T.z_bool (DE.var 0))))))))⟩
theorem has__law_stir (T : Tb K mg) : Has P w K mg base 1 "_law_stir" ["seed"] F__law_stir := by
  refine mkHas (g := g__law_stir) (N := ["seed"]) T.d__law_stir sc__law_stir (fun f fd F => F.binds fun _ _ _ _ _ _ us hl => match us, hl with | [_], _ => rfl) (fun cdv f A outer s H E hr tk hp => ?_)
  have hu := hu65 hr
  exact ⟨_, (DSs.cons
    (DS.set 0 (DX.of (DE.mod (DE.add (DE.var 0) DE.int) DE.int)) sc__law_stir.nd)
    (DSs.one (DS.ret (DX.of (DE.mod (DE.add (DE.add (DE.mul (DE.var 0) (DE.var 0)) (DE.mul DE.int (DE.var 0))) DE.int) DE.int)))))⟩
theorem has__law_doubled (T : Tb K mg) : Has P w K mg base 1 "_law_doubled" ["rows"] F__law_doubled := by
  refine mkHas (g := g__law_doubled) (N := ["rows", "found", "row", "number"]) T.d__law_doubled sc__law_doubled (fun f fd F => F.binds fun _ _ _ _ _ _ us hl => match us, hl with | [_], _ => rfl) (fun cdv f A outer s H E hr tk hp => ?_)
  have hu := hu65 hr
  exact ⟨_, (DSs.cons
    (DS.setC (own := [("row", 2)]) 1 sc__law_doubled.nd (DI.list (DE.var 0)) (blkOk_by (by kernel_rfl)) (fun _ _ _ _ _ => (pg_name (i := 2) sc__law_doubled.nd rfl (by first | exact Or.inl rfl | exact Or.inr rfl))) smG_name (fun _ _ _ _ _ => DTs.nil) (fun _ _ _ _ _ => (DE.add (DE.var 2) (DE.var 2))) (sw_true rfl rfl rfl (by kernel_rfl)))
    (DSs.one (DS.frz 1 (DS.ret (DX.of (DE.add (DE.var 1) (DE.comp (own := [("row", 2)]) _ rfl sc__law_doubled.nd (DI.list (DE.var 0)) (blkOk_by (by kernel_rfl)) (fun _ _ _ _ _ => (pg_name (i := 2) sc__law_doubled.nd rfl (by first | exact Or.inl rfl | exact Or.inr rfl))) smG_name (fun _ _ _ _ _ => DTs.nil) (fun _ _ _ _ _ => (DE.add (DE.var 2) (DE.comp (own := [("number", 3)]) _ rfl sc__law_doubled.nd (DI.list (DE.var 2)) (blkOk_by (by kernel_rfl)) (fun _ _ _ _ _ => (pg_name (i := 3) sc__law_doubled.nd rfl (by first | exact Or.inl rfl | exact Or.inr rfl))) smG_name (fun _ _ _ _ _ => DTs.nil) (fun _ _ _ _ _ => (DE.neg (DE.var 3)))))))))))))⟩
theorem has__law_by_prime (T : Tb K mg) : Has P w K mg base 1 "_law_by_prime" ["prime"] F__law_by_prime := by
  refine mkHas (g := g__law_by_prime) (N := ["prime", "squares", "found", "k", "row", "j"]) T.d__law_by_prime sc__law_by_prime (fun f fd F => F.binds fun _ _ _ _ _ _ us hl => match us, hl with | [_], _ => rfl) (fun cdv f A outer s H E hr tk hp => ?_)
  have hu := hu65 hr
  exact ⟨_, (DSs.cons
    (DS.setC (own := [("k", 3)]) 1 sc__law_by_prime.nd (DR.di (DR.rng2 T.z_range (DA.cons DE.int (DA.cons (DE.var 0) DA.nil)))) (blkOk_by (by kernel_rfl)) (fun _ _ _ _ _ => (pg_name (i := 3) sc__law_by_prime.nd rfl (by first | exact Or.inl rfl | exact Or.inr rfl))) smG_name (fun _ _ _ _ _ => DTs.nil) (fun _ _ _ _ _ => (DE.mod (DE.mul (DE.var 3) (DE.var 3)) (DE.var 0))) (sw_true rfl rfl rfl (by kernel_rfl)))
    (DSs.cons
    (DS.set 2 (DX.of (DE.list (DA.cons (DE.comp (own := [("k", 3)]) _ rfl sc__law_by_prime.nd (DR.di (DR.rng1 T.z_range (DA.cons (DE.add (DE.var 0) DE.int) DA.nil))) (blkOk_by (by kernel_rfl)) (fun _ _ _ _ _ => (pg_name (i := 3) sc__law_by_prime.nd rfl (by first | exact Or.inl rfl | exact Or.inr rfl))) smG_name (fun _ _ _ _ _ => DTs.nil) (fun _ _ _ _ _ => DE.int)) DA.nil))) sc__law_by_prime.nd)
    (DSs.cons
    (DS.forR (ks := [3, 4, 5]) hp (DR.rng1 T.z_range (DA.cons (DE.var 0) DA.nil)) (pg_name (i := 3) sc__law_by_prime.nd rfl (by first | exact Or.inl rfl | exact Or.inr rfl)) smG_name (DSs.cons
    (DS.set 4 (DX.of (DE.list (DA.cons DE.int DA.nil))) sc__law_by_prime.nd)
    (DSs.cons
    (DS.forR (ks := [5]) hp (DR.rng1 T.z_range (DA.cons (DE.var 0) DA.nil)) (pg_name (i := 5) sc__law_by_prime.nd rfl (by first | exact Or.inl rfl | exact Or.inr rfl)) smG_name (DSs.one (DS.app (i := 4) (DE.ifExp (DT.inT (DE.mod (DE.sub (DE.var 5) (DE.var 3)) (DE.var 0)) (DE.var 1)) DE.int (DE.neg DE.int)) (fun he => ps_expr (pe_bm PySem.F.plainAttrs_list PySem.F.slot_list_append PySem.F.type_list_append mt_append (pv 4) (pa_cons he pa_nil))))))
    (DSs.one (DS.appN (i := 2) (j := 4) (ps_expr (pe_bm PySem.F.plainAttrs_list PySem.F.slot_list_append PySem.F.type_list_append mt_append (pv 2) (pa_cons (pv 4) pa_nil))))))))
    (DSs.one (DS.retN 2)))))⟩
theorem has__law_plain_table (T : Tb K mg) : Has P w K mg base 2 "_law_plain_table" ["size"] F__law_plain_table := by
  have h__law_by_prime := has__law_by_prime (P := P) (w := w) (base := base) T
  have h__law_doubled := has__law_doubled (P := P) (w := w) (base := base) T
  refine mkHas (g := g__law_plain_table) (N := ["size", "found"]) T.d__law_plain_table sc__law_plain_table (fun f fd F => F.binds fun _ _ _ _ _ _ us hl => match us, hl with | [_], _ => rfl) (fun cdv f A outer s H E hr tk hp => ?_)
  have hu := hu65 hr
  exact ⟨_, (DSs.cons
    (DS.ite (DT.ofW (DW.or (DT.eq hu (DE.var 0) DE.int) (DW.or1 (DT.eq hu (DE.var 0) DE.int)))) (DSs.one (DS.ret (DX.callH h__law_by_prime (hr.mono (by decide)) tk (DA.cons (DE.sub (DE.var 0) DE.int) DA.nil)))) DSs.nil)
    (DSs.cons
    (DS.ite (DT.eq hu (DE.var 0) DE.int) (DSs.one (DS.ret (DX.callH h__law_doubled (hr.mono (by decide)) tk (DA.cons (DE.callH h__law_by_prime (hr.mono (by decide)) (DA.cons DE.int DA.nil)) DA.nil)))) DSs.nil)
    (DSs.cons
    (DS.set 1 (DX.of (DE.list (DA.cons (DE.list (DA.cons DE.int DA.nil)) DA.nil))) sc__law_plain_table.nd)
    (DSs.cons
    (DS.while 40 hp (DT.lt (DE.len T.z_len (DA.cons (DE.var 1) DA.nil)) (DE.var 0)) (DSs.one (DS.frz 1 (DS.set 1 (DX.callH h__law_doubled (hr.mono (by decide)) tk (DA.cons (DE.var 1) DA.nil)) sc__law_plain_table.nd))))
    (DSs.one (DS.retN 1))))))⟩
theorem has__law_shuffled (T : Tb K mg) : Has P w K mg base 2 "_law_shuffled" ["script", "at", "rows"] F__law_shuffled := by
  have h__law_stir := has__law_stir (P := P) (w := w) (base := base) T
  have h__law_cell_at := has__law_cell_at (P := P) (w := w) (base := base) T
  refine mkHas (g := g__law_shuffled) (N := ["script", "at", "rows", "size", "order", "other", "k", "found", "turn", "line", "j"]) T.d__law_shuffled sc__law_shuffled (fun f fd F => F.binds fun _ _ _ _ _ _ us hl => match us, hl with | [_, _, _], _ => rfl) (fun cdv f A outer s H E hr tk hp => ?_)
  have hu := hu65 hr
  exact ⟨_, (DSs.cons
    (DS.set 3 (DX.of (DE.len T.z_len (DA.cons (DE.var 2) DA.nil))) sc__law_shuffled.nd)
    (DSs.cons
    (DS.set 4 (DX.of (DE.list DA.nil)) sc__law_shuffled.nd)
    (DSs.cons
    (DS.set 5 (DX.of (DE.list DA.nil)) sc__law_shuffled.nd)
    (DSs.cons
    (DS.forR (ks := [6]) hp (DR.rng1 T.z_range (DA.cons (DE.var 3) DA.nil)) (pg_name (i := 6) sc__law_shuffled.nd rfl (by first | exact Or.inl rfl | exact Or.inr rfl)) smG_name (DSs.cons
    (DS.ins (i := 4) (DE.mod (DE.fdiv (DE.callH h__law_stir (hr.mono (by decide)) (DA.cons (DE.add (DE.callH h__law_cell_at (hr.mono (by decide)) (DA.cons (DE.var 0) (DA.cons (DE.var 1) DA.nil))) (DE.var 6)) DA.nil)) DE.int) (DE.add (DE.var 6) DE.int)) (DE.var 6) (fun hk he => ps_expr (pe_bm PySem.F.plainAttrs_list PySem.F.slot_list_insert PySem.F.type_list_insert mt_insert (pv 4) (pa_cons hk (pa_cons he pa_nil)))))
    (DSs.one (DS.ins (i := 5) (DE.mod (DE.fdiv (DE.callH h__law_stir (hr.mono (by decide)) (DA.cons (DE.add (DE.callH h__law_cell_at (hr.mono (by decide)) (DA.cons (DE.var 0) (DA.cons (DE.add (DE.var 1) DE.int) DA.nil))) (DE.var 6)) DA.nil)) DE.int) (DE.add (DE.var 6) DE.int)) (DE.var 6) (fun hk he => ps_expr (pe_bm PySem.F.plainAttrs_list PySem.F.slot_list_insert PySem.F.type_list_insert mt_insert (pv 5) (pa_cons hk (pa_cons he pa_nil))))))))
    (DSs.cons
    (DS.set 7 (DX.of (DE.list DA.nil)) sc__law_shuffled.nd)
    (DSs.cons
    (DS.frz 5 (DS.frz 4 (DS.forL (ks := [6, 8, 9, 10]) hp (DI.list (DE.var 4)) (pg_name (i := 6) sc__law_shuffled.nd rfl (by first | exact Or.inl rfl | exact Or.inr rfl)) smG_name (DSs.cons
    (DS.set 8 (DX.of (DE.sub DE.int (DE.mul (DE.mod (DE.fdiv (DE.callH h__law_stir (hr.mono (by decide)) (DA.cons (DE.add (DE.callH h__law_cell_at (hr.mono (by decide)) (DA.cons (DE.var 0) (DA.cons (DE.add (DE.var 1) DE.int) DA.nil))) (DE.var 6)) DA.nil)) DE.int) DE.int) DE.int))) sc__law_shuffled.nd)
    (DSs.cons
    (DS.set 9 (DX.of (DE.list DA.nil)) sc__law_shuffled.nd)
    (DSs.cons
    (DS.forL (ks := [10]) hp (DI.list (DE.var 5)) (pg_name (i := 10) sc__law_shuffled.nd rfl (by first | exact Or.inl rfl | exact Or.inr rfl)) smG_name (DSs.one (DS.app (i := 9) (DE.mul (DE.mul (DE.ix (DE.ix (DE.var 2) (DE.var 6)) (DE.var 10)) (DE.var 8)) (DE.sub DE.int (DE.mul (DE.mod (DE.fdiv (DE.callH h__law_stir (hr.mono (by decide)) (DA.cons (DE.add (DE.callH h__law_cell_at (hr.mono (by decide)) (DA.cons (DE.var 0) (DA.cons (DE.add (DE.var 1) DE.int) DA.nil))) (DE.var 10)) DA.nil)) DE.int) DE.int) DE.int))) (fun he => ps_expr (pe_bm PySem.F.plainAttrs_list PySem.F.slot_list_append PySem.F.type_list_append mt_append (pv 9) (pa_cons he pa_nil))))))
    (DSs.one (DS.appN (i := 7) (j := 9) (ps_expr (pe_bm PySem.F.plainAttrs_list PySem.F.slot_list_append PySem.F.type_list_append mt_append (pv 7) (pa_cons (pv 9) pa_nil)))))))))))
    (DSs.one (DS.retN 7))))))))⟩
theorem has__law_copy (T : Tb K mg) : Has P w K mg base 1 "_law_copy" ["rows"] F__law_copy := by
  refine mkHas (g := g__law_copy) (N := ["rows", "row"]) T.d__law_copy sc__law_copy (fun f fd F => F.binds fun _ _ _ _ _ _ us hl => match us, hl with | [_], _ => rfl) (fun cdv f A outer s H E hr tk hp => ?_)
  have hu := hu65 hr
  exact ⟨_, (DSs.one (DS.ret (DX.of (DE.comp (own := [("row", 1)]) _ rfl sc__law_copy.nd (DI.list (DE.var 0)) (blkOk_by (by kernel_rfl)) (fun _ _ _ _ _ => (pg_name (i := 1) sc__law_copy.nd rfl (by first | exact Or.inl rfl | exact Or.inr rfl))) smG_name (fun _ _ _ _ _ => DTs.nil) (fun _ _ _ _ _ => (DE.listC T.z_list (DA.cons (DE.var 1) DA.nil)))))))⟩
theorem has__law_which (T : Tb K mg) : HasE P w K mg base 1 "_law_which" ["NoSquare", "NoTable", "NoMove", "Unlike", "TooGreat"] F__law_which := by
  obtain ⟨C_NoMove, g_NoMove⟩ := T.n_NoMove
  obtain ⟨C_NoNote, g_NoNote⟩ := T.n_NoNote
  obtain ⟨C_NoNumbers, g_NoNumbers⟩ := T.n_NoNumbers
  obtain ⟨C_NoSize, g_NoSize⟩ := T.n_NoSize
  obtain ⟨C_NoSquare, g_NoSquare⟩ := T.n_NoSquare
  obtain ⟨C_NoTable, g_NoTable⟩ := T.n_NoTable
  obtain ⟨C_TooGreat, g_TooGreat⟩ := T.n_TooGreat
  obtain ⟨C_Unlike, g_Unlike⟩ := T.n_Unlike
  refine mkHasE (g := g__law_which) (N := ["e", "low", "told"]) T.d__law_which sc__law_which (fun f fd F => F.binds fun _ _ _ _ _ _ us hl => match us, hl with | [_], _ => rfl) (fun cdv f A outer s H E p c D he hr => ?_)
  have hu : (A.deeper (envOfC "_law_which" (defScope s__law_which) s.heap.objs.size f cdv)).units + 65 < cLine := by have := hr.un; omega
  exact ⟨_, (DSs.cons
    (DS.set 1 (DX.of (DE.list (DA.cons (DE.isE he (by decide) T.z_isinstance g_NoMove (DE.var 0)) (DA.cons (DE.isE he (by decide) T.z_isinstance g_NoNote (DE.var 0)) (DA.cons (DE.isE he (by decide) T.z_isinstance g_NoNumbers (DE.var 0)) (DA.cons (DE.isE he (by decide) T.z_isinstance g_NoSize (DE.var 0)) DA.nil)))))) sc__law_which.nd)
    (DSs.cons
    (DS.set 2 (DX.of (DE.add (DE.var 1) (DE.list (DA.cons (DE.isE he (by decide) T.z_isinstance g_NoSquare (DE.var 0)) (DA.cons (DE.isE he (by decide) T.z_isinstance g_NoTable (DE.var 0)) (DA.cons (DE.isE he (by decide) T.z_isinstance g_TooGreat (DE.var 0)) DA.nil)))))) sc__law_which.nd)
    (DSs.cons
    (DS.app (i := 2) (DE.isE he (by decide) T.z_isinstance g_Unlike (DE.var 0)) (fun he => ps_expr (pe_bm PySem.F.plainAttrs_list PySem.F.slot_list_append PySem.F.type_list_append mt_append (pv 2) (pa_cons he pa_nil))))
    (DSs.cons
    (DS.ite (DT.ofW (DW.or (DT.not (DT.val (DE.isEV he T.z_isinstance T.z_ValueError (DE.var 0)))) (DW.or1 (DT.ne hu (DE.mcountV (DE.var 2) DE.bl (fun ho he => (pe_bm PySem.F.plainAttrs_list PySem.F.slot_list_count PySem.F.type_list_count mt_cntV ho (pa_cons he pa_nil)))) DE.int)))) (DSs.one (DS.ret (DX.of DE.str))) DSs.nil)
    (DSs.one (DS.ret (DX.of (DE.ix (DE.list (DA.cons DE.str (DA.cons DE.str (DA.cons DE.str (DA.cons DE.str (DA.cons DE.str (DA.cons DE.str (DA.cons DE.str (DA.cons DE.str DA.nil))))))))) (DE.mindex (DE.var 2) DE.bl (fun ho he => (pe_bm PySem.F.plainAttrs_list PySem.F.slot_list_index PySem.F.type_list_index mt_index ho (pa_cons he pa_nil))))))))))))⟩
theorem has__law_done (T : Tb K mg) : Has P w K mg base 2 "_law_done" ["rows", "move"] F__law_done := by
  have h__law_copy := has__law_copy (P := P) (w := w) (base := base) T
  refine mkHas (g := g__law_done) (N := ["rows", "move", "found", "k", "number"]) T.d__law_done sc__law_done (fun f fd F => F.binds fun _ _ _ _ _ _ us hl => match us, hl with | [_, _], _ => rfl) (fun cdv f A outer s H E hr tk hp => ?_)
  have hu := hu65 hr
  exact ⟨_, (DSs.cons
    (DS.set 2 (DX.callH h__law_copy (hr.mono (by decide)) tk (DA.cons (DE.var 0) DA.nil)) sc__law_done.nd)
    (DSs.cons
    (DS.ite (DT.eq hu (DE.ix (DE.var 1) DE.int) DE.str) (DSs.one (DS.setIx (i := 2) (DE.ix (DE.var 1) DE.int) (DE.comp (own := [("number", 4)]) _ rfl sc__law_done.nd (DI.list (DE.ix (DE.var 2) (DE.ix (DE.var 1) DE.int))) (blkOk_by (by kernel_rfl)) (fun _ _ _ _ _ => (pg_name (i := 4) sc__law_done.nd rfl (by first | exact Or.inl rfl | exact Or.inr rfl))) smG_name (fun _ _ _ _ _ => DTs.nil) (fun _ _ _ _ _ => (DE.neg (DE.var 4)))) (fun hk he => ps_asg he (pg_sub (pv 2) hk set_list)))) DSs.nil)
    (DSs.cons
    (DS.ite (DT.eq hu (DE.ix (DE.var 1) DE.int) DE.str) (DSs.cons
    (DS.setIx (i := 2) (DE.ix (DE.var 1) DE.int) (DE.listC T.z_list (DA.cons (DE.ix (DE.var 0) (DE.ix (DE.var 1) DE.int)) DA.nil)) (fun hk he => ps_asg he (pg_sub (pv 2) hk set_list)))
    (DSs.one (DS.setIx (i := 2) (DE.ix (DE.var 1) DE.int) (DE.listC T.z_list (DA.cons (DE.ix (DE.var 0) (DE.ix (DE.var 1) DE.int)) DA.nil)) (fun hk he => ps_asg he (pg_sub (pv 2) hk set_list))))) DSs.nil)
    (DSs.cons
    (DS.forR (ks := [3]) hp (DR.rng1 T.z_range (DA.cons (DE.len T.z_len (DA.cons (DE.var 0) DA.nil)) DA.nil)) (pg_name (i := 3) sc__law_done.nd rfl (by first | exact Or.inl rfl | exact Or.inr rfl)) smG_name (DSs.cons
    (DS.ite (DT.eq hu (DE.ix (DE.var 1) DE.int) DE.str) (DSs.one (DS.setIx2 (i := 2) (DE.var 3) (DE.ix (DE.var 1) DE.int) (DE.neg (DE.ix (DE.ix (DE.var 0) (DE.var 3)) (DE.ix (DE.var 1) DE.int))) (fun hk hl he => ps_asg he (pg_sub (pe_ix ix_seq (pv 2) hk (fun _ _ => rfl)) hl set_list)))) DSs.nil)
    (DSs.one (DS.ite (DT.eq hu (DE.ix (DE.var 1) DE.int) DE.str) (DSs.cons
    (DS.setIx2 (i := 2) (DE.var 3) (DE.ix (DE.var 1) DE.int) (DE.ix (DE.ix (DE.var 0) (DE.var 3)) (DE.ix (DE.var 1) DE.int)) (fun hk hl he => ps_asg he (pg_sub (pe_ix ix_seq (pv 2) hk (fun _ _ => rfl)) hl set_list)))
    (DSs.one (DS.setIx2 (i := 2) (DE.var 3) (DE.ix (DE.var 1) DE.int) (DE.ix (DE.ix (DE.var 0) (DE.var 3)) (DE.ix (DE.var 1) DE.int)) (fun hk hl he => ps_asg he (pg_sub (pe_ix ix_seq (pv 2) hk (fun _ _ => rfl)) hl set_list))))) DSs.nil))))
    (DSs.one (DS.retN 2))))))⟩
theorem has__law_is_move (T : Tb K mg) : Has P w K mg base 2 "_law_is_move" ["size", "move"] F__law_is_move := by
  have h__law_whole := has__law_whole (P := P) (w := w) (base := base) T
  refine mkHas (g := g__law_is_move) (N := ["size", "move", "one"]) T.d__law_is_move sc__law_is_move (fun f fd F => F.binds fun _ _ _ _ _ _ us hl => match us, hl with | [_, _], _ => rfl) (fun cdv f A outer s H E hr tk hp => ?_)
  have hu := hu65 hr
  exact ⟨_, (DSs.cons
    (DS.ite (DT.ofW (DW.or (DT.not (DT.val (DE.isi "tuple" T.z_isinstance T.z_tuple (DE.var 1)))) (DW.or (DT.not (DT.leLe DE.int (DE.len T.z_len (DA.cons (DE.var 1) DA.nil)) DE.int)) (DW.or1 (DT.not (DT.val (DE.all T.z_all (DA.cons (DE.comp (own := [("one", 2)]) _ rfl sc__law_is_move.nd (DI.tup (DE.slice (DE.var 1) (DO.some DE.int) DO.non)) (blkOk_by (by kernel_rfl)) (fun _ _ _ _ _ => (pg_name (i := 2) sc__law_is_move.nd rfl (by first | exact Or.inl rfl | exact Or.inr rfl))) smG_name (fun _ _ _ _ _ => DTs.nil) (fun _ _ _ _ _ => (DE.callH h__law_whole (hr.mono (by decide)) (DA.cons (DE.var 2) DA.nil)))) DA.nil)))))))) (DSs.one (DS.ret (DX.of DE.bl))) DSs.nil)
    (DSs.cons
    (DS.ite (DT.inT (DE.ix (DE.var 1) DE.int) (DE.tuple (DA.cons DE.str (DA.cons DE.str DA.nil)))) (DSs.one (DS.ret (DX.of (DE.and (DE.eq hu (DE.len T.z_len (DA.cons (DE.var 1) DA.nil)) DE.int) (DE.one (DE.leLt DE.int (DE.ix (DE.var 1) DE.int) (DE.var 0))))))) DSs.nil)
    (DSs.one (DS.ret (DX.of (DE.and (DE.inT (DE.ix (DE.var 1) DE.int) (DE.tuple (DA.cons DE.str (DA.cons DE.str DA.nil)))) (DE.and (DE.eq hu (DE.len T.z_len (DA.cons (DE.var 1) DA.nil)) DE.int) (DE.one (DE.leLtLt DE.int (DE.ix (DE.var 1) DE.int) (DE.ix (DE.var 1) DE.int) (DE.var 0))))))))))⟩
theorem has__law_leads (T : Tb K mg) : Has P w K mg base 3 "_law_leads" ["found", "one", "other"] F__law_leads := by
  have h__law_copy := has__law_copy (P := P) (w := w) (base := base) T
  have h__law_done := has__law_done (P := P) (w := w) (base := base) T
  have h__law_is_move := has__law_is_move (P := P) (w := w) (base := base) T
  refine mkHas (g := g__law_leads) (N := ["found", "one", "other", "here", "move"]) T.d__law_leads sc__law_leads (fun f fd F => F.binds fun _ _ _ _ _ _ us hl => match us, hl with | [_, _, _], _ => rfl) (fun cdv f A outer s H E hr tk hp => ?_)
  have hu := hu65 hr
  exact ⟨_, (DSs.cons
    (DS.ite (DT.ofW (DW.or (DT.not (DT.val (DE.isi "list" T.z_isinstance T.z_list (DE.var 0)))) (DW.or1 (DT.gt (DE.len T.z_len (DA.cons (DE.var 0) DA.nil)) DE.int)))) (DSs.one (DS.ret (DX.of DE.bl))) DSs.nil)
    (DSs.cons
    (DS.set 3 (DX.callH h__law_copy (hr.mono (by decide)) tk (DA.cons (DE.var 1) DA.nil)) sc__law_leads.nd)
    (DSs.cons
    (DS.forL (ks := [4]) hp (DI.list (DE.var 0)) (pg_name (i := 4) sc__law_leads.nd rfl (by first | exact Or.inl rfl | exact Or.inr rfl)) smG_name (DSs.cons
    (DS.ite (DT.not (DT.val (DE.callH h__law_is_move (hr.mono (by decide)) (DA.cons (DE.len T.z_len (DA.cons (DE.var 1) DA.nil)) (DA.cons (DE.var 4) DA.nil))))) (DSs.one (DS.ret (DX.of DE.bl))) DSs.nil)
    (DSs.one (DS.set 3 (DX.callH h__law_done (hr.mono (by decide)) tk (DA.cons (DE.var 3) (DA.cons (DE.var 4) DA.nil))) sc__law_leads.nd))))
    (DSs.one (DS.ret (DX.of (DE.eq hu (DE.var 3) (DE.var 2))))))))⟩
theorem has__law_asked (T : Tb K mg) : Has P w K mg base 5 "_law_asked" ["one", "other"] F__law_asked := by
  have h_led := has_led (P := P) (w := w) (base := base) T
  have h__law_which := has__law_which (P := P) (w := w) (base := base) T
  obtain ⟨PA0, TP⟩ := T.tab.plus
  have hF : ∀ a c, c ∈ (["NoSquare", "NoTable", "NoMove", "Unlike", "TooGreat"] : List Str) → F__law_which a c [.ex a c] = some (.ok (.str (whichS c)) .full) := fun a c hc => F_which a c (List.all_eq_true.mp (by decide : (["NoSquare", "NoTable", "NoMove", "Unlike", "TooGreat"] : List Str).all (fun x => decide (x ∈ allX)) = true) c hc |> of_decide_eq_true)
  refine mkHas (g := g__law_asked) (N := ["one", "other", "told", "e"]) T.d__law_asked sc__law_asked (fun f fd F => F.binds fun _ _ _ _ _ _ us hl => match us, hl with | [_, _], _ => rfl) (fun cdv f A outer s H E hr tk hp => ?_)
  have hu := hu65 hr
  exact ⟨_, (DSs.cons
    (DS.set 2 (DX.of DE.non) sc__law_asked.nd)
    (DSs.cons
    (DS.tryW (i := 3) (j := 2) T.tab TP h__law_which hF (hr.mono (by decide)) sc__law_asked.nd tk (fun W pn xe tk => (DSs.one (DS.set 2 (DX.callH h_led (hr.mono (by decide)) tk (DA.cons (DE.var 0) (DA.cons (DE.var 1) DA.nil))) sc__law_asked.nd))))
    (DSs.one (DS.retN 2))))⟩
theorem has_law {f : Addr} {fd : FuncData} (T : Tb K mg) (F : Fun K "law" "law" s_law f fd) (sem : ∀ ns : List Int, ns.length ≤ 63 → F_law [.scr ns] = some (.ok (.bl true) .full)) : FnOk P w K mg base CX0 6 f fd ["script"] (spLaw K) := by
  have h__law_cell_at := has__law_cell_at (P := P) (w := w) (base := base) T
  have h__law_shuffled := has__law_shuffled (P := P) (w := w) (base := base) T
  have h__law_asked := has__law_asked (P := P) (w := w) (base := base) T
  have h__law_leads := has__law_leads (P := P) (w := w) (base := base) T
  have h__law_plain_table := has__law_plain_table (P := P) (w := w) (base := base) T
  have h__law_copy := has__law_copy (P := P) (w := w) (base := base) T
  have h_moved := has_moved (P := P) (w := w) (base := base) T
  refine mkLaw (g := g_law) F sc_law (fun cdv A outer s H E hr => ?_) sem
  have hu := hu65 hr
  have hp := @PassesOwn.never
  have tk := @takesN
  exact ⟨_, (DSs.cons
    (DS.set 1 (DX.callH h__law_cell_at (hr.mono (by decide)) tk (DA.cons (DE.var 0) (DA.cons DE.int DA.nil))) sc_law.nd)
    (DSs.cons
    (DS.set 2 (DX.of (DE.ix (DE.list (DA.cons DE.int (DA.cons DE.int (DA.cons DE.int (DA.cons DE.int (DA.cons DE.int (DA.cons DE.int (DA.cons DE.int (DA.cons DE.int DA.nil))))))))) (DE.mod (DE.var 1) DE.int))) sc_law.nd)
    (DSs.cons
    (DS.set 3 (DX.callH h__law_shuffled (hr.mono (by decide)) tk (DA.cons (DE.var 0) (DA.cons DE.int (DA.cons (DE.callH h__law_plain_table (hr.mono (by decide)) (DA.cons (DE.var 2) DA.nil)) DA.nil)))) sc_law.nd)
    (DSs.cons
    (DS.set 4 (DX.callH h__law_shuffled (hr.mono (by decide)) tk (DA.cons (DE.var 0) (DA.cons DE.int (DA.cons (DE.callH h__law_plain_table (hr.mono (by decide)) (DA.cons (DE.var 2) DA.nil)) DA.nil)))) sc_law.nd)
    (DSs.cons
    (DS.ite (DT.eq hu (DE.mod (DE.fdiv (DE.var 1) DE.int) DE.int) DE.int) (DSs.one (DS.set 4 (DX.callH h__law_copy (hr.mono (by decide)) tk (DA.cons (DE.var 3) DA.nil)) sc_law.nd)) DSs.nil)
    (DSs.cons
    (DS.ite (DT.eq hu (DE.mod (DE.fdiv (DE.var 1) DE.int) DE.int) DE.int) (DSs.one (DS.set 4 (DX.callH h__law_plain_table (hr.mono (by decide)) tk (DA.cons (DE.ix (DE.list (DA.cons DE.int (DA.cons DE.int (DA.cons DE.int (DA.cons DE.int (DA.cons DE.int (DA.cons DE.int DA.nil))))))) (DE.mod (DE.fdiv (DE.var 1) DE.int) DE.int)) DA.nil)) sc_law.nd)) DSs.nil)
    (DSs.cons
    (DS.set 5 (DX.of (DE.list (DA.cons (DE.callH h__law_copy (hr.mono (by decide)) (DA.cons (DE.var 3) DA.nil)) (DA.cons (DE.callH h__law_copy (hr.mono (by decide)) (DA.cons (DE.var 4) DA.nil)) DA.nil)))) sc_law.nd)
    (DSs.cons
    (DS.set 6 (DX.callH h__law_asked (hr.mono (by decide)) tk (DA.cons (DE.ix (DE.var 5) DE.int) (DA.cons (DE.ix (DE.var 5) DE.int) DA.nil))) sc_law.nd)
    (DSs.cons
    (DS.ite (DT.ne hu (DE.len T.z_len (DA.cons (DE.var 3) DA.nil)) (DE.len T.z_len (DA.cons (DE.var 4) DA.nil))) (DSs.one (DS.ret (DX.of (DE.eq hu (DE.var 6) DE.str)))) DSs.nil)
    (DSs.cons
    (DS.ite (DT.gt (DE.var 2) DE.int) (DSs.one (DS.ret (DX.of (DE.eq hu (DE.var 6) DE.str)))) DSs.nil)
    (DSs.cons
    (DS.ite (DT.ofW (DW.or (DT.not (DT.val (DE.callH h__law_leads (hr.mono (by decide)) (DA.cons (DE.var 6) (DA.cons (DE.var 3) (DA.cons (DE.var 4) DA.nil)))))) (DW.or1 (DT.ne hu (DE.var 5) (DE.list (DA.cons (DE.var 3) (DA.cons (DE.var 4) DA.nil))))))) (DSs.one (DS.ret (DX.of DE.bl))) DSs.nil)
    (DSs.cons
    (DS.ite (DT.ne hu (DE.callH h_moved (hr.mono (by decide)) (DA.cons (DE.callH h__law_copy (hr.mono (by decide)) (DA.cons (DE.var 3) DA.nil)) (DA.cons (DE.listC T.z_list (DA.cons (DE.var 6) DA.nil)) DA.nil))) (DE.var 4)) (DSs.one (DS.ret (DX.of DE.bl))) DSs.nil)
    (DSs.cons
    (DS.app (i := 6) (DE.tuple (DA.cons DE.str (DA.cons DE.int DA.nil))) (fun he => ps_expr (pe_bm PySem.F.plainAttrs_list PySem.F.slot_list_append PySem.F.type_list_append mt_append (pv 6) (pa_cons he pa_nil))))
    (DSs.one (DS.ret (DX.callH h__law_leads (hr.mono (by decide)) tk (DA.cons (DE.callH h__law_asked (hr.mono (by decide)) (DA.cons (DE.ix (DE.var 5) DE.int) (DA.cons (DE.ix (DE.var 5) DE.int) DA.nil))) (DA.cons (DE.var 3) (DA.cons (DE.var 4) DA.nil)))))))))))))))))))⟩
end
theorem all_mk {l : PySem.W.OpenLaw} {w : World} {K : PySem.W.Frag} {h : Heap} {mg : Str → Option Value} {fa : Addr} (X : K.In h) (G : h.Ns mainGlobals mg) (hfa : mg "law" = some (.ref fa))
    {f0 : Addr} {od0 an0 : Option Addr} {sl0 : Array (Option Value)} {oc0 kV0 dc0 pm0 cd0 ct0 : Value}
    {f1 : Addr} {od1 an1 : Option Addr} {sl1 : Array (Option Value)} {oc1 kV1 dc1 pm1 cd1 ct1 : Value}
    {f2 : Addr} {od2 an2 : Option Addr} {sl2 : Array (Option Value)} {oc2 kV2 dc2 pm2 cd2 ct2 : Value}
    {f3 : Addr} {od3 an3 : Option Addr} {sl3 : Array (Option Value)} {oc3 kV3 dc3 pm3 cd3 ct3 : Value}
    {f4 : Addr} {od4 an4 : Option Addr} {sl4 : Array (Option Value)} {oc4 kV4 dc4 pm4 cd4 ct4 : Value}
    {f5 : Addr} {od5 an5 : Option Addr} {sl5 : Array (Option Value)} {oc5 kV5 dc5 pm5 cd5 ct5 : Value}
    {f6 : Addr} {od6 an6 : Option Addr} {sl6 : Array (Option Value)} {oc6 kV6 dc6 pm6 cd6 ct6 : Value}
    {f7 : Addr} {od7 an7 : Option Addr} {sl7 : Array (Option Value)} {oc7 kV7 dc7 pm7 cd7 ct7 : Value}
    {f8 : Addr} {od8 an8 : Option Addr} {sl8 : Array (Option Value)} {oc8 kV8 dc8 pm8 cd8 ct8 : Value}
    {f9 : Addr} {od9 an9 : Option Addr} {sl9 : Array (Option Value)} {oc9 kV9 dc9 pm9 cd9 ct9 : Value}
    {f10 : Addr} {od10 an10 : Option Addr} {sl10 : Array (Option Value)} {oc10 kV10 dc10 pm10 cd10 ct10 : Value}
    {f11 : Addr} {od11 an11 : Option Addr} {sl11 : Array (Option Value)} {oc11 kV11 dc11 pm11 cd11 ct11 : Value}
    {f12 : Addr} {od12 an12 : Option Addr} {sl12 : Array (Option Value)} {oc12 kV12 dc12 pm12 cd12 ct12 : Value}
    {f13 : Addr} {od13 an13 : Option Addr} {sl13 : Array (Option Value)} {oc13 kV13 dc13 pm13 cd13 ct13 : Value}
    {f14 : Addr} {od14 an14 : Option Addr} {sl14 : Array (Option Value)} {oc14 kV14 dc14 pm14 cd14 ct14 : Value}
    {f15 : Addr} {od15 an15 : Option Addr} {sl15 : Array (Option Value)} {oc15 kV15 dc15 pm15 cd15 ct15 : Value}
    {f16 : Addr} {od16 an16 : Option Addr} {sl16 : Array (Option Value)} {oc16 kV16 dc16 pm16 cd16 ct16 : Value}
    {f17 : Addr} {od17 an17 : Option Addr} {sl17 : Array (Option Value)} {oc17 kV17 dc17 pm17 cd17 ct17 : Value}
    {f18 : Addr} {od18 an18 : Option Addr} {sl18 : Array (Option Value)} {oc18 kV18 dc18 pm18 cd18 ct18 : Value}
    {f19 : Addr} {od19 an19 : Option Addr} {sl19 : Array (Option Value)} {oc19 kV19 dc19 pm19 cd19 ct19 : Value}
    {f20 : Addr} {od20 an20 : Option Addr} {sl20 : Array (Option Value)} {oc20 kV20 dc20 pm20 cd20 ct20 : Value}
    {f21 : Addr} {od21 an21 : Option Addr} {sl21 : Array (Option Value)} {oc21 kV21 dc21 pm21 cd21 ct21 : Value}
    {f22 : Addr} {od22 an22 : Option Addr} {sl22 : Array (Option Value)} {oc22 kV22 dc22 pm22 cd22 ct22 : Value}
    {f23 : Addr} {od23 an23 : Option Addr} {sl23 : Array (Option Value)} {oc23 kV23 dc23 pm23 cd23 ct23 : Value}
    {f24 : Addr} {od24 an24 : Option Addr} {sl24 : Array (Option Value)} {oc24 kV24 dc24 pm24 cd24 ct24 : Value}
    {f25 : Addr} {od25 an25 : Option Addr} {sl25 : Array (Option Value)} {oc25 kV25 dc25 pm25 cd25 ct25 : Value}
    {f26 : Addr} {od26 an26 : Option Addr} {sl26 : Array (Option Value)} {oc26 kV26 dc26 pm26 cd26 ct26 : Value}
    {f27 : Addr} {od27 an27 : Option Addr} {sl27 : Array (Option Value)} {oc27 kV27 dc27 pm27 cd27 ct27 : Value}
    (a0 : PySem.W.nsIn K mainGlobals "is_square" = some (some (.ref f0))) (l0 : K.lookup f0 = some ⟨oc0, od0, .func (PySem.W.fnOf "is_square" "is_square" (defArgs s_is_square) (defBody s_is_square) (defScope s_is_square) .none kV0 dc0 pm0 an0 cd0 ct0), sl0⟩) (c0 : PySem.W.codeIn K cd0 "is_square" = true) (k0 : PySem.W.keepIn K (.ref f0) = true)
    (a1 : PySem.W.nsIn K mainGlobals "must_be_square" = some (some (.ref f1))) (l1 : K.lookup f1 = some ⟨oc1, od1, .func (PySem.W.fnOf "must_be_square" "must_be_square" (defArgs s_must_be_square) (defBody s_must_be_square) (defScope s_must_be_square) .none kV1 dc1 pm1 an1 cd1 ct1), sl1⟩) (c1 : PySem.W.codeIn K cd1 "must_be_square" = true) (k1 : PySem.W.keepIn K (.ref f1) = true)
    (a2 : PySem.W.nsIn K mainGlobals "product_sum" = some (some (.ref f2))) (l2 : K.lookup f2 = some ⟨oc2, od2, .func (PySem.W.fnOf "product_sum" "product_sum" (defArgs s_product_sum) (defBody s_product_sum) (defScope s_product_sum) .none kV2 dc2 pm2 an2 cd2 ct2), sl2⟩) (c2 : PySem.W.codeIn K cd2 "product_sum" = true) (k2 : PySem.W.keepIn K (.ref f2) = true)
    (a3 : PySem.W.nsIn K mainGlobals "balanced" = some (some (.ref f3))) (l3 : K.lookup f3 = some ⟨oc3, od3, .func (PySem.W.fnOf "balanced" "balanced" (defArgs s_balanced) (defBody s_balanced) (defScope s_balanced) .none kV3 dc3 pm3 an3 cd3 ct3), sl3⟩) (c3 : PySem.W.codeIn K cd3 "balanced" = true) (k3 : PySem.W.keepIn K (.ref f3) = true)
    (a4 : PySem.W.nsIn K mainGlobals "must_be_table" = some (some (.ref f4))) (l4 : K.lookup f4 = some ⟨oc4, od4, .func (PySem.W.fnOf "must_be_table" "must_be_table" (defArgs s_must_be_table) (defBody s_must_be_table) (defScope s_must_be_table) .none kV4 dc4 pm4 an4 cd4 ct4), sl4⟩) (c4 : PySem.W.codeIn K cd4 "must_be_table" = true) (k4 : PySem.W.keepIn K (.ref f4) = true)
    (a5 : PySem.W.nsIn K mainGlobals "is_move" = some (some (.ref f5))) (l5 : K.lookup f5 = some ⟨oc5, od5, .func (PySem.W.fnOf "is_move" "is_move" (defArgs s_is_move) (defBody s_is_move) (defScope s_is_move) .none kV5 dc5 pm5 an5 cd5 ct5), sl5⟩) (c5 : PySem.W.codeIn K cd5 "is_move" = true) (k5 : PySem.W.keepIn K (.ref f5) = true)
    (a6 : PySem.W.nsIn K mainGlobals "swapped" = some (some (.ref f6))) (l6 : K.lookup f6 = some ⟨oc6, od6, .func (PySem.W.fnOf "swapped" "swapped" (defArgs s_swapped) (defBody s_swapped) (defScope s_swapped) .none kV6 dc6 pm6 an6 cd6 ct6), sl6⟩) (c6 : PySem.W.codeIn K cd6 "swapped" = true) (k6 : PySem.W.keepIn K (.ref f6) = true)
    (a7 : PySem.W.nsIn K mainGlobals "moved_by" = some (some (.ref f7))) (l7 : K.lookup f7 = some ⟨oc7, od7, .func (PySem.W.fnOf "moved_by" "moved_by" (defArgs s_moved_by) (defBody s_moved_by) (defScope s_moved_by) .none kV7 dc7 pm7 an7 cd7 ct7), sl7⟩) (c7 : PySem.W.codeIn K cd7 "moved_by" = true) (k7 : PySem.W.keepIn K (.ref f7) = true)
    (a8 : PySem.W.nsIn K mainGlobals "moved" = some (some (.ref f8))) (l8 : K.lookup f8 = some ⟨oc8, od8, .func (PySem.W.fnOf "moved" "moved" (defArgs s_moved) (defBody s_moved) (defScope s_moved) .none kV8 dc8 pm8 an8 cd8 ct8), sl8⟩) (c8 : PySem.W.codeIn K cd8 "moved" = true) (k8 : PySem.W.keepIn K (.ref f8) = true)
    (a9 : PySem.W.nsIn K mainGlobals "code" = some (some (.ref f9))) (l9 : K.lookup f9 = some ⟨oc9, od9, .func (PySem.W.fnOf "code" "code" (defArgs s_code) (defBody s_code) (defScope s_code) .none kV9 dc9 pm9 an9 cd9 ct9), sl9⟩) (c9 : PySem.W.codeIn K cd9 "code" = true) (k9 : PySem.W.keepIn K (.ref f9) = true)
    (a10 : PySem.W.nsIn K mainGlobals "base_rows" = some (some (.ref f10))) (l10 : K.lookup f10 = some ⟨oc10, od10, .func (PySem.W.fnOf "base_rows" "base_rows" (defArgs s_base_rows) (defBody s_base_rows) (defScope s_base_rows) .none kV10 dc10 pm10 an10 cd10 ct10), sl10⟩) (c10 : PySem.W.codeIn K cd10 "base_rows" = true) (k10 : PySem.W.keepIn K (.ref f10) = true)
    (a11 : PySem.W.nsIn K mainGlobals "sorting" = some (some (.ref f11))) (l11 : K.lookup f11 = some ⟨oc11, od11, .func (PySem.W.fnOf "sorting" "sorting" (defArgs s_sorting) (defBody s_sorting) (defScope s_sorting) .none kV11 dc11 pm11 an11 cd11 ct11), sl11⟩) (c11 : PySem.W.codeIn K cd11 "sorting" = true) (k11 : PySem.W.keepIn K (.ref f11) = true)
    (a12 : PySem.W.nsIn K mainGlobals "moves_to_plain" = some (some (.ref f12))) (l12 : K.lookup f12 = some ⟨oc12, od12, .func (PySem.W.fnOf "moves_to_plain" "moves_to_plain" (defArgs s_moves_to_plain) (defBody s_moves_to_plain) (defScope s_moves_to_plain) .none kV12 dc12 pm12 an12 cd12 ct12), sl12⟩) (c12 : PySem.W.codeIn K cd12 "moves_to_plain" = true) (k12 : PySem.W.keepIn K (.ref f12) = true)
    (a13 : PySem.W.nsIn K mainGlobals "led" = some (some (.ref f13))) (l13 : K.lookup f13 = some ⟨oc13, od13, .func (PySem.W.fnOf "led" "led" (defArgs s_led) (defBody s_led) (defScope s_led) .none kV13 dc13 pm13 an13 cd13 ct13), sl13⟩) (c13 : PySem.W.codeIn K cd13 "led" = true) (k13 : PySem.W.keepIn K (.ref f13) = true)
    (a14 : PySem.W.nsIn K mainGlobals "_law_cell_at" = some (some (.ref f14))) (l14 : K.lookup f14 = some ⟨oc14, od14, .func (PySem.W.fnOf "_law_cell_at" "_law_cell_at" (defArgs s__law_cell_at) (defBody s__law_cell_at) (defScope s__law_cell_at) .none kV14 dc14 pm14 an14 cd14 ct14), sl14⟩) (c14 : PySem.W.codeIn K cd14 "_law_cell_at" = true) (k14 : PySem.W.keepIn K (.ref f14) = true)
    (a15 : PySem.W.nsIn K mainGlobals "_law_whole" = some (some (.ref f15))) (l15 : K.lookup f15 = some ⟨oc15, od15, .func (PySem.W.fnOf "_law_whole" "_law_whole" (defArgs s__law_whole) (defBody s__law_whole) (defScope s__law_whole) .none kV15 dc15 pm15 an15 cd15 ct15), sl15⟩) (c15 : PySem.W.codeIn K cd15 "_law_whole" = true) (k15 : PySem.W.keepIn K (.ref f15) = true)
    (a16 : PySem.W.nsIn K mainGlobals "_law_stir" = some (some (.ref f16))) (l16 : K.lookup f16 = some ⟨oc16, od16, .func (PySem.W.fnOf "_law_stir" "_law_stir" (defArgs s__law_stir) (defBody s__law_stir) (defScope s__law_stir) .none kV16 dc16 pm16 an16 cd16 ct16), sl16⟩) (c16 : PySem.W.codeIn K cd16 "_law_stir" = true) (k16 : PySem.W.keepIn K (.ref f16) = true)
    (a17 : PySem.W.nsIn K mainGlobals "_law_doubled" = some (some (.ref f17))) (l17 : K.lookup f17 = some ⟨oc17, od17, .func (PySem.W.fnOf "_law_doubled" "_law_doubled" (defArgs s__law_doubled) (defBody s__law_doubled) (defScope s__law_doubled) .none kV17 dc17 pm17 an17 cd17 ct17), sl17⟩) (c17 : PySem.W.codeIn K cd17 "_law_doubled" = true) (k17 : PySem.W.keepIn K (.ref f17) = true)
    (a18 : PySem.W.nsIn K mainGlobals "_law_by_prime" = some (some (.ref f18))) (l18 : K.lookup f18 = some ⟨oc18, od18, .func (PySem.W.fnOf "_law_by_prime" "_law_by_prime" (defArgs s__law_by_prime) (defBody s__law_by_prime) (defScope s__law_by_prime) .none kV18 dc18 pm18 an18 cd18 ct18), sl18⟩) (c18 : PySem.W.codeIn K cd18 "_law_by_prime" = true) (k18 : PySem.W.keepIn K (.ref f18) = true)
    (a19 : PySem.W.nsIn K mainGlobals "_law_plain_table" = some (some (.ref f19))) (l19 : K.lookup f19 = some ⟨oc19, od19, .func (PySem.W.fnOf "_law_plain_table" "_law_plain_table" (defArgs s__law_plain_table) (defBody s__law_plain_table) (defScope s__law_plain_table) .none kV19 dc19 pm19 an19 cd19 ct19), sl19⟩) (c19 : PySem.W.codeIn K cd19 "_law_plain_table" = true) (k19 : PySem.W.keepIn K (.ref f19) = true)
    (a20 : PySem.W.nsIn K mainGlobals "_law_shuffled" = some (some (.ref f20))) (l20 : K.lookup f20 = some ⟨oc20, od20, .func (PySem.W.fnOf "_law_shuffled" "_law_shuffled" (defArgs s__law_shuffled) (defBody s__law_shuffled) (defScope s__law_shuffled) .none kV20 dc20 pm20 an20 cd20 ct20), sl20⟩) (c20 : PySem.W.codeIn K cd20 "_law_shuffled" = true) (k20 : PySem.W.keepIn K (.ref f20) = true)
    (a21 : PySem.W.nsIn K mainGlobals "_law_copy" = some (some (.ref f21))) (l21 : K.lookup f21 = some ⟨oc21, od21, .func (PySem.W.fnOf "_law_copy" "_law_copy" (defArgs s__law_copy) (defBody s__law_copy) (defScope s__law_copy) .none kV21 dc21 pm21 an21 cd21 ct21), sl21⟩) (c21 : PySem.W.codeIn K cd21 "_law_copy" = true) (k21 : PySem.W.keepIn K (.ref f21) = true)
    (a22 : PySem.W.nsIn K mainGlobals "_law_which" = some (some (.ref f22))) (l22 : K.lookup f22 = some ⟨oc22, od22, .func (PySem.W.fnOf "_law_which" "_law_which" (defArgs s__law_which) (defBody s__law_which) (defScope s__law_which) .none kV22 dc22 pm22 an22 cd22 ct22), sl22⟩) (c22 : PySem.W.codeIn K cd22 "_law_which" = true) (k22 : PySem.W.keepIn K (.ref f22) = true)
    (a23 : PySem.W.nsIn K mainGlobals "_law_done" = some (some (.ref f23))) (l23 : K.lookup f23 = some ⟨oc23, od23, .func (PySem.W.fnOf "_law_done" "_law_done" (defArgs s__law_done) (defBody s__law_done) (defScope s__law_done) .none kV23 dc23 pm23 an23 cd23 ct23), sl23⟩) (c23 : PySem.W.codeIn K cd23 "_law_done" = true) (k23 : PySem.W.keepIn K (.ref f23) = true)
    (a24 : PySem.W.nsIn K mainGlobals "_law_is_move" = some (some (.ref f24))) (l24 : K.lookup f24 = some ⟨oc24, od24, .func (PySem.W.fnOf "_law_is_move" "_law_is_move" (defArgs s__law_is_move) (defBody s__law_is_move) (defScope s__law_is_move) .none kV24 dc24 pm24 an24 cd24 ct24), sl24⟩) (c24 : PySem.W.codeIn K cd24 "_law_is_move" = true) (k24 : PySem.W.keepIn K (.ref f24) = true)
    (a25 : PySem.W.nsIn K mainGlobals "_law_leads" = some (some (.ref f25))) (l25 : K.lookup f25 = some ⟨oc25, od25, .func (PySem.W.fnOf "_law_leads" "_law_leads" (defArgs s__law_leads) (defBody s__law_leads) (defScope s__law_leads) .none kV25 dc25 pm25 an25 cd25 ct25), sl25⟩) (c25 : PySem.W.codeIn K cd25 "_law_leads" = true) (k25 : PySem.W.keepIn K (.ref f25) = true)
    (a26 : PySem.W.nsIn K mainGlobals "_law_asked" = some (some (.ref f26))) (l26 : K.lookup f26 = some ⟨oc26, od26, .func (PySem.W.fnOf "_law_asked" "_law_asked" (defArgs s__law_asked) (defBody s__law_asked) (defScope s__law_asked) .none kV26 dc26 pm26 an26 cd26 ct26), sl26⟩) (c26 : PySem.W.codeIn K cd26 "_law_asked" = true) (k26 : PySem.W.keepIn K (.ref f26) = true)
    (a27 : PySem.W.nsIn K mainGlobals "law" = some (some (.ref f27))) (l27 : K.lookup f27 = some ⟨oc27, od27, .func (PySem.W.fnOf "law" "law" (defArgs s_law) (defBody s_law) (defScope s_law) .none kV27 dc27 pm27 an27 cd27 ct27), sl27⟩) (c27 : PySem.W.codeIn K cd27 "law" = true) (k27 : PySem.W.keepIn K (.ref f27) = true)
    (z_len : PySem.W.nsIn K mainGlobals "len" = some none)
    (z_all : PySem.W.nsIn K mainGlobals "all" = some none)
    (z_sum : PySem.W.nsIn K mainGlobals "sum" = some none)
    (z_zip : PySem.W.nsIn K mainGlobals "zip" = some none)
    (z_range : PySem.W.nsIn K mainGlobals "range" = some none)
    (z_list : PySem.W.nsIn K mainGlobals "list" = some none)
    (z_enumerate : PySem.W.nsIn K mainGlobals "enumerate" = some none)
    (z_reversed : PySem.W.nsIn K mainGlobals "reversed" = some none)
    (z_isinstance : PySem.W.nsIn K mainGlobals "isinstance" = some none)
    (z_int : PySem.W.nsIn K mainGlobals "int" = some none)
    (z_bool : PySem.W.nsIn K mainGlobals "bool" = some none)
    (z_ValueError : PySem.W.nsIn K mainGlobals "ValueError" = some none)
    (z_tuple : PySem.W.nsIn K mainGlobals "tuple" = some none)
    {t_MOST_ROWS : Tok} (g_MOST_ROWS : PySem.W.nsIn K mainGlobals "MOST_ROWS" = some (some (.int 24 t_MOST_ROWS)))
    {t_MOST_LED : Tok} (g_MOST_LED : PySem.W.nsIn K mainGlobals "MOST_LED" = some (some (.int 8 t_MOST_LED)))
    {C_NoSquare : Addr} (g_NoSquare : PySem.W.nsIn K mainGlobals "NoSquare" = some (some (.ref C_NoSquare))) (e_NoSquare : PySem.W.excIn K C_NoSquare [.type "ValueError", .type "Exception", .type "BaseException", .type "object"] "ValueError.__new__" = true) (k_NoSquare : PySem.W.keepIn K (.ref C_NoSquare) = true) (b_NoSquare : PySem.W.subIn K (.ref C_NoSquare) (.type "BaseException") = some true) (t_NoSquare : PySem.W.typeIn K (.ref C_NoSquare) = some (.type "type"))
    {C_NoTable : Addr} (g_NoTable : PySem.W.nsIn K mainGlobals "NoTable" = some (some (.ref C_NoTable))) (e_NoTable : PySem.W.excIn K C_NoTable [.type "ValueError", .type "Exception", .type "BaseException", .type "object"] "ValueError.__new__" = true) (k_NoTable : PySem.W.keepIn K (.ref C_NoTable) = true) (b_NoTable : PySem.W.subIn K (.ref C_NoTable) (.type "BaseException") = some true) (t_NoTable : PySem.W.typeIn K (.ref C_NoTable) = some (.type "type"))
    {C_NoMove : Addr} (g_NoMove : PySem.W.nsIn K mainGlobals "NoMove" = some (some (.ref C_NoMove))) (e_NoMove : PySem.W.excIn K C_NoMove [.type "ValueError", .type "Exception", .type "BaseException", .type "object"] "ValueError.__new__" = true) (k_NoMove : PySem.W.keepIn K (.ref C_NoMove) = true) (b_NoMove : PySem.W.subIn K (.ref C_NoMove) (.type "BaseException") = some true) (t_NoMove : PySem.W.typeIn K (.ref C_NoMove) = some (.type "type"))
    {C_Unlike : Addr} (g_Unlike : PySem.W.nsIn K mainGlobals "Unlike" = some (some (.ref C_Unlike))) (e_Unlike : PySem.W.excIn K C_Unlike [.type "ValueError", .type "Exception", .type "BaseException", .type "object"] "ValueError.__new__" = true) (k_Unlike : PySem.W.keepIn K (.ref C_Unlike) = true) (b_Unlike : PySem.W.subIn K (.ref C_Unlike) (.type "BaseException") = some true) (t_Unlike : PySem.W.typeIn K (.ref C_Unlike) = some (.type "type"))
    {C_TooGreat : Addr} (g_TooGreat : PySem.W.nsIn K mainGlobals "TooGreat" = some (some (.ref C_TooGreat))) (e_TooGreat : PySem.W.excIn K C_TooGreat [.type "ValueError", .type "Exception", .type "BaseException", .type "object"] "ValueError.__new__" = true) (k_TooGreat : PySem.W.keepIn K (.ref C_TooGreat) = true) (b_TooGreat : PySem.W.subIn K (.ref C_TooGreat) (.type "BaseException") = some true) (t_TooGreat : PySem.W.typeIn K (.ref C_TooGreat) = some (.type "type"))
    (hd_NoMove : PySem.W.hasDictIn K C_NoMove = true) (u_NoMove : PySem.W.subIn K (.ref C_NoMove) (.ref C_NoMove) = some true)
    {C_NoNote : Addr} (g_NoNote : PySem.W.nsIn K mainGlobals "NoNote" = some (some (.ref C_NoNote))) (b_NoNote : PySem.W.subIn K (.ref C_NoNote) (.type "BaseException") = some true) (t_NoNote : PySem.W.typeIn K (.ref C_NoNote) = some (.type "type"))
    (hd_NoNote : PySem.W.hasDictIn K C_NoNote = true) (u_NoNote : PySem.W.subIn K (.ref C_NoNote) (.ref C_NoNote) = some true)
    {C_NoNumbers : Addr} (g_NoNumbers : PySem.W.nsIn K mainGlobals "NoNumbers" = some (some (.ref C_NoNumbers))) (b_NoNumbers : PySem.W.subIn K (.ref C_NoNumbers) (.type "BaseException") = some true) (t_NoNumbers : PySem.W.typeIn K (.ref C_NoNumbers) = some (.type "type"))
    (hd_NoNumbers : PySem.W.hasDictIn K C_NoNumbers = true) (u_NoNumbers : PySem.W.subIn K (.ref C_NoNumbers) (.ref C_NoNumbers) = some true)
    {C_NoSize : Addr} (g_NoSize : PySem.W.nsIn K mainGlobals "NoSize" = some (some (.ref C_NoSize))) (b_NoSize : PySem.W.subIn K (.ref C_NoSize) (.type "BaseException") = some true) (t_NoSize : PySem.W.typeIn K (.ref C_NoSize) = some (.type "type"))
    (hd_NoSize : PySem.W.hasDictIn K C_NoSize = true) (u_NoSize : PySem.W.subIn K (.ref C_NoSize) (.ref C_NoSize) = some true)
    (hd_NoSquare : PySem.W.hasDictIn K C_NoSquare = true) (u_NoSquare : PySem.W.subIn K (.ref C_NoSquare) (.ref C_NoSquare) = some true)
    (hd_NoTable : PySem.W.hasDictIn K C_NoTable = true) (u_NoTable : PySem.W.subIn K (.ref C_NoTable) (.ref C_NoTable) = some true)
    (hd_TooGreat : PySem.W.hasDictIn K C_TooGreat = true) (u_TooGreat : PySem.W.subIn K (.ref C_TooGreat) (.ref C_TooGreat) = some true)
    (hd_Unlike : PySem.W.hasDictIn K C_Unlike = true) (u_Unlike : PySem.W.subIn K (.ref C_Unlike) (.ref C_Unlike) = some true)
    {C_PlusError : Addr} (g_PlusError : PySem.W.nsIn K mainGlobals "PlusError" = some (some (.ref C_PlusError))) (b_PlusError : PySem.W.subIn K (.ref C_PlusError) (.type "BaseException") = some true) (t_PlusError : PySem.W.typeIn K (.ref C_PlusError) = some (.type "type"))
    (hd_PlusError : PySem.W.hasDictIn K C_PlusError = true) (u_PlusError : PySem.W.subIn K (.ref C_PlusError) (.ref C_PlusError) = some true)
    (sn : PySem.W.specialIn K (.builtin "object.__class__") "__get__" = some (some (.builtin "getset_descriptor.__get__"))) (tk : PySem.W.takesIn K (.builtin "object.__class__") = some true)
    (ga_NoSquare : PySem.W.findIn K (.ref C_NoSquare) "__getattribute__" = some (some (.builtin "BaseException.__getattribute__"))) (gt_NoSquare : PySem.W.findIn K (.ref C_NoSquare) "__getattr__" = some none) (cl_NoSquare : PySem.W.findIn K (.ref C_NoSquare) "__class__" = some (some (.builtin "object.__class__"))) (mo_NoSquare : PySem.W.mroIn K C_NoSquare (.type "object") = some true) (v_NoSquare : PySem.W.subIn K (.ref C_NoSquare) (.type "ValueError") = some true) (p_NoSquare : PySem.W.subIn K (.ref C_NoSquare) (.ref C_PlusError) = some true)
    (s_NoSquare_NoMove : PySem.W.subIn K (.ref C_NoSquare) (.ref C_NoMove) = some false)
    (s_NoSquare_NoNote : PySem.W.subIn K (.ref C_NoSquare) (.ref C_NoNote) = some false)
    (s_NoSquare_NoNumbers : PySem.W.subIn K (.ref C_NoSquare) (.ref C_NoNumbers) = some false)
    (s_NoSquare_NoSize : PySem.W.subIn K (.ref C_NoSquare) (.ref C_NoSize) = some false)
    (s_NoSquare_NoTable : PySem.W.subIn K (.ref C_NoSquare) (.ref C_NoTable) = some false)
    (s_NoSquare_TooGreat : PySem.W.subIn K (.ref C_NoSquare) (.ref C_TooGreat) = some false)
    (s_NoSquare_Unlike : PySem.W.subIn K (.ref C_NoSquare) (.ref C_Unlike) = some false)
    (ga_NoTable : PySem.W.findIn K (.ref C_NoTable) "__getattribute__" = some (some (.builtin "BaseException.__getattribute__"))) (gt_NoTable : PySem.W.findIn K (.ref C_NoTable) "__getattr__" = some none) (cl_NoTable : PySem.W.findIn K (.ref C_NoTable) "__class__" = some (some (.builtin "object.__class__"))) (mo_NoTable : PySem.W.mroIn K C_NoTable (.type "object") = some true) (v_NoTable : PySem.W.subIn K (.ref C_NoTable) (.type "ValueError") = some true) (p_NoTable : PySem.W.subIn K (.ref C_NoTable) (.ref C_PlusError) = some true)
    (s_NoTable_NoMove : PySem.W.subIn K (.ref C_NoTable) (.ref C_NoMove) = some false)
    (s_NoTable_NoNote : PySem.W.subIn K (.ref C_NoTable) (.ref C_NoNote) = some false)
    (s_NoTable_NoNumbers : PySem.W.subIn K (.ref C_NoTable) (.ref C_NoNumbers) = some false)
    (s_NoTable_NoSize : PySem.W.subIn K (.ref C_NoTable) (.ref C_NoSize) = some false)
    (s_NoTable_NoSquare : PySem.W.subIn K (.ref C_NoTable) (.ref C_NoSquare) = some false)
    (s_NoTable_TooGreat : PySem.W.subIn K (.ref C_NoTable) (.ref C_TooGreat) = some false)
    (s_NoTable_Unlike : PySem.W.subIn K (.ref C_NoTable) (.ref C_Unlike) = some false)
    (ga_NoMove : PySem.W.findIn K (.ref C_NoMove) "__getattribute__" = some (some (.builtin "BaseException.__getattribute__"))) (gt_NoMove : PySem.W.findIn K (.ref C_NoMove) "__getattr__" = some none) (cl_NoMove : PySem.W.findIn K (.ref C_NoMove) "__class__" = some (some (.builtin "object.__class__"))) (mo_NoMove : PySem.W.mroIn K C_NoMove (.type "object") = some true) (v_NoMove : PySem.W.subIn K (.ref C_NoMove) (.type "ValueError") = some true) (p_NoMove : PySem.W.subIn K (.ref C_NoMove) (.ref C_PlusError) = some true)
    (s_NoMove_NoNote : PySem.W.subIn K (.ref C_NoMove) (.ref C_NoNote) = some false)
    (s_NoMove_NoNumbers : PySem.W.subIn K (.ref C_NoMove) (.ref C_NoNumbers) = some false)
    (s_NoMove_NoSize : PySem.W.subIn K (.ref C_NoMove) (.ref C_NoSize) = some false)
    (s_NoMove_NoSquare : PySem.W.subIn K (.ref C_NoMove) (.ref C_NoSquare) = some false)
    (s_NoMove_NoTable : PySem.W.subIn K (.ref C_NoMove) (.ref C_NoTable) = some false)
    (s_NoMove_TooGreat : PySem.W.subIn K (.ref C_NoMove) (.ref C_TooGreat) = some false)
    (s_NoMove_Unlike : PySem.W.subIn K (.ref C_NoMove) (.ref C_Unlike) = some false)
    (ga_Unlike : PySem.W.findIn K (.ref C_Unlike) "__getattribute__" = some (some (.builtin "BaseException.__getattribute__"))) (gt_Unlike : PySem.W.findIn K (.ref C_Unlike) "__getattr__" = some none) (cl_Unlike : PySem.W.findIn K (.ref C_Unlike) "__class__" = some (some (.builtin "object.__class__"))) (mo_Unlike : PySem.W.mroIn K C_Unlike (.type "object") = some true) (v_Unlike : PySem.W.subIn K (.ref C_Unlike) (.type "ValueError") = some true) (p_Unlike : PySem.W.subIn K (.ref C_Unlike) (.ref C_PlusError) = some true)
    (s_Unlike_NoMove : PySem.W.subIn K (.ref C_Unlike) (.ref C_NoMove) = some false)
    (s_Unlike_NoNote : PySem.W.subIn K (.ref C_Unlike) (.ref C_NoNote) = some false)
    (s_Unlike_NoNumbers : PySem.W.subIn K (.ref C_Unlike) (.ref C_NoNumbers) = some false)
    (s_Unlike_NoSize : PySem.W.subIn K (.ref C_Unlike) (.ref C_NoSize) = some false)
    (s_Unlike_NoSquare : PySem.W.subIn K (.ref C_Unlike) (.ref C_NoSquare) = some false)
    (s_Unlike_NoTable : PySem.W.subIn K (.ref C_Unlike) (.ref C_NoTable) = some false)
    (s_Unlike_TooGreat : PySem.W.subIn K (.ref C_Unlike) (.ref C_TooGreat) = some false)
    (ga_TooGreat : PySem.W.findIn K (.ref C_TooGreat) "__getattribute__" = some (some (.builtin "BaseException.__getattribute__"))) (gt_TooGreat : PySem.W.findIn K (.ref C_TooGreat) "__getattr__" = some none) (cl_TooGreat : PySem.W.findIn K (.ref C_TooGreat) "__class__" = some (some (.builtin "object.__class__"))) (mo_TooGreat : PySem.W.mroIn K C_TooGreat (.type "object") = some true) (v_TooGreat : PySem.W.subIn K (.ref C_TooGreat) (.type "ValueError") = some true) (p_TooGreat : PySem.W.subIn K (.ref C_TooGreat) (.ref C_PlusError) = some true)
    (s_TooGreat_NoMove : PySem.W.subIn K (.ref C_TooGreat) (.ref C_NoMove) = some false)
    (s_TooGreat_NoNote : PySem.W.subIn K (.ref C_TooGreat) (.ref C_NoNote) = some false)
    (s_TooGreat_NoNumbers : PySem.W.subIn K (.ref C_TooGreat) (.ref C_NoNumbers) = some false)
    (s_TooGreat_NoSize : PySem.W.subIn K (.ref C_TooGreat) (.ref C_NoSize) = some false)
    (s_TooGreat_NoSquare : PySem.W.subIn K (.ref C_TooGreat) (.ref C_NoSquare) = some false)
    (s_TooGreat_NoTable : PySem.W.subIn K (.ref C_TooGreat) (.ref C_NoTable) = some false)
    (s_TooGreat_Unlike : PySem.W.subIn K (.ref C_TooGreat) (.ref C_Unlike) = some false)
    (sem : ∀ ns : List Int, ns.length ≤ 63 → F_law [.scr ns] = some (.ok (.bl true) .full)) :
    ∃ fd : FuncData, (∀ (s : Shared) (v : Value), BindsTo s fd ⟨[v], []⟩ [("script", v)]) ∧ ∀ base : Heap, K.In base → base.Ns mainGlobals mg → FnOk l.prog w K mg base CX0 6 fa fd ["script"] (spLaw K) := by
  have e := hfa.symm.trans (PySem.W.mg_of X G a27)
  cases e
  have T : Tb K mg := ⟨⟨_, _, fun_mk (st := s_is_square) l0 c0 k0, PySem.W.mg_of X G a0⟩,
    ⟨_, _, fun_mk (st := s_must_be_square) l1 c1 k1, PySem.W.mg_of X G a1⟩,
    ⟨_, _, fun_mk (st := s_product_sum) l2 c2 k2, PySem.W.mg_of X G a2⟩,
    ⟨_, _, fun_mk (st := s_balanced) l3 c3 k3, PySem.W.mg_of X G a3⟩,
    ⟨_, _, fun_mk (st := s_must_be_table) l4 c4 k4, PySem.W.mg_of X G a4⟩,
    ⟨_, _, fun_mk (st := s_is_move) l5 c5 k5, PySem.W.mg_of X G a5⟩,
    ⟨_, _, fun_mk (st := s_swapped) l6 c6 k6, PySem.W.mg_of X G a6⟩,
    ⟨_, _, fun_mk (st := s_moved_by) l7 c7 k7, PySem.W.mg_of X G a7⟩,
    ⟨_, _, fun_mk (st := s_moved) l8 c8 k8, PySem.W.mg_of X G a8⟩,
    ⟨_, _, fun_mk (st := s_code) l9 c9 k9, PySem.W.mg_of X G a9⟩,
    ⟨_, _, fun_mk (st := s_base_rows) l10 c10 k10, PySem.W.mg_of X G a10⟩,
    ⟨_, _, fun_mk (st := s_sorting) l11 c11 k11, PySem.W.mg_of X G a11⟩,
    ⟨_, _, fun_mk (st := s_moves_to_plain) l12 c12 k12, PySem.W.mg_of X G a12⟩,
    ⟨_, _, fun_mk (st := s_led) l13 c13 k13, PySem.W.mg_of X G a13⟩,
    ⟨_, _, fun_mk (st := s__law_cell_at) l14 c14 k14, PySem.W.mg_of X G a14⟩,
    ⟨_, _, fun_mk (st := s__law_whole) l15 c15 k15, PySem.W.mg_of X G a15⟩,
    ⟨_, _, fun_mk (st := s__law_stir) l16 c16 k16, PySem.W.mg_of X G a16⟩,
    ⟨_, _, fun_mk (st := s__law_doubled) l17 c17 k17, PySem.W.mg_of X G a17⟩,
    ⟨_, _, fun_mk (st := s__law_by_prime) l18 c18 k18, PySem.W.mg_of X G a18⟩,
    ⟨_, _, fun_mk (st := s__law_plain_table) l19 c19 k19, PySem.W.mg_of X G a19⟩,
    ⟨_, _, fun_mk (st := s__law_shuffled) l20 c20 k20, PySem.W.mg_of X G a20⟩,
    ⟨_, _, fun_mk (st := s__law_copy) l21 c21 k21, PySem.W.mg_of X G a21⟩,
    ⟨_, _, fun_mk (st := s__law_which) l22 c22 k22, PySem.W.mg_of X G a22⟩,
    ⟨_, _, fun_mk (st := s__law_done) l23 c23 k23, PySem.W.mg_of X G a23⟩,
    ⟨_, _, fun_mk (st := s__law_is_move) l24 c24 k24, PySem.W.mg_of X G a24⟩,
    ⟨_, _, fun_mk (st := s__law_leads) l25 c25 k25, PySem.W.mg_of X G a25⟩,
    ⟨_, _, fun_mk (st := s__law_asked) l26 c26 k26, PySem.W.mg_of X G a26⟩,
    ⟨_, _, fun_mk (st := s_law) l27 c27 k27, PySem.W.mg_of X G a27⟩,
    PySem.W.mg_none_of X G z_len,
    PySem.W.mg_none_of X G z_all,
    PySem.W.mg_none_of X G z_sum,
    PySem.W.mg_none_of X G z_zip,
    PySem.W.mg_none_of X G z_range,
    PySem.W.mg_none_of X G z_list,
    PySem.W.mg_none_of X G z_enumerate,
    PySem.W.mg_none_of X G z_reversed,
    PySem.W.mg_none_of X G z_isinstance,
    PySem.W.mg_none_of X G z_int,
    PySem.W.mg_none_of X G z_bool,
    PySem.W.mg_none_of X G z_ValueError,
    PySem.W.mg_none_of X G z_tuple,
    ⟨_, PySem.W.mg_of X G g_MOST_ROWS⟩,
    ⟨_, PySem.W.mg_of X G g_MOST_LED⟩,
    ⟨⟨C_NoSquare, PySem.W.mg_of X G g_NoSquare, e_NoSquare, k_NoSquare, b_NoSquare, t_NoSquare⟩⟩,
    ⟨⟨C_NoTable, PySem.W.mg_of X G g_NoTable, e_NoTable, k_NoTable, b_NoTable, t_NoTable⟩⟩,
    ⟨⟨C_NoMove, PySem.W.mg_of X G g_NoMove, e_NoMove, k_NoMove, b_NoMove, t_NoMove⟩⟩,
    ⟨⟨C_Unlike, PySem.W.mg_of X G g_Unlike, e_Unlike, k_Unlike, b_Unlike, t_Unlike⟩⟩,
    ⟨⟨C_TooGreat, PySem.W.mg_of X G g_TooGreat, e_TooGreat, k_TooGreat, b_TooGreat, t_TooGreat⟩⟩,
    ⟨_, PySem.W.mg_of X G g_NoMove⟩,
    ⟨_, PySem.W.mg_of X G g_NoNote⟩,
    ⟨_, PySem.W.mg_of X G g_NoNumbers⟩,
    ⟨_, PySem.W.mg_of X G g_NoSize⟩,
    ⟨_, PySem.W.mg_of X G g_NoSquare⟩,
    ⟨_, PySem.W.mg_of X G g_NoTable⟩,
    ⟨_, PySem.W.mg_of X G g_TooGreat⟩,
    ⟨_, PySem.W.mg_of X G g_Unlike⟩,
    ⟨⟨C_PlusError, PySem.W.mg_of X G g_PlusError, b_PlusError, t_PlusError, hd_PlusError⟩, fun c hc => (by simp only [List.mem_cons, List.not_mem_nil, or_false] at hc; rcases hc with rfl | rfl | rfl | rfl | rfl; exact ⟨C_NoSquare, ⟨PySem.W.mg_of X G g_NoSquare, ⟨ga_NoSquare, gt_NoSquare, b_NoSquare, hd_NoSquare, cl_NoSquare, sn, tk, mo_NoSquare⟩, fun x hx C hC => (by simp only [allX, List.mem_cons, List.not_mem_nil, or_false] at hx; rcases hx with rfl | rfl | rfl | rfl | rfl | rfl | rfl | rfl; exact (by cases hC.symm.trans (PySem.W.mg_of X G g_NoMove); exact kit_own s_NoSquare_NoMove u_NoMove hd_NoMove t_NoMove); exact (by cases hC.symm.trans (PySem.W.mg_of X G g_NoNote); exact kit_own s_NoSquare_NoNote u_NoNote hd_NoNote t_NoNote); exact (by cases hC.symm.trans (PySem.W.mg_of X G g_NoNumbers); exact kit_own s_NoSquare_NoNumbers u_NoNumbers hd_NoNumbers t_NoNumbers); exact (by cases hC.symm.trans (PySem.W.mg_of X G g_NoSize); exact kit_own s_NoSquare_NoSize u_NoSize hd_NoSize t_NoSize); exact (by cases hC.symm.trans (PySem.W.mg_of X G g_NoSquare); exact kit_own u_NoSquare u_NoSquare hd_NoSquare t_NoSquare); exact (by cases hC.symm.trans (PySem.W.mg_of X G g_NoTable); exact kit_own s_NoSquare_NoTable u_NoTable hd_NoTable t_NoTable); exact (by cases hC.symm.trans (PySem.W.mg_of X G g_TooGreat); exact kit_own s_NoSquare_TooGreat u_TooGreat hd_TooGreat t_TooGreat); exact (by cases hC.symm.trans (PySem.W.mg_of X G g_Unlike); exact kit_own s_NoSquare_Unlike u_Unlike hd_Unlike t_Unlike)), v_NoSquare, fun C hC => (by cases hC.symm.trans (PySem.W.mg_of X G g_PlusError); exact p_NoSquare)⟩⟩; exact ⟨C_NoTable, ⟨PySem.W.mg_of X G g_NoTable, ⟨ga_NoTable, gt_NoTable, b_NoTable, hd_NoTable, cl_NoTable, sn, tk, mo_NoTable⟩, fun x hx C hC => (by simp only [allX, List.mem_cons, List.not_mem_nil, or_false] at hx; rcases hx with rfl | rfl | rfl | rfl | rfl | rfl | rfl | rfl; exact (by cases hC.symm.trans (PySem.W.mg_of X G g_NoMove); exact kit_own s_NoTable_NoMove u_NoMove hd_NoMove t_NoMove); exact (by cases hC.symm.trans (PySem.W.mg_of X G g_NoNote); exact kit_own s_NoTable_NoNote u_NoNote hd_NoNote t_NoNote); exact (by cases hC.symm.trans (PySem.W.mg_of X G g_NoNumbers); exact kit_own s_NoTable_NoNumbers u_NoNumbers hd_NoNumbers t_NoNumbers); exact (by cases hC.symm.trans (PySem.W.mg_of X G g_NoSize); exact kit_own s_NoTable_NoSize u_NoSize hd_NoSize t_NoSize); exact (by cases hC.symm.trans (PySem.W.mg_of X G g_NoSquare); exact kit_own s_NoTable_NoSquare u_NoSquare hd_NoSquare t_NoSquare); exact (by cases hC.symm.trans (PySem.W.mg_of X G g_NoTable); exact kit_own u_NoTable u_NoTable hd_NoTable t_NoTable); exact (by cases hC.symm.trans (PySem.W.mg_of X G g_TooGreat); exact kit_own s_NoTable_TooGreat u_TooGreat hd_TooGreat t_TooGreat); exact (by cases hC.symm.trans (PySem.W.mg_of X G g_Unlike); exact kit_own s_NoTable_Unlike u_Unlike hd_Unlike t_Unlike)), v_NoTable, fun C hC => (by cases hC.symm.trans (PySem.W.mg_of X G g_PlusError); exact p_NoTable)⟩⟩; exact ⟨C_NoMove, ⟨PySem.W.mg_of X G g_NoMove, ⟨ga_NoMove, gt_NoMove, b_NoMove, hd_NoMove, cl_NoMove, sn, tk, mo_NoMove⟩, fun x hx C hC => (by simp only [allX, List.mem_cons, List.not_mem_nil, or_false] at hx; rcases hx with rfl | rfl | rfl | rfl | rfl | rfl | rfl | rfl; exact (by cases hC.symm.trans (PySem.W.mg_of X G g_NoMove); exact kit_own u_NoMove u_NoMove hd_NoMove t_NoMove); exact (by cases hC.symm.trans (PySem.W.mg_of X G g_NoNote); exact kit_own s_NoMove_NoNote u_NoNote hd_NoNote t_NoNote); exact (by cases hC.symm.trans (PySem.W.mg_of X G g_NoNumbers); exact kit_own s_NoMove_NoNumbers u_NoNumbers hd_NoNumbers t_NoNumbers); exact (by cases hC.symm.trans (PySem.W.mg_of X G g_NoSize); exact kit_own s_NoMove_NoSize u_NoSize hd_NoSize t_NoSize); exact (by cases hC.symm.trans (PySem.W.mg_of X G g_NoSquare); exact kit_own s_NoMove_NoSquare u_NoSquare hd_NoSquare t_NoSquare); exact (by cases hC.symm.trans (PySem.W.mg_of X G g_NoTable); exact kit_own s_NoMove_NoTable u_NoTable hd_NoTable t_NoTable); exact (by cases hC.symm.trans (PySem.W.mg_of X G g_TooGreat); exact kit_own s_NoMove_TooGreat u_TooGreat hd_TooGreat t_TooGreat); exact (by cases hC.symm.trans (PySem.W.mg_of X G g_Unlike); exact kit_own s_NoMove_Unlike u_Unlike hd_Unlike t_Unlike)), v_NoMove, fun C hC => (by cases hC.symm.trans (PySem.W.mg_of X G g_PlusError); exact p_NoMove)⟩⟩; exact ⟨C_Unlike, ⟨PySem.W.mg_of X G g_Unlike, ⟨ga_Unlike, gt_Unlike, b_Unlike, hd_Unlike, cl_Unlike, sn, tk, mo_Unlike⟩, fun x hx C hC => (by simp only [allX, List.mem_cons, List.not_mem_nil, or_false] at hx; rcases hx with rfl | rfl | rfl | rfl | rfl | rfl | rfl | rfl; exact (by cases hC.symm.trans (PySem.W.mg_of X G g_NoMove); exact kit_own s_Unlike_NoMove u_NoMove hd_NoMove t_NoMove); exact (by cases hC.symm.trans (PySem.W.mg_of X G g_NoNote); exact kit_own s_Unlike_NoNote u_NoNote hd_NoNote t_NoNote); exact (by cases hC.symm.trans (PySem.W.mg_of X G g_NoNumbers); exact kit_own s_Unlike_NoNumbers u_NoNumbers hd_NoNumbers t_NoNumbers); exact (by cases hC.symm.trans (PySem.W.mg_of X G g_NoSize); exact kit_own s_Unlike_NoSize u_NoSize hd_NoSize t_NoSize); exact (by cases hC.symm.trans (PySem.W.mg_of X G g_NoSquare); exact kit_own s_Unlike_NoSquare u_NoSquare hd_NoSquare t_NoSquare); exact (by cases hC.symm.trans (PySem.W.mg_of X G g_NoTable); exact kit_own s_Unlike_NoTable u_NoTable hd_NoTable t_NoTable); exact (by cases hC.symm.trans (PySem.W.mg_of X G g_TooGreat); exact kit_own s_Unlike_TooGreat u_TooGreat hd_TooGreat t_TooGreat); exact (by cases hC.symm.trans (PySem.W.mg_of X G g_Unlike); exact kit_own u_Unlike u_Unlike hd_Unlike t_Unlike)), v_Unlike, fun C hC => (by cases hC.symm.trans (PySem.W.mg_of X G g_PlusError); exact p_Unlike)⟩⟩; exact ⟨C_TooGreat, ⟨PySem.W.mg_of X G g_TooGreat, ⟨ga_TooGreat, gt_TooGreat, b_TooGreat, hd_TooGreat, cl_TooGreat, sn, tk, mo_TooGreat⟩, fun x hx C hC => (by simp only [allX, List.mem_cons, List.not_mem_nil, or_false] at hx; rcases hx with rfl | rfl | rfl | rfl | rfl | rfl | rfl | rfl; exact (by cases hC.symm.trans (PySem.W.mg_of X G g_NoMove); exact kit_own s_TooGreat_NoMove u_NoMove hd_NoMove t_NoMove); exact (by cases hC.symm.trans (PySem.W.mg_of X G g_NoNote); exact kit_own s_TooGreat_NoNote u_NoNote hd_NoNote t_NoNote); exact (by cases hC.symm.trans (PySem.W.mg_of X G g_NoNumbers); exact kit_own s_TooGreat_NoNumbers u_NoNumbers hd_NoNumbers t_NoNumbers); exact (by cases hC.symm.trans (PySem.W.mg_of X G g_NoSize); exact kit_own s_TooGreat_NoSize u_NoSize hd_NoSize t_NoSize); exact (by cases hC.symm.trans (PySem.W.mg_of X G g_NoSquare); exact kit_own s_TooGreat_NoSquare u_NoSquare hd_NoSquare t_NoSquare); exact (by cases hC.symm.trans (PySem.W.mg_of X G g_NoTable); exact kit_own s_TooGreat_NoTable u_NoTable hd_NoTable t_NoTable); exact (by cases hC.symm.trans (PySem.W.mg_of X G g_TooGreat); exact kit_own u_TooGreat u_TooGreat hd_TooGreat t_TooGreat); exact (by cases hC.symm.trans (PySem.W.mg_of X G g_Unlike); exact kit_own s_TooGreat_Unlike u_Unlike hd_Unlike t_Unlike)), v_TooGreat, fun C hC => (by cases hC.symm.trans (PySem.W.mg_of X G g_PlusError); exact p_TooGreat)⟩⟩)⟩⟩
  exact ⟨_, fun s v => .of_eq rfl, fun base _ _ => has_law T (fun_mk (st := s_law) l27 c27 k27) sem⟩
end Lk07

set_option Elab.async false
set_option linter.all false
set_option maxRecDepth 100000
set_option maxHeartbeats 4000000
namespace Lk07
open PySem hiding Env
open PL PM

theorem ask_exc {n m : Nat} {M N : Mx} {c : Str} (p : F_led [dM (tabOf n M), dM (tabOf m N)] = some (.exc c)) (hc : c ∈ (["NoSquare", "NoTable", "NoMove", "Unlike", "TooGreat"] : List Str)) : F__law_asked [dM (tabOf n M), dM (tabOf m N)] = some (.ok (.str (whichS c)) .full) := by
  have e0 : env0 4 [dM (tabOf n M), dM (tabOf m N)] = [some (dM (tabOf n M), .sh), some (dM (tabOf m N), .sh), none, none] := rfl
  refine run_ret ?_
  unfold g__law_asked
  rw [e0]
  refine seq_of (e := [some (dM (tabOf n M), .sh), some (dM (tabOf m N), .sh), some (.non, .full), none]) (by simp) ?_
  refine seq_of (tryW_exc (c := c) (e := [some (dM (tabOf n M), .sh), some (dM (tabOf m N), .sh), some (.non, .full), none]) (by
    rw [set_eq, xcall_eq]
    simp only [evA_cons, evA_nil, var_eq, List.getElem?_cons_zero, List.getElem?_cons_succ, p]) hc (by simp) (by decide)) ?_
  rfl
theorem ask_ok {n : Nat} {M N : Mx} {ms : List Mv} (p : F_led [dM (tabOf n M), dM (tabOf n N)] = some (.ok (.lst (ms.map mvD)) .full)) : F__law_asked [dM (tabOf n M), dM (tabOf n N)] = some (.ok (.lst (ms.map mvD)) .full) := by
  have e0 : env0 4 [dM (tabOf n M), dM (tabOf n N)] = [some (dM (tabOf n M), .sh), some (dM (tabOf n N), .sh), none, none] := rfl
  refine run_ret ?_
  unfold g__law_asked
  rw [e0]
  refine seq_of (e := [some (dM (tabOf n M), .sh), some (dM (tabOf n N), .sh), some (.non, .full), none]) (by simp) ?_
  refine seq_of (tryW_ok (e := [some (dM (tabOf n M), .sh), some (dM (tabOf n N), .sh), some (.lst (ms.map mvD), .full), none]) (by
    rw [set_eq, xcall_eq]
    simp only [evA_cons, evA_nil, var_eq, List.getElem?_cons_zero, List.getElem?_cons_succ, p]
    rfl)) ?_
  rfl
theorem law_sem (ns : List Int) (hns : ns.length ≤ 63) : F_law [.scr ns] = some (.ok (.bl true) .full) := by
  refine run_ret ?_
  unfold g_law
  have e0 : env0 7 [.scr ns] = [some (.scr ns, .sh), none, none, none, none, none, none] := rfl
  rw [e0]
  obtain ⟨c, hc⟩ : ∃ c, c = cellAt ns 0 := ⟨_, rfl⟩
  have fc : F__law_cell_at [.scr ns, .int 0] = some (.ok (.int c) .full) := by rw [hc]; exact F_cell ns 0
  refine seq_of (e := [some (.scr ns, .sh), some (.int c, .full), none, none, none, none, none]) (by simp [fc]) ?_
  have m8 := modD_int (i := c) (j := 8) (by decide)
  obtain ⟨q, hq, hq8⟩ : ∃ q : Nat, c % 8 = (q : Int) ∧ q < 8 := ⟨(c % 8).toNat, by omega, by omega⟩
  rw [hq] at m8
  let sz : List Int := [4, 8, 8, 1, 2, 8, 4, 12]
  have ixs : ixD (dI sz) (.int (q : Int)) = some (.int (sz[q]'hq8), .full) := ix_ints (xs := sz) hq8
  obtain ⟨n, hn, hn8⟩ : ∃ n : Nat, sz[q]'hq8 = (n : Int) ∧ n ∈ sizes8 := by
    have hm : sz[q]'hq8 ∈ sz := List.getElem_mem _
    simp only [sz, List.mem_cons, List.not_mem_nil, or_false] at hm
    rcases hm with e | e | e | e | e | e | e | e
    · exact ⟨4, e, by decide⟩
    · exact ⟨8, e, by decide⟩
    · exact ⟨8, e, by decide⟩
    · exact ⟨1, e, by decide⟩
    · exact ⟨2, e, by decide⟩
    · exact ⟨8, e, by decide⟩
    · exact ⟨4, e, by decide⟩
    · exact ⟨12, e, by decide⟩
  rw [hn] at ixs
  refine seq_of (e := [some (.scr ns, .sh), some (.int c, .full), some (.int (n : Int), .full), none, none, none, none]) (by
    rw [set_eq, xof_eq]
    simp only [bin_eq, list_eq, evF_cons, evF_nil, c_eq, var_eq, List.getElem?_cons_zero, List.getElem?_cons_succ, lvS_int, m8, show D.lst [.int 4, .int 8, .int 8, .int 1, .int 2, .int 8, .int 4, .int 12] = dI sz from rfl, ixs]
    rfl) ?_
  have vp := V_plain hn8
  obtain ⟨M, vs1, hM, sM⟩ := drawn hn8 ns 1
  obtain ⟨N0, vs5, hN0, sN0⟩ := drawn hn8 ns 5
  refine seq_of (e := [some (.scr ns, .sh), some (.int c, .full), some (.int (n : Int), .full), some (dM (tabOf n M), .full), none, none, none]) (by
    rw [set_eq, xcall_eq]
    simp only [evA_cons, evA_nil, call_eq, c_eq, var_eq, List.getElem?_cons_zero, List.getElem?_cons_succ, lvS_int, lvS_scr, vp, show (D.int 1) = D.int ((1 : Nat) : Int) from rfl, vs1]
    rfl) ?_
  refine seq_of (e := [some (.scr ns, .sh), some (.int c, .full), some (.int (n : Int), .full), some (dM (tabOf n M), .full), some (dM (tabOf n N0), .full), none, none]) (by
    rw [set_eq, xcall_eq]
    simp only [evA_cons, evA_nil, call_eq, c_eq, var_eq, List.getElem?_cons_zero, List.getElem?_cons_succ, lvS_int, lvS_scr, vp, show (D.int 5) = D.int ((5 : Nat) : Int) from rfl, vs5]
    rfl) ?_
  have hle := hM.le
  have cpM := F_copy' (n := n) (M := M) (by omega)
  have d8 := fdivD_int (i := c) (j := 8) (by decide)
  have m88 := modD_int (i := c / 8) (j := 8) (by decide)
  have st1 : ∃ N1, S.ite (E.bin eqD (E.bin modD (E.bin fdivD (E.var 1) (E.c (.int 8))) (E.c (.int 8))) (E.c (.int 1))) (S.set 4 (Xo.call F__law_copy [(E.var 3)])) S.nxt [some (.scr ns, .sh), some (.int c, .full), some (.int (n : Int), .full), some (dM (tabOf n M), .full), some (dM (tabOf n N0), .full), none, none] = some (.next [some (.scr ns, .sh), some (.int c, .full), some (.int (n : Int), .full), some (dM (tabOf n M), .full), some (dM (tabOf n N1), .full), none, none]) ∧ Had n N1 ∧ (n ≤ 8 → Syl n N1) := by
    by_cases h : c / 8 % 8 = 1
    · refine ⟨M, ?_, hM, sM⟩
      rw [ite_t (lv := .full) (by simp [d8, m88, h])]
      simp [cpM]
    · refine ⟨N0, ?_, hN0, sN0⟩
      rw [ite_f (lv := .full) (by simp [d8, m88, h])]
      rfl
  obtain ⟨N1, h1, hN1, sN1⟩ := st1
  refine seq_of h1 ?_
  have d64 := fdivD_int (i := c) (j := 64) (by decide)
  have m648 := modD_int (i := c / 64) (j := 8) (by decide)
  have st2 : ∃ (m : Nat) (N : Mx) (lv4 : Lv), S.ite (E.bin eqD (E.bin modD (E.bin fdivD (E.var 1) (E.c (.int 64))) (E.c (.int 8))) (E.c (.int 1))) (S.set 4 (Xo.call F__law_plain_table [(E.bin ixD (E.list [(E.c (.int 1)), (E.c (.int 2)), (E.c (.int 4)), (E.c (.int 8)), (E.c (.int 12)), (E.c (.int 16))]) (E.bin modD (E.bin fdivD (E.var 1) (E.c (.int 512))) (E.c (.int 6))))])) S.nxt [some (.scr ns, .sh), some (.int c, .full), some (.int (n : Int), .full), some (dM (tabOf n M), .full), some (dM (tabOf n N1), .full), none, none] = some (.next [some (.scr ns, .sh), some (.int c, .full), some (.int (n : Int), .full), some (dM (tabOf n M), .full), some (dM (tabOf m N), lv4), none, none]) ∧ Had m N ∧ (m ≤ 8 → Syl m N) := by
    by_cases h : c / 64 % 8 = 1
    · have d512 := fdivD_int (i := c) (j := 512) (by decide)
      have m6 := modD_int (i := c / 512) (j := 6) (by decide)
      obtain ⟨t, ht, ht6⟩ : ∃ q : Nat, c / 512 % 6 = (q : Int) ∧ q < 6 := ⟨(c / 512 % 6).toNat, by omega, by omega⟩
      rw [ht] at m6
      let s6 : List Int := [1, 2, 4, 8, 12, 16]
      have ix6 : ixD (dI s6) (.int (t : Int)) = some (.int (s6[t]'ht6), .full) := ix_ints (xs := s6) ht6
      obtain ⟨m, hm, hm8⟩ : ∃ n : Nat, s6[t]'ht6 = (n : Int) ∧ n ∈ sizes8 := by
        have hm : s6[t]'ht6 ∈ s6 := List.getElem_mem _
        simp only [s6, List.mem_cons, List.not_mem_nil, or_false] at hm
        rcases hm with e | e | e | e | e | e
        · exact ⟨1, e, by decide⟩
        · exact ⟨2, e, by decide⟩
        · exact ⟨4, e, by decide⟩
        · exact ⟨8, e, by decide⟩
        · exact ⟨12, e, by decide⟩
        · exact ⟨16, e, by decide⟩
      rw [hm] at ix6
      obtain ⟨N, eN, hN, sN⟩ := plain_syl hm8
      have vpm := V_plain hm8
      rw [eN] at vpm
      have ev : ∀ env : Env, env[1]? = some (some (.int c, .full)) → (Xo.call F__law_plain_table [(E.bin ixD (E.list [(E.c (.int 1)), (E.c (.int 2)), (E.c (.int 4)), (E.c (.int 8)), (E.c (.int 12)), (E.c (.int 16))]) (E.bin modD (E.bin fdivD (E.var 1) (E.c (.int 512))) (E.c (.int 6))))]) env = some (.ok (dM (tabOf m N)) (plainLv m)) := fun env h1 => by
        have v1 : E.var 1 env = some (.int c, .full) := by rw [var_eq, h1]; rfl
        rw [xcall_eq]
        simp only [evA_cons, evA_nil, bin_eq, list_eq, evF_cons, evF_nil, c_eq, v1, d512, m6, show D.lst [.int 1, .int 2, .int 4, .int 8, .int 12, .int 16] = dI s6 from rfl, ix6, vpm]
      refine ⟨m, N, plainLv m, ?_, hN, sN⟩
      rw [ite_t (lv := .full) (by simp [d64, m648, h]), set_eq, ev _ rfl]
      have lvs : plainLv m = .full ∨ plainLv m = .out := by
        unfold plainLv
        split
        · exact .inl rfl
        · exact .inr rfl
      rcases lvs with h | h <;> rw [h]
      · rfl
      · simp only [shOnly_some, shOnly_none, shOnly_nil]
        rw [ev _ (by simp), h]
        rfl
    · refine ⟨n, N1, .full, ?_, hN1, sN1⟩
      rw [ite_f (lv := .full) (by simp [d64, m648, h])]
      rfl
  obtain ⟨m, N, lv4, h2, hN, sN⟩ := st2
  refine seq_of h2 ?_
  have hme := hN.le
  have cpN := F_copy' (n := m) (M := N) (by omega)
  let hd : D := .lst [dM (tabOf n M), dM (tabOf m N)]
  refine seq_of (e := [some (.scr ns, .sh), some (.int c, .full), some (.int (n : Int), .full), some (dM (tabOf n M), .full), some (dM (tabOf m N), lv4), some (hd, .full), none]) (by
    rw [set_eq, xof_eq]
    simp only [list_eq, evF_cons, evF_nil, call_eq, evA_cons, evA_nil, var_eq, List.getElem?_cons_zero, List.getElem?_cons_succ, cpM, cpN]
    rfl) ?_
  have i0 : ixD hd (.int 0) = some (dM (tabOf n M), .sh) := rfl
  have i1 : ixD hd (.int 1) = some (dM (tabOf m N), .sh) := rfl
  by_cases hnm : n = m ∧ n ≤ 8
  · obtain ⟨rfl, h8⟩ := hnm
    obtain ⟨d, hdz⟩ := szs_of hn8 h8
    obtain ⟨ms, vl, ok, len, eq⟩ := V_led hdz hM hN (sM h8) (sN h8)
    simp only at vl ok len eq
    have ak := ask_ok vl
    let E6 : Env := [some (.scr ns, .sh), some (.int c, .full), some (.int (n : Int), .full), some (dM (tabOf n M), .full), some (dM (tabOf n N), lv4), some (hd, .full), some (.lst (ms.map mvD), .full)]
    refine seq_of (e := E6) (by
      rw [set_eq, xcall_eq]
      simp only [evA_cons, evA_nil, bin_eq, c_eq, var_eq, List.getElem?_cons_zero, List.getElem?_cons_succ, i0, i1, ak]
      rfl) ?_
    refine seq_of (e := E6) (by
      rw [ite_f (lv := .full) (by
        simp only [E6, bin_eq, blt_eq, evA_cons, evA_nil, var_eq, List.getElem?_cons_zero, List.getElem?_cons_succ, lenD_lst, List.length_map, tabOf_len, neD_int, decide_true, Bool.not_true])]
      rfl) ?_
    refine seq_of (e := E6) (by
      rw [ite_f (lv := .full) (by
        simp only [E6, bin_eq, var_eq, c_eq, List.getElem?_cons_zero, List.getElem?_cons_succ, lvS_int, gtD_int]
        rw [decide_eq_false (by omega)])]
      rfl) ?_
    have ld := V_leads (n := n) (by omega) M N ms ok (by omega) eq
    have ne5 := neL_self (okd_two (tabOf n M) (tabOf n N))
    refine seq_of (e := E6) (by
      rw [ite_f (lv := .full) (by
        rw [or_eq, not_eq, call_eq]
        simp only [E6, evA_cons, evA_nil, var_eq, List.getElem?_cons_zero, List.getElem?_cons_succ, ld, Bool.not_true]
        obtain ⟨lvz, hz⟩ : ∃ lvz, E.list [(E.var 3), (E.var 4)] [some (.scr ns, .sh), some (.int c, .full), some (.int (n : Int), .full), some (dM (tabOf n M), .full), some (dM (tabOf n N), lv4), some (hd, .full), some (.lst (ms.map mvD), .full)] = some (hd, lvz) := ⟨.out, by
          simp only [list_eq, evF_cons, evA_cons, evA_nil, var_eq, List.getElem?_cons_zero, List.getElem?_cons_succ, lvS_lst]
          rfl⟩
        rw [bin_eq, hz]
        simp only [var_eq, List.getElem?_cons_zero, List.getElem?_cons_succ]
        exact ne5)]
      rfl) ?_
    have vm := V_moved n M ms hM.pos hM.le hM.pm
    rw [if_pos ok, eq] at vm
    have neM : neD (dM (tabOf n N)) (dM (tabOf n N)) = some (.bl false, .full) := by rw [neD_of (eqO_rows _ _), decide_eq_true rfl]; rfl
    refine seq_of (e := E6) (by
      rw [ite_f (lv := .full) (by
        simp only [E6, bin_eq, call_eq, blt_eq, evA_cons, evA_nil, var_eq, List.getElem?_cons_zero, List.getElem?_cons_succ, lvS_lst, cpM, listC_lst, vm, neM])]
      rfl) ?_
    refine seq_of (e := E6.set 6 (some (.lst ((ms ++ [Mv.row 99]).map mvD), .full))) (by
      rw [app_eq]
      simp only [E6, tuple_eq, evA_cons, evA_nil, c_eq, List.getElem?_cons_zero, List.getElem?_cons_succ, flatA_cons, flatA_nil, flatD_str, flatD_int, Bool.and_self, if_true]
      rw [if_pos (by simp; omega), show D.tup [.str "row", .int 99] = mvD (.row 99) from rfl, mv_snoc]) ?_
    rw [ret_eq, xcall_eq]
    simp only [E6, evA_cons, evA_nil, call_eq, bin_eq, c_eq, var_eq, List.set_cons_succ, List.set_cons_zero, List.getElem?_cons_zero, List.getElem?_cons_succ, i0, i1, ak, ld]
  · have no := V_led_no hM hN (by omega)
    have ak := ask_exc no (by
      by_cases e : n = m
      · rw [if_pos e]; decide
      · rw [if_neg e]; decide)
    obtain ⟨s, hs⟩ : ∃ s, s = whichS (if n = m then "TooGreat" else "Unlike") := ⟨_, rfl⟩
    rw [← hs] at ak
    let E6 : Env := [some (.scr ns, .sh), some (.int c, .full), some (.int (n : Int), .full), some (dM (tabOf n M), .full), some (dM (tabOf m N), lv4), some (hd, .full), some (.str s, .full)]
    refine seq_of (e := E6) (by
      rw [set_eq, xcall_eq]
      simp only [evA_cons, evA_nil, bin_eq, c_eq, var_eq, List.getElem?_cons_zero, List.getElem?_cons_succ, i0, i1, ak]
      rfl) ?_
    by_cases e : n = m
    · subst e
      have s1 : s = "great" := by rw [hs, if_pos rfl]; decide
      refine seq_of (e := E6) (by
        rw [ite_f (lv := .full) (by
          simp only [E6, bin_eq, blt_eq, evA_cons, evA_nil, var_eq, List.getElem?_cons_zero, List.getElem?_cons_succ, lenD_lst, List.length_map, tabOf_len, neD_int, decide_true, Bool.not_true])]
        rfl) ?_
      refine seq_ret ?_
      rw [ite_t (lv := .full) (by
        simp only [E6, bin_eq, var_eq, c_eq, List.getElem?_cons_zero, List.getElem?_cons_succ, lvS_int, gtD_int]
        rw [decide_eq_true (by omega)])]
      simp [E6, s1]
    · have s1 : s = "unlike" := by rw [hs, if_neg e]; decide
      have ne : ¬ (n : Int) = (m : Int) := by omega
      refine seq_ret ?_
      rw [ite_t (lv := .full) (by
        simp only [E6, bin_eq, blt_eq, evA_cons, evA_nil, var_eq, List.getElem?_cons_zero, List.getElem?_cons_succ, lenD_lst, List.length_map, tabOf_len, neD_int]
        rw [decide_eq_false ne]
        rfl)]
      simp [E6, s1]
end Lk07

set_option maxRecDepth 100000
open PySem PySem.W PyProof.Rows
set_option maxHeartbeats 0 in
theorem PySem.Challenge.cw_plustables_k07_whole_led_into_one_anothe_holds : PySem.Challenge.rw_plustables_k07_whole_led_into_one_anothe.Holds := by
  w_on; o_law; k_head; (case hw => w_witness2)
  k_fill
  refine L2.walk_of (l := PySem.Challenge.rw_plustables_k07_whole_led_into_one_anothe) (n := 63) (k := 6) (x := "script") (CX := fun _ => L2.CX0) (sp := fun w => PL.spLaw _) rfl (by decide) rfl ⟨rfl, by decide, by decide⟩ (fun w h Y => PySem.W.kIn_of Y) ?F (fun _ _ a ns hl _ hS => ⟨a, ns, rfl, hS, hl, fun _ => rfl⟩) (fun _ _ _ _ _ h => h)
  case F =>
    intro w mg fa h KX G hmg
    refine' Lk07.all_mk KX G hmg ?a0 ?l0 ?c0 ?k0 ?a1 ?l1 ?c1 ?k1 ?a2 ?l2 ?c2 ?k2 ?a3 ?l3 ?c3 ?k3 ?a4 ?l4 ?c4 ?k4 ?a5 ?l5 ?c5 ?k5 ?a6 ?l6 ?c6 ?k6 ?a7 ?l7 ?c7 ?k7 ?a8 ?l8 ?c8 ?k8 ?a9 ?l9 ?c9 ?k9 ?a10 ?l10 ?c10 ?k10 ?a11 ?l11 ?c11 ?k11 ?a12 ?l12 ?c12 ?k12 ?a13 ?l13 ?c13 ?k13 ?a14 ?l14 ?c14 ?k14 ?a15 ?l15 ?c15 ?k15 ?a16 ?l16 ?c16 ?k16 ?a17 ?l17 ?c17 ?k17 ?a18 ?l18 ?c18 ?k18 ?a19 ?l19 ?c19 ?k19 ?a20 ?l20 ?c20 ?k20 ?a21 ?l21 ?c21 ?k21 ?a22 ?l22 ?c22 ?k22 ?a23 ?l23 ?c23 ?k23 ?a24 ?l24 ?c24 ?k24 ?a25 ?l25 ?c25 ?k25 ?a26 ?l26 ?c26 ?k26 ?a27 ?l27 ?c27 ?k27 ?z_len ?z_all ?z_sum ?z_zip ?z_range ?z_list ?z_enumerate ?z_reversed ?z_isinstance ?z_int ?z_bool ?z_ValueError ?z_tuple ?g_MOST_ROWS ?g_MOST_LED ?g_NoSquare ?e_NoSquare ?k_NoSquare ?b_NoSquare ?t_NoSquare ?g_NoTable ?e_NoTable ?k_NoTable ?b_NoTable ?t_NoTable ?g_NoMove ?e_NoMove ?k_NoMove ?b_NoMove ?t_NoMove ?g_Unlike ?e_Unlike ?k_Unlike ?b_Unlike ?t_Unlike ?g_TooGreat ?e_TooGreat ?k_TooGreat ?b_TooGreat ?t_TooGreat ?hd_NoMove ?u_NoMove ?g_NoNote ?b_NoNote ?t_NoNote ?hd_NoNote ?u_NoNote ?g_NoNumbers ?b_NoNumbers ?t_NoNumbers ?hd_NoNumbers ?u_NoNumbers ?g_NoSize ?b_NoSize ?t_NoSize ?hd_NoSize ?u_NoSize ?hd_NoSquare ?u_NoSquare ?hd_NoTable ?u_NoTable ?hd_TooGreat ?u_TooGreat ?hd_Unlike ?u_Unlike ?g_PlusError ?b_PlusError ?t_PlusError ?hd_PlusError ?u_PlusError ?sn ?tk ?ga_NoSquare ?gt_NoSquare ?cl_NoSquare ?mo_NoSquare ?v_NoSquare ?p_NoSquare ?s_NoSquare_NoMove ?s_NoSquare_NoNote ?s_NoSquare_NoNumbers ?s_NoSquare_NoSize ?s_NoSquare_NoTable ?s_NoSquare_TooGreat ?s_NoSquare_Unlike ?ga_NoTable ?gt_NoTable ?cl_NoTable ?mo_NoTable ?v_NoTable ?p_NoTable ?s_NoTable_NoMove ?s_NoTable_NoNote ?s_NoTable_NoNumbers ?s_NoTable_NoSize ?s_NoTable_NoSquare ?s_NoTable_TooGreat ?s_NoTable_Unlike ?ga_NoMove ?gt_NoMove ?cl_NoMove ?mo_NoMove ?v_NoMove ?p_NoMove ?s_NoMove_NoNote ?s_NoMove_NoNumbers ?s_NoMove_NoSize ?s_NoMove_NoSquare ?s_NoMove_NoTable ?s_NoMove_TooGreat ?s_NoMove_Unlike ?ga_Unlike ?gt_Unlike ?cl_Unlike ?mo_Unlike ?v_Unlike ?p_Unlike ?s_Unlike_NoMove ?s_Unlike_NoNote ?s_Unlike_NoNumbers ?s_Unlike_NoSize ?s_Unlike_NoSquare ?s_Unlike_NoTable ?s_Unlike_TooGreat ?ga_TooGreat ?gt_TooGreat ?cl_TooGreat ?mo_TooGreat ?v_TooGreat ?p_TooGreat ?s_TooGreat_NoMove ?s_TooGreat_NoNote ?s_TooGreat_NoNumbers ?s_TooGreat_NoSize ?s_TooGreat_NoSquare ?s_TooGreat_NoTable ?s_TooGreat_Unlike Lk07.law_sem
    (case a0 => k_is); (case l0 => k_is); (case c0 => k_is); (case k0 => k_is); (case a1 => k_is); (case l1 => k_is); (case c1 => k_is); (case k1 => k_is); (case a2 => k_is); (case l2 => k_is); (case c2 => k_is); (case k2 => k_is); (case a3 => k_is); (case l3 => k_is); (case c3 => k_is); (case k3 => k_is); (case a4 => k_is); (case l4 => k_is); (case c4 => k_is); (case k4 => k_is); (case a5 => k_is); (case l5 => k_is); (case c5 => k_is); (case k5 => k_is); (case a6 => k_is); (case l6 => k_is); (case c6 => k_is); (case k6 => k_is); (case a7 => k_is); (case l7 => k_is); (case c7 => k_is); (case k7 => k_is); (case a8 => k_is); (case l8 => k_is); (case c8 => k_is); (case k8 => k_is); (case a9 => k_is); (case l9 => k_is); (case c9 => k_is); (case k9 => k_is); (case a10 => k_is); (case l10 => k_is); (case c10 => k_is); (case k10 => k_is); (case a11 => k_is); (case l11 => k_is); (case c11 => k_is); (case k11 => k_is); (case a12 => k_is); (case l12 => k_is); (case c12 => k_is); (case k12 => k_is); (case a13 => k_is); (case l13 => k_is); (case c13 => k_is); (case k13 => k_is); (case a14 => k_is); (case l14 => k_is); (case c14 => k_is); (case k14 => k_is); (case a15 => k_is); (case l15 => k_is); (case c15 => k_is); (case k15 => k_is); (case a16 => k_is); (case l16 => k_is); (case c16 => k_is); (case k16 => k_is); (case a17 => k_is); (case l17 => k_is); (case c17 => k_is); (case k17 => k_is); (case a18 => k_is); (case l18 => k_is); (case c18 => k_is); (case k18 => k_is); (case a19 => k_is); (case l19 => k_is); (case c19 => k_is); (case k19 => k_is); (case a20 => k_is); (case l20 => k_is); (case c20 => k_is); (case k20 => k_is); (case a21 => k_is); (case l21 => k_is); (case c21 => k_is); (case k21 => k_is); (case a22 => k_is); (case l22 => k_is); (case c22 => k_is); (case k22 => k_is); (case a23 => k_is); (case l23 => k_is); (case c23 => k_is); (case k23 => k_is); (case a24 => k_is); (case l24 => k_is); (case c24 => k_is); (case k24 => k_is); (case a25 => k_is); (case l25 => k_is); (case c25 => k_is); (case k25 => k_is); (case a26 => k_is); (case l26 => k_is); (case c26 => k_is); (case k26 => k_is); (case a27 => k_is); (case l27 => k_is); (case c27 => k_is); (case k27 => k_is); (case z_len => k_is); (case z_all => k_is); (case z_sum => k_is); (case z_zip => k_is); (case z_range => k_is); (case z_list => k_is); (case z_enumerate => k_is); (case z_reversed => k_is); (case z_isinstance => k_is); (case z_int => k_is); (case z_bool => k_is); (case z_ValueError => k_is); (case z_tuple => k_is); (case g_MOST_ROWS => k_is); (case g_MOST_LED => k_is); (case g_NoSquare => k_is); (case e_NoSquare => k_exc); (case k_NoSquare => k_is); (case b_NoSquare => k_is); (case t_NoSquare => k_is); (case g_NoTable => k_is); (case e_NoTable => k_exc); (case k_NoTable => k_is); (case b_NoTable => k_is); (case t_NoTable => k_is); (case g_NoMove => k_is); (case e_NoMove => k_exc); (case k_NoMove => k_is); (case b_NoMove => k_is); (case t_NoMove => k_is); (case g_Unlike => k_is); (case e_Unlike => k_exc); (case k_Unlike => k_is); (case b_Unlike => k_is); (case t_Unlike => k_is); (case g_TooGreat => k_is); (case e_TooGreat => k_exc); (case k_TooGreat => k_is); (case b_TooGreat => k_is); (case t_TooGreat => k_is); (case hd_NoMove => k_is); (case u_NoMove => k_is); (case g_NoNote => k_is); (case b_NoNote => k_is); (case t_NoNote => k_is); (case hd_NoNote => k_is); (case u_NoNote => k_is); (case g_NoNumbers => k_is); (case b_NoNumbers => k_is); (case t_NoNumbers => k_is); (case hd_NoNumbers => k_is); (case u_NoNumbers => k_is); (case g_NoSize => k_is); (case b_NoSize => k_is); (case t_NoSize => k_is); (case hd_NoSize => k_is); (case u_NoSize => k_is); (case hd_NoSquare => k_is); (case u_NoSquare => k_is); (case hd_NoTable => k_is); (case u_NoTable => k_is); (case hd_TooGreat => k_is); (case u_TooGreat => k_is); (case hd_Unlike => k_is); (case u_Unlike => k_is); (case g_PlusError => k_is); (case b_PlusError => k_is); (case t_PlusError => k_is); (case hd_PlusError => k_is); (case u_PlusError => k_is); (case sn => k_is); (case tk => k_is); (case ga_NoSquare => k_is); (case gt_NoSquare => k_is); (case cl_NoSquare => k_is); (case mo_NoSquare => k_is); (case v_NoSquare => k_is); (case p_NoSquare => k_is); (case s_NoSquare_NoMove => k_is); (case s_NoSquare_NoNote => k_is); (case s_NoSquare_NoNumbers => k_is); (case s_NoSquare_NoSize => k_is); (case s_NoSquare_NoTable => k_is); (case s_NoSquare_TooGreat => k_is); (case s_NoSquare_Unlike => k_is); (case ga_NoTable => k_is); (case gt_NoTable => k_is); (case cl_NoTable => k_is); (case mo_NoTable => k_is); (case v_NoTable => k_is); (case p_NoTable => k_is); (case s_NoTable_NoMove => k_is); (case s_NoTable_NoNote => k_is); (case s_NoTable_NoNumbers => k_is); (case s_NoTable_NoSize => k_is); (case s_NoTable_NoSquare => k_is); (case s_NoTable_TooGreat => k_is); (case s_NoTable_Unlike => k_is); (case ga_NoMove => k_is); (case gt_NoMove => k_is); (case cl_NoMove => k_is); (case mo_NoMove => k_is); (case v_NoMove => k_is); (case p_NoMove => k_is); (case s_NoMove_NoNote => k_is); (case s_NoMove_NoNumbers => k_is); (case s_NoMove_NoSize => k_is); (case s_NoMove_NoSquare => k_is); (case s_NoMove_NoTable => k_is); (case s_NoMove_TooGreat => k_is); (case s_NoMove_Unlike => k_is); (case ga_Unlike => k_is); (case gt_Unlike => k_is); (case cl_Unlike => k_is); (case mo_Unlike => k_is); (case v_Unlike => k_is); (case p_Unlike => k_is); (case s_Unlike_NoMove => k_is); (case s_Unlike_NoNote => k_is); (case s_Unlike_NoNumbers => k_is); (case s_Unlike_NoSize => k_is); (case s_Unlike_NoSquare => k_is); (case s_Unlike_NoTable => k_is); (case s_Unlike_TooGreat => k_is); (case ga_TooGreat => k_is); (case gt_TooGreat => k_is); (case cl_TooGreat => k_is); (case mo_TooGreat => k_is); (case v_TooGreat => k_is); (case p_TooGreat => k_is); (case s_TooGreat_NoMove => k_is); (case s_TooGreat_NoNote => k_is); (case s_TooGreat_NoNumbers => k_is); (case s_TooGreat_NoSize => k_is); (case s_TooGreat_NoSquare => k_is); (case s_TooGreat_NoTable => k_is); (case s_TooGreat_Unlike => k_is)
