import PyProof.Rows.All
import Wide.All
import OpenK.AllK
import Wide.FinOn
import HandS.ForMost
import HandS.Exc
import HandS.TupAny
import HandS.TupMul
import HandS.TupLe
import HandS.Deep
import HandS.RaiseMore
import HandS.IsInst
import HandS.FStr
import HandS.Wide
import HandS.ExcOwn
import HandS.CallSlots
import HandS.WordsExc
import HandS.Small
import HandS.Comp
import HandS.Iter
import HandS.Zip
import HandS.Rev
import HandS.Strs
import HandS.Style
import HandS.MakeKwOnly
import HandS.OwnEq
import PyProof.InstNe
import PyProof.EqKinds
import HandS.EndBits
import PyProof.ReprRoads
import HandS.MakeKw
import HandS.More
import HandS.SetTxt0
import HandS.SetFor
import PySem.Challenge.RW_dimfits_k03_terms
set_option Elab.async false
set_option linter.all false
set_option maxRecDepth 100000
set_option maxHeartbeats 2000000
/-! Values without a heap: frozen data (D), owned trees (S), the slots of a def (Env), and how they lie in the abstract heap. -/
namespace Av
open PySem L2

/-- what a proof knows of the written part: K, and where the classes stand -/
structure Gx where
  K : PySem.W.Frag
  cl : Str → Addr

/-- data that never changes -/
inductive D where
  | non | bl (b : Bool) | int (i : Int) | str (x : Str)
  | tup (xs : List D) | lst (xs : List D) | slst (xs : List D) | dct (ks : List Key) (xs : List D)
  | ins (c : Str) (ns : List Str) (xs : List D)

/-- what a slot holds: frozen data, or a tree of lists, dicts, instances that stands nowhere else -/
inductive S where
  | im (d : D) | lst (xs : List S) | dct (ks : List Key) (xs : List S)
  | obj (c : Str) (ns : List Str) (xs : List S)

abbrev Set' := Addr → Prop

section
variable (G : Gx)
mutual
def DV (B : Hp) : V → D → Prop
  | v, .non => v = .non
  | v, .bl b => v = .bl b
  | v, .int i => v = .int i
  | v, .str x => v = .str x
  | v, .tup ds => ∃ a vs, v = .ref a ∧ SqT G.K B a vs ∧ DVs B vs ds
  | v, .lst ds => ∃ a vs, v = .ref a ∧ B a = some (.lst vs) ∧ DVs B vs ds
  | v, .slst ds => ∃ a vs, v = .ref a ∧ SqL G.K B a vs ∧ DVs B vs ds
  | v, .dct ks ds => ∃ a vs, v = .ref a ∧ B a = some (.dK (ks.zip vs)) ∧ ks.length = vs.length ∧ DVs B vs ds
  | v, .ins c ns ds => ∃ a dx vs, v = .ref a ∧ B a = some (.ins (G.cl c) dx (ns.zip vs)) ∧ ns.length = vs.length ∧ DVs B vs ds
def DVs (B : Hp) : List V → List D → Prop
  | vs, [] => vs = []
  | vs, d :: ds => ∃ v r, vs = v :: r ∧ DV B v d ∧ DVs B r ds
end

mutual
def SV (B H : Hp) : V → S → Set' → Prop
  | v, .im d, fp => DV G B v d ∧ ∀ b, ¬ fp b
  | v, .lst xs, fp => ∃ a vs fq, v = .ref a ∧ H a = some (.lst vs) ∧ B a = none ∧ SVs B H vs xs fq ∧ ¬ fq a ∧ ∀ b, fp b ↔ b = a ∨ fq b
  | v, .dct ks xs, fp => ∃ a vs fq, v = .ref a ∧ H a = some (.dK (ks.zip vs)) ∧ ks.length = vs.length ∧ B a = none ∧ SVs B H vs xs fq ∧ ¬ fq a ∧ ∀ b, fp b ↔ b = a ∨ fq b
  | v, .obj c ns xs, fp => ∃ a dx vs fq, v = .ref a ∧ H a = some (.ins (G.cl c) dx (ns.zip vs)) ∧ ns.length = vs.length ∧ B a = none ∧ B dx = some (.own a) ∧ SVs B H vs xs fq ∧ ¬ fq a ∧ ∀ b, fp b ↔ b = a ∨ fq b
def SVs (B H : Hp) : List V → List S → Set' → Prop
  | vs, [], fp => vs = [] ∧ ∀ b, ¬ fp b
  | vs, s :: ss, fp => ∃ v r f1 f2, vs = v :: r ∧ SV B H v s f1 ∧ SVs B H r ss f2 ∧ (∀ b, f1 b → ¬ f2 b) ∧ ∀ b, fp b ↔ f1 b ∨ f2 b
end
end

mutual
/-- the data of a tree -/
def fz : S → D
  | .im d => d
  | .lst xs => .lst (fzs xs)
  | .dct ks xs => .dct ks (fzs xs)
  | .obj c ns xs => .ins c ns (fzs xs)
def fzs : List S → List D
  | [] => []
  | s :: ss => fz s :: fzs ss
end

abbrev Ex (H H' : Hp) : Prop := ∀ a o, H a = some o → H' a = some o
theorem Ex.refl (H : Hp) : Ex H H := fun _ _ h => h
theorem Ex.trans {H H1 H2 : Hp} (a : Ex H H1) (b : Ex H1 H2) : Ex H H2 := fun x o h => b x o (a x o h)
theorem Ex.new {H : Hp} {p : Addr} {o : HO} (h : H p = none) : Ex H (upd H p o) := fun a u e => by
  rw [upd_ne (ne_of_none e h)]
  exact e
theorem ex_rd {H H' : Hp} {a : Addr} {u : HO} (e : Ex H H') (h : Rd H a u) : Rd H' a u := by
  rcases h with h | ⟨o, h⟩
  · exact Or.inl (e a _ h)
  · exact Or.inr ⟨o, e a _ h⟩
theorem ex_l {K : PySem.W.Frag} {H H' : Hp} {a : Addr} {xs : List V} (e : Ex H H') (h : SqL K H a xs) : SqL K H' a xs := by
  rcases h with h | h
  · exact Or.inl (ex_rd e h)
  · exact Or.inr h
theorem ex_t {K : PySem.W.Frag} {H H' : Hp} {a : Addr} {xs : List V} (e : Ex H H') (h : SqT K H a xs) : SqT K H' a xs := by
  rcases h with h | h
  · exact Or.inl (ex_rd e h)
  · exact Or.inr h
theorem sq_of {K : PySem.W.Frag} {H : Hp} {a : Addr} {xs : List V} (h : H a = some (.lst xs)) : SqL K H a xs := Or.inl (Or.inl h)
theorem st_of {K : PySem.W.Frag} {H : Hp} {a : Addr} {xs : List V} (h : H a = some (.tup xs)) : SqT K H a xs := Or.inl (Or.inl h)
theorem sz_of {n : Nat} (h : n ≤ 100000) : n ≤ sizeLine := Nat.le_trans h (by decide)
theorem sz_lt {n : Nat} (h : n < 100000) : n < sizeLine := Nat.lt_of_lt_of_le h (by decide)
theorem fresh_back {H H' : Hp} {p : Addr} (e : Ex H H') (h : H' p = none) : H p = none := by
  cases h1 : H p with
  | none => rfl
  | some o =>
    rw [e p o h1] at h
    cases h

section
variable {G : Gx} {B B' H H' : Hp}
mutual
theorem DV.mono (e : Ex B B') : ∀ {d : D} {v : V}, DV G B v d → DV G B' v d
  | .non, _, h => h
  | .bl _, _, h => h
  | .int _, _, h => h
  | .str _, _, h => h
  | .tup ds, _, h => by
    obtain ⟨a, vs, e1, h1, h2⟩ := h
    exact ⟨a, vs, e1, ex_t e h1, DVs.mono e h2⟩
  | .lst ds, _, h => by
    obtain ⟨a, vs, e1, h1, h2⟩ := h
    exact ⟨a, vs, e1, e _ _ h1, DVs.mono e h2⟩
  | .slst ds, _, h => by
    obtain ⟨a, vs, e1, h1, h2⟩ := h
    exact ⟨a, vs, e1, ex_l e h1, DVs.mono e h2⟩
  | .dct ks ds, _, h => by
    obtain ⟨a, vs, e1, h1, h2, h3⟩ := h
    exact ⟨a, vs, e1, e _ _ h1, h2, DVs.mono e h3⟩
  | .ins c ns ds, _, h => by
    obtain ⟨a, dx, vs, e1, h1, h2, h3⟩ := h
    exact ⟨a, dx, vs, e1, e _ _ h1, h2, DVs.mono e h3⟩
theorem DVs.mono (e : Ex B B') : ∀ {ds : List D} {vs : List V}, DVs G B vs ds → DVs G B' vs ds
  | [], _, h => h
  | d :: ds, _, h => by
    obtain ⟨v, r, e1, h1, h2⟩ := h
    exact ⟨v, r, e1, DV.mono e h1, DVs.mono e h2⟩
end
theorem DVs.length : ∀ {ds : List D} {vs : List V}, DVs G B vs ds → vs.length = ds.length
  | [], _, h => by rw [show _ = [] from h]; rfl
  | d :: ds, _, h => by
    obtain ⟨v, r, rfl, _, h2⟩ := h
    simp [DVs.length h2]
theorem DVs.get : ∀ {ds : List D} {vs : List V} {i : Nat} {d : D}, DVs G B vs ds → ds[i]? = some d → ∃ v, vs[i]? = some v ∧ DV G B v d
  | [], _, _, _, _, e => by simp at e
  | d :: ds, _, 0, _, h, e => by
    obtain ⟨v, r, rfl, h1, _⟩ := h
    simp at e; subst e
    exact ⟨v, rfl, h1⟩
  | d :: ds, _, i + 1, _, h, e => by
    obtain ⟨v, r, rfl, _, h2⟩ := h
    obtain ⟨u, h3, h4⟩ := DVs.get (i := i) h2 (by simpa using e)
    exact ⟨u, by simpa using h3, h4⟩
theorem DVs.get' : ∀ {ds : List D} {vs : List V} {i : Nat} {v : V}, DVs G B vs ds → vs[i]? = some v → ∃ d, ds[i]? = some d ∧ DV G B v d
  | [], _, _, _, h, e => by rw [show _ = [] from h] at e; simp at e
  | d :: ds, _, 0, _, h, e => by
    obtain ⟨v, r, rfl, h1, _⟩ := h
    simp at e; subst e
    exact ⟨d, rfl, h1⟩
  | d :: ds, _, i + 1, _, h, e => by
    obtain ⟨v, r, rfl, _, h2⟩ := h
    obtain ⟨u, h3, h4⟩ := DVs.get' (i := i) h2 (by simpa using e)
    exact ⟨u, by simpa using h3, h4⟩
theorem DVs.append : ∀ {ds es : List D} {vs us : List V}, DVs G B vs ds → DVs G B us es → DVs G B (vs ++ us) (ds ++ es)
  | [], _, _, _, h, h' => by rw [show _ = [] from h]; exact h'
  | d :: ds, _, _, _, h, h' => by
    obtain ⟨v, r, rfl, h1, h2⟩ := h
    exact ⟨v, _, rfl, h1, DVs.append h2 h'⟩
theorem DVs.drop : ∀ {ds : List D} {vs : List V} (n : Nat), DVs G B vs ds → DVs G B (vs.drop n) (ds.drop n)
  | _, _, 0, h => by simpa using h
  | [], _, n + 1, h => by rw [show _ = [] from h]; exact rfl
  | d :: ds, _, n + 1, h => by
    obtain ⟨v, r, rfl, h1, h2⟩ := h
    simpa using DVs.drop n h2
theorem DVs.take : ∀ {ds : List D} {vs : List V} (n : Nat), DVs G B vs ds → DVs G B (vs.take n) (ds.take n)
  | _, _, 0, h => by rw [List.take_zero, List.take_zero]; exact rfl
  | [], _, n + 1, h => by rw [show _ = [] from h]; exact rfl
  | d :: ds, _, n + 1, h => by
    obtain ⟨v, r, rfl, h1, h2⟩ := h
    simpa using ⟨v, r.take n, rfl, h1, DVs.take n h2⟩
theorem DVs.reverse : ∀ {ds : List D} {vs : List V}, DVs G B vs ds → DVs G B vs.reverse ds.reverse
  | [], _, h => by rw [show _ = [] from h]; exact rfl
  | d :: ds, _, h => by
    obtain ⟨v, r, rfl, h1, h2⟩ := h
    rw [List.reverse_cons, List.reverse_cons]
    exact DVs.append (DVs.reverse h2) ⟨v, [], rfl, h1, rfl⟩
theorem DVs.one {v : V} {d : D} (h : DV G B v d) : DVs G B [v] [d] := ⟨v, [], rfl, h, rfl⟩

mutual
/-- a tree stands as long as its own objects stand -/
theorem SV.mono (e : Ex B B') : ∀ {s : S} {v : V} {fp : Set'}, (∀ a, fp a → H' a = H a ∧ B' a = none) → SV G B H v s fp → SV G B' H' v s fp
  | .im d, _, _, _, h => ⟨h.1.mono e, h.2⟩
  | .lst xs, _, _, k, h => by
    obtain ⟨a, vs, fq, e1, h1, h2, h3, h4, h5⟩ := h
    have ka := k a ((h5 a).mpr (.inl rfl))
    exact ⟨a, vs, fq, e1, by rw [ka.1]; exact h1, ka.2, SVs.mono e (fun b hb => k b ((h5 b).mpr (.inr hb))) h3, h4, h5⟩
  | .dct ks xs, _, _, k, h => by
    obtain ⟨a, vs, fq, e1, h1, hl, h2, h3, h4, h5⟩ := h
    have ka := k a ((h5 a).mpr (.inl rfl))
    exact ⟨a, vs, fq, e1, by rw [ka.1]; exact h1, hl, ka.2, SVs.mono e (fun b hb => k b ((h5 b).mpr (.inr hb))) h3, h4, h5⟩
  | .obj c ns xs, _, _, k, h => by
    obtain ⟨a, dx, vs, fq, e1, h1, hl, h2, hd, h3, h4, h5⟩ := h
    have ka := k a ((h5 a).mpr (.inl rfl))
    exact ⟨a, dx, vs, fq, e1, by rw [ka.1]; exact h1, hl, ka.2, e _ _ hd, SVs.mono e (fun b hb => k b ((h5 b).mpr (.inr hb))) h3, h4, h5⟩
theorem SVs.mono (e : Ex B B') : ∀ {ss : List S} {vs : List V} {fp : Set'}, (∀ a, fp a → H' a = H a ∧ B' a = none) → SVs G B H vs ss fp → SVs G B' H' vs ss fp
  | [], _, _, _, h => h
  | s :: ss, _, _, k, h => by
    obtain ⟨v, r, f1, f2, e1, h1, h2, h3, h4⟩ := h
    exact ⟨v, r, f1, f2, e1, SV.mono e (fun b hb => k b ((h4 b).mpr (.inl hb))) h1, SVs.mono e (fun b hb => k b ((h4 b).mpr (.inr hb))) h2, h3, h4⟩
end
mutual
theorem SV.own : ∀ {s : S} {v : V} {fp : Set'}, SV G B H v s fp → ∀ a, fp a → B a = none ∧ ∃ o, H a = some o
  | .im d, _, _, h, a, ha => (h.2 a ha).elim
  | .lst xs, _, _, h, a, ha => by
    obtain ⟨p, vs, fq, e1, h1, h2, h3, h4, h5⟩ := h
    rcases (h5 a).mp ha with rfl | q
    · exact ⟨h2, _, h1⟩
    · exact SVs.own h3 a q
  | .dct ks xs, _, _, h, a, ha => by
    obtain ⟨p, vs, fq, e1, h1, hl, h2, h3, h4, h5⟩ := h
    rcases (h5 a).mp ha with rfl | q
    · exact ⟨h2, _, h1⟩
    · exact SVs.own h3 a q
  | .obj c ns xs, _, _, h, a, ha => by
    obtain ⟨p, dx, vs, fq, e1, h1, hl, h2, hd, h3, h4, h5⟩ := h
    rcases (h5 a).mp ha with rfl | q
    · exact ⟨h2, _, h1⟩
    · exact SVs.own h3 a q
theorem SVs.own : ∀ {ss : List S} {vs : List V} {fp : Set'}, SVs G B H vs ss fp → ∀ a, fp a → B a = none ∧ ∃ o, H a = some o
  | [], _, _, h, a, ha => (h.2 a ha).elim
  | s :: ss, _, _, h, a, ha => by
    obtain ⟨v, r, f1, f2, e1, h1, h2, h3, h4⟩ := h
    rcases (h4 a).mp ha with q | q
    · exact SV.own h1 a q
    · exact SVs.own h2 a q
end
mutual
/-- a tree read as data, over any heap that has its objects -/
theorem SV.fzd (e : Ex B B') : ∀ {s : S} {v : V} {fp : Set'}, (∀ a, fp a → B' a = H a) → SV G B H v s fp → DV G B' v (fz s)
  | .im d, _, _, _, h => h.1.mono e
  | .lst xs, _, _, k, h => by
    obtain ⟨a, vs, fq, e1, h1, h2, h3, h4, h5⟩ := h
    exact ⟨a, vs, e1, (by rw [k a ((h5 a).mpr (.inl rfl))]; exact h1), SVs.fzd e (fun b hb => k b ((h5 b).mpr (.inr hb))) h3⟩
  | .dct ks xs, _, _, k, h => by
    obtain ⟨a, vs, fq, e1, h1, hl, h2, h3, h4, h5⟩ := h
    exact ⟨a, vs, e1, by rw [k a ((h5 a).mpr (.inl rfl))]; exact h1, hl, SVs.fzd e (fun b hb => k b ((h5 b).mpr (.inr hb))) h3⟩
  | .obj c ns xs, _, _, k, h => by
    obtain ⟨a, dx, vs, fq, e1, h1, hl, h2, hd, h3, h4, h5⟩ := h
    exact ⟨a, dx, vs, e1, by rw [k a ((h5 a).mpr (.inl rfl))]; exact h1, hl, SVs.fzd e (fun b hb => k b ((h5 b).mpr (.inr hb))) h3⟩
theorem SVs.fzd (e : Ex B B') : ∀ {ss : List S} {vs : List V} {fp : Set'}, (∀ a, fp a → B' a = H a) → SVs G B H vs ss fp → DVs G B' vs (fzs ss)
  | [], _, _, _, h => h.1
  | s :: ss, _, _, k, h => by
    obtain ⟨v, r, f1, f2, e1, h1, h2, h3, h4⟩ := h
    exact ⟨v, r, e1, SV.fzd e (fun b hb => k b ((h4 b).mpr (.inl hb))) h1, SVs.fzd e (fun b hb => k b ((h4 b).mpr (.inr hb))) h2⟩
end
theorem SVs.length : ∀ {ss : List S} {vs : List V} {fp : Set'}, SVs G B H vs ss fp → vs.length = ss.length
  | [], _, _, h => by rw [h.1]; rfl
  | s :: ss, _, _, h => by
    obtain ⟨v, r, f1, f2, rfl, h1, h2, h3, h4⟩ := h
    simp [SVs.length h2]
theorem SV.sub {s : S} {v : V} {fp fp' : Set'} (q : ∀ b, fp b ↔ fp' b) (h : SV G B H v s fp) : SV G B H v s fp' := by
  have e : fp = fp' := funext fun b => propext (q b)
  rw [← e]
  exact h
theorem SVs.sub {s : List S} {v : List V} {fp fp' : Set'} (q : ∀ b, fp b ↔ fp' b) (h : SVs G B H v s fp) : SVs G B H v s fp' := by
  have e : fp = fp' := funext fun b => propext (q b)
  rw [← e]
  exact h
theorem SVs.get : ∀ {ss : List S} {vs : List V} {fp : Set'} {i : Nat} {s : S}, SVs G B H vs ss fp → ss[i]? = some s → ∃ v f, vs[i]? = some v ∧ SV G B H v s f ∧ ∀ b, f b → fp b
  | [], _, _, _, _, _, e => by simp at e
  | s :: ss, _, _, 0, _, h, e => by
    obtain ⟨v, r, f1, f2, rfl, h1, h2, h3, h4⟩ := h
    simp at e; subst e
    exact ⟨v, f1, rfl, h1, fun b hb => (h4 b).mpr (.inl hb)⟩
  | s :: ss, _, _, i + 1, _, h, e => by
    obtain ⟨v, r, f1, f2, rfl, h1, h2, h3, h4⟩ := h
    obtain ⟨u, f, g1, g2, g3⟩ := SVs.get (i := i) h2 (by simpa using e)
    exact ⟨u, f, by simpa using g1, g2, fun b hb => (h4 b).mpr (.inr (g3 b hb))⟩
theorem SVs.append : ∀ {ss ts : List S} {vs us : List V} {f g : Set'}, SVs G B H vs ss f → SVs G B H us ts g → (∀ b, f b → ¬ g b) → SVs G B H (vs ++ us) (ss ++ ts) (fun b => f b ∨ g b)
  | [], _, _, _, _, _, h, h', _ => by
    rw [h.1]
    exact h'.sub fun b => ⟨.inr, fun q => q.elim (fun z => (h.2 b z).elim) id⟩
  | s :: ss, _, _, _, f, g, h, h', k => by
    obtain ⟨v, r, f1, f2, rfl, h1, h2, h3, h4⟩ := h
    refine ⟨v, _, f1, fun b => f2 b ∨ g b, rfl, h1, SVs.append h2 h' (fun b hb => k b ((h4 b).mpr (.inr hb))), fun b hb q => ?_, fun b => ?_⟩
    · rcases q with q | q
      · exact h3 b hb q
      · exact k b ((h4 b).mpr (.inl hb)) q
    · show (f b ∨ g b) ↔ f1 b ∨ (f2 b ∨ g b)
      rw [h4 b]
      exact or_assoc
theorem SVs.one {v : V} {s : S} {f : Set'} (h : SV G B H v s f) : SVs G B H [v] [s] f :=
  ⟨v, [], f, fun _ => False, rfl, h, ⟨rfl, fun _ z => z⟩, fun _ _ z => z, fun b => ⟨.inl, fun q => q.elim id False.elim⟩⟩
/-- frozen items as trees -/
theorem DVs.im : ∀ {ds : List D} {vs : List V}, DVs G B vs ds → SVs G B H vs (ds.map .im) (fun _ => False)
  | [], _, h => ⟨h, fun _ z => z⟩
  | d :: ds, _, h => by
    obtain ⟨v, r, rfl, h1, h2⟩ := h
    exact ⟨v, r, fun _ => False, fun _ => False, rfl, ⟨h1, fun _ z => z⟩, DVs.im h2, fun _ z => z.elim, fun b => ⟨False.elim, fun q => q.elim id id⟩⟩
theorem SVs.ofIm : ∀ {ds : List D} {vs : List V} {fp : Set'}, SVs G B H vs (ds.map .im) fp → DVs G B vs ds ∧ ∀ b, ¬ fp b
  | [], _, _, h => h
  | d :: ds, _, _, h => by
    obtain ⟨v, r, f1, f2, rfl, h1, h2, h3, h4⟩ := h
    obtain ⟨g1, g2⟩ := SVs.ofIm h2
    exact ⟨⟨v, r, rfl, h1.1, g1⟩, fun b hb => ((h4 b).mp hb).elim (h1.2 b) (g2 b)⟩
end

/-- the frozen part grows by a tree's objects -/
theorem grow {B H : Hp} (f : Set') (e : Ex B H) : ∃ B' : Hp, Ex B B' ∧ Ex B' H ∧ (∀ a, f a → B' a = H a) ∧ ∀ a, ¬ f a → B' a = B a := by
  classical
  refine ⟨fun a => if f a then H a else B a, fun a o ha => ?_, fun a o ha => ?_, fun a ha => if_pos ha, fun a ha => if_neg ha⟩
  · show (if f a then H a else B a) = some o
    by_cases q : f a
    · rw [if_pos q]
      exact e a o ha
    · rw [if_neg q]
      exact ha
  · have ha : (if f a then H a else B a) = some o := ha
    by_cases q : f a
    · rw [if_pos q] at ha
      exact ha
    · rw [if_neg q] at ha
      exact e a o ha

/-! ### the slots of a def -/
abbrev Env := List (Option S)
structure EV (G : Gx) (B H : Hp) (σ : L2.St) (ρ : Env) (Z : Set') : Prop where
  len : σ.length = ρ.length
  sub : Ex B H
  slots : ∃ fps : Nat → Set', (∀ (i : Nat) (s : S), ρ[i]? = some (some s) → ∃ v, σ[i]? = some (some v) ∧ SV G B H v s (fps i)) ∧
    (∀ i, (∀ s, ρ[i]? ≠ some (some s)) → ∀ a, ¬ fps i a) ∧ (∀ i j a, i ≠ j → fps i a → ¬ fps j a) ∧ ∀ a, Z a ↔ ∃ i, fps i a

section
variable {G : Gx} {B B' H H' : Hp} {σ : L2.St} {ρ : Env} {Z : Set'}
theorem EV.own (E : EV G B H σ ρ Z) : ∀ a, Z a → B a = none ∧ ∃ o, H a = some o := fun a ha => by
  obtain ⟨fps, h1, h2, h3, h4⟩ := E.slots
  obtain ⟨i, hi⟩ := (h4 a).mp ha
  cases e : ρ[i]? with
  | none => exact (h2 i (fun s q => by rw [e] at q; cases q) a hi).elim
  | some o =>
    cases o with
    | none => exact (h2 i (fun s q => by rw [e] at q; cases q) a hi).elim
    | some s =>
      obtain ⟨v, _, hv⟩ := h1 i s e
      exact hv.own a hi
theorem EV.mono (E : EV G B H σ ρ Z) (e : Ex B B') (s : Ex B' H') (k : ∀ a, Z a → H' a = H a ∧ B' a = none) : EV G B' H' σ ρ Z := by
  obtain ⟨fps, h1, h2, h3, h4⟩ := E.slots
  refine ⟨E.len, s, fps, fun i s hi => ?_, h2, h3, h4⟩
  obtain ⟨v, e1, hv⟩ := h1 i s hi
  exact ⟨v, e1, hv.mono e fun a ha => k a ((h4 a).mpr ⟨i, ha⟩)⟩
theorem EV.get (E : EV G B H σ ρ Z) {i : Nat} {s : S} (hi : ρ[i]? = some (some s)) : ∃ v f, σ[i]? = some (some v) ∧ SV G B H v s f ∧ ∀ a, f a → Z a := by
  obtain ⟨fps, h1, h2, h3, h4⟩ := E.slots
  obtain ⟨v, e1, hv⟩ := h1 i s hi
  exact ⟨v, fps i, e1, hv, fun a ha => (h4 a).mpr ⟨i, ha⟩⟩
/-- one slot taken out -/
theorem EV.out (E : EV G B H σ ρ Z) {i : Nat} {s : S} (hi : ρ[i]? = some (some s)) :
    ∃ v f Zr, σ[i]? = some (some v) ∧ SV G B H v s f ∧ EV G B H σ (ρ.set i none) Zr ∧ (∀ a, f a → ¬ Zr a) ∧ ∀ a, Z a ↔ f a ∨ Zr a := by
  obtain ⟨fps, h1, h2, h3, h4⟩ := E.slots
  obtain ⟨v, e1, hv⟩ := h1 i s hi
  have hl : i < ρ.length := (List.getElem?_eq_some_iff.mp hi).1
  refine ⟨v, fps i, fun a => ∃ j, j ≠ i ∧ fps j a, e1, hv, ⟨by rw [List.length_set]; exact E.len, E.sub, fun j => if j = i then (fun _ => False) else fps j, fun j t hj => ?_, fun j hj a => ?_, fun j k a n hj => ?_, fun a => ?_⟩, fun a ha ⟨j, n, hj⟩ => h3 j i a n hj ha, fun a => ?_⟩
  · by_cases e : j = i
    · subst e
      rw [List.getElem?_set_self hl] at hj
      cases hj
    · rw [List.getElem?_set_ne (Ne.symm e)] at hj
      simp only [if_neg e]
      exact h1 j t hj
  · by_cases e : j = i
    · simp only [if_pos e]
      exact fun z => z
    · simp only [if_neg e]
      refine h2 j (fun t q => hj t ?_) a
      rw [List.getElem?_set_ne (Ne.symm e)]
      exact q
  · by_cases e : j = i
    · simp only [if_pos e] at hj
    · simp only [if_neg e] at hj
      by_cases e' : k = i
      · simp only [if_pos e']
        exact fun z => z
      · simp only [if_neg e']
        exact h3 j k a n hj
  · constructor
    · rintro ⟨j, n, hj⟩
      exact ⟨j, by simp only [if_neg n]; exact hj⟩
    · rintro ⟨j, hj⟩
      by_cases e : j = i
      · simp only [if_pos e] at hj
      · simp only [if_neg e] at hj
        exact ⟨j, e, hj⟩
  · rw [h4 a]
    constructor
    · rintro ⟨j, hj⟩
      by_cases e : j = i
      · subst e
        exact .inl hj
      · exact .inr ⟨j, e, hj⟩
    · rintro (q | ⟨j, _, hj⟩)
      · exact ⟨i, q⟩
      · exact ⟨j, hj⟩
/-- one slot filled (it was empty) -/
theorem EV.put (E : EV G B H σ ρ Z) {i : Nat} {s : S} {v : V} {f : Set'} (hi : i < ρ.length) (hn : ∀ s, ρ[i]? ≠ some (some s)) (hv : SV G B H v s f) (hd : ∀ a, f a → ¬ Z a) :
    EV G B H (σ.set i (some v)) (ρ.set i (some s)) (fun a => f a ∨ Z a) := by
  obtain ⟨fps, h1, h2, h3, h4⟩ := E.slots
  have hl : i < σ.length := by rw [E.len]; exact hi
  refine ⟨by rw [List.length_set, List.length_set]; exact E.len, E.sub, fun j => if j = i then f else fps j, fun j t hj => ?_, fun j hj a => ?_, fun j k a n hj => ?_, fun a => ?_⟩
  · by_cases e : j = i
    · subst e
      rw [List.getElem?_set_self hi] at hj
      cases hj
      refine ⟨v, ?_, by simp only [if_pos rfl]; exact hv⟩
      rw [List.getElem?_set_self hl]
    · rw [List.getElem?_set_ne (Ne.symm e)] at hj
      simp only [if_neg e]
      rw [List.getElem?_set_ne (Ne.symm e)]
      exact h1 j t hj
  · by_cases e : j = i
    · subst e
      exact (hj s (List.getElem?_set_self hi)).elim
    · simp only [if_neg e]
      refine h2 j (fun t q => hj t ?_) a
      rw [List.getElem?_set_ne (Ne.symm e)]
      exact q
  · by_cases e : j = i
    · simp only [if_pos e] at hj
      have e' : ¬ k = i := fun z => n (e.trans z.symm)
      simp only [if_neg e']
      exact fun z => hd a hj ((h4 a).mpr ⟨k, z⟩)
    · simp only [if_neg e] at hj
      by_cases e' : k = i
      · simp only [if_pos e']
        exact fun z => hd a z ((h4 a).mpr ⟨j, hj⟩)
      · simp only [if_neg e']
        exact h3 j k a n hj
  · constructor
    · rintro (q | q)
      · exact ⟨i, by simp only [if_pos rfl]; exact q⟩
      · obtain ⟨j, hj⟩ := (h4 a).mp q
        have n : ¬ j = i := fun z => by
          subst z
          exact h2 j hn a hj
        exact ⟨j, by simp only [if_neg n]; exact hj⟩
    · rintro ⟨j, hj⟩
      by_cases e : j = i
      · simp only [if_pos e] at hj
        exact .inl hj
      · simp only [if_neg e] at hj
        exact .inr ((h4 a).mpr ⟨j, hj⟩)
/-- a slot's value forgotten, whatever it was -/
theorem EV.clear (E : EV G B H σ ρ Z) (i : Nat) : ∃ Zr, EV G B H σ (ρ.set i none) Zr ∧ ∀ a, Zr a → Z a := by
  cases e : ρ[i]? with
  | none =>
    have q : ρ.set i none = ρ := List.set_eq_of_length_le (List.getElem?_eq_none_iff.mp e)
    rw [q]
    exact ⟨Z, E, fun _ h => h⟩
  | some o =>
    cases o with
    | none =>
      have hl := (List.getElem?_eq_some_iff.mp e)
      have q : ρ.set i none = ρ := by
        obtain ⟨hl, e2⟩ := hl
        refine List.ext_getElem? fun j => ?_
        by_cases n : j = i
        · subst n
          rw [List.getElem?_set_self hl, e]
        · rw [List.getElem?_set_ne (Ne.symm n)]
      rw [q]
      exact ⟨Z, E, fun _ h => h⟩
    | some s =>
      obtain ⟨v, f, Zr, _, _, E', _, hz⟩ := E.out e
      exact ⟨Zr, E', fun a h => (hz a).mpr (.inr h)⟩
/-- the slots may hold anything where nothing is known -/
theorem EV.set (E : EV G B H σ ρ Z) {i : Nat} (hn : ∀ s, ρ[i]? ≠ some (some s)) (o : Option V) : EV G B H (σ.set i o) ρ Z := by
  obtain ⟨fps, h1, h2, h3, h4⟩ := E.slots
  refine ⟨by rw [List.length_set]; exact E.len, E.sub, fps, fun j s hj => ?_, h2, h3, h4⟩
  have n : j ≠ i := fun z => by
    subst z
    exact hn s hj
  rw [List.getElem?_set_ne (Ne.symm n)]
  exact h1 j s hj
end

/-! ### a step: what changed -/
/-- from (B, H), whose owned objects are Z, to (B', H'), whose are Z' -/
structure Nx (B H : Hp) (Z : Set') (B' H' : Hp) (Z' : Set') : Prop where
  ex : Ex B B'
  fr : ∀ a o, H a = some o → ¬ Z a → H' a = some o ∧ B' a = B a
  gr : ∀ a, Z' a → Z a ∨ H a = none
section
variable {B H B1 H1 B2 H2 : Hp} {Z Z1 Z2 : Set'}
theorem Nx.refl : Nx B H Z B H Z := ⟨Ex.refl B, fun _ _ h _ => ⟨h, rfl⟩, fun _ h => .inl h⟩
theorem Nx.trans (a : Nx B H Z B1 H1 Z1) (b : Nx B1 H1 Z1 B2 H2 Z2) (keep : ∀ x, Z x → ∃ o, H x = some o) : Nx B H Z B2 H2 Z2 where
  ex := a.ex.trans b.ex
  fr := fun x o h n => by
    obtain ⟨h1, e1⟩ := a.fr x o h n
    have n1 : ¬ Z1 x := fun z => (a.gr x z).elim n (fun q => by rw [h] at q; cases q)
    obtain ⟨h2, e2⟩ := b.fr x o h1 n1
    exact ⟨h2, e2.trans e1⟩
  gr := fun x z => by
    rcases b.gr x z with q | q
    · exact a.gr x q
    · by_cases zx : Z x
      · exact .inl zx
      · refine .inr ?_
        cases e : H x with
        | none => rfl
        | some o =>
          have := (a.fr x o e zx).1
          rw [this] at q
          cases q
theorem Nx.sub {Z' : Set'} (a : Nx B H Z B1 H1 Z1) (h : ∀ x, Z' x → Z1 x) : Nx B H Z B1 H1 Z' := ⟨a.ex, a.fr, fun x z => a.gr x (h x z)⟩
/-- more may be owned ahead, as long as it isn't touched -/
theorem Nx.more {W : Set'} (a : Nx B H Z B1 H1 Z1) : Nx B H (fun x => Z x ∨ W x) B1 H1 (fun x => Z1 x ∨ W x) :=
  ⟨a.ex, fun x o h n => a.fr x o h fun z => n (.inl z), fun x z => z.elim (fun q => (a.gr x q).elim (fun r => .inl (.inl r)) .inr) fun q => .inl (.inr q)⟩
end
end Av
set_option Elab.async false
set_option linter.all false
set_option maxRecDepth 100000
set_option maxHeartbeats 2000000
/-! What an expression, a test, a statement does to the slots: judgements over the readings of HandS. -/
namespace Av
open PySem L2

abbrev gx (X : Cx) (cl : Str → Addr) : Gx := ⟨X.K, cl⟩

/-! ### any reading that the layer has -/
def tU (X : Cx) (e : Expr) : TE := fun σ H Q => ∃ t, PE X e t ∧ t σ H Q
theorem pe_U {X : Cx} {e : Expr} : PE X e (tU X e) := ⟨fun pins s σ H Q I ⟨_, ht, h⟩ => ht.run pins s σ H Q I h⟩
def tUT (X : Cx) (e : Expr) : TT := fun σ H Q => ∃ t, PT X e t ∧ t σ H Q
theorem pt_U {X : Cx} {e : Expr} : PT X e (tUT X e) := ⟨fun pins s σ H Q I ⟨_, ht, h⟩ => ht.run pins s σ H Q I h⟩
def tUA (X : Cx) (es : List Expr) : TA := fun σ H Q => ∃ t, PA X es t ∧ t σ H Q
theorem pa_U {X : Cx} {es : List Expr} : PA X es (tUA X es) := ⟨fun pos pins s σ H Q I ⟨_, ht, h⟩ => ht.run pos pins s σ H Q I h⟩
def tUS (X : Cx) (st : Stmt) : TS := fun D σ H => ∃ t, PS X st t ∧ t D σ H
theorem ps_U {X : Cx} {st : Stmt} : PS X st (tUS X st) := ⟨fun pins s σ H D I ⟨_, ht, h⟩ => ht.run pins s σ H D I h⟩
def tUSs (X : Cx) (st : List Stmt) : TS := fun D σ H => ∃ t, PSs X st t ∧ t D σ H
theorem pss_U {X : Cx} {st : List Stmt} : PSs X st (tUSs X st) := ⟨fun pins s σ H D I ⟨_, ht, h⟩ => ht.run pins s σ H D I h⟩

/-! ### what an expression gives -/
/-- a value: a tree (new, or frozen data), or the object that slot i holds -/
inductive R where
  | t (s : S) | pl (i : Nat)
inductive Res (α : Type) where
  | ok (a : α) | er (c : Str) (ns : List Str) (xs : List D)
abbrev M (α : Type) := Env → Option (Res α × Env)
def M.ret {α : Type} (a : α) : M α := fun ρ => some (.ok a, ρ)
def M.bind {α β : Type} (m : M α) (k : α → M β) : M β := fun ρ =>
  match m ρ with
  | none => none
  | some (.er c ns xs, ρ') => some (.er c ns xs, ρ')
  | some (.ok a, ρ') => k a ρ'
def rd (ρ : Env) : R → Option S
  | .t s => some s
  | .pl i => (ρ[i]?).join
def rds (ρ : Env) : List R → Option (List S)
  | [] => some []
  | r :: rs => match rd ρ r, rds ρ rs with
    | some s, some ss => some (s :: ss)
    | _, _ => none

def RV (G : Gx) (B H : Hp) (σ : L2.St) (v : V) : R → Set' → Prop
  | .t s, fp => SV G B H v s fp
  | .pl i, fp => σ[i]? = some (some v) ∧ ∀ b, ¬ fp b
def RVs (G : Gx) (B H : Hp) (σ : L2.St) : List V → List R → Set' → Prop
  | vs, [], fp => vs = [] ∧ ∀ b, ¬ fp b
  | vs, r :: rs, fp => ∃ v w f1 f2, vs = v :: w ∧ RV G B H σ v r f1 ∧ RVs G B H σ w rs f2 ∧ (∀ b, f1 b → ¬ f2 b) ∧ ∀ b, fp b ↔ f1 b ∨ f2 b

/-- an exception: its class and fields -/
def ErV (G : Gx) (B : Hp) (ns : List Str) (xs : List D) (d : Option Addr) : Prop :=
  (ns = [] ∧ d = none) ∨ ∃ a vs, d = some a ∧ B a = some (.xd (ns.zip vs)) ∧ ns.length = vs.length ∧ DVs G B vs xs

def Or' (f g : Set') : Set' := fun b => f b ∨ g b
def Apart (f g : Set') : Prop := ∀ b, f b → ¬ g b

structure GE (X : Cx) (cl : Str → Addr) (W : WX) (e : Expr) (f : M R) : Prop where
  run : ∀ (σ : L2.St) (B H : Hp) (ρ : Env) (Z : Set') (res : Res R) (ρ' : Env), EV (gx X cl) B H σ ρ Z → f ρ = some (res, ρ') → ∀ Q : VK,
    (∀ r, res = .ok r → ∀ v B' H' Z' fp, Nx B H Z B' H' (Or' fp Z') → EV (gx X cl) B' H' σ ρ' Z' → RV (gx X cl) B' H' σ v r fp → Apart fp Z' → Q v H') →
    (∀ c ns xs, res = .er c ns xs → ∀ B' H' Z', Nx B H Z B' H' Z' → EV (gx X cl) B' H' σ ρ' Z' → ∀ d, ErV (gx X cl) B' ns xs d → W (.ref (cl c)) d σ H') →
    tU X e σ H Q

structure GT (X : Cx) (cl : Str → Addr) (W : WX) (e : Expr) (f : M Bool) : Prop where
  run : ∀ (σ : L2.St) (B H : Hp) (ρ : Env) (Z : Set') (res : Res Bool) (ρ' : Env), EV (gx X cl) B H σ ρ Z → f ρ = some (res, ρ') → ∀ Q : Bool → Hp → Prop,
    (∀ b, res = .ok b → ∀ B' H' Z', Nx B H Z B' H' Z' → EV (gx X cl) B' H' σ ρ' Z' → Q b H') →
    (∀ c ns xs, res = .er c ns xs → ∀ B' H' Z', Nx B H Z B' H' Z' → EV (gx X cl) B' H' σ ρ' Z' → ∀ d, ErV (gx X cl) B' ns xs d → W (.ref (cl c)) d σ H') →
    tUT X e σ H Q

structure GA (X : Cx) (cl : Str → Addr) (W : WX) (es : List Expr) (f : M (List R)) : Prop where
  run : ∀ (σ : L2.St) (B H : Hp) (ρ : Env) (Z : Set') (res : Res (List R)) (ρ' : Env), EV (gx X cl) B H σ ρ Z → f ρ = some (res, ρ') → ∀ Q : List V → Hp → Prop,
    (∀ rs, res = .ok rs → ∀ vs B' H' Z' fp, Nx B H Z B' H' (Or' fp Z') → EV (gx X cl) B' H' σ ρ' Z' → RVs (gx X cl) B' H' σ vs rs fp → Apart fp Z' → Q vs H') →
    (∀ c ns xs, res = .er c ns xs → ∀ B' H' Z', Nx B H Z B' H' Z' → EV (gx X cl) B' H' σ ρ' Z' → ∀ d, ErV (gx X cl) B' ns xs d → W (.ref (cl c)) d σ H') →
    tUA X es σ H Q

/-! ### steps between -/
section
variable {G : Gx} {B H B1 H1 B2 H2 : Hp} {Z Z1 Z2 fp f1 f2 : Set'} {σ : L2.St} {ρ : Env}
theorem EV.there (E : EV G B H σ ρ Z) : ∀ x, Z x → ∃ o, H x = some o := fun x h => (E.own x h).2
/-- a value of ahead stands behind a step that doesn't own it -/
theorem SV.pass {s : S} {v : V} (h : SV G B1 H1 v s fp) (n : Nx B1 H1 Z1 B2 H2 Z2) (ap : Apart fp Z1) : SV G B2 H2 v s fp :=
  h.mono n.ex fun a ha => by
    obtain ⟨o, ho⟩ := (h.own a ha).2
    obtain ⟨h1, h2⟩ := n.fr a o ho (ap a ha)
    exact ⟨by rw [h1, ho], by rw [h2]; exact (h.own a ha).1⟩
theorem SVs.pass {s : List S} {v : List V} (h : SVs G B1 H1 v s fp) (n : Nx B1 H1 Z1 B2 H2 Z2) (ap : Apart fp Z1) : SVs G B2 H2 v s fp :=
  h.mono n.ex fun a ha => by
    obtain ⟨o, ho⟩ := (h.own a ha).2
    obtain ⟨h1, h2⟩ := n.fr a o ho (ap a ha)
    exact ⟨by rw [h1, ho], by rw [h2]; exact (h.own a ha).1⟩
theorem RV.own {r : R} {v : V} (h : RV G B H σ v r fp) : ∀ a, fp a → B a = none ∧ ∃ o, H a = some o := by
  cases r with
  | t s => exact SV.own h
  | pl i => exact fun a ha => (h.2 a ha).elim
theorem RV.pass {r : R} {v : V} (h : RV G B1 H1 σ v r fp) (n : Nx B1 H1 Z1 B2 H2 Z2) (ap : Apart fp Z1) : RV G B2 H2 σ v r fp := by
  cases r with
  | t s => exact SV.pass h n ap
  | pl i => exact h
/-- what a step that owns Z1 brings lies apart from what stood apart -/
theorem Nx.apart (n : Nx B1 H1 Z1 B2 H2 Z2) (ap : Apart fp Z1) (own : ∀ a, fp a → ∃ o, H1 a = some o) : Apart fp Z2 := fun a ha z => by
  rcases n.gr a z with q | q
  · exact ap a ha q
  · obtain ⟨o, e⟩ := own a ha
    rw [q] at e
    cases e
/-- two values, one behind the other -/
theorem Nx.two (a : Nx B H Z B1 H1 (Or' f1 Z1)) (b : Nx B1 H1 Z1 B2 H2 (Or' f2 Z2)) (own : ∀ x, Z x → ∃ o, H x = some o) (ap : Apart f1 Z1) (o1 : ∀ a, f1 a → ∃ o, H1 a = some o) :
    Nx B H Z B2 H2 (Or' (Or' f1 f2) Z2) ∧ Apart f1 f2 ∧ Apart f1 Z2 := by
  have q := b.apart ap o1
  refine ⟨?_, fun x h z => q x h (.inl z), fun x h z => q x h (.inr z)⟩
  have b' : Nx B1 H1 (Or' f1 Z1) B2 H2 (Or' (Or' f1 f2) Z2) := by
    refine ⟨b.ex, fun x o h n => b.fr x o h fun z => n (.inr z), fun x z => ?_⟩
    rcases z with (z | z) | z
    · exact .inl (.inl z)
    · exact (b.gr x (.inl z)).elim (fun q => .inl (.inr q)) .inr
    · exact (b.gr x (.inr z)).elim (fun q => .inl (.inr q)) .inr
  exact a.trans b' own
theorem Nx.then (a : Nx B H Z B1 H1 Z1) (b : Nx B1 H1 Z1 B2 H2 Z2) (E : EV G B H σ ρ Z) : Nx B H Z B2 H2 Z2 := a.trans b E.there
/-- a value ahead is dropped -/
theorem Nx.drop (a : Nx B H Z B1 H1 (Or' f1 Z1)) : Nx B H Z B1 H1 Z1 := a.sub fun _ h => .inr h
/-- a value of a slot, or a tree: to be read -/
theorem RV.read {r : R} {v : V} {s : S} (h : RV G B H σ v r fp) (E : EV G B H σ ρ Z) (e : rd ρ r = some s) : ∃ f, SV G B H v s f := by
  cases r with
  | t s' => cases e; exact ⟨fp, h⟩
  | pl i =>
    have e' : (ρ[i]?).join = some s := e
    have e2 : ρ[i]? = some (some s) := by
      cases q : ρ[i]? with
      | none => rw [q] at e'; cases e'
      | some o => rw [q] at e'; cases o with
        | none => cases e'
        | some s' => cases e'; rfl
    obtain ⟨w, f, e3, h2, _⟩ := E.get e2
    rw [h.1] at e3
    cases e3
    exact ⟨f, h2⟩
end

/-! ### what is made on the way: nothing that stood changes -/
structure New (B H B' H' : Hp) (f : Set') : Prop where
  ex : Ex B B'
  sub : Ex B' H'
  kp : Ex H H'
  bs : ∀ a o, H a = some o → B' a = B a
  fresh : ∀ a, f a → H a = none
section
variable {G : Gx} {B H B1 H1 B2 H2 : Hp} {Z Z1 Z2 fp f f1 f2 : Set'} {σ : L2.St} {ρ : Env}
theorem New.refl (h : Ex B H) : New B H B H (fun _ => False) := ⟨Ex.refl B, h, Ex.refl H, fun _ _ _ => rfl, fun _ z => z.elim⟩
theorem EV.new (E : EV G B H σ ρ Z) (n : New B H B1 H1 f) : EV G B1 H1 σ ρ Z := E.mono n.ex n.sub fun a ha => by
  obtain ⟨h1, o, ho⟩ := E.own a ha
  exact ⟨(n.kp a o ho).trans ho.symm, (n.bs a o ho).trans h1⟩
theorem SV.new {s : S} {v : V} (h : SV G B H v s fp) (n : New B H B1 H1 f) : SV G B1 H1 v s fp := h.mono n.ex fun a ha => by
  obtain ⟨h1, o, ho⟩ := h.own a ha
  exact ⟨(n.kp a o ho).trans ho.symm, (n.bs a o ho).trans h1⟩
theorem New.nx (n : New B H B1 H1 f) (h : ∀ a, Z a → True) : Nx B H Z B1 H1 (Or' f Z) :=
  ⟨n.ex, fun a o ho _ => ⟨n.kp a o ho, n.bs a o ho⟩, fun a z => z.elim (fun q => .inr (n.fresh a q)) .inl⟩
theorem New.apart (n : New B H B1 H1 f) (own : ∀ a, Z a → ∃ o, H a = some o) : Apart f Z := fun a h z => by
  obtain ⟨o, e⟩ := own a z
  rw [n.fresh a h] at e
  cases e
end

/-- an operation by values, on readable trees: gives a new tree, changes nothing -/
def OpN (X : Cx) (cl : Str → Addr) (rel : (List V → Hp → VK → Prop) → Prop) (g : List S → Option S) : Prop :=
  ∀ (B H : Hp) (vs : List V) (ss : List S) (z : S), Ex B H → vs.length = ss.length → (∀ (i : Nat) v s, vs[i]? = some v → ss[i]? = some s → ∃ f, SV (gx X cl) B H v s f) → g ss = some z →
    ∀ Q : VK, (∀ w B' H' f, New B H B' H' f → SV (gx X cl) B' H' w z f → Q w H') → ∃ r, rel r ∧ r vs H Q

def m1 (g : List S → Option S) (f : M R) : M R := f.bind fun r ρ => match (rd ρ r).bind fun s => g [s] with
  | some z => some (.ok (.t z), ρ)
  | none => none
def m2 (g : List S → Option S) (f1 f2 : M R) : M R := f1.bind fun r1 => f2.bind fun r2 ρ =>
  match rds ρ [r1, r2] with
  | some ss => (match g ss with
    | some z => some (.ok (.t z), ρ)
    | none => none)
  | none => none
def mN (g : List S → Option S) (f : M (List R)) : M R := f.bind fun rs ρ =>
  match rds ρ rs with
  | some ss => (match g ss with
    | some z => some (.ok (.t z), ρ)
    | none => none)
  | none => none

section
variable {X : Cx} {cl : Str → Addr} {W : WX} {G : Gx}
theorem bind_ok {α β : Type} {m : M α} {k : α → M β} {ρ ρ' : Env} {res : Res β} (h : M.bind m k ρ = some (res, ρ')) :
    (∃ a ρ1, m ρ = some (.ok a, ρ1) ∧ k a ρ1 = some (res, ρ')) ∨ (∃ c ns xs, m ρ = some (.er c ns xs, ρ') ∧ res = .er c ns xs) := by
  unfold M.bind at h
  cases e : m ρ with
  | none => rw [e] at h; cases h
  | some p =>
    obtain ⟨r, ρ1⟩ := p
    rw [e] at h
    cases r with
    | ok a => exact .inl ⟨a, ρ1, rfl, h⟩
    | er c ns xs =>
      cases h
      exact .inr ⟨c, ns, xs, rfl, rfl⟩
theorem rds_len : ∀ {rs : List R} {ρ : Env} {ss : List S}, rds ρ rs = some ss → rs.length = ss.length
  | [], _, _, h => by cases h; rfl
  | r :: rs, ρ, ss, h => by
    unfold rds at h
    cases e1 : rd ρ r with
    | none => rw [e1] at h; cases h
    | some s =>
      cases e2 : rds ρ rs with
      | none => rw [e1, e2] at h; cases h
      | some ts =>
        rw [e1, e2] at h
        cases h
        simp [rds_len e2]
theorem RVs.len {B H : Hp} {σ : L2.St} : ∀ {rs : List R} {vs : List V} {fp : Set'}, RVs G B H σ vs rs fp → vs.length = rs.length
  | [], _, _, h => by rw [h.1]; rfl
  | r :: rs, _, _, h => by
    obtain ⟨v, w, f1, f2, rfl, _, h2, _⟩ := h
    simp [RVs.len h2]
theorem RVs.read {B H : Hp} {σ : L2.St} {ρ : Env} {Z : Set'} (E : EV G B H σ ρ Z) : ∀ {rs : List R} {vs : List V} {fp : Set'} {ss : List S}, RVs G B H σ vs rs fp → rds ρ rs = some ss →
    ∀ (i : Nat) v s, vs[i]? = some v → ss[i]? = some s → ∃ f, SV G B H v s f
  | [], _, _, _, h, e, i, v, s, e1, e2 => by rw [h.1] at e1; simp at e1
  | r :: rs, _, _, ss, h, e, i, v, s, e1, e2 => by
    obtain ⟨u, w, f1, f2, rfl, h1, h2, _⟩ := h
    unfold rds at e
    cases q1 : rd ρ r with
    | none => rw [q1] at e; cases e
    | some s1 =>
      cases q2 : rds ρ rs with
      | none => rw [q1, q2] at e; cases e
      | some ts =>
        rw [q1, q2] at e
        cases e
        cases i with
        | zero =>
          simp at e1 e2
          subst e1 e2
          exact h1.read E q1
        | succ i => exact RVs.read E h2 q2 i v s (by simpa using e1) (by simpa using e2)
theorem RVs.own {B H : Hp} {σ : L2.St} : ∀ {rs : List R} {vs : List V} {fp : Set'}, RVs G B H σ vs rs fp → ∀ a, fp a → B a = none ∧ ∃ o, H a = some o
  | [], _, _, h, a, ha => (h.2 a ha).elim
  | r :: rs, _, _, h, a, ha => by
    obtain ⟨u, w, f1, f2, rfl, h1, h2, _, h4⟩ := h
    exact ((h4 a).mp ha).elim (fun q => h1.own a q) fun q => RVs.own h2 a q
theorem RV.sub {B H : Hp} {σ : L2.St} {v : V} {r : R} {f g : Set'} (q : ∀ b, f b ↔ g b) (h : RV G B H σ v r f) : RV G B H σ v r g := by
  have e : f = g := funext fun b => propext (q b)
  rw [← e]
  exact h

/-! ### arguments -/
def aNil : M (List R) := M.ret []
def aCons (f : M R) (g : M (List R)) : M (List R) := f.bind fun r => g.bind fun rs => M.ret (r :: rs)
theorem ga_nil : GA X cl W [] aNil := ⟨fun σ B H ρ Z res ρ' E e Q k _ => by
  cases e
  refine ⟨_, pa_nil, ?_⟩
  exact k [] rfl [] B H Z (fun _ => False) (Nx.refl.sub fun x z => z.elim False.elim id) E ⟨rfl, fun _ z => z⟩ fun _ z => z.elim⟩
/-- two readings in a row, the second one from wherever the first one comes to -/
theorem ga_cons {e : Expr} {es : List Expr} {f : M R} {g : M (List R)} (h : GE X cl W e f) (hs : GA X cl W es g) (hst : starEach (e :: es) X.env = (false, eval e X.env) :: starEach es X.env := by rfl) :
    GA X cl W (e :: es) (aCons f g) := ⟨fun σ B H ρ Z res ρ' E e1 Q k ke => by
  refine ⟨_, pa_cons pe_U pa_U hst, ?_⟩
  rcases bind_ok e1 with ⟨r, ρ1, e2, e3⟩ | ⟨c, ns, xs, e2, e3⟩
  · refine h.run σ B H ρ Z _ _ E e2 _ (fun r' er v B1 H1 Z1 fp n1 E1 rv ap => ?_) (fun _ _ _ q => by cases q)
    cases er
    show tUA X es σ H1 _
    have o1 : ∀ a, fp a → ∃ o, H1 a = some o := fun a ha => (rv.own a ha).2
    rcases bind_ok e3 with ⟨rs, ρ2, e4, e5⟩ | ⟨c, ns, xs, e4, e5⟩
    · cases e5
      refine hs.run σ B1 H1 ρ1 Z1 _ _ E1 e4 _ (fun rs' er vs B2 H2 Z2 fq n2 E2 rvs ap2 => ?_) (fun _ _ _ q => by cases q)
      cases er
      obtain ⟨n, a12, a1z⟩ := n1.two n2 E.there ap o1
      refine k _ rfl (v :: vs) B2 H2 Z2 (Or' fp fq) n E2 ⟨v, vs, fp, fq, rfl, rv.pass n2 ap, rvs, a12, fun _ => Iff.rfl⟩ fun a ha z => ?_
      exact ha.elim (fun q => a1z a q z) fun q => ap2 a q z
    · subst e5
      refine hs.run σ B1 H1 ρ1 Z1 _ _ E1 e4 _ (fun _ q => by cases q) fun c' ns' xs' q B2 H2 Z2 n2 E2 d hd => ?_
      cases q
      exact ke _ _ _ rfl B2 H2 Z2 (n1.drop.then n2 E) E2 d hd
  · subst e3
    exact h.run σ B H ρ Z _ _ E e2 _ (fun _ q => by cases q) fun c' ns' xs' q B2 H2 Z2 n2 E2 d hd => by
      cases q
      exact ke _ _ _ rfl B2 H2 Z2 n2 E2 d hd⟩

/-- readings by values that may be joined -/
def Rel (rel : (List V → Hp → VK → Prop) → Prop) : Prop := rel fun vs H Q => ∃ r, rel r ∧ r vs H Q
/-- an operation of one, of two, of some operands -/
theorem ge_op1 {e e' : Expr} {f : M R} {g : List S → Option S} {rel : (List V → Hp → VK → Prop) → Prop} (h : GE X cl W e f) (o : OpN X cl rel g) (hu : Rel rel)
    (hr : ∀ r, rel r → PE X e' (fun σ H Q => tU X e σ H fun x H1 => r [x] H1 Q)) : GE X cl W e' (m1 g f) := ⟨fun σ B H ρ Z res ρ' E e1 Q k ke => by
  refine ⟨_, hr _ hu, ?_⟩
  rcases bind_ok e1 with ⟨r, ρ1, e2, e3⟩ | ⟨c, ns, xs, e2, e3⟩
  · cases e4 : rd ρ1 r with
    | none => rw [e4] at e3; cases e3
    | some s =>
      cases e5 : g [s] with
      | none => rw [e4] at e3; simp [e5] at e3
      | some z =>
        rw [e4] at e3
        simp [e5] at e3
        obtain ⟨rfl, rfl⟩ := e3
        refine h.run σ B H ρ Z _ _ E e2 _ (fun r' er v B1 H1 Z1 fp n1 E1 rv ap => ?_) (fun _ _ _ q => by cases q)
        cases er
        refine o B1 H1 [v] [s] z E1.sub rfl (fun i v' s' e1 e2 => ?_) e5 Q fun w B2 H2 f2 nw hw => ?_
        · cases i with
          | zero =>
            simp at e1 e2
            subst e1 e2
            exact rv.read E1 e4
          | succ i => simp at e1
        · have E2 := E1.new nw
          exact k _ rfl w B2 H2 Z1 f2 (n1.drop.then (nw.nx fun _ _ => trivial) E) E2 hw (nw.apart E1.there)
  · subst e3
    exact h.run σ B H ρ Z _ _ E e2 _ (fun _ q => by cases q) ke⟩
theorem ge_op2 {a b e' : Expr} {fa fb : M R} {g : List S → Option S} {rel : (List V → Hp → VK → Prop) → Prop} (ha : GE X cl W a fa) (hb : GE X cl W b fb) (o : OpN X cl rel g) (hu : Rel rel)
    (hr : ∀ r, rel r → PE X e' (fun σ H Q => tU X a σ H fun x H1 => tU X b σ H1 fun y H2 => r [x, y] H2 Q)) : GE X cl W e' (m2 g fa fb) := ⟨fun σ B H ρ Z res ρ' E e1 Q k ke => by
  refine ⟨_, hr _ hu, ?_⟩
  rcases bind_ok e1 with ⟨r, ρ1, e2, e3⟩ | ⟨c, ns, xs, e2, e3⟩
  · refine ha.run σ B H ρ Z _ _ E e2 _ (fun r' er v B1 H1 Z1 fp n1 E1 rv ap => ?_) (fun _ _ _ q => by cases q)
    cases er
    have o1 : ∀ a, fp a → ∃ o, H1 a = some o := fun a ha => (rv.own a ha).2
    rcases bind_ok e3 with ⟨r2, ρ2, e4, e5⟩ | ⟨c, ns, xs, e4, e5⟩
    · cases e6 : rds ρ2 [r, r2] with
      | none => rw [e6] at e5; cases e5
      | some ss =>
        cases e7 : g ss with
        | none => rw [e6] at e5; simp [e7] at e5
        | some z =>
          rw [e6] at e5
          simp [e7] at e5
          obtain ⟨rfl, rfl⟩ := e5
          refine hb.run σ B1 H1 ρ1 Z1 _ _ E1 e4 _ (fun r' er u B2 H2 Z2 fq n2 E2 ru ap2 => ?_) (fun _ _ _ q => by cases q)
          cases er
          obtain ⟨n, a12, a1z⟩ := n1.two n2 E.there ap o1
          have rvs : RVs (gx X cl) B2 H2 σ [v, u] [r, r2] (Or' fp fq) := ⟨v, [u], fp, fq, rfl, rv.pass n2 ap, ⟨u, [], fq, fun _ => False, rfl, ru, ⟨rfl, fun _ z => z⟩, fun _ _ z => z, fun _ => ⟨.inl, fun z => z.elim id False.elim⟩⟩, a12, fun _ => Iff.rfl⟩
          refine o B2 H2 [v, u] ss z E2.sub (rds_len e6) (RVs.read E2 rvs e6) e7 Q fun w B3 H3 f3 nw hw => ?_
          exact k _ rfl w B3 H3 Z2 f3 (n.drop.then (nw.nx fun _ _ => trivial) E) (E2.new nw) hw (nw.apart E2.there)
    · subst e5
      refine hb.run σ B1 H1 ρ1 Z1 _ _ E1 e4 _ (fun _ q => by cases q) fun c' ns' xs' q B2 H2 Z2 n2 E2 d hd => ?_
      cases q
      exact ke _ _ _ rfl B2 H2 Z2 (n1.drop.then n2 E) E2 d hd
  · subst e3
    exact ha.run σ B H ρ Z _ _ E e2 _ (fun _ q => by cases q) ke⟩
theorem ge_opN {es : List Expr} {e' : Expr} {f : M (List R)} {g : List S → Option S} {rel : (List V → Hp → VK → Prop) → Prop} (h : GA X cl W es f) (o : OpN X cl rel g) (hu : Rel rel)
    (hr : ∀ r, rel r → PE X e' (fun σ H Q => tUA X es σ H fun xs H1 => r xs H1 Q)) : GE X cl W e' (mN g f) := ⟨fun σ B H ρ Z res ρ' E e1 Q k ke => by
  refine ⟨_, hr _ hu, ?_⟩
  rcases bind_ok e1 with ⟨rs, ρ1, e2, e3⟩ | ⟨c, ns, xs, e2, e3⟩
  · cases e6 : rds ρ1 rs with
    | none => rw [e6] at e3; cases e3
    | some ss =>
      cases e7 : g ss with
      | none => rw [e6] at e3; simp [e7] at e3
      | some z =>
        rw [e6] at e3
        simp [e7] at e3
        obtain ⟨rfl, rfl⟩ := e3
        refine h.run σ B H ρ Z _ _ E e2 _ (fun rs' er vs B1 H1 Z1 fp n1 E1 rvs ap => ?_) (fun _ _ _ q => by cases q)
        cases er
        refine o B1 H1 vs ss z E1.sub (rvs.len.trans (rds_len e6)) (RVs.read E1 rvs e6) e7 Q fun w B2 H2 f2 nw hw => ?_
        exact k _ rfl w B2 H2 Z1 f2 (n1.drop.then (nw.nx fun _ _ => trivial) E) (E1.new nw) hw (nw.apart E1.there)
  · subst e3
    exact h.run σ B H ρ Z _ _ E e2 _ (fun _ q => by cases q) fun _ _ _ q => by cases q; exact ke _ _ _ rfl⟩
end
end Av
set_option Elab.async false
set_option linter.all false
set_option maxRecDepth 100000
set_option maxHeartbeats 2000000
/-! Rules: names, constants, displays, operators, comparisons, subscripts, slices. -/
namespace Av
open PySem L2

/-! ### reading trees -/
/-- the items of a list that stands as an object: frozen ones -/
def allIm : List S → Option (List D)
  | [] => some []
  | .im d :: ss => (allIm ss).map (d :: ·)
  | _ :: _ => none
theorem allIm_eq : ∀ {ss : List S} {ds : List D}, allIm ss = some ds → ss = ds.map .im
  | [], ds, h => by cases h; rfl
  | .im d :: ss, ds, h => by
    unfold allIm at h
    cases e : allIm ss with
    | none => rw [e] at h; cases h
    | some es =>
      rw [e] at h
      cases h
      rw [allIm_eq e]
      rfl
  | .lst _ :: _, _, h => by cases h
  | .dct _ _ :: _, _, h => by cases h
  | .obj _ _ _ :: _, _, h => by cases h
theorem allIm_map : ∀ ds : List D, allIm (ds.map .im) = some ds
  | [] => rfl
  | d :: ds => by
    show (allIm (ds.map .im)).map (d :: ·) = _
    rw [allIm_map ds]
    rfl
/-- a list's items -/
def elems : S → Option (List D)
  | .im (.lst ds) => some ds
  | .lst ss => allIm ss
  | _ => none
/-- a list's or tuple's items, to be read one by one -/
def items : S → Option (List D)
  | .im (.lst ds) => some ds
  | .im (.slst ds) => some ds
  | .im (.tup ds) => some ds
  | .lst ss => allIm ss
  | _ => none
section
variable {G : Gx} {B H : Hp}
theorem elems_ok {s : S} {v : V} {f : Set'} {ds : List D} (h : SV G B H v s f) (e : Ex B H) (h2 : elems s = some ds) : ∃ a vs, v = .ref a ∧ H a = some (.lst vs) ∧ DVs G B vs ds := by
  cases s with
  | im d =>
    cases d with
    | lst es =>
      cases h2
      obtain ⟨⟨a, vs, rfl, h3, h4⟩, _⟩ := h
      exact ⟨a, vs, rfl, e _ _ h3, h4⟩
    | _ => cases h2
  | lst ss =>
    obtain ⟨a, vs, fq, rfl, h3, _, h4, _, _⟩ := h
    have q := allIm_eq h2
    subst q
    exact ⟨a, vs, rfl, h3, (SVs.ofIm h4).1⟩
  | _ => cases h2
theorem items_ok {s : S} {v : V} {f : Set'} {ds : List D} (h : SV G B H v s f) (e : Ex B H) (h2 : items s = some ds) : ∃ a vs, v = .ref a ∧ (SqL G.K H a vs ∨ SqT G.K H a vs) ∧ DVs G B vs ds := by
  cases s with
  | im d =>
    cases d with
    | lst es =>
      cases h2
      obtain ⟨⟨a, vs, rfl, h3, h4⟩, _⟩ := h
      exact ⟨a, vs, rfl, .inl (sq_of (e _ _ h3)), h4⟩
    | slst es =>
      cases h2
      obtain ⟨⟨a, vs, rfl, h3, h4⟩, _⟩ := h
      exact ⟨a, vs, rfl, .inl (ex_l e h3), h4⟩
    | tup es =>
      cases h2
      obtain ⟨⟨a, vs, rfl, h3, h4⟩, _⟩ := h
      exact ⟨a, vs, rfl, .inr (ex_t e h3), h4⟩
    | _ => cases h2
  | lst ss =>
    obtain ⟨a, vs, fq, rfl, h3, _, h4, _, _⟩ := h
    have q := allIm_eq h2
    subst q
    exact ⟨a, vs, rfl, .inl (sq_of h3), (SVs.ofIm h4).1⟩
  | _ => cases h2

/-! ### data as the model's data -/
mutual
def py : D → PyData
  | .non => .none
  | .bl b => .bool b
  | .int i => .int i
  | .str x => .str x
  | .tup xs => .tuple (pys xs)
  | .lst xs => .list (pys xs)
  | .slst xs => .list (pys xs)
  | .dct _ _ => .dict []
  | .ins _ _ _ => .dict []
def pys : List D → List PyData
  | [] => []
  | d :: ds => py d :: pys ds
end
mutual
theorem DV.dp (e : Ex B H) : ∀ {d : D} {v : V}, DV G B v d → (py d).canLay0 = true → Dp G.K H v (py d)
  | .non, _, h, _ => by rw [show _ = V.non from h]; exact .non
  | .bl b, _, h, _ => by rw [show _ = V.bl b from h]; exact .bl b
  | .int i, _, h, _ => by rw [show _ = V.int i from h]; exact .int i
  | .str x, _, h, _ => by rw [show _ = V.str x from h]; exact .str x
  | .tup ds, _, h, l => by
    obtain ⟨a, vs, rfl, h1, h2⟩ := h
    have l' : PyData.canLayAll0 (pys ds) = true := by simpa [py, PyData.canLay0] using l
    exact .tup (ex_t e h1) (DVs.dp e h2 l')
  | .lst ds, _, h, l => by
    obtain ⟨a, vs, rfl, h1, h2⟩ := h
    have l' : PyData.canLayAll0 (pys ds) = true := by simpa [py, PyData.canLay0] using l
    exact .lst (sq_of (e _ _ h1)) (DVs.dp e h2 l')
  | .slst ds, _, h, l => by
    obtain ⟨a, vs, rfl, h1, h2⟩ := h
    have l' : PyData.canLayAll0 (pys ds) = true := by simpa [py, PyData.canLay0] using l
    exact .lst (ex_l e h1) (DVs.dp e h2 l')
  | .dct _ _, _, _, l => by simp [py, PyData.canLay0] at l
  | .ins _ _ _, _, _, l => by simp [py, PyData.canLay0] at l
theorem DVs.dp (e : Ex B H) : ∀ {ds : List D} {vs : List V}, DVs G B vs ds → PyData.canLayAll0 (pys ds) = true → DpAll G.K H vs (pys ds)
  | [], _, h, _ => by rw [show _ = [] from h]; exact .nil
  | d :: ds, _, h, l => by
    obtain ⟨v, r, rfl, h1, h2⟩ := h
    have l' : PyData.canLay0 (py d) = true ∧ PyData.canLayAll0 (pys ds) = true := by simpa [pys, PyData.canLayAll0] using l
    exact .cons (DV.dp e h1 l'.1) (DVs.dp e h2 l'.2)
end
theorem SV.dp {s : S} {v : V} {f : Set'} (h : SV G B H v s f) (e : Ex B H) (l : SeqAt.shaped (py (fz s)) = true) : Dp G.K H v (py (fz s)) := by
  have q : DV G H v (fz s) := h.fzd e fun _ _ => rfl
  exact DV.dp (Ex.refl H) q (SeqAt.canLay_of_shaped l)
end

/-! ### names, constants -/
section
variable {X : Cx} {cl : Str → Addr} {W : WX}
def xVar (i : Nat) : M R := fun ρ => match ρ[i]? with
  | some (some (.im d)) => some (.ok (.t (.im d)), ρ)
  | some (some _) => some (.ok (.pl i), ρ)
  | _ => none
theorem ge_of {e : Expr} {t : TE} (h : PE X e t) {f : M R} (k : ∀ (σ : L2.St) (B H : Hp) (ρ : Env) (Z : Set') (res : Res R) (ρ' : Env), EV (gx X cl) B H σ ρ Z → f ρ = some (res, ρ') → ∀ Q : VK,
    (∀ r, res = .ok r → ∀ v B' H' Z' fp, Nx B H Z B' H' (Or' fp Z') → EV (gx X cl) B' H' σ ρ' Z' → RV (gx X cl) B' H' σ v r fp → Apart fp Z' → Q v H') → t σ H Q) : GE X cl W e f :=
  ⟨fun σ B H ρ Z res ρ' E e1 Q k1 _ => ⟨t, h, k σ B H ρ Z res ρ' E e1 Q k1⟩⟩
theorem orF {Z : Set'} : ∀ x, Or' (fun _ => False) Z x → Z x := fun _ z => z.elim False.elim id
theorem ge_var (i : Nat) {x : Str} {pos : Pos} (hN : X.N[i]? = some x := by rfl) (hv : Vis X.env.scope x := by first | exact Or.inl rfl | exact Or.inr (Or.inl rfl) | exact Or.inr (Or.inr rfl)) (hd : (x == ("__debug__" : Str)) = false := by decide)
    (hcd : (x == ("__classdict__" : Str)) = false := by decide) : GE X cl W (.Name x pos) (xVar i) :=
  ge_of (pe_var hN hv hd hcd) fun σ B H ρ Z res ρ' E e Q k => by
    unfold xVar at e
    split at e
    · rename_i d hi
      cases e
      obtain ⟨v, f, e1, h1, h2⟩ := E.get hi
      exact ⟨v, e1, k _ rfl v B H Z (fun _ => False) (Nx.refl.sub orF) E ⟨h1.1, fun _ z => z⟩ fun _ z => z.elim⟩
    · rename_i s _ hi
      cases e
      obtain ⟨v, f, e1, h1, h2⟩ := E.get hi
      exact ⟨v, e1, k _ rfl v B H Z (fun _ => False) (Nx.refl.sub orF) E ⟨e1, fun _ z => z⟩ fun _ z => z.elim⟩
    · cases e
def xC (d : D) : M R := M.ret (.t (.im d))
theorem ge_c {e : Expr} {v : V} {d : D} (h : PE X e (tC v)) (hd : ∀ B, DV (gx X cl) B v d) : GE X cl W e (xC d) :=
  ge_of h fun σ B H ρ Z res ρ' E e Q k => by
    cases e
    exact k _ rfl v B H Z (fun _ => False) (Nx.refl.sub orF) E ⟨hd B, fun _ z => z⟩ fun _ z => z.elim
theorem ge_int {i j pos} : GE X cl W (.Constant (.int i) j pos) (xC (.int i)) := ge_c pe_int fun _ => rfl
theorem ge_bl {b j pos} : GE X cl W (.Constant (.bool b) j pos) (xC (.bl b)) := ge_c pe_bl fun _ => rfl
theorem ge_non {j pos} : GE X cl W (.Constant .none j pos) (xC .non) := ge_c pe_non fun _ => rfl
theorem ge_str {x j pos} : GE X cl W (.Constant (.str x) j pos) (xC (.str x)) := ge_c pe_str fun _ => rfl
/-- a slot's tree becomes frozen data, and is handed on -/
def xTake (i : Nat) : M R := fun ρ => match ρ[i]? with
  | some (some s) => some (.ok (.t (.im (fz s))), ρ.set i (some (.im (fz s))))
  | _ => none
theorem ge_take (i : Nat) {x : Str} {pos : Pos} (hN : X.N[i]? = some x := by rfl) (hv : Vis X.env.scope x := by first | exact Or.inl rfl | exact Or.inr (Or.inl rfl) | exact Or.inr (Or.inr rfl)) (hd : (x == ("__debug__" : Str)) = false := by decide)
    (hcd : (x == ("__classdict__" : Str)) = false := by decide) : GE X cl W (.Name x pos) (xTake i) :=
  ge_of (pe_var hN hv hd hcd) fun σ B H ρ Z res ρ' E e Q k => by
    unfold xTake at e
    split at e
    · rename_i s hi
      cases e
      obtain ⟨v, f, Zr, e1, h1, E1, ap, hz⟩ := E.out hi
      have hl : i < ρ.length := (List.getElem?_eq_some_iff.mp hi).1
      obtain ⟨B', x1, x2, x3, x4⟩ := grow f E.sub
      have hd : DV (gx X cl) B' v (fz s) := h1.fzd x1 x3
      have E2 : EV (gx X cl) B' H σ (ρ.set i none) Zr := E1.mono x1 x2 fun a ha => ⟨rfl, by
        rw [x4 a fun q => ap a q ha]
        exact (E1.own a ha).1⟩
      have hl2 : i < (ρ.set i none).length := by rw [List.length_set]; exact hl
      have E3 := E2.put (s := .im (fz s)) (v := v) (f := fun _ => False) hl2 (fun s q => by
        rw [List.getElem?_set_self hl] at q
        cases q) ⟨hd, fun _ z => z⟩ fun _ z => z.elim
      rw [List.set_set] at E3
      have es : σ.set i (some v) = σ := by
        refine List.ext_getElem? fun j => ?_
        by_cases n : j = i
        · subst n
          rw [List.getElem?_set_self (List.getElem?_eq_some_iff.mp e1).1, e1]
        · rw [List.getElem?_set_ne (Ne.symm n)]
      rw [es] at E3
      refine ⟨v, e1, k _ rfl v B' H _ (fun _ => False) ⟨x1, fun a o ha n => ⟨ha, x4 a fun q => n ((hz a).mpr (.inl q))⟩, fun a z => ?_⟩ E3 ⟨hd, fun _ z => z⟩ fun _ z => z.elim⟩
      rcases z with z | z | z
      · exact z.elim
      · exact z.elim
      · exact .inl ((hz a).mpr (.inr z))
    · cases e

/-! ### a module's constant -/
theorem ge_glob {x : Str} {v : V} {d : D} {u : Value} {pos : Pos} (hg : Gl X x) (hm : X.mg x = some u) (r : RelV v u) (hd : ∀ B, DV (gx X cl) B v d) (hdb : (x == ("__debug__" : Str)) = false := by decide) : GE X cl W (.Name x pos) (xC d) :=
  ge_c (pe_glob hg hm r hdb) hd
end
end Av
set_option Elab.async false
set_option linter.all false
set_option maxRecDepth 100000
set_option maxHeartbeats 2000000
/-! Operators by values: + - * % // **, comparisons, in, is, subscripts, slices, len, list, tuple .. -/
namespace Av
open PySem L2

section
variable {G : Gx} {B H : Hp}
theorem hs0 {vs : List V} {a : S} {ss : List S} (hl : vs.length = (a :: ss).length) (hs : ∀ (i : Nat) v s, vs[i]? = some v → (a :: ss)[i]? = some s → ∃ f, SV G B H v s f) :
    ∃ v r, vs = v :: r ∧ (∃ f, SV G B H v a f) ∧ r.length = ss.length ∧ ∀ (i : Nat) v s, r[i]? = some v → ss[i]? = some s → ∃ f, SV G B H v s f := by
  cases vs with
  | nil => simp at hl
  | cons v r =>
    refine ⟨v, r, rfl, hs 0 v a rfl rfl, by simpa using hl, fun i v' s e1 e2 => hs (i + 1) v' s (by simpa using e1) (by simpa using e2)⟩
theorem hs1 {vs : List V} {a : S} (hl : vs.length = [a].length) (hs : ∀ (i : Nat) v s, vs[i]? = some v → [a][i]? = some s → ∃ f, SV G B H v s f) : ∃ v, vs = [v] ∧ ∃ f, SV G B H v a f := by
  obtain ⟨v, r, rfl, h1, h2, _⟩ := hs0 hl hs
  cases r with
  | nil => exact ⟨v, rfl, h1⟩
  | cons _ _ => simp at h2
theorem hs2 {vs : List V} {a b : S} (hl : vs.length = [a, b].length) (hs : ∀ (i : Nat) v s, vs[i]? = some v → [a, b][i]? = some s → ∃ f, SV G B H v s f) : ∃ v u, vs = [v, u] ∧ (∃ f, SV G B H v a f) ∧ ∃ f, SV G B H u b f := by
  obtain ⟨v, r, rfl, h1, h2, h3⟩ := hs0 hl hs
  obtain ⟨u, rfl, h4⟩ := hs1 h2 h3
  exact ⟨v, u, rfl, h1, h4⟩
theorem new_tup {p : Addr} {vs : List V} {ds : List D} (e : Ex B H) (hp : H p = none) (h : DVs G B vs ds) :
    New B H (upd B p (.tup vs)) (upd H p (.tup vs)) (fun _ => False) ∧ SV G (upd B p (.tup vs)) (upd H p (.tup vs)) (.ref p) (.im (.tup ds)) (fun _ => False) := by
  have bp : B p = none := fresh_back e hp
  refine ⟨⟨Ex.new bp, fun a o h => ?_, Ex.new hp, fun a o h => upd_ne (ne_of_none h hp), fun _ z => z.elim⟩, ⟨p, vs, rfl, st_of upd_same, h.mono (Ex.new bp)⟩, fun _ z => z⟩
  by_cases q : a = p
  · subst q
    rw [upd_same] at h ⊢
    exact h
  · rw [upd_ne q] at h ⊢
    exact e a o h
theorem new_lst {p : Addr} {vs : List V} {ss : List S} (e : Ex B H) (hp : H p = none) (h : SVs G B H vs ss (fun _ => False)) :
    New B H B (upd H p (.lst vs)) (fun a => a = p) ∧ SV G B (upd H p (.lst vs)) (.ref p) (.lst ss) (fun a => a = p) := by
  refine ⟨⟨Ex.refl B, fun a o h => Ex.new hp a o (e a o h), Ex.new hp, fun _ _ _ => rfl, fun a z => z ▸ hp⟩, p, vs, fun _ => False, rfl, upd_same, fresh_back e hp, h.mono (Ex.refl B) fun _ z => z.elim, fun z => z, fun b => ⟨.inl, fun z => z.elim id False.elim⟩⟩
theorem len_of {s : S} {v : V} {f : Set'} {ds : List D} (h : SV G B H v s f) (h2 : items s = some ds) : True := trivial
end

section
variable {X : Cx} {cl : Str → Addr}
abbrev relOp (X : Cx) (op : Operator) (r : List V → Hp → VK → Prop) : Prop := OpR X (binaryOp op) (fun x y H Q => r [x, y] H Q)
abbrev relCmp (X : Cx) (op : CmpOp) (r : List V → Hp → VK → Prop) : Prop := OpR X (compareOp op) (fun x y H Q => r [x, y] H Q)
abbrev relIx (X : Cx) (r : List V → Hp → VK → Prop) : Prop := IxR X (fun x y H Q => r [x, y] H Q)
abbrev relCall (X : Cx) (f : Value) (r : List V → Hp → VK → Prop) : Prop := CallR X f r
theorem rel_op {op : Operator} : Rel (relOp X op) := fun pins s σ H x y v u Q I rx ry ⟨_, hr, q⟩ => hr pins s σ H x y v u Q I rx ry q
theorem rel_cmp {op : CmpOp} : Rel (relCmp X op) := fun pins s σ H x y v u Q I rx ry ⟨_, hr, q⟩ => hr pins s σ H x y v u Q I rx ry q
theorem rel_ix : Rel (relIx X) := fun value slice pins s σ H x y v u Q I rx ry ⟨_, hr, q⟩ hs => hr value slice pins s σ H x y v u Q I rx ry q hs
theorem rel_call {f : Value} : Rel (relCall X f) := fun pins s σ H xs us Q I r ⟨_, hr, q⟩ => hr pins s σ H xs us Q I r q
/-- a reading of two values as one of a list -/
def l2 (r : R2) : List V → Hp → VK → Prop := fun vs H Q => ∃ x y, vs = [x, y] ∧ r x y H Q
theorem l2_op {op : Operator} {r : R2} (h : OpR X (binaryOp op) r) : relOp X op (l2 r) := fun pins s σ H x y v u Q I rx ry ⟨x', y', e, q⟩ => by
  cases e
  exact h pins s σ H x y v u Q I rx ry q
theorem l2_cmp {op : CmpOp} {r : R2} (h : OpR X (compareOp op) r) : relCmp X op (l2 r) := fun pins s σ H x y v u Q I rx ry ⟨x', y', e, q⟩ => by
  cases e
  exact h pins s σ H x y v u Q I rx ry q
theorem l2_ix {r : R2} (h : IxR X r) : relIx X (l2 r) := fun value slice pins s σ H x y v u Q I rx ry ⟨x', y', e, q⟩ hs => by
  cases e
  exact h value slice pins s σ H x y v u Q I rx ry q hs

/-! ### arithmetic -/
def bAdd : List S → Option S
  | [.im (.int i), .im (.int j)] => some (.im (.int (i + j)))
  | [.im (.str x), .im (.str y)] => if x.length + y.length ≤ 100000 then some (.im (.str (x ++ y))) else none
  | [.im (.tup xs), .im (.tup ys)] => if xs.length + ys.length ≤ 100000 then some (.im (.tup (xs ++ ys))) else none
  | [a, b] => match elems a, elems b with
    | some xs, some ys => if xs.length + ys.length ≤ 100000 then some (.lst ((xs ++ ys).map .im)) else none
    | _, _ => none
  | _ => none
theorem opn_add : OpN X cl (relOp X .Add) bAdd := fun B H vs ss z e hl hs hg Q k => by
  unfold bAdd at hg
  split at hg
  · cases hg
    obtain ⟨v, u, rfl, ⟨_, h1, _⟩, ⟨_, h2, _⟩⟩ := hs2 hl hs
    cases h1; cases h2
    exact ⟨_, l2_op op_add, _, _, rfl, _, _, rfl, rfl, k _ B H _ (New.refl e) ⟨rfl, fun _ z => z⟩⟩
  · split at hg
    · rename_i c
      cases hg
      obtain ⟨v, u, rfl, ⟨_, h1, _⟩, ⟨_, h2, _⟩⟩ := hs2 hl hs
      cases h1; cases h2
      exact ⟨_, l2_op op_add_str, _, _, rfl, _, _, rfl, rfl, sz_of c, k _ B H _ (New.refl e) ⟨rfl, fun _ z => z⟩⟩
    · cases hg
  · split at hg
    · rename_i xs ys c
      cases hg
      obtain ⟨v, u, rfl, ⟨_, ⟨a, ws, rfl, t1, d1⟩, _⟩, ⟨_, ⟨b, us, rfl, t2, d2⟩, _⟩⟩ := hs2 hl hs
      have l1 := d1.length
      have l2' := d2.length
      have n1 : xs = [] → ws = [] := fun h => List.eq_nil_of_length_eq_zero (by rw [l1, h]; rfl)
      have n2 : ys = [] → us = [] := fun h => List.eq_nil_of_length_eq_zero (by rw [l2', h]; rfl)
      refine ⟨_, l2_op op_catA, _, _, rfl, a, b, ws, us, rfl, rfl, ex_t e t1, ex_t e t2, by rw [l1, l2']; exact sz_of c, fun h => ?_, fun h1 h2 => ?_, fun h1 h2 p hp => ?_⟩
      · have hx : xs = [] := List.eq_nil_of_length_eq_zero (by rw [← l1, h]; rfl)
        subst hx
        exact k _ B H _ (New.refl e) ⟨⟨b, us, rfl, t2, d2⟩, fun _ z => z⟩
      · have hy : ys = [] := List.eq_nil_of_length_eq_zero (by rw [← l2', h2]; rfl)
        subst hy
        rw [List.append_nil] at k
        exact k _ B H _ (New.refl e) ⟨⟨a, ws, rfl, t1, d1⟩, fun _ z => z⟩
      · obtain ⟨n, q⟩ := new_tup e hp (d1.append d2)
        exact k _ _ _ _ n q
    · cases hg
  · split at hg
    · rename_i a b _ _ _ xs ys e1 e2
      split at hg
      · rename_i c
        cases hg
        obtain ⟨v, u, rfl, ⟨_, h1⟩, ⟨_, h2⟩⟩ := hs2 hl hs
        obtain ⟨a, ws, rfl, t1, d1⟩ := elems_ok h1 e e1
        obtain ⟨b, us, rfl, t2, d2⟩ := elems_ok h2 e e2
        refine ⟨_, l2_op op_cat, _, _, rfl, a, b, ws, us, rfl, rfl, t1, t2, by rw [d1.length, d2.length]; exact sz_of c, fun p hp => ?_⟩
        obtain ⟨n, q⟩ := new_lst e hp (DVs.im (d1.append d2))
        exact k _ _ _ _ n q
      · cases hg
    · cases hg
  · cases hg
/-- two ints -/
def bInt (g : Int → Int → Option D) : List S → Option S
  | [.im (.int i), .im (.int j)] => (g i j).map .im
  | _ => none
theorem opn_int {rel : (List V → Hp → VK → Prop) → Prop} {g : Int → Int → Option D}
    (h : ∀ i j d, g i j = some d → ∃ v, (∀ B, DV (gx X cl) B v d) ∧ ∃ r, rel r ∧ ∀ H (Q : VK), Q v H → r [.int i, .int j] H Q) : OpN X cl rel (bInt g) := fun B H vs ss z e hl hs hg Q k => by
  unfold bInt at hg
  split at hg
  · rename_i i j
    obtain ⟨v, u, rfl, ⟨_, h1, _⟩, ⟨_, h2, _⟩⟩ := hs2 hl hs
    cases h1; cases h2
    cases q : g i j with
    | none => rw [q] at hg; cases hg
    | some d =>
      rw [q] at hg
      cases hg
      obtain ⟨w, hw, r, hr, hq⟩ := h i j d q
      exact ⟨r, hr, hq H Q (k _ B H _ (New.refl e) ⟨hw B, fun _ z => z⟩)⟩
  · cases hg
theorem opn_sub : OpN X cl (relOp X .Sub) (bInt fun i j => some (.int (i - j))) := opn_int fun i j d h => by
  cases h
  exact ⟨.int (i - j), fun _ => rfl, _, l2_op op_sub, fun H Q q => ⟨_, _, rfl, _, _, rfl, rfl, q⟩⟩
/-- the remainder by a positive number -/
def gMod (i j : Int) : Option D := if 0 < j then some (.int (i % j)) else none
theorem opn_mod : OpN X cl (relOp X .Mod) (bInt gMod) := opn_int fun i j d h => by
  unfold gMod at h
  split at h
  · rename_i c
    cases h
    exact ⟨.int (i % j), fun _ => rfl, _, l2_op op_mod, fun H Q q => ⟨_, _, rfl, _, _, rfl, rfl, c, q⟩⟩
  · cases h
def gDiv (i j : Int) : Option D := if 0 < j ∧ j < 2 ^ 100 then some (.int (i / j)) else none
theorem opn_div : OpN X cl (relOp X .FloorDiv) (bInt gDiv) := opn_int fun i j d h => by
  unfold gDiv at h
  split at h
  · rename_i c
    cases h
    exact ⟨.int (i / j), fun _ => rfl, _, l2_op op_fdivW, fun H Q q => ⟨_, _, rfl, _, _, rfl, rfl, wide_div c.1 (b := 100) (by omega) (by decide) (by decide), q⟩⟩
  · cases h
def gPow (i j : Int) : Option D := if 0 ≤ j ∧ j ≤ 1000 ∧ i.natAbs < 2 ^ 64 then some (.int (i ^ j.toNat)) else none
theorem opn_pow : OpN X cl (relOp X .Pow) (bInt gPow) := opn_int fun i j d h => by
  unfold gPow at h
  split at h
  · rename_i c
    cases h
    exact ⟨.int (i ^ j.toNat), fun _ => rfl, _, l2_op op_pow, fun H Q q => ⟨_, _, rfl, _, _, rfl, rfl, ⟨c.1, by omega, c.2.2⟩, q⟩⟩
  · cases h
/-- * of ints, of a text or a list and a number -/
def bMul : List S → Option S
  | [.im (.int i), .im (.int j)] => if i.natAbs < 2 ^ 400000 ∧ j.natAbs < 2 ^ 400000 then some (.im (.int (i * j))) else none
  | [a, .im (.int k)] => match elems a with
    | some xs => if 0 ≤ k ∧ k ≤ 1000 ∧ xs.length * k.toNat ≤ 100000 then some (.lst ((List.replicate k.toNat xs).flatten.map .im)) else none
    | _ => none
  | _ => none
theorem DVs.rep {G : Gx} {B : Hp} {vs : List V} {ds : List D} (h : DVs G B vs ds) : ∀ k : Nat, DVs G B (List.replicate k vs).flatten (List.replicate k ds).flatten
  | 0 => by
    show DVs G B [] []
    exact rfl
  | k + 1 => by
    rw [List.replicate_succ, List.replicate_succ, List.flatten_cons, List.flatten_cons]
    exact h.append (DVs.rep h k)
theorem log_lt {n k : Nat} (h : n < 2 ^ k) (hk : 0 < k) : n.log2 < k := PySem.Flt.log2_lt_of hk h
theorem opn_mul : OpN X cl (relOp X .Mult) bMul := fun B H vs ss z e hl hs hg Q k => by
  unfold bMul at hg
  split at hg
  · split at hg
    · rename_i c
      cases hg
      obtain ⟨v, u, rfl, ⟨_, h1, _⟩, ⟨_, h2, _⟩⟩ := hs2 hl hs
      cases h1; cases h2
      exact ⟨_, l2_op op_mulW, _, _, rfl, _, _, rfl, rfl, wide_mul (a := 400000) (b := 400000) c.1 c.2 (by decide) (by decide) (by decide), k _ B H _ (New.refl e) ⟨rfl, fun _ z => z⟩⟩
    · cases hg
  · split at hg
    · rename_i xs e1
      split at hg
      · rename_i c
        cases hg
        obtain ⟨v, u, rfl, ⟨_, h1⟩, ⟨_, h2, _⟩⟩ := hs2 hl hs
        cases h2
        obtain ⟨a, ws, rfl, t1, d1⟩ := elems_ok h1 e e1
        refine ⟨_, l2_op op_rep, _, _, rfl, a, _, ws, rfl, rfl, t1, by omega, by omega, by rw [d1.length]; exact sz_of c.2.2, fun p hp => ?_⟩
        obtain ⟨n, q⟩ := new_lst e hp (DVs.im (d1.rep _))
        exact k _ _ _ _ n q
      · cases hg
    · cases hg
  · cases hg

/-! ### comparisons -/
def bLt : List S → Option S
  | [.im (.int i), .im (.int j)] => some (.im (.bl (decide (i < j))))
  | _ => none
def gLt (i j : Int) : Option D := some (.bl (decide (i < j)))
def gLe (i j : Int) : Option D := some (.bl (decide (i ≤ j)))
def gGt (i j : Int) : Option D := some (.bl (decide (j < i)))
def gGe (i j : Int) : Option D := some (.bl (decide (j ≤ i)))
theorem opn_lt : OpN X cl (relCmp X .Lt) (bInt gLt) := opn_int fun i j d h => by
  cases h
  exact ⟨_, fun _ => rfl, _, l2_cmp op_lt, fun H Q q => ⟨_, _, rfl, _, _, rfl, rfl, q⟩⟩
theorem opn_le : OpN X cl (relCmp X .LtE) (bInt gLe) := opn_int fun i j d h => by
  cases h
  exact ⟨_, fun _ => rfl, _, l2_cmp op_le, fun H Q q => ⟨_, _, rfl, _, _, rfl, rfl, q⟩⟩
theorem opn_gt : OpN X cl (relCmp X .Gt) (bInt gGt) := opn_int fun i j d h => by
  cases h
  exact ⟨_, fun _ => rfl, _, l2_cmp op_gt, fun H Q q => ⟨_, _, rfl, _, _, rfl, rfl, q⟩⟩
theorem opn_ge : OpN X cl (relCmp X .GtE) (bInt gGe) := opn_int fun i j d h => by
  cases h
  exact ⟨_, fun _ => rfl, _, l2_cmp op_ge, fun H Q q => ⟨_, _, rfl, _, _, rfl, rfl, q⟩⟩
/-- == of data of any depth -/
def bEq : List S → Option S
  | [a, b] => if SeqAt.shaped (py (fz a)) = true ∧ SeqAt.shaped (py (fz b)) = true then some (.im (.bl (PyData.eqv (py (fz a)) (py (fz b))))) else none
  | _ => none
def bNe : List S → Option S
  | [a, b] => if SeqAt.shaped (py (fz a)) = true ∧ SeqAt.shaped (py (fz b)) = true then some (.im (.bl (!PyData.eqv (py (fz a)) (py (fz b))))) else none
  | _ => none
theorem opn_eq (hu : X.A.units + 64 < cLine) : OpN X cl (relCmp X .Eq) bEq := fun B H vs ss z e hl hs hg Q k => by
  unfold bEq at hg
  split at hg
  · split at hg
    · rename_i c
      cases hg
      obtain ⟨v, u, rfl, ⟨_, h1⟩, ⟨_, h2⟩⟩ := hs2 hl hs
      exact ⟨_, l2_cmp (op_eqD hu), _, _, rfl, _, _, h1.dp e c.1, h2.dp e c.2, c.1, c.2, k _ B H _ (New.refl e) ⟨rfl, fun _ z => z⟩⟩
    · cases hg
  · cases hg
theorem opn_ne (hu : X.A.units + 64 < cLine) : OpN X cl (relCmp X .NotEq) bNe := fun B H vs ss z e hl hs hg Q k => by
  unfold bNe at hg
  split at hg
  · split at hg
    · rename_i c
      cases hg
      obtain ⟨v, u, rfl, ⟨_, h1⟩, ⟨_, h2⟩⟩ := hs2 hl hs
      exact ⟨_, l2_cmp (op_neD hu), _, _, rfl, _, _, h1.dp e c.1, h2.dp e c.2, c.1, c.2, k _ B H _ (New.refl e) ⟨rfl, fun _ z => z⟩⟩
    · cases hg
  · cases hg
/-- is, is not None -/
def isNon : S → Bool
  | .im .non => true
  | _ => false
theorem isNon_ok {G : Gx} {B H : Hp} {v : V} {s : S} {f : Set'} (h : SV G B H v s f) : decide (v = .non) = isNon s := by
  cases s with
  | im d =>
    cases d with
    | non => rw [show v = .non from h.1]; rfl
    | bl b => rw [show v = .bl b from h.1]; rfl
    | int b => rw [show v = .int b from h.1]; rfl
    | str b => rw [show v = .str b from h.1]; rfl
    | tup ds => obtain ⟨⟨a, vs, rfl, _⟩, _⟩ := h; rfl
    | lst ds => obtain ⟨⟨a, vs, rfl, _⟩, _⟩ := h; rfl
    | slst ds => obtain ⟨⟨a, vs, rfl, _⟩, _⟩ := h; rfl
    | dct ks ds => obtain ⟨⟨a, vs, rfl, _⟩, _⟩ := h; rfl
    | ins c ns ds => obtain ⟨⟨a, dx, vs, rfl, _⟩, _⟩ := h; rfl
  | lst ss => obtain ⟨a, vs, fq, rfl, _⟩ := h; rfl
  | dct ks ss => obtain ⟨a, vs, fq, rfl, _⟩ := h; rfl
  | obj c ns ss => obtain ⟨a, dx, vs, fq, rfl, _⟩ := h; rfl
def bIs : List S → Option S
  | [a, .im .non] => some (.im (.bl (isNon a)))
  | [.im (.bl a), .im (.bl b)] => some (.im (.bl (decide (a = b))))
  | _ => none
def bIsNot : List S → Option S
  | [a, .im .non] => some (.im (.bl (!isNon a)))
  | [.im (.bl a), .im (.bl b)] => some (.im (.bl (!decide (a = b))))
  | _ => none
theorem opn_is : OpN X cl (relCmp X .Is) bIs := fun B H vs ss z e hl hs hg Q k => by
  unfold bIs at hg
  split at hg
  · cases hg
    obtain ⟨v, u, rfl, ⟨_, h1⟩, ⟨_, h2, _⟩⟩ := hs2 hl hs
    cases h2
    refine ⟨_, l2_cmp op_isN, _, _, rfl, rfl, ?_⟩
    rw [isNon_ok h1]
    exact k _ B H _ (New.refl e) ⟨rfl, fun _ z => z⟩
  · cases hg
    obtain ⟨v, u, rfl, ⟨_, h1, _⟩, ⟨_, h2, _⟩⟩ := hs2 hl hs
    cases h1; cases h2
    exact ⟨_, l2_cmp op_is_bl, _, _, rfl, _, _, rfl, rfl, k _ B H _ (New.refl e) ⟨rfl, fun _ z => z⟩⟩
  · cases hg
theorem opn_isnot : OpN X cl (relCmp X .IsNot) bIsNot := fun B H vs ss z e hl hs hg Q k => by
  unfold bIsNot at hg
  split at hg
  · cases hg
    obtain ⟨v, u, rfl, ⟨_, h1⟩, ⟨_, h2, _⟩⟩ := hs2 hl hs
    cases h2
    refine ⟨_, l2_cmp op_notN, _, _, rfl, rfl, ?_⟩
    rw [isNon_ok h1]
    exact k _ B H _ (New.refl e) ⟨rfl, fun _ z => z⟩
  · cases hg
    obtain ⟨v, u, rfl, ⟨_, h1, _⟩, ⟨_, h2, _⟩⟩ := hs2 hl hs
    cases h1; cases h2
    exact ⟨_, l2_cmp op_isnot_bl, _, _, rfl, _, _, rfl, rfl, k _ B H _ (New.refl e) ⟨rfl, fun _ z => z⟩⟩
  · cases hg
end
end Av
set_option Elab.async false
set_option linter.all false
set_option maxRecDepth 100000
set_option maxHeartbeats 2000000
/-! in, not in; subscripts, slices; len, list, tuple, dict, int, str .. -/
namespace Av
open PySem L2 PyProof.Rows

/-! ### keys -/
def keyOf : D → Option Key
  | .int i => some (.inl i)
  | .str x => some (.inr x)
  | _ => none
theorem keyOf_ok {G : Gx} {B : Hp} {v : V} {d : D} {k : Key} (h : DV G B v d) (e : keyOf d = some k) : v = kV k := by
  cases d with
  | int i => cases e; exact h
  | str x => cases e; exact h
  | _ => cases e
def look {α : Type} : List Key → List α → Key → Option α
  | k :: ks, x :: xs, j => if k = j then some x else look ks xs j
  | _, _, _ => none
theorem look_v {G : Gx} {B : Hp} {j : Key} : ∀ {ks : List Key} {vs : List V} {ds : List D}, ks.length = vs.length → DVs G B vs ds →
    (match look ks ds j with
      | some d => ∃ v, valV (ks.zip vs) j = some v ∧ DV G B v d
      | none => valV (ks.zip vs) j = none)
  | [], [], ds, _, h => by
    have e : ds = [] := List.eq_nil_of_length_eq_zero (by rw [← h.length]; rfl)
    subst e
    exact rfl
  | k :: ks, v :: vs, [], _, h => by
    have := h.length
    simp at this
  | k :: ks, v :: vs, d :: ds, hl, h => by
    obtain ⟨v', r, e, h1, h2⟩ := h
    cases e
    unfold look
    by_cases q : k = j
    · rw [if_pos q]
      exact ⟨v, valV_pos (p := (k, v)) q, h1⟩
    · rw [if_neg q]
      have ih := look_v (j := j) (ks := ks) (vs := vs) (ds := ds) (by simpa using hl) h2
      rw [List.zip_cons_cons, valV_neg (p := (k, v)) q]
      exact ih
  | [], v :: vs, _, hl, _ => by simp at hl
  | k :: ks, [], _, hl, _ => by simp at hl
theorem look_s {G : Gx} {B H : Hp} {j : Key} : ∀ {ks : List Key} {vs : List V} {ss : List S} {f : Set'}, ks.length = vs.length → SVs G B H vs ss f →
    (match look ks ss j with
      | some s => ∃ v g, valV (ks.zip vs) j = some v ∧ SV G B H v s g
      | none => valV (ks.zip vs) j = none)
  | [], [], ss, f, _, h => by
    have e : ss = [] := List.eq_nil_of_length_eq_zero (by rw [← h.length]; rfl)
    subst e
    exact rfl
  | k :: ks, v :: vs, [], f, _, h => by
    have := h.length
    simp at this
  | k :: ks, v :: vs, s :: ss, f, hl, h => by
    obtain ⟨v', r, f1, f2, e, h1, h2, _, _⟩ := h
    cases e
    unfold look
    by_cases q : k = j
    · rw [if_pos q]
      exact ⟨v, f1, valV_pos (p := (k, v)) q, h1⟩
    · rw [if_neg q]
      have ih := look_s (j := j) (ks := ks) (vs := vs) (ss := ss) (by simpa using hl) h2
      rw [List.zip_cons_cons, valV_neg (p := (k, v)) q]
      exact ih
  | [], v :: vs, _, _, hl, _ => by simp at hl
  | k :: ks, [], _, _, hl, _ => by simp at hl
/-- what a dict holds at a key, as a tree that may be read -/
def dget (s : S) (k : Key) : Option (Option S) := match s with
  | .im (.dct ks ds) => some ((look ks ds k).map .im)
  | .dct ks ss => some (look ks ss k)
  | _ => none
theorem dget_ok {G : Gx} {B H : Hp} {v : V} {s : S} {f : Set'} {k : Key} {o : Option S} (h : SV G B H v s f) (e : Ex B H) (h2 : dget s k = some o) :
    ∃ a kvs, v = .ref a ∧ H a = some (.dK kvs) ∧ (match o with
      | some t => ∃ u g, valV kvs k = some u ∧ SV G B H u t g
      | none => valV kvs k = none) := by
  cases s with
  | im d =>
    cases d with
    | dct ks ds =>
      obtain ⟨⟨a, vs, rfl, h3, hl, h4⟩, _⟩ := h
      have q := look_v (j := k) hl h4
      have e2 : (look ks ds k).map S.im = o := by simpa [dget] using h2
      refine ⟨a, _, rfl, e _ _ h3, ?_⟩
      cases e3 : look ks ds k with
      | none =>
        rw [e3] at e2 q
        cases e2
        exact q
      | some d =>
        rw [e3] at e2 q
        cases e2
        obtain ⟨u, q1, q2⟩ := q
        exact ⟨u, fun _ => False, q1, q2, fun _ z => z⟩
    | _ => cases h2
  | dct ks ss =>
    obtain ⟨a, vs, fq, rfl, h3, hl, _, h4, _, _⟩ := h
    have q := look_s (j := k) hl h4
    have e2 : look ks ss k = o := by simpa [dget] using h2
    refine ⟨a, _, rfl, h3, ?_⟩
    cases e3 : look ks ss k with
    | none =>
      rw [e3] at e2 q
      cases e2
      exact q
    | some t =>
      rw [e3] at e2 q
      cases e2
      exact q
  | _ => cases h2

section
variable {X : Cx} {cl : Str → Addr}
theorem op_in_dict (hu : X.A.units + 1 < cLine) : OpR X (compareOp .In) (fun y x H Q => ∃ a o, x = .ref a ∧ DGet H a y o ∧ Q (.bl o.isSome) H) := fun pins s σ H x y v u Q I rx ry ⟨a, o, e, g, q⟩ => by
  subst e
  obtain rfl : u = Value.ref a := ry
  exact d_in hu I g rx fun s3 I3 => ⟨.bl o.isSome, H, I3, rfl, q⟩
theorem op_notin_dict (hu : X.A.units + 1 < cLine) : OpR X (compareOp .NotIn) (fun y x H Q => ∃ a o, x = .ref a ∧ DGet H a y o ∧ Q (.bl (!o.isSome)) H) := fun pins s σ H x y v u Q I rx ry ⟨a, o, e, g, q⟩ => by
  subst e
  obtain rfl : u = Value.ref a := ry
  exact d_notIn hu I g rx fun s3 I3 => ⟨.bl (!o.isSome), H, I3, rfl, q⟩
def rIxD : R2 := fun x y H Q => ∃ a v, x = .ref a ∧ DGet H a y (some v) ∧ Q v H
theorem ix_dict (hu : X.A.units + 1 < cLine) : IxR X rIxD := by
  intro value slice pins s σ H x y v u Q I rx ry h hs
  obtain ⟨a, z, rfl, g, q⟩ := h
  cases rx
  have hT := dict_typeIs I g
  unfold subscriptTail
  refine wpAny_bind ?_
  rw [getitemInPython_of_ne hT.not_modules]
  refine wpAny_bind (wpAny_specialOf hT PySem.F.slot_dict_getitem.lookup ?_)
  have fin : wpAny (model X.prog X.w) X.A (subscripted slice false (.ref a) u) (fun r s₃ => wpAny (model X.prog X.w) X.A (letTemporaryGo value (.ref a) r >>= fun _ => pure r) (EP X pins σ Q) X.xe s₃) X.xe s := by
    rw [hs]
    exact wpAny_operating (d_getItem hu I g ry fun w' s3 I3 rw' => wpAny_bind (wpAny_letTemporaryGo (wpAny_pure ⟨z, H, I3, rw', q⟩)))
  first
    | exact wpAny_pure (wpAny_bind fin)
    | exact wpAny_bind (wpAny_pure (wpAny_bind fin))
    | exact wpAny_bind fin

/-! ### in -/
def flatD : D → Bool
  | .non => true
  | .bl _ => true
  | .int _ => true
  | .str _ => true
  | _ => false
theorem flat_ok {G : Gx} {B : Hp} {v : V} {d : D} (h : DV G B v d) (f : flatD d = true) : flatV v = true ∧ ∀ {u : V} {c : D}, DV G B u c → flatD c = true → eqV v u = PyData.eqv (py d) (py c) := by
  cases d with
  | non =>
    cases h
    refine ⟨rfl, fun {u c} hc fc => ?_⟩
    cases c <;> first | (cases fc; done) | (cases hc; simp [eqV, py, PyData.eqv])
  | bl b =>
    cases h
    refine ⟨rfl, fun {u c} hc fc => ?_⟩
    cases c <;> first | (cases fc; done) | (cases hc; simp [eqV, py, PyData.eqv])
  | int b =>
    cases h
    refine ⟨rfl, fun {u c} hc fc => ?_⟩
    cases c <;> first | (cases fc; done) | (cases hc; simp [eqV, py, PyData.eqv])
  | str b =>
    cases h
    refine ⟨rfl, fun {u c} hc fc => ?_⟩
    cases c <;> first | (cases fc; done) | (cases hc; simp [eqV, py, PyData.eqv])
  | _ => cases f
theorem flats_ok {G : Gx} {B : Hp} {u : V} {c : D} (hc : DV G B u c) (fc : flatD c = true) : ∀ {ds : List D} {vs : List V}, DVs G B vs ds → ds.all flatD = true →
    vs.all flatV = true ∧ inV u vs = ds.any fun d => PyData.eqv (py d) (py c)
  | [], _, h, _ => by
    rw [show _ = [] from h]
    exact ⟨rfl, rfl⟩
  | d :: ds, _, h, f => by
    obtain ⟨v, r, rfl, h1, h2⟩ := h
    simp only [List.all_cons, Bool.and_eq_true] at f
    obtain ⟨g1, g2⟩ := flats_ok hc fc h2 f.2
    obtain ⟨g3, g4⟩ := flat_ok h1 f.1
    refine ⟨by simp [g1, g3], ?_⟩
    have g2' : (r.any fun y => eqV y u) = ds.any fun d => PyData.eqv (py d) (py c) := g2
    show (eqV v u || r.any fun y => eqV y u) = _
    rw [g2', g4 hc fc, List.any_cons]
def isIn : S → S → Option Bool
  | .im (.str x), .im (.str y) => if x.length = 1 then some (decide (x.cps.getD 0 0 ∈ y.cps.toList)) else none
  | a, b => match items b with
    | some ds => if flatD (fz a) = true ∧ ds.all flatD = true then some (ds.any fun d => PyData.eqv (py d) (py (fz a)))
      else if (elems b).isSome = true ∧ SeqAt.shaped (py (fz a)) = true ∧ SeqAt.shaped (.list (pys ds)) = true then some ((pys ds).any fun z => PyData.eqv z (py (fz a)))
      else none
    | none => match keyOf (fz a) with
      | some k => (dget b k).map Option.isSome
      | none => none
def bIn : List S → Option S
  | [a, b] => (isIn a b).map fun c => .im (.bl c)
  | _ => none
def bNotIn : List S → Option S
  | [a, b] => (isIn a b).map fun c => .im (.bl (!c))
  | _ => none
theorem sign_of {x : Str} (h : x.length = 1) : x = ⟨#[x.cps.getD 0 0]⟩ := by
  obtain ⟨⟨l⟩⟩ := x
  have h' : l.length = 1 := h
  match l, h' with
  | [c], _ => rfl
theorem isIn_ok (hu : X.A.units + 65 < cLine) {B H : Hp} {v u : V} {a b : S} {c : Bool} (e : Ex B H) (h1 : ∃ f, SV (gx X cl) B H v a f) (h2 : ∃ f, SV (gx X cl) B H u b f) (h : isIn a b = some c) (Q : VK) :
    (Q (.bl c) H → ∃ r, relCmp X .In r ∧ r [v, u] H Q) ∧ (Q (.bl (!c)) H → ∃ r, relCmp X .NotIn r ∧ r [v, u] H Q) := by
  obtain ⟨f, h1⟩ := h1
  obtain ⟨g, h2⟩ := h2
  have hu1 : X.A.units + 1 < cLine := by omega
  unfold isIn at h
  split at h
  · rename_i x y
    split at h
    · rename_i hl
      cases h
      cases h1.1; cases h2.1
      have ex := sign_of hl
      refine ⟨fun q => ⟨_, l2_cmp op_in_sign, _, _, rfl, x.cps.getD 0 0, y, congrArg V.str ex, rfl, q⟩, fun q => ⟨_, l2_cmp op_notIn_sign, _, _, rfl, x.cps.getD 0 0, y, congrArg V.str ex, rfl, q⟩⟩
    · cases h
  · have d1 : DV (gx X cl) H v (fz a) := h1.fzd e fun _ _ => rfl
    split at h
    · rename_i ds hi
      obtain ⟨p, ws, rfl, hq, hd⟩ := items_ok h2 e hi
      split at h
      · rename_i hf
        cases h
        obtain ⟨g1, g2⟩ := flats_ok d1 hf.1 (hd.mono e) hf.2
        rw [← g2]
        exact ⟨fun q => ⟨_, l2_cmp op_in_seq, _, _, rfl, p, ws, rfl, hq, (flat_ok d1 hf.1).1, g1, q⟩, fun q => ⟨_, l2_cmp op_notIn_seq, _, _, rfl, p, ws, rfl, hq, (flat_ok d1 hf.1).1, g1, q⟩⟩
      · split at h
        · rename_i hf
          cases h
          obtain ⟨es, he⟩ := Option.isSome_iff_exists.mp hf.1
          obtain ⟨p', ws', ep, hq', hd'⟩ := elems_ok h2 e he
          cases ep
          have he2 : es = ds := by
            cases b with
            | im d => cases d <;> first | (cases he; done) | (cases he; cases hi; rfl)
            | lst ss =>
              have q1 : allIm ss = some es := he
              rw [show items (S.lst ss) = allIm ss from rfl, q1] at hi
              exact (Option.some.inj hi)
            | _ => cases he
          subst he2
          have dl : Dp X.K H (.ref p) (.list (pys es)) := .lst (sq_of hq') ((hd'.mono e).dp (Ex.refl H) (by have := SeqAt.canLay_of_shaped hf.2.2; simpa [PyData.canLay0] using this))
          have dx : Dp X.K H v (py (fz a)) := d1.dp (Ex.refl H) (SeqAt.canLay_of_shaped hf.2.1)
          exact ⟨fun q => ⟨_, l2_cmp (op_inD hu), _, _, rfl, _, _, dx, dl, hf.2.1, hf.2.2, q⟩, fun q => ⟨_, l2_cmp (op_notInD hu), _, _, rfl, _, _, dx, dl, hf.2.1, hf.2.2, q⟩⟩
        · cases h
    · split at h
      · rename_i k hk
        cases hg : dget b k with
        | none => rw [hg] at h; cases h
        | some o =>
          rw [hg] at h
          cases h
          obtain ⟨p, kvs, rfl, hp, hv⟩ := dget_ok h2 e hg
          have ev := keyOf_ok d1 hk
          subst ev
          have es : o.isSome = (valV kvs k).isSome := by
            cases o with
            | none =>
              have hv : valV kvs k = none := hv
              rw [hv]; rfl
            | some t =>
              obtain ⟨u, g, q1, _⟩ := hv
              rw [q1]; rfl
          rw [es]
          exact ⟨fun q => ⟨_, l2_cmp (op_in_dict hu1), _, _, rfl, p, _, rfl, DGet.k hp, q⟩, fun q => ⟨_, l2_cmp (op_notin_dict hu1), _, _, rfl, p, _, rfl, DGet.k hp, q⟩⟩
      · cases h
theorem opn_in (hu : X.A.units + 65 < cLine) : OpN X cl (relCmp X .In) bIn := fun B H vs ss z e hl hs hg Q k => by
  unfold bIn at hg
  split at hg
  · rename_i a b
    cases h : isIn a b with
    | none => rw [h] at hg; cases hg
    | some c =>
      rw [h] at hg
      cases hg
      obtain ⟨v, u, rfl, h1, h2⟩ := hs2 hl hs
      exact (isIn_ok hu e h1 h2 h Q).1 (k _ B H _ (New.refl e) ⟨rfl, fun _ z => z⟩)
  · cases hg
theorem opn_notin (hu : X.A.units + 65 < cLine) : OpN X cl (relCmp X .NotIn) bNotIn := fun B H vs ss z e hl hs hg Q k => by
  unfold bNotIn at hg
  split at hg
  · rename_i a b
    cases h : isIn a b with
    | none => rw [h] at hg; cases hg
    | some c =>
      rw [h] at hg
      cases hg
      obtain ⟨v, u, rfl, h1, h2⟩ := hs2 hl hs
      exact (isIn_ok hu e h1 h2 h Q).2 (k _ B H _ (New.refl e) ⟨rfl, fun _ z => z⟩)
  · cases hg

/-! ### subscripts -/
/-- x[i]: an item of a tuple, a list, a text; what a dict holds: frozen data -/
def bIx : List S → Option S
  | [.im (.str x), .im (.int i)] => if x.length ≤ 100000 then (atI x.cps.toList i).map fun c => .im (.str ⟨#[c]⟩) else none
  | [a, .im (.int i)] => match items a with
    | some ds => (atI ds i).map .im
    | none => match dget a (.inl i) with
      | some (some (.im d)) => some (.im d)
      | _ => none
  | [a, .im (.str x)] => match dget a (.inr x) with
      | some (some (.im d)) => some (.im d)
      | _ => none
  | _ => none
theorem atI_dv {G : Gx} {B : Hp} {vs : List V} {ds : List D} {i : Int} {d : D} (h : DVs G B vs ds) (e : atI ds i = some d) : ∃ v, atI vs i = some v ∧ DV G B v d := by
  unfold atI at e ⊢
  rw [h.length]
  cases q : ixN ds.length i with
  | none => rw [q] at e; cases e
  | some j =>
    rw [q] at e
    exact h.get e
theorem opn_ix (hu : X.A.units + 1 < cLine) : OpN X cl (relIx X) bIx := fun B H vs ss z e hl hs hg Q k => by
  unfold bIx at hg
  split at hg
  · split at hg
    · rename_i c
      cases q : atI _ _ with
      | none => rw [q] at hg; cases hg
      | some d =>
        rw [q] at hg
        cases hg
        obtain ⟨v, u, rfl, ⟨_, h1, _⟩, ⟨_, h2, _⟩⟩ := hs2 hl hs
        cases h1; cases h2
        exact ⟨_, l2_ix ix_str, _, _, rfl, _, _, d, rfl, rfl, sz_of c, q, k _ B H _ (New.refl e) ⟨rfl, fun _ z => z⟩⟩
    · cases hg
  · rename_i a i _
    obtain ⟨v, u, rfl, ⟨f, h1⟩, ⟨_, h2, _⟩⟩ := hs2 hl hs
    cases h2
    split at hg
    · rename_i ds hi
      cases q : atI ds i with
      | none => rw [q] at hg; cases hg
      | some d =>
        rw [q] at hg
        cases hg
        obtain ⟨p, ws, rfl, hq, hd⟩ := items_ok h1 e hi
        obtain ⟨w, q2, hw⟩ := atI_dv hd q
        have fin := k w B H _ (New.refl e) ⟨hw, fun _ z => z⟩
        rcases hq with hq | hq
        · exact ⟨_, l2_ix ix_list, _, _, rfl, p, ws, i, w, rfl, rfl, hq, q2, fin⟩
        · exact ⟨_, l2_ix ix_tup, _, _, rfl, p, ws, i, w, rfl, rfl, hq, q2, fin⟩
    · split at hg
      · rename_i d hd
        cases hg
        obtain ⟨p, kvs, rfl, hp, w, g, q1, q2⟩ := dget_ok h1 e hd
        exact ⟨_, l2_ix (ix_dict hu), _, _, rfl, p, w, rfl, q1 ▸ DGet.k (k := Sum.inl i) hp, k w B H _ (New.refl e) ⟨q2.1, fun _ z => z⟩⟩
      · cases hg
  · rename_i a x
    obtain ⟨v, u, rfl, ⟨f, h1⟩, ⟨_, h2, _⟩⟩ := hs2 hl hs
    cases h2
    split at hg
    · rename_i d hd
      cases hg
      obtain ⟨p, kvs, rfl, hp, w, g, q1, q2⟩ := dget_ok h1 e hd
      exact ⟨_, l2_ix (ix_dict hu), _, _, rfl, p, w, rfl, q1 ▸ DGet.k (k := Sum.inr x) hp, k w B H _ (New.refl e) ⟨q2.1, fun _ z => z⟩⟩
    · cases hg
  · cases hg

/-! ### len, list, tuple, int, str -/
def lenS : S → Option Nat
  | .im (.str x) => if x.length ≤ 100000 then some x.length else none
  | .im (.tup ds) => some ds.length
  | .im (.lst ds) => some ds.length
  | .im (.slst ds) => some ds.length
  | .lst ss => some ss.length
  | _ => none
def bLen : List S → Option S
  | [a] => (lenS a).map fun n => .im (.int n)
  | _ => none
theorem opn_len : OpN X cl (relCall X (.builtin "len")) bLen := fun B H vs ss z e hl hs hg Q k => by
  unfold bLen at hg
  split at hg
  · rename_i a
    cases q : lenS a with
    | none => rw [q] at hg; cases hg
    | some n =>
      rw [q] at hg
      cases hg
      obtain ⟨v, rfl, f, h1⟩ := hs1 hl hs
      have fin := k (.int n) B H _ (New.refl e) ⟨rfl, fun _ z => z⟩
      refine ⟨_, call_len, v, n, rfl, ?_, fin⟩
      unfold lenS at q
      split at q
      · split at q
        · rename_i c
          cases q
          cases h1.1
          exact ⟨sz_of c, rfl⟩
        · cases q
      · cases q
        obtain ⟨⟨p, ws, rfl, h3, h4⟩, _⟩ := h1
        exact .inr ⟨ws, ex_t e h3, h4.length.symm⟩
      · cases q
        obtain ⟨⟨p, ws, rfl, h3, h4⟩, _⟩ := h1
        exact .inl ⟨ws, sq_of (e _ _ h3), h4.length.symm⟩
      · cases q
        obtain ⟨⟨p, ws, rfl, h3, h4⟩, _⟩ := h1
        exact .inl ⟨ws, ex_l e h3, h4.length.symm⟩
      · cases q
        obtain ⟨p, ws, fq, rfl, h3, _, h4, _⟩ := h1
        exact .inl ⟨ws, sq_of h3, h4.length.symm⟩
      · cases q
  · cases hg
/-- list(x), x a list or a tuple of frozen items -/
def bList : List S → Option S
  | [a] => (items a).map fun ds => .lst (ds.map .im)
  | _ => none
theorem opn_list : OpN X cl (relCall X (.type "list")) bList := fun B H vs ss z e hl hs hg Q k => by
  unfold bList at hg
  split at hg
  · rename_i a
    cases q : items a with
    | none => rw [q] at hg; cases hg
    | some ds =>
      rw [q] at hg
      cases hg
      obtain ⟨v, rfl, f, h1⟩ := hs1 hl hs
      obtain ⟨p, ws, rfl, hq, hd⟩ := items_ok h1 e q
      refine ⟨_, call_list_of, p, ws, rfl, hq, fun l hl' => ?_⟩
      obtain ⟨n, q⟩ := new_lst e hl' (DVs.im hd)
      exact k _ _ _ _ n q
  · cases hg
def bTuple : List S → Option S
  | [a] => (items a).map fun ds => .im (.tup ds)
  | _ => none
theorem opn_tuple : OpN X cl (relCall X (.type "tuple")) bTuple := fun B H vs ss z e hl hs hg Q k => by
  unfold bTuple at hg
  split at hg
  · rename_i a
    cases q : items a with
    | none => rw [q] at hg; cases hg
    | some ds =>
      rw [q] at hg
      cases hg
      obtain ⟨v, rfl, f, h1⟩ := hs1 hl hs
      cases a with
      | im d =>
        cases d with
        | tup es =>
          cases q
          obtain ⟨⟨p, ws, rfl, h3, h4⟩, _⟩ := h1
          exact ⟨_, call_tuple_of, p, ws, rfl, .inr ⟨ex_t e h3, k _ B H _ (New.refl e) ⟨⟨p, ws, rfl, h3, h4⟩, fun _ z => z⟩⟩⟩
        | lst es =>
          cases q
          obtain ⟨⟨p, ws, rfl, h3, h4⟩, _⟩ := h1
          refine ⟨_, call_tuple_of, p, ws, rfl, .inl ⟨sq_of (e _ _ h3), fun l hl' => ?_⟩⟩
          obtain ⟨n, q⟩ := new_tup e hl' h4
          exact k _ _ _ _ n q
        | slst es =>
          cases q
          obtain ⟨⟨p, ws, rfl, h3, h4⟩, _⟩ := h1
          refine ⟨_, call_tuple_of, p, ws, rfl, .inl ⟨ex_l e h3, fun l hl' => ?_⟩⟩
          obtain ⟨n, q⟩ := new_tup e hl' h4
          exact k _ _ _ _ n q
        | _ => cases q
      | lst ts =>
        obtain ⟨p, ws, fq, rfl, h3, _, h4, _⟩ := h1
        have q' := allIm_eq q
        subst q'
        refine ⟨_, call_tuple_of, p, ws, rfl, .inl ⟨sq_of h3, fun l hl' => ?_⟩⟩
        obtain ⟨n, q⟩ := new_tup e hl' (SVs.ofIm h4).1
        exact k _ _ _ _ n q
      | _ => cases q
  · cases hg
def bIntOf : List S → Option S
  | [.im (.int i)] => some (.im (.int i))
  | [.im (.bl b)] => some (.im (.int (if b then 1 else 0)))
  | _ => none
theorem opn_intOf : OpN X cl (relCall X (.type "int")) bIntOf := fun B H vs ss z e hl hs hg Q k => by
  unfold bIntOf at hg
  split at hg
  · cases hg
    obtain ⟨v, rfl, f, h1, _⟩ := hs1 hl hs
    cases h1
    exact ⟨_, call_int1, .inl ⟨_, rfl, k _ B H _ (New.refl e) ⟨rfl, fun _ z => z⟩⟩⟩
  · cases hg
    obtain ⟨v, rfl, f, h1, _⟩ := hs1 hl hs
    cases h1
    exact ⟨_, call_int1, .inr ⟨_, rfl, k _ B H _ (New.refl e) ⟨rfl, fun _ z => z⟩⟩⟩
  · cases hg
end
end Av
set_option Elab.async false
set_option linter.all false
set_option maxRecDepth 100000
set_option maxHeartbeats 2000000
/-! The forms of expressions. -/
namespace Av
open PySem L2

section
variable {X : Cx} {cl : Str → Addr} {W : WX} {a b c e : Expr} {fa fb fc f : M R} {pos : Pos}

/-! ### operators -/
theorem ge_bin {op : Operator} {g : List S → Option S} (o : OpN X cl (relOp X op) g) (ha : GE X cl W a fa) (hb : GE X cl W b fb) : GE X cl W (.BinOp a op b pos) (m2 g fa fb) :=
  ge_op2 ha hb o rel_op fun r hr => pe_op hr pe_U pe_U
theorem ge_cmp {op : CmpOp} {g : List S → Option S} (o : OpN X cl (relCmp X op) g) (ha : GE X cl W a fa) (hb : GE X cl W b fb) (hm : behindInMarks op b = false := by first | exact nomark _ (by decide) (by decide) | rfl) : GE X cl W (.Compare a [op] [b] pos) (m2 g fa fb) :=
  ge_op2 ha hb o rel_cmp fun r hr => pe_cmpR hr pe_U pe_U hm
theorem ge_ix (hu : X.A.units + 1 < cLine) (ha : GE X cl W a fa) (hb : GE X cl W b fb) (hs : PlainIx b := by exact fun _ _ => rfl) : GE X cl W (.Subscript a b pos) (m2 bIx fa fb) :=
  ge_op2 ha hb (opn_ix hu) rel_ix fun r hr => pe_ix hr pe_U pe_U hs
/-- -n -/
def bNeg : List S → Option S
  | [.im (.int i)] => some (.im (.int (-i)))
  | _ => none
abbrev relUn (X : Cx) (op : UnaryOp) (r : List V → Hp → VK → Prop) : Prop := UnR X (unaryOp op) (fun x H Q => r [x] H Q)
theorem rel_un {op : UnaryOp} : Rel (relUn X op) := fun pins s σ H x v Q I rx ⟨_, hr, q⟩ => hr pins s σ H x v Q I rx q
theorem opn_neg : OpN X cl (relUn X .USub) bNeg := fun B H vs ss z e hl hs hg Q k => by
  unfold bNeg at hg
  split at hg
  · rename_i i
    cases hg
    obtain ⟨v, rfl, f, h1, _⟩ := hs1 hl hs
    cases h1
    refine ⟨fun vs H Q => ∃ i, vs = [.int i] ∧ Q (.int (-i)) H, fun pins s σ H x v Q I rx ⟨j, ej, q⟩ => ?_, i, rfl, k _ B H _ (New.refl e) ⟨rfl, fun _ z => z⟩⟩
    cases ej
    exact un_neg pins s σ H _ v Q I rx ⟨j, rfl, q⟩
  · cases hg
theorem ge_neg (ha : GE X cl W a fa) : GE X cl W (.UnaryOp .USub a pos) (m1 bNeg fa) :=
  ge_op1 ha opn_neg rel_un fun r hr => pe_un hr pe_U

/-! ### tests -/
def bl? (ρ : Env) (r : R) : Option Bool := match rd ρ r with
  | some (.im (.bl b)) => some b
  | _ => none
/-- a value that is True or False, as a test -/
def xTest (f : M R) : M Bool := f.bind fun r ρ => match bl? ρ r with
  | some b => some (.ok b, ρ)
  | none => none
theorem bl_ok {G : Gx} {B H : Hp} {σ : L2.St} {ρ : Env} {Z fp : Set'} {v : V} {r : R} {b : Bool} (h : RV G B H σ v r fp) (E : EV G B H σ ρ Z) (e : bl? ρ r = some b) : v = .bl b := by
  unfold bl? at e
  split at e
  · rename_i q
    cases e
    obtain ⟨f, h2, _⟩ := h.read E q
    exact h2
  · cases e
theorem gt_val (h : GE X cl W e f) (he : ∀ whole, isTrue e X.env whole = (do let v ← whole; standAt e.pos; holding [v] (truthy v)) := by intro _; rfl) : GT X cl W e (xTest f) := ⟨fun σ B H ρ Z res ρ' E e1 Q k ke => by
  refine ⟨_, pt_val pe_U he, ?_⟩
  rcases bind_ok e1 with ⟨r, ρ1, e2, e3⟩ | ⟨c, ns, xs, e2, e3⟩
  · refine h.run σ B H ρ Z _ _ E e2 _ (fun r' er v B1 H1 Z1 fp n1 E1 rv ap => ?_) (fun _ _ _ q => by cases q)
    cases er
    cases q : bl? ρ1 r with
    | none => rw [q] at e3; cases e3
    | some b =>
      rw [q] at e3
      cases e3
      exact ⟨b, bl_ok rv E1 q, k b rfl B1 H1 Z1 n1.drop E1⟩
  · subst e3
    exact h.run σ B H ρ Z _ _ E e2 _ (fun _ q => by cases q) fun _ _ _ q => by cases q; exact ke _ _ _ rfl⟩
/-- the test of a comparison, where its value's reading is known -/
structure TOk (X : Cx) (cl : Str → Addr) (W : WX) (t : TE) (f : M R) : Prop where
  run : ∀ (σ : L2.St) (B H : Hp) (ρ : Env) (Z : Set') (res : Res R) (ρ' : Env), EV (gx X cl) B H σ ρ Z → f ρ = some (res, ρ') → ∀ Q : VK,
    (∀ r, res = .ok r → ∀ v B' H' Z' fp, Nx B H Z B' H' (Or' fp Z') → EV (gx X cl) B' H' σ ρ' Z' → RV (gx X cl) B' H' σ v r fp → Apart fp Z' → Q v H') →
    (∀ c ns xs, res = .er c ns xs → ∀ B' H' Z', Nx B H Z B' H' Z' → EV (gx X cl) B' H' σ ρ' Z' → ∀ d, ErV (gx X cl) B' ns xs d → W (.ref (cl c)) d σ H') → t σ H Q
theorem ge_t {t : TE} (h : PE X e t) (k : TOk X cl W t f) : GE X cl W e f := ⟨fun σ B H ρ Z res ρ' E e1 Q k1 k2 => ⟨t, h, k.run σ B H ρ Z res ρ' E e1 Q k1 k2⟩⟩
theorem gt_t {t : TE} (h : PT X e (tTest t)) (k : TOk X cl W t f) : GT X cl W e (xTest f) := ⟨fun σ B H ρ Z res ρ' E e1 Q k1 ke => by
  refine ⟨_, h, ?_⟩
  show t σ H fun x H' => ∃ k, x = .bl k ∧ Q k H'
  rcases bind_ok e1 with ⟨r, ρ1, e2, e3⟩ | ⟨c, ns, xs, e2, e3⟩
  · refine k.run σ B H ρ Z _ _ E e2 _ (fun r' er v B1 H1 Z1 fp n1 E1 rv ap => ?_) (fun _ _ _ q => by cases q)
    cases er
    cases q : bl? ρ1 r with
    | none => rw [q] at e3; cases e3
    | some b =>
      rw [q] at e3
      cases e3
      exact ⟨b, bl_ok rv E1 q, k1 b rfl B1 H1 Z1 n1.drop E1⟩
  · subst e3
    exact k.run σ B H ρ Z _ _ E e2 _ (fun _ q => by cases q) fun _ _ _ q => by cases q; exact ke _ _ _ rfl⟩
theorem TOk.of {g : List S → Option S} {rel : (List V → Hp → VK → Prop) → Prop} {e' : Expr} (ha : GE X cl W a fa) (hb : GE X cl W b fb) (o : OpN X cl rel g) :
    TOk X cl W (fun σ H Q => tU X a σ H fun x H1 => tU X b σ H1 fun y H2 => ∃ r, rel r ∧ r [x, y] H2 Q) (m2 g fa fb) := ⟨fun σ B H ρ Z res ρ' E e1 Q k ke => by
  rcases bind_ok e1 with ⟨r, ρ1, e2, e3⟩ | ⟨c, ns, xs, e2, e3⟩
  · refine ha.run σ B H ρ Z _ _ E e2 _ (fun r' er v B1 H1 Z1 fp n1 E1 rv ap => ?_) (fun _ _ _ q => by cases q)
    cases er
    have o1 : ∀ a, fp a → ∃ o, H1 a = some o := fun a ha => (rv.own a ha).2
    rcases bind_ok e3 with ⟨r2, ρ2, e4, e5⟩ | ⟨c, ns, xs, e4, e5⟩
    · cases e6 : rds ρ2 [r, r2] with
      | none => rw [e6] at e5; cases e5
      | some ss =>
        cases e7 : g ss with
        | none => rw [e6] at e5; simp [e7] at e5
        | some z =>
          rw [e6] at e5
          simp [e7] at e5
          obtain ⟨rfl, rfl⟩ := e5
          refine hb.run σ B1 H1 ρ1 Z1 _ _ E1 e4 _ (fun r' er u B2 H2 Z2 fq n2 E2 ru ap2 => ?_) (fun _ _ _ q => by cases q)
          cases er
          obtain ⟨n, a12, a1z⟩ := n1.two n2 E.there ap o1
          have rvs : RVs (gx X cl) B2 H2 σ [v, u] [r, r2] (Or' fp fq) := ⟨v, [u], fp, fq, rfl, rv.pass n2 ap, ⟨u, [], fq, fun _ => False, rfl, ru, ⟨rfl, fun _ z => z⟩, fun _ _ z => z, fun _ => ⟨.inl, fun z => z.elim id False.elim⟩⟩, a12, fun _ => Iff.rfl⟩
          refine o B2 H2 [v, u] ss z E2.sub (rds_len e6) (RVs.read E2 rvs e6) e7 Q fun w B3 H3 f3 nw hw => ?_
          exact k _ rfl w B3 H3 Z2 f3 (n.drop.then (nw.nx fun _ _ => trivial) E) (E2.new nw) hw (nw.apart E2.there)
    · subst e5
      refine hb.run σ B1 H1 ρ1 Z1 _ _ E1 e4 _ (fun _ q => by cases q) fun c' ns' xs' q B2 H2 Z2 n2 E2 d hd => ?_
      cases q
      exact ke _ _ _ rfl B2 H2 Z2 (n1.drop.then n2 E) E2 d hd
  · subst e3
    exact ha.run σ B H ρ Z _ _ E e2 _ (fun _ q => by cases q) ke⟩
theorem gt_cmp {op : CmpOp} {g : List S → Option S} (o : OpN X cl (relCmp X op) g) (ha : GE X cl W a fa) (hb : GE X cl W b fb) (hm : behindInMarks op b = false := by first | exact nomark _ (by decide) (by decide) | rfl) : GT X cl W (.Compare a [op] [b] pos) (xTest (m2 g fa fb)) :=
  gt_t (pt_cmpR (rel_cmp (X := X) (op := op)) pe_U pe_U hm) (TOk.of (e' := a) ha hb o)
def xNotT (f : M Bool) : M Bool := f.bind fun b => M.ret (!b)
theorem gt_not {f : M Bool} (h : GT X cl W a f) : GT X cl W (.UnaryOp .Not a pos) (xNotT f) := ⟨fun σ B H ρ Z res ρ' E e1 Q k ke => by
  refine ⟨_, pt_not pt_U, ?_⟩
  rcases bind_ok e1 with ⟨r, ρ1, e2, e3⟩ | ⟨c, ns, xs, e2, e3⟩
  · cases e3
    refine h.run σ B H ρ Z _ _ E e2 _ (fun r' er B1 H1 Z1 n1 E1 => ?_) (fun _ _ _ q => by cases q)
    cases er
    exact k _ rfl B1 H1 Z1 n1 E1
  · subst e3
    exact h.run σ B H ρ Z _ _ E e2 _ (fun _ q => by cases q) ke⟩
/-- a chain of tests: and, or -/
structure GW (X : Cx) (cl : Str → Addr) (W : WX) (e : Expr) (f : M Bool) : Prop where
  run : ∀ (σ : L2.St) (B H : Hp) (ρ : Env) (Z : Set') (res : Res Bool) (ρ' : Env), EV (gx X cl) B H σ ρ Z → f ρ = some (res, ρ') → ∀ Q : Bool → Hp → Prop,
    (∀ b, res = .ok b → ∀ B' H' Z', Nx B H Z B' H' Z' → EV (gx X cl) B' H' σ ρ' Z' → Q b H') →
    (∀ c ns xs, res = .er c ns xs → ∀ B' H' Z', Nx B H Z B' H' Z' → EV (gx X cl) B' H' σ ρ' Z' → ∀ d, ErV (gx X cl) B' ns xs d → W (.ref (cl c)) d σ H') →
    ∃ t, PW X e t ∧ t σ H Q
def xAnd (f g : M Bool) : M Bool := f.bind fun b => if b then g else M.ret false
def xOr (f g : M Bool) : M Bool := f.bind fun b => if b then M.ret true else g
theorem gw_and1 {f : M Bool} (h : GT X cl W a f) : GW X cl W (.BoolOp .And [a] pos) f := ⟨fun σ B H ρ Z res ρ' E e1 Q k ke =>
  ⟨_, pw_and1 pt_U, h.run σ B H ρ Z res ρ' E e1 Q k ke⟩⟩
theorem gw_or1 {f : M Bool} (h : GT X cl W a f) : GW X cl W (.BoolOp .Or [a] pos) f := ⟨fun σ B H ρ Z res ρ' E e1 Q k ke =>
  ⟨_, pw_or1 pt_U, h.run σ B H ρ Z res ρ' E e1 Q k ke⟩⟩
def tUW (X : Cx) (e : Expr) : TT := fun σ H Q => ∃ t, PW X e t ∧ t σ H Q
theorem pw_U : PW X e (tUW X e) := ⟨fun wh pins s σ H Q I ⟨_, ht, h⟩ => ht.run wh pins s σ H Q I h⟩
variable {rest : List Expr}
theorem gw_and {f g : M Bool} (h : GT X cl W a f) (hr : GW X cl W (.BoolOp .And (b :: rest) pos) g) : GW X cl W (.BoolOp .And (a :: b :: rest) pos) (xAnd f g) := ⟨fun σ B H ρ Z res ρ' E e1 Q k ke => by
  refine ⟨_, pw_and pt_U pw_U, ?_⟩
  rcases bind_ok e1 with ⟨r, ρ1, e2, e3⟩ | ⟨c, ns, xs, e2, e3⟩
  · refine h.run σ B H ρ Z _ _ E e2 _ (fun r' er B1 H1 Z1 n1 E1 => ?_) (fun _ _ _ q => by cases q)
    cases er
    cases r with
    | true =>
      rw [if_pos rfl] at e3 ⊢
      exact hr.run σ B1 H1 ρ1 Z1 _ _ E1 e3 Q (fun b eb B2 H2 Z2 n2 E2 => k b eb B2 H2 Z2 (n1.then n2 E) E2) fun c ns xs eb B2 H2 Z2 n2 E2 => ke c ns xs eb B2 H2 Z2 (n1.then n2 E) E2
    | false =>
      rw [if_neg Bool.false_ne_true] at e3 ⊢
      cases e3
      exact k _ rfl B1 H1 Z1 n1 E1
  · subst e3
    exact h.run σ B H ρ Z _ _ E e2 _ (fun _ q => by cases q) ke⟩
theorem gw_or {f g : M Bool} (h : GT X cl W a f) (hr : GW X cl W (.BoolOp .Or (b :: rest) pos) g) : GW X cl W (.BoolOp .Or (a :: b :: rest) pos) (xOr f g) := ⟨fun σ B H ρ Z res ρ' E e1 Q k ke => by
  refine ⟨_, pw_or pt_U pw_U, ?_⟩
  rcases bind_ok e1 with ⟨r, ρ1, e2, e3⟩ | ⟨c, ns, xs, e2, e3⟩
  · refine h.run σ B H ρ Z _ _ E e2 _ (fun r' er B1 H1 Z1 n1 E1 => ?_) (fun _ _ _ q => by cases q)
    cases er
    cases r with
    | false =>
      rw [if_neg Bool.false_ne_true] at e3 ⊢
      exact hr.run σ B1 H1 ρ1 Z1 _ _ E1 e3 Q (fun b eb B2 H2 Z2 n2 E2 => k b eb B2 H2 Z2 (n1.then n2 E) E2) fun c ns xs eb B2 H2 Z2 n2 E2 => ke c ns xs eb B2 H2 Z2 (n1.then n2 E) E2
    | true =>
      rw [if_pos rfl] at e3 ⊢
      cases e3
      exact k _ rfl B1 H1 Z1 n1 E1
  · subst e3
    exact h.run σ B H ρ Z _ _ E e2 _ (fun _ q => by cases q) ke⟩
theorem gt_w {f : M Bool} (h : GW X cl W e f) : GT X cl W e f := ⟨fun σ B H ρ Z res ρ' E e1 Q k ke => by
  obtain ⟨t, ht, q⟩ := h.run σ B H ρ Z res ρ' E e1 Q k ke
  exact ⟨t, ht.pt, q⟩⟩

/-! ### and, or, not as values -/
def xAndV (f g : M R) : M R := f.bind fun r ρ => match bl? ρ r with
  | some true => g ρ
  | some false => some (.ok (.t (.im (.bl false))), ρ)
  | none => none
def xOrV (f g : M R) : M R := f.bind fun r ρ => match bl? ρ r with
  | some false => g ρ
  | some true => some (.ok (.t (.im (.bl true))), ρ)
  | none => none
theorem ge_one {op} (h : GE X cl W a f) : GE X cl W (.BoolOp op [a] pos) f := ⟨fun σ B H ρ Z res ρ' E e1 Q k ke =>
  ⟨_, pe_one pe_U, h.run σ B H ρ Z res ρ' E e1 Q k ke⟩⟩
theorem ge_and (ha : GE X cl W a fa) (hb : GE X cl W (.BoolOp .And (b :: rest) pos) fb) : GE X cl W (.BoolOp .And (a :: b :: rest) pos) (xAndV fa fb) := ⟨fun σ B H ρ Z res ρ' E e1 Q k ke => by
  refine ⟨_, pe_and pe_U pe_U, ?_⟩
  rcases bind_ok e1 with ⟨r, ρ1, e2, e3⟩ | ⟨c, ns, xs, e2, e3⟩
  · refine ha.run σ B H ρ Z _ _ E e2 _ (fun r' er v B1 H1 Z1 fp n1 E1 rv ap => ?_) (fun _ _ _ q => by cases q)
    cases er
    cases q : bl? ρ1 r with
    | none => rw [q] at e3; cases e3
    | some c =>
      refine ⟨c, bl_ok rv E1 q, ?_⟩
      rw [q] at e3
      cases c with
      | true =>
        rw [if_pos rfl]
        exact hb.run σ B1 H1 ρ1 Z1 _ _ E1 e3 Q (fun b eb v B2 H2 Z2 fq n2 E2 => k b eb v B2 H2 Z2 fq (n1.drop.then n2 E) E2) fun c ns xs eb B2 H2 Z2 n2 E2 => ke c ns xs eb B2 H2 Z2 (n1.drop.then n2 E) E2
      | false =>
        rw [if_neg Bool.false_ne_true]
        cases e3
        exact k _ rfl _ B1 H1 Z1 (fun _ => False) (n1.drop.sub orF) E1 ⟨rfl, fun _ z => z⟩ fun _ z => z.elim
  · subst e3
    exact ha.run σ B H ρ Z _ _ E e2 _ (fun _ q => by cases q) ke⟩
theorem ge_or (ha : GE X cl W a fa) (hb : GE X cl W (.BoolOp .Or (b :: rest) pos) fb) : GE X cl W (.BoolOp .Or (a :: b :: rest) pos) (xOrV fa fb) := ⟨fun σ B H ρ Z res ρ' E e1 Q k ke => by
  refine ⟨_, pe_or pe_U pe_U, ?_⟩
  rcases bind_ok e1 with ⟨r, ρ1, e2, e3⟩ | ⟨c, ns, xs, e2, e3⟩
  · refine ha.run σ B H ρ Z _ _ E e2 _ (fun r' er v B1 H1 Z1 fp n1 E1 rv ap => ?_) (fun _ _ _ q => by cases q)
    cases er
    cases q : bl? ρ1 r with
    | none => rw [q] at e3; cases e3
    | some c =>
      refine ⟨c, bl_ok rv E1 q, ?_⟩
      rw [q] at e3
      cases c with
      | false =>
        rw [if_neg Bool.false_ne_true]
        exact hb.run σ B1 H1 ρ1 Z1 _ _ E1 e3 Q (fun b eb v B2 H2 Z2 fq n2 E2 => k b eb v B2 H2 Z2 fq (n1.drop.then n2 E) E2) fun c ns xs eb B2 H2 Z2 n2 E2 => ke c ns xs eb B2 H2 Z2 (n1.drop.then n2 E) E2
      | true =>
        rw [if_pos rfl]
        cases e3
        exact k _ rfl _ B1 H1 Z1 (fun _ => False) (n1.drop.sub orF) E1 ⟨rfl, fun _ z => z⟩ fun _ z => z.elim
  · subst e3
    exact ha.run σ B H ρ Z _ _ E e2 _ (fun _ q => by cases q) ke⟩
def xNotV (f : M R) : M R := f.bind fun r ρ => match bl? ρ r with
  | some c => some (.ok (.t (.im (.bl (!c)))), ρ)
  | none => none
theorem ge_not (ha : GE X cl W a fa) : GE X cl W (.UnaryOp .Not a pos) (xNotV fa) := ⟨fun σ B H ρ Z res ρ' E e1 Q k ke => by
  refine ⟨_, pe_not pe_U, ?_⟩
  rcases bind_ok e1 with ⟨r, ρ1, e2, e3⟩ | ⟨c, ns, xs, e2, e3⟩
  · refine ha.run σ B H ρ Z _ _ E e2 _ (fun r' er v B1 H1 Z1 fp n1 E1 rv ap => ?_) (fun _ _ _ q => by cases q)
    cases er
    cases q : bl? ρ1 r with
    | none => rw [q] at e3; cases e3
    | some c =>
      refine ⟨c, bl_ok rv E1 q, ?_⟩
      rw [q] at e3
      cases e3
      exact k _ rfl _ B1 H1 Z1 (fun _ => False) (n1.drop.sub orF) E1 ⟨rfl, fun _ z => z⟩ fun _ z => z.elim
  · subst e3
    exact ha.run σ B H ρ Z _ _ E e2 _ (fun _ q => by cases q) ke⟩
def xIf (t : M Bool) (f g : M R) : M R := t.bind fun b => if b then f else g
theorem ge_if {t : M Bool} (hc : GT X cl W c t) (ha : GE X cl W a fa) (hb : GE X cl W b fb) : GE X cl W (.IfExp c a b pos) (xIf t fa fb) := ⟨fun σ B H ρ Z res ρ' E e1 Q k ke => by
  refine ⟨_, pe_ifExp pt_U pe_U pe_U, ?_⟩
  rcases bind_ok e1 with ⟨r, ρ1, e2, e3⟩ | ⟨c, ns, xs, e2, e3⟩
  · refine hc.run σ B H ρ Z _ _ E e2 _ (fun r' er B1 H1 Z1 n1 E1 => ?_) (fun _ _ _ q => by cases q)
    cases er
    cases r with
    | true =>
      rw [if_pos rfl] at e3 ⊢
      exact ha.run σ B1 H1 ρ1 Z1 _ _ E1 e3 Q (fun b eb v B2 H2 Z2 fq n2 E2 => k b eb v B2 H2 Z2 fq (n1.then n2 E) E2) fun c ns xs eb B2 H2 Z2 n2 E2 => ke c ns xs eb B2 H2 Z2 (n1.then n2 E) E2
    | false =>
      rw [if_neg Bool.false_ne_true] at e3 ⊢
      exact hb.run σ B1 H1 ρ1 Z1 _ _ E1 e3 Q (fun b eb v B2 H2 Z2 fq n2 E2 => k b eb v B2 H2 Z2 fq (n1.then n2 E) E2) fun c ns xs eb B2 H2 Z2 n2 E2 => ke c ns xs eb B2 H2 Z2 (n1.then n2 E) E2
  · subst e3
    exact hc.run σ B H ρ Z _ _ E e2 _ (fun _ q => by cases q) fun _ _ _ q => by cases q; exact ke _ _ _ rfl⟩

/-! ### a < b < c -/
def xChain (g g' : List S → Option S) (fa fb fc : M R) : M R := fa.bind fun r1 => fb.bind fun r2 ρ => match (rds ρ [r1, r2]).bind g with
  | some (.im (.bl true)) => (fc.bind fun r3 ρ3 => match (rds ρ3 [r2, r3]).bind g' with
    | some z => some (.ok (.t z), ρ3)
    | none => none) ρ
  | some (.im (.bl false)) => some (.ok (.t (.im (.bl false))), ρ)
  | _ => none
theorem TOk.chain {op op' : CmpOp} {g g' : List S → Option S} (o : OpN X cl (relCmp X op) g) (o' : OpN X cl (relCmp X op') g') (ha : GE X cl W a fa) (hb : GE X cl W b fb) (hc : GE X cl W c fc) :
    TOk X cl W (tChain (fun x y H Q => ∃ r, relCmp X op r ∧ r [x, y] H Q) (fun x y H Q => ∃ r, relCmp X op' r ∧ r [x, y] H Q) (tU X a) (tU X b) (tU X c)) (xChain g g' fa fb fc) := ⟨fun σ B H ρ Z res ρ' E e1 Q k ke => by
  show tU X a σ H fun x H1 => tU X b σ H1 fun y H2 => ∃ r, relCmp X op r ∧ r [x, y] H2 fun z H3 => ∃ k, z = .bl k ∧ (if k = true then tU X c σ H3 fun w' H4 => ∃ r, relCmp X op' r ∧ r [y, w'] H4 Q else Q (.bl false) H3)
  rcases bind_ok e1 with ⟨r1, ρ1, e2, e3⟩ | ⟨c, ns, xs, e2, e3⟩
  · refine ha.run σ B H ρ Z _ _ E e2 _ (fun r' er v B1 H1 Z1 fp n1 E1 rv ap => ?_) (fun _ _ _ q => by cases q)
    cases er
    have o1 : ∀ a, fp a → ∃ o, H1 a = some o := fun a ha => (rv.own a ha).2
    rcases bind_ok e3 with ⟨r2, ρ2, e4, e5⟩ | ⟨c, ns, xs, e4, e5⟩
    · cases e6 : rds ρ2 [r1, r2] with
      | none => rw [e6] at e5; cases e5
      | some ss =>
        refine hb.run σ B1 H1 ρ1 Z1 _ _ E1 e4 _ (fun r' er u B2 H2 Z2 fq n2 E2 ru ap2 => ?_) (fun _ _ _ q => by cases q)
        cases er
        obtain ⟨n, a12, a1z⟩ := n1.two n2 E.there ap o1
        have o2 : ∀ a, fq a → ∃ o, H2 a = some o := fun a ha => (ru.own a ha).2
        have rvs : RVs (gx X cl) B2 H2 σ [v, u] [r1, r2] (Or' fp fq) := ⟨v, [u], fp, fq, rfl, rv.pass n2 ap, ⟨u, [], fq, fun _ => False, rfl, ru, ⟨rfl, fun _ z => z⟩, fun _ _ z => z, fun _ => ⟨.inl, fun z => z.elim id False.elim⟩⟩, a12, fun _ => Iff.rfl⟩
        have nq : Nx B H Z B2 H2 (Or' fq Z2) := n.sub fun x z => z.elim (fun q => .inl (.inr q)) .inr
        rw [e6] at e5
        dsimp only [Option.bind] at e5
        split at e5
        · rename_i e9
          refine o B2 H2 [v, u] ss _ E2.sub (rds_len e6) (RVs.read E2 rvs e6) e9 _ fun w B3 H3 f3 nw hw => ?_
          refine ⟨true, hw.1, ?_⟩
          rw [if_pos rfl]
          have E3 := E2.new nw
          have n3 : Nx B H Z B3 H3 (Or' fq Z2) := by
            refine nq.trans (⟨nw.ex, fun a o h _ => ⟨nw.kp a o h, nw.bs a o h⟩, fun a z => .inl z⟩ : Nx B2 H2 (Or' fq Z2) B3 H3 (Or' fq Z2)) E.there
          have ru3 : RV (gx X cl) B3 H3 σ u r2 fq := by
            cases r2 with
            | t s => exact SV.new ru nw
            | pl i => exact ru
          have o3 : ∀ a, fq a → ∃ o, H3 a = some o := fun a ha => by
            obtain ⟨o, ho⟩ := o2 a ha
            exact ⟨o, nw.kp a o ho⟩
          rcases bind_ok e5 with ⟨r3, ρ3, e10, e11⟩ | ⟨c, ns, xs, e10, e11⟩
          · cases e12 : rds ρ3 [r2, r3] with
            | none => rw [e12] at e11; cases e11
            | some ts =>
              cases e13 : g' ts with
              | none => rw [e12] at e11; simp [e13] at e11
              | some z =>
                rw [e12] at e11
                simp [e13] at e11
                obtain ⟨rfl, rfl⟩ := e11
                refine hc.run σ B3 H3 ρ2 Z2 _ _ E3 e10 _ (fun r' er x B4 H4 Z4 fr n4 E4 rx ap4 => ?_) (fun _ _ _ q => by cases q)
                cases er
                obtain ⟨m, b12, b1z⟩ := n3.two n4 E.there ap2 o3
                have rvs2 : RVs (gx X cl) B4 H4 σ [u, x] [r2, r3] (Or' fq fr) := ⟨u, [x], fq, fr, rfl, ru3.pass n4 ap2, ⟨x, [], fr, fun _ => False, rfl, rx, ⟨rfl, fun _ z => z⟩, fun _ _ z => z, fun _ => ⟨.inl, fun z => z.elim id False.elim⟩⟩, b12, fun _ => Iff.rfl⟩
                refine o' B4 H4 [u, x] ts z E4.sub (rds_len e12) (RVs.read E4 rvs2 e12) e13 Q fun w B5 H5 f5 nw5 hw5 => ?_
                exact k _ rfl w B5 H5 Z4 f5 (m.drop.then (nw5.nx fun _ _ => trivial) E) (E4.new nw5) hw5 (nw5.apart E4.there)
          · subst e11
            refine hc.run σ B3 H3 ρ2 Z2 _ _ E3 e10 _ (fun _ q => by cases q) fun c' ns' xs' q B4 H4 Z4 n4 E4 d hd => ?_
            cases q
            exact ke _ _ _ rfl B4 H4 Z4 (n3.drop.then n4 E) E4 d hd
        · rename_i e9
          cases e5
          refine o B2 H2 [v, u] ss _ E2.sub (rds_len e6) (RVs.read E2 rvs e6) e9 _ fun w B3 H3 f3 nw hw => ?_
          refine ⟨false, hw.1, ?_⟩
          rw [if_neg Bool.false_ne_true]
          exact k _ rfl _ B3 H3 Z2 (fun _ => False) (((n.drop.then (nw.nx fun _ _ => trivial) E).drop).sub orF) (E2.new nw) ⟨rfl, fun _ z => z⟩ fun _ z => z.elim
        · cases e5
    · subst e5
      refine hb.run σ B1 H1 ρ1 Z1 _ _ E1 e4 _ (fun _ q => by cases q) fun c' ns' xs' q B2 H2 Z2 n2 E2 d hd => ?_
      cases q
      exact ke _ _ _ rfl B2 H2 Z2 (n1.drop.then n2 E) E2 d hd
  · subst e3
    exact ha.run σ B H ρ Z _ _ E e2 _ (fun _ q => by cases q) ke⟩
theorem ge_chain {op op' : CmpOp} {g g' : List S → Option S} (o : OpN X cl (relCmp X op) g) (o' : OpN X cl (relCmp X op') g') (ha : GE X cl W a fa) (hb : GE X cl W b fb) (hc : GE X cl W c fc)
    (hm : lastMarks [op, op'] [b, c] = false := by with_unfolding_all rfl) : GE X cl W (.Compare a [op, op'] [b, c] pos) (xChain g g' fa fb fc) :=
  ge_t (pe_chain (rel_cmp (X := X) (op := op)) (rel_cmp (X := X) (op := op')) pe_U pe_U pe_U hm) (TOk.chain o o' ha hb hc)
theorem gt_chain {op op' : CmpOp} {g g' : List S → Option S} (o : OpN X cl (relCmp X op) g) (o' : OpN X cl (relCmp X op') g') (ha : GE X cl W a fa) (hb : GE X cl W b fb) (hc : GE X cl W c fc)
    (hm : lastMarks [op, op'] [b, c] = false := by with_unfolding_all rfl) : GT X cl W (.Compare a [op, op'] [b, c] pos) (xTest (xChain g g' fa fb fc)) :=
  gt_t (pt_chain (rel_cmp (X := X) (op := op)) (rel_cmp (X := X) (op := op')) pe_U pe_U pe_U hm) (TOk.chain o o' ha hb hc)
end
end Av
set_option Elab.async false
set_option linter.all false
set_option maxRecDepth 100000
set_option maxHeartbeats 2000000
/-! Displays, calls of built-ins, methods of built-in types, methods that change a slot's object. -/
namespace Av
open PySem L2

section
variable {X : Cx} {cl : Str → Addr} {W : WX} {a b c e : Expr} {es : List Expr} {fa fb fc f : M R} {pos : Pos}

/-! ### values as trees of their own -/
def tree : R → Option S
  | .t s => some s
  | .pl _ => none
def trees : List R → Option (List S)
  | [] => some []
  | r :: rs => match tree r, trees rs with
    | some s, some ss => some (s :: ss)
    | _, _ => none
theorem RVs.trees {G : Gx} {B H : Hp} {σ : L2.St} : ∀ {rs : List R} {vs : List V} {fp : Set'} {ss : List S}, RVs G B H σ vs rs fp → trees rs = some ss → SVs G B H vs ss fp
  | [], _, _, _, h, e => by cases e; exact h
  | .pl i :: rs, _, _, _, h, e => by cases e
  | .t s :: rs, _, _, ss, h, e => by
    obtain ⟨v, w, f1, f2, rfl, h1, h2, h3, h4⟩ := h
    unfold Av.trees at e
    cases q : Av.trees rs with
    | none => rw [q] at e; cases e
    | some ts =>
      rw [q] at e
      cases e
      exact ⟨v, w, f1, f2, rfl, h1, RVs.trees h2 q, h3, h4⟩
/-- trees become frozen data -/
theorem SVs.freeze {G : Gx} {B H : Hp} {ss : List S} {vs : List V} {fp : Set'} (h : SVs G B H vs ss fp) (e : Ex B H) : ∃ B', Ex B B' ∧ Ex B' H ∧ DVs G B' vs (fzs ss) ∧ ∀ a, ¬ fp a → B' a = B a := by
  obtain ⟨B', x1, x2, x3, x4⟩ := grow fp e
  exact ⟨B', x1, x2, h.fzd x1 x3, x4⟩
theorem SV.freeze {G : Gx} {B H : Hp} {s : S} {v : V} {fp : Set'} (h : SV G B H v s fp) (e : Ex B H) : ∃ B', Ex B B' ∧ Ex B' H ∧ DV G B' v (fz s) ∧ ∀ a, ¬ fp a → B' a = B a := by
  obtain ⟨B', x1, x2, x3, x4⟩ := grow fp e
  exact ⟨B', x1, x2, h.fzd x1 x3, x4⟩
theorem fzs_len : ∀ ss : List S, (fzs ss).length = ss.length
  | [] => rfl
  | s :: ss => by
    show (fz s :: fzs ss).length = _
    simp [fzs_len ss]
/-- frozen on the way -/
theorem Nx.froze {B H B1 H1 B2 : Hp} {Z Z1 fp : Set'} (n : Nx B H Z B1 H1 (Or' fp Z1)) (x1 : Ex B1 B2) (x4 : ∀ a, ¬ fp a → B2 a = B1 a) : Nx B H Z B2 H1 Z1 where
  ex := n.ex.trans x1
  fr := fun a o h q => by
    obtain ⟨h1, h2⟩ := n.fr a o h q
    refine ⟨h1, (x4 a fun z => ?_).trans h2⟩
    rcases n.gr a (.inl z) with r | r
    · exact q r
    · rw [h] at r
      cases r
  gr := fun a z => n.gr a (.inr z)
theorem EV.froze {G : Gx} {B1 H1 B2 : Hp} {σ : L2.St} {ρ : Env} {Z1 fp : Set'} (E : EV G B1 H1 σ ρ Z1) (ap : Apart fp Z1) (x1 : Ex B1 B2) (x2 : Ex B2 H1) (x4 : ∀ a, ¬ fp a → B2 a = B1 a) : EV G B2 H1 σ ρ Z1 :=
  E.mono x1 x2 fun a ha => ⟨rfl, by rw [x4 a fun z => ap a z ha]; exact (E.own a ha).1⟩

/-- (a, b, ..) -/
def xTup (f : M (List R)) : M R := f.bind fun rs ρ => match trees rs with
  | some ss => if ss.length ≤ 100000 then some (.ok (.t (.im (.tup (fzs ss)))), ρ) else none
  | none => none
theorem ge_tup {f : M (List R)} {x1} (h : GA X cl W es f) : GE X cl W (.Tuple es x1 pos) (xTup f) := ⟨fun σ B H ρ Z res ρ' E e1 Q k ke => by
  refine ⟨_, pe_tup pa_U, ?_⟩
  rcases bind_ok e1 with ⟨rs, ρ1, e2, e3⟩ | ⟨c, ns, xs, e2, e3⟩
  · cases q : trees rs with
    | none => rw [q] at e3; cases e3
    | some ss =>
      rw [q] at e3
      dsimp only at e3
      split at e3
      · rename_i hz
        cases e3
        refine h.run σ B H ρ Z _ _ E e2 _ (fun rs' er vs B1 H1 Z1 fp n1 E1 rvs ap => ?_) (fun _ _ _ q => by cases q)
        cases er
        have sv := rvs.trees q
        refine ⟨by rw [sv.length]; exact sz_of hz, fun p hp => ?_⟩
        obtain ⟨B2, x1, x2, hd, x4⟩ := sv.freeze E1.sub
        have E2 := E1.froze ap x1 x2 x4
        obtain ⟨nw, q2⟩ := new_tup x2 hp hd
        exact k _ rfl _ _ _ Z1 (fun _ => False) ((n1.froze x1 x4).then (nw.nx fun _ _ => trivial) E) (E2.new nw) q2 fun _ z => z.elim
      · cases e3
  · subst e3
    exact h.run σ B H ρ Z _ _ E e2 _ (fun _ q => by cases q) fun _ _ _ q => by cases q; exact ke _ _ _ rfl⟩
/-- [a, b, ..] -/
def xLst (f : M (List R)) : M R := f.bind fun rs ρ => match trees rs with
  | some ss => if ss.length ≤ 100000 then some (.ok (.t (.lst ss)), ρ) else none
  | none => none
theorem new_own {G : Gx} {B H : Hp} {p : Addr} {vs : List V} {ss : List S} {fp : Set'} (e : Ex B H) (hp : H p = none) (h : SVs G B H vs ss fp) :
    New B H B (upd H p (.lst vs)) (fun a => a = p) ∧ SV G B (upd H p (.lst vs)) (.ref p) (.lst ss) (fun a => a = p ∨ fp a) := by
  have np : ¬ fp p := fun z => by
    obtain ⟨o, ho⟩ := (h.own p z).2
    rw [hp] at ho
    cases ho
  refine ⟨⟨Ex.refl B, fun a o h => Ex.new hp a o (e a o h), Ex.new hp, fun _ _ _ => rfl, fun a z => z ▸ hp⟩, p, vs, fp, rfl, upd_same, fresh_back e hp, h.mono (Ex.refl B) fun a z => ⟨upd_ne fun q => np (q ▸ z), (h.own a z).1⟩, np, fun b => Iff.rfl⟩
theorem ge_lst {f : M (List R)} (h : GA X cl W es f) : GE X cl W (.List es pos) (xLst f) := ⟨fun σ B H ρ Z res ρ' E e1 Q k ke => by
  refine ⟨_, pe_lst pa_U, ?_⟩
  rcases bind_ok e1 with ⟨rs, ρ1, e2, e3⟩ | ⟨c, ns, xs, e2, e3⟩
  · cases q : trees rs with
    | none => rw [q] at e3; cases e3
    | some ss =>
      rw [q] at e3
      dsimp only at e3
      split at e3
      · rename_i hz
        cases e3
        refine h.run σ B H ρ Z _ _ E e2 _ (fun rs' er vs B1 H1 Z1 fp n1 E1 rvs ap => ?_) (fun _ _ _ q => by cases q)
        cases er
        have sv := rvs.trees q
        refine ⟨by rw [sv.length]; exact sz_of hz, fun p hp => ?_⟩
        obtain ⟨nw, q2⟩ := new_own E1.sub hp sv
        refine k _ rfl _ _ _ Z1 _ ?_ (E1.new nw) q2 fun a z y => ?_
        · refine n1.trans (⟨nw.ex, fun a o h _ => ⟨nw.kp a o h, nw.bs a o h⟩, fun a z => ?_⟩ : Nx B1 H1 (Or' fp Z1) _ _ _) E.there
          rcases z with (z | z) | z
          · exact .inr (z ▸ hp)
          · exact .inl (.inl z)
          · exact .inl (.inr z)
        · rcases z with z | z
          · obtain ⟨o, ho⟩ := E1.there a y
            rw [z, hp] at ho
            cases ho
          · exact ap a z y
      · cases e3
  · subst e3
    exact h.run σ B H ρ Z _ _ E e2 _ (fun _ q => by cases q) fun _ _ _ q => by cases q; exact ke _ _ _ rfl⟩
/-- {} -/
def xDct0 : M R := M.ret (.t (.dct [] []))
theorem ge_dct0 : GE X cl W (.Dict [] [] pos) xDct0 := ge_of pe_dnewK fun σ B H ρ Z res ρ' E e Q k => by
  cases e
  intro p hp
  have bp : B p = none := fresh_back E.sub hp
  have nw : New B H B (upd H p (.dK [])) (fun a => a = p) := ⟨Ex.refl B, fun a o h => Ex.new hp a o (E.sub a o h), Ex.new hp, fun _ _ _ => rfl, fun a z => z ▸ hp⟩
  refine k _ rfl (.ref p) B _ Z (fun a => a = p) (nw.nx fun _ _ => trivial) (E.new nw) ⟨p, [], fun _ => False, rfl, upd_same, rfl, bp, ⟨rfl, fun _ z => z⟩, fun z => z, fun b => ⟨.inl, fun z => z.elim id False.elim⟩⟩ (nw.apart E.there)

/-! ### built-ins by name -/
theorem ge_callB {id : String} {x : Str} {p : Pos} {g : List S → Option S} {f : M (List R)} (o : OpN X cl (relCall X (.builtin id)) g) (hg : Gl X x) (hm : X.mg x = none) (hv : bootBuiltins x = some (.builtin id)) (h : GA X cl W (e :: es) f) (hn : x ≠ "__name__" := by decide) (hdb : (x == ("__debug__" : Str)) = false := by decide)
    (he : starEach (e :: es) X.env = (false, eval e X.env) :: starEach es X.env := by rfl) (hpl : (backTo pos (starEach es X.env)).any (·.1) = false := by rfl) : GE X cl W (.Call (.Name x p) (e :: es) [] pos) (mN g f) :=
  ge_opN h o rel_call fun r hr => pe_callB hr hg hm hv pa_U hn hdb he hpl
theorem ge_callTy {T : String} {x : Str} {p : Pos} {g : List S → Option S} {f : M (List R)} (o : OpN X cl (relCall X (.type T)) g) (hg : Gl X x) (hm : X.mg x = none) (hv : bootBuiltins x = some (.type T)) (h : GA X cl W (e :: es) f) (hn : x ≠ "__name__" := by decide) (hdb : (x == ("__debug__" : Str)) = false := by decide)
    (he : starEach (e :: es) X.env = (false, eval e X.env) :: starEach es X.env := by rfl) (hpl : (backTo pos (starEach es X.env)).any (·.1) = false := by rfl) : GE X cl W (.Call (.Name x p) (e :: es) [] pos) (mN g f) :=
  ge_opN h o rel_call fun r hr => pe_callTy hr hg hm hv pa_U hn hdb he hpl

/-! ### methods of built-in types -/
def kindS (T : String) : S → Bool
  | .im (.str _) => T == "str"
  | .im (.lst _) => T == "list"
  | .im (.slst _) => T == "list"
  | .im (.dct _ _) => T == "dict"
  | .lst _ => T == "list"
  | .dct _ _ => T == "dict"
  | _ => false
theorem kind_ok {B H : Hp} {v : V} {s : S} {f : Set'} {T : String} (h : SV (gx X cl) B H v s f) (e : Ex B H) (k : kindS T s = true) : tyV X.K T v H := by
  cases s with
  | im d =>
    cases d with
    | str x => cases h.1; exact beq_iff_eq.mp k
    | lst ds =>
      obtain ⟨⟨a, vs, rfl, h3, _⟩, _⟩ := h
      exact .inl ⟨beq_iff_eq.mp k, vs, sq_of (e _ _ h3)⟩
    | slst ds =>
      obtain ⟨⟨a, vs, rfl, h3, _⟩, _⟩ := h
      exact .inl ⟨beq_iff_eq.mp k, vs, ex_l e h3⟩
    | dct ks ds =>
      obtain ⟨⟨a, vs, rfl, h3, _⟩, _⟩ := h
      exact .inr (.inr (.inl ⟨beq_iff_eq.mp k, .inl ⟨_, e _ _ h3⟩⟩))
    | _ => cases k
  | lst ss =>
    obtain ⟨a, vs, fq, rfl, h3, _⟩ := h
    exact .inl ⟨beq_iff_eq.mp k, vs, sq_of h3⟩
  | dct ks ss =>
    obtain ⟨a, vs, fq, rfl, h3, _⟩ := h
    exact .inr (.inr (.inl ⟨beq_iff_eq.mp k, .inl ⟨_, h3⟩⟩))
  | _ => cases k
abbrev relM (X : Cx) (id : String) (r : List V → Hp → VK → Prop) : Prop := MtR X id (fun x xs H Q => r (x :: xs) H Q)
theorem rel_M {id : String} : Rel (relM X id) := fun pins s σ H x xs v us Q I rx rs ⟨_, hr, q⟩ => hr pins s σ H x xs v us Q I rx rs q
/-- o.m(e, ..), a method that changes nothing -/
def xMeth (T : String) (g : List S → Option S) (fo : M R) (f : M (List R)) : M R := fo.bind fun r ρ => match rd ρ r with
  | some s => if kindS T s = true then (f.bind fun rs ρ1 => match rds ρ1 (r :: rs) with
      | some ss => (match g ss with
        | some z => some (.ok (.t z), ρ1)
        | none => none)
      | none => none) ρ else none
  | none => none
variable {o : Expr} {fo : M R} {name : Str} {apos cpos : Pos} {T id : String} {g : List S → Option S}
theorem TOk.meth {f : M (List R)} (ho : GE X cl W o fo) (ha : GA X cl W es f) (op : OpN X cl (relM X id) g) :
    TOk X cl W (tBM X.K T (fun x xs H Q => ∃ r, relM X id r ∧ r (x :: xs) H Q) (tU X o) (tUA X es)) (xMeth T g fo f) := ⟨fun σ B H ρ Z res ρ' E e1 Q k ke => by
  rcases bind_ok e1 with ⟨r, ρ1, e2, e3⟩ | ⟨c, ns, xs, e2, e3⟩
  · refine ho.run σ B H ρ Z _ _ E e2 _ (fun r' er v B1 H1 Z1 fp n1 E1 rv ap => ?_) (fun _ _ _ q => by cases q)
    cases er
    have o1 : ∀ a, fp a → ∃ o, H1 a = some o := fun a ha => (rv.own a ha).2
    cases q : rd ρ1 r with
    | none => rw [q] at e3; cases e3
    | some s =>
      rw [q] at e3
      dsimp only at e3
      split at e3
      · rename_i hk
        obtain ⟨f0, hv⟩ := rv.read E1 q
        refine ⟨kind_ok hv E1.sub hk, ?_⟩
        rcases bind_ok e3 with ⟨rs, ρ2, e4, e5⟩ | ⟨c, ns, xs, e4, e5⟩
        · cases e6 : rds ρ2 (r :: rs) with
          | none => rw [e6] at e5; cases e5
          | some ss =>
            cases e7 : g ss with
            | none => rw [e6] at e5; simp [e7] at e5
            | some z =>
              rw [e6] at e5
              simp [e7] at e5
              obtain ⟨rfl, rfl⟩ := e5
              refine ha.run σ B1 H1 ρ1 Z1 _ _ E1 e4 _ (fun rs' er us B2 H2 Z2 fq n2 E2 rus ap2 => ?_) (fun _ _ _ q => by cases q)
              cases er
              obtain ⟨n, a12, a1z⟩ := n1.two n2 E.there ap o1
              have rvs : RVs (gx X cl) B2 H2 σ (v :: us) (r :: rs) (Or' fp fq) := ⟨v, us, fp, fq, rfl, rv.pass n2 ap, rus, a12, fun _ => Iff.rfl⟩
              refine op B2 H2 (v :: us) ss z E2.sub (rvs.len.trans (rds_len e6)) (RVs.read E2 rvs e6) e7 Q fun w B3 H3 f3 nw hw => ?_
              exact k _ rfl w B3 H3 Z2 f3 (n.drop.then (nw.nx fun _ _ => trivial) E) (E2.new nw) hw (nw.apart E2.there)
        · subst e5
          refine ha.run σ B1 H1 ρ1 Z1 _ _ E1 e4 _ (fun _ q => by cases q) fun c' ns' xs' q B2 H2 Z2 n2 E2 d hd => ?_
          cases q
          exact ke _ _ _ rfl B2 H2 Z2 (n1.drop.then n2 E) E2 d hd
      · cases e3
  · subst e3
    exact ho.run σ B H ρ Z _ _ E e2 _ (fun _ q => by cases q) ke⟩
theorem ge_meth {f : M (List R)} (op : OpN X cl (relM X id) g) (pa : PlainAttrs T) (slot : Slot T name id) (hty : typeOf (.builtin id) = pure (.type "method_descriptor")) (ho : GE X cl W o fo) (ha : GA X cl W (e :: es) f)
    (hbase : attributeBase o name X.env (eval o X.env) = eval o X.env := by rfl)
    (hfew : ((backTo cpos (starEach (e :: es) X.env)).all (fun x => !x.1) && (backToKw cpos (keywordEach [] X.env)).all (fun x => x.1.isSome)
      && decide ((e :: es).length + ([] : List Keyword).length + (if ([] : List Keyword).isEmpty then 0 else 1) < 30)) = true := by rfl)
    (hline : (apos.endLine == cpos.line) = true := by rfl) (hs : starEach (e :: es) X.env = (false, eval e X.env) :: starEach es X.env := by rfl) (hplain : (backTo cpos (starEach es X.env)).any (·.1) = false := by rfl) :
    GE X cl W (.Call (.Attribute o name apos) (e :: es) [] cpos) (xMeth T g fo f) :=
  ge_t (pe_bm pa slot hty (rel_M (X := X) (id := id)) pe_U pa_U hbase hfew hline hs hplain) (TOk.meth ho ha op)
end
end Av
set_option Elab.async false
set_option linter.all false
set_option maxRecDepth 100000
set_option maxHeartbeats 2000000
/-! Calls of the program's own defs: what a def does, as a function of trees; an argument that is a slot's object may be changed. -/
namespace Av
open PySem L2

/-- what a def hands back: a tree, or an exception -/
inductive Out where
  | ret (s : S) | er (c : Str) (ns : List Str) (xs : List D)
/-- a def: from its arguments, what it hands back, and what its arguments' objects have become (none: not told) -/
abbrev Fn := List S → Option (Out × List (Option S))

def SVo (G : Gx) (B H : Hp) : List V → List (Option S) → Set' → Prop
  | vs, [], fp => vs = [] ∧ ∀ b, ¬ fp b
  | vs, none :: ss, fp => ∃ v r, vs = v :: r ∧ SVo G B H r ss fp
  | vs, some s :: ss, fp => ∃ v r f1 f2, vs = v :: r ∧ SV G B H v s f1 ∧ SVo G B H r ss f2 ∧ (∀ b, f1 b → ¬ f2 b) ∧ ∀ b, fp b ↔ f1 b ∨ f2 b

/-- a def's promise, by its function -/
def spF (G : Gx) (n : Nat) (F : Fn) : Sp := fun vs H Q E => vs.length = n ∧ ∃ B args fp out fin, Ex B H ∧ SVs G B H vs args fp ∧ F args = some (out, fin) ∧
  ∀ B' H' fa, Ex B' H' → SVo G B' H' vs fin fa →
    (∀ s, out = .ret s → ∀ v f, Nx B H fp B' H' (Or' f fa) → SV G B' H' v s f → Apart f fa → Q v H') ∧
    (∀ c ns xs, out = .er c ns xs → Nx B H fp B' H' fa → ∀ d, ErV G B' ns xs d → E (.ref (G.cl c)) d H')

/-! ### arguments taken out of the slots, and put back -/
def pls : List R → List Nat
  | [] => []
  | .t _ :: rs => pls rs
  | .pl i :: rs => i :: pls rs
def outs : Env → List R → Option (List S × Env)
  | ρ, [] => some ([], ρ)
  | ρ, .t s :: rs => (outs ρ rs).map fun p => (s :: p.1, p.2)
  | ρ, .pl i :: rs => match ρ[i]? with
    | some (some s) => (outs (ρ.set i none) rs).map fun p => (s :: p.1, p.2)
    | _ => none
def backs : Env → List R → List (Option S) → Env
  | ρ, .t _ :: rs, _ :: fs => backs ρ rs fs
  | ρ, .pl i :: rs, o :: fs => backs (ρ.set i o) rs fs
  | ρ, _, _ => ρ
theorem outs_pl : ∀ {rs : List R} {ρ ρ1 : Env} {ss : List S}, outs ρ rs = some (ss, ρ1) →
    (∀ i ∈ pls rs, ∃ s, ρ[i]? = some (some s)) ∧ (pls rs).Nodup ∧ (∀ i ∈ pls rs, ρ1[i]? = some none) ∧ (∀ (j : Nat), ρ[j]? = some none → ρ1[j]? = some none) ∧ ρ1.length = ρ.length
  | [], ρ, ρ1, ss, h => by
    cases h
    exact ⟨fun i hi => (by cases hi), List.nodup_nil, fun i hi => (by cases hi), fun j hj => hj, rfl⟩
  | .t s :: rs, ρ, ρ1, ss, h => by
    unfold outs at h
    cases q : outs ρ rs with
    | none => rw [q] at h; cases h
    | some p =>
      rw [q] at h
      cases h
      exact outs_pl (rs := rs) q
  | .pl i :: rs, ρ, ρ1, ss, h => by
    unfold outs at h
    split at h
    · rename_i s hi
      cases q : outs (ρ.set i none) rs with
      | none => rw [q] at h; cases h
      | some p =>
        rw [q] at h
        cases h
        obtain ⟨g1, g2, g3, g4, g5⟩ := outs_pl q
        have hl : i < ρ.length := (List.getElem?_eq_some_iff.mp hi).1
        have hn : (ρ.set i none)[i]? = some none := List.getElem?_set_self hl
        have ni : i ∉ pls rs := fun z => by
          obtain ⟨s', hs⟩ := g1 i z
          rw [hn] at hs
          cases hs
        refine ⟨fun j hj => ?_, List.nodup_cons.mpr ⟨ni, g2⟩, fun j hj => ?_, fun j hj => ?_, by rw [g5, List.length_set]⟩
        · rcases List.mem_cons.mp hj with z | z
          · subst z
            exact ⟨s, hi⟩
          · obtain ⟨s', hs⟩ := g1 j z
            have n : j ≠ i := fun e => ni (e ▸ z)
            rw [List.getElem?_set_ne (Ne.symm n)] at hs
            exact ⟨s', hs⟩
        · rcases List.mem_cons.mp hj with z | z
          · subst z
            exact g4 j hn
          · exact g3 j z
        · by_cases n : j = i
          · subst n
            exact g4 j hn
          · exact g4 j (by rw [List.getElem?_set_ne (Ne.symm n)]; exact hj)
    · cases h
section
variable {G : Gx} {B H : Hp} {σ : L2.St}
theorem outs_ev : ∀ {rs : List R} {vs : List V} {fp Z : Set'} {ρ ρ1 : Env} {ss : List S}, EV G B H σ ρ Z → RVs G B H σ vs rs fp → Apart fp Z → outs ρ rs = some (ss, ρ1) →
    ∃ fa Z1, SVs G B H vs ss fa ∧ EV G B H σ ρ1 Z1 ∧ Apart fa Z1 ∧ (∀ a, fa a → fp a ∨ Z a) ∧ (∀ a, Z1 a → Z a)
  | [], vs, fp, Z, ρ, ρ1, ss, E, rv, ap, h => by
    cases h
    exact ⟨fun _ => False, Z, ⟨rv.1, fun _ z => z⟩, E, fun _ z => z.elim, fun _ z => z.elim, fun _ z => z⟩
  | .t s :: rs, vs, fp, Z, ρ, ρ1, ss, E, rv, ap, h => by
    unfold outs at h
    cases q : outs ρ rs with
    | none => rw [q] at h; cases h
    | some p =>
      obtain ⟨ts, ρ2⟩ := p
      rw [q] at h
      cases h
      obtain ⟨v, w, f1, f2, rfl, h1, h2, h3, h4⟩ := rv
      obtain ⟨fa, Z1, g1, g2, g3, g4, g5⟩ := outs_ev E h2 (fun a ha => ap a ((h4 a).mpr (.inr ha))) q
      refine ⟨fun a => f1 a ∨ fa a, Z1, ⟨v, w, f1, fa, rfl, h1, g1, fun a ha z => ?_, fun _ => Iff.rfl⟩, g2, fun a ha z => ?_, fun a ha => ?_, g5⟩
      · rcases g4 a z with r | r
        · exact h3 a ha r
        · exact ap a ((h4 a).mpr (.inl ha)) r
      · rcases ha with ha | ha
        · exact ap a ((h4 a).mpr (.inl ha)) (g5 a z)
        · exact g3 a ha z
      · rcases ha with ha | ha
        · exact .inl ((h4 a).mpr (.inl ha))
        · exact (g4 a ha).elim (fun r => .inl ((h4 a).mpr (.inr r))) .inr
  | .pl i :: rs, vs, fp, Z, ρ, ρ1, ss, E, rv, ap, h => by
    unfold outs at h
    split at h
    · rename_i s hi
      cases q : outs (ρ.set i none) rs with
      | none => rw [q] at h; cases h
      | some p =>
        obtain ⟨ts, ρ2⟩ := p
        rw [q] at h
        cases h
        obtain ⟨v, w, f1, f2, rfl, h1, h2, h3, h4⟩ := rv
        obtain ⟨v', f, Zr, e1, hv, E1, a1, hz⟩ := E.out hi
        have ev : v' = v := by
          have e0 := h1.1
          rw [e1] at e0
          exact Option.some.inj (Option.some.inj e0)
        subst ev
        obtain ⟨fa, Z1, g1, g2, g3, g4, g5⟩ := outs_ev E1 h2 (fun a ha z => ap a ((h4 a).mpr (.inr ha)) ((hz a).mpr (.inr z))) q
        refine ⟨fun a => f a ∨ fa a, Z1, ⟨v', w, f, fa, rfl, hv, g1, fun a ha z => ?_, fun _ => Iff.rfl⟩, g2, fun a ha z => ?_, fun a ha => ?_, fun a z => (hz a).mpr (.inr (g5 a z))⟩
        · rcases g4 a z with r | r
          · exact ap a ((h4 a).mpr (.inr r)) ((hz a).mpr (.inl ha))
          · exact a1 a ha r
        · rcases ha with ha | ha
          · exact a1 a ha (g5 a z)
          · exact g3 a ha z
        · rcases ha with ha | ha
          · exact .inr ((hz a).mpr (.inl ha))
          · exact (g4 a ha).elim (fun r => .inl ((h4 a).mpr (.inr r))) fun r => .inr ((hz a).mpr (.inr r))
    · cases h
theorem set_self {α : Type} {l : List α} {i : Nat} {x : α} (h : l[i]? = some x) : l.set i x = l := by
  refine List.ext_getElem? fun j => ?_
  by_cases n : j = i
  · subst n
    rw [List.getElem?_set_self (List.getElem?_eq_some_iff.mp h).1, h]
  · rw [List.getElem?_set_ne (Ne.symm n)]
theorem backs_ev : ∀ {rs : List R} {vs : List V} {B' H' : Hp} {fp fa Zb : Set'} {ρ : Env} {fin : List (Option S)}, RVs G B H σ vs rs fp → (pls rs).Nodup → (∀ i ∈ pls rs, ρ[i]? = some none) →
    EV G B' H' σ ρ Zb → SVo G B' H' vs fin fa → Apart fa Zb → ∃ Z2, EV G B' H' σ (backs ρ rs fin) Z2 ∧ ∀ a, Z2 a → fa a ∨ Zb a
  | [], vs, B', H', fp, fa, Zb, ρ, fin, _, _, _, E, _, _ => by
    have e : backs ρ [] fin = ρ := by unfold backs; cases fin <;> rfl
    rw [e]
    exact ⟨Zb, E, fun _ z => .inr z⟩
  | .t s :: rs, vs, B', H', fp, fa, Zb, ρ, [], rv, _, _, E, _, _ => ⟨Zb, E, fun _ z => .inr z⟩
  | .pl i :: rs, vs, B', H', fp, fa, Zb, ρ, [], rv, _, _, E, _, _ => ⟨Zb, E, fun _ z => .inr z⟩
  | .t s :: rs, vs, B', H', fp, fa, Zb, ρ, o :: fs, rv, nd, hn, E, so, ap => by
    obtain ⟨v, w, f1, f2, rfl, h1, h2, _, _⟩ := rv
    show ∃ Z2, EV G B' H' σ (backs ρ rs fs) Z2 ∧ _
    cases o with
    | none =>
      obtain ⟨v', r, e, s2⟩ := so
      cases e
      exact backs_ev h2 nd hn E s2 ap
    | some t =>
      obtain ⟨v', r, g1, g2, e, s1, s2, s3, s4⟩ := so
      cases e
      obtain ⟨Z2, q1, q2⟩ := backs_ev h2 nd hn E s2 (fun a ha => ap a ((s4 a).mpr (.inr ha)))
      exact ⟨Z2, q1, fun a z => (q2 a z).elim (fun r => .inl ((s4 a).mpr (.inr r))) .inr⟩
  | .pl i :: rs, vs, B', H', fp, fa, Zb, ρ, o :: fs, rv, nd, hn, E, so, ap => by
    obtain ⟨v, w, f1, f2, rfl, h1, h2, _, _⟩ := rv
    show ∃ Z2, EV G B' H' σ (backs (ρ.set i o) rs fs) Z2 ∧ _
    obtain ⟨ni, nd'⟩ := List.nodup_cons.mp nd
    have hi : ρ[i]? = some none := hn i (List.mem_cons_self ..)
    have hl : i < ρ.length := (List.getElem?_eq_some_iff.mp hi).1
    cases o with
    | none =>
      obtain ⟨v', r, e, s2⟩ := so
      cases e
      rw [set_self hi]
      exact backs_ev h2 nd' (fun j hj => hn j (List.mem_cons_of_mem _ hj)) E s2 ap
    | some t =>
      obtain ⟨v', r, g1, g2, e, s1, s2, s3, s4⟩ := so
      cases e
      have E1 := E.put (i := i) hl (fun s q => by rw [hi] at q; cases q) s1 (fun a ha => ap a ((s4 a).mpr (.inl ha)))
      rw [set_self h1.1] at E1
      obtain ⟨Z2, q1, q2⟩ := backs_ev h2 nd' (fun j hj => by
        have n : j ≠ i := fun e => ni (e ▸ hj)
        rw [List.getElem?_set_ne (Ne.symm n)]
        exact hn j (List.mem_cons_of_mem _ hj)) E1 s2 (fun a ha z => z.elim (fun q => s3 a q ha) fun q => ap a ((s4 a).mpr (.inr ha)) q)
      refine ⟨Z2, q1, fun a z => ?_⟩
      rcases q2 a z with r | r | r
      · exact .inl ((s4 a).mpr (.inr r))
      · exact .inl ((s4 a).mpr (.inl r))
      · exact .inr r
end

/-- a call by values -/
def callF (F : Fn) (rs : List R) : M R := fun ρ => match outs ρ rs with
  | none => none
  | some (ss, ρ1) => match F ss with
    | none => none
    | some (.ret s, fin) => some (.ok (.t s), backs ρ1 rs fin)
    | some (.er c ns xs, fin) => some (.er c ns xs, backs ρ1 rs fin)
def xCall (F : Fn) (f : M (List R)) : M R := f.bind (callF F)

section
variable {X : Cx} {cl : Str → Addr} {W : WX} {a b c e : Expr} {es : List Expr} {f : M (List R)} {pos p : Pos} {F : Fn} {n : Nat}
/-- the callee's promise, where the arguments stand ready -/
theorem call_ready {B H B1 H1 : Hp} {Z Z1 fp : Set'} {σ : L2.St} {ρ ρ1 ρ' : Env} {rs : List R} {vs : List V} {res : Res R} {Q : VK} {E0 : XK} (E : EV (gx X cl) B H σ ρ Z) (n1 : Nx B H Z B1 H1 (Or' fp Z1)) (E1 : EV (gx X cl) B1 H1 σ ρ1 Z1) (rv : RVs (gx X cl) B1 H1 σ vs rs fp) (ap : Apart fp Z1)
    (hn : vs.length = n) (h : callF F rs ρ1 = some (res, ρ'))
    (k : ∀ r, res = .ok r → ∀ v B' H' Z' fp, Nx B H Z B' H' (Or' fp Z') → EV (gx X cl) B' H' σ ρ' Z' → RV (gx X cl) B' H' σ v r fp → Apart fp Z' → Q v H')
    (ke : ∀ c ns xs, res = .er c ns xs → ∀ B' H' Z', Nx B H Z B' H' Z' → EV (gx X cl) B' H' σ ρ' Z' → ∀ d, ErV (gx X cl) B' ns xs d → E0 (.ref (cl c)) d H') : spF (gx X cl) n F vs H1 Q E0 := by
  unfold callF at h
  cases q : outs ρ1 rs with
  | none => rw [q] at h; cases h
  | some pr =>
    obtain ⟨ss, ρ2⟩ := pr
    rw [q] at h
    try dsimp only at h
    obtain ⟨p1, p2, p3, p4, p5⟩ := outs_pl q
    obtain ⟨fa, Zb, g1, g2, g3, g4, g5⟩ := outs_ev E1 rv ap q
    cases q2 : F ss with
    | none => rw [q2] at h; cases h
    | some pr2 =>
      obtain ⟨out, fin⟩ := pr2
      rw [q2] at h
      try dsimp only at h
      refine ⟨hn, B1, ss, fa, out, fin, E1.sub, g1, q2, fun B2 H2 fb hs so => ⟨fun s eo v f nx hv apf => ?_, fun c ns xs eo nx d hd => ?_⟩⟩
      · subst eo
        cases h
        -- what the callee owns and makes lies apart from the other slots
        have E2 : EV (gx X cl) B2 H2 σ ρ2 Zb := g2.mono nx.ex hs fun a ha => by
          obtain ⟨o, ho⟩ := E1.there a (g5 a ha)
          obtain ⟨h1, h2⟩ := nx.fr a o ho fun z => g3 a z ha
          exact ⟨h1.trans ho.symm, h2.trans (E1.own a (g5 a ha)).1⟩
        have apart : ∀ a, (f a ∨ fb a) → ¬ Zb a := fun a ha z => by
          rcases nx.gr a ha with r | r
          · exact g3 a r z
          · obtain ⟨o, ho⟩ := E1.there a (g5 a z)
            rw [ho] at r
            cases r
        obtain ⟨Z2, E3, hz⟩ := backs_ev rv p2 p3 E2 so (fun a ha => apart a (.inr ha))
        refine k _ rfl v B2 H2 Z2 f ?_ E3 hv fun a ha z => ?_
        · refine n1.trans ⟨nx.ex, fun a o ho nz => nx.fr a o ho fun z => nz ((g4 a z).elim .inl .inr), fun a z => ?_⟩ E.there
          have lift : (f a ∨ fb a) → Or' fp Z1 a ∨ H1 a = none := fun z => (nx.gr a z).elim (fun r => .inl ((g4 a r).elim .inl .inr)) .inr
          rcases z with z | z
          · exact lift (.inl z)
          · rcases hz a z with r | r
            · exact lift (.inr r)
            · exact .inl (.inr (g5 a r))
        · rcases hz a z with r | r
          · exact apf a ha r
          · exact apart a (.inl ha) r
      · subst eo
        cases h
        have E2 : EV (gx X cl) B2 H2 σ ρ2 Zb := g2.mono nx.ex hs fun a ha => by
          obtain ⟨o, ho⟩ := E1.there a (g5 a ha)
          obtain ⟨h1, h2⟩ := nx.fr a o ho fun z => g3 a z ha
          exact ⟨h1.trans ho.symm, h2.trans (E1.own a (g5 a ha)).1⟩
        have apart : ∀ a, fb a → ¬ Zb a := fun a ha z => by
          rcases nx.gr a ha with r | r
          · exact g3 a r z
          · obtain ⟨o, ho⟩ := E1.there a (g5 a z)
            rw [ho] at r
            cases r
        obtain ⟨Z2, E3, hz⟩ := backs_ev rv p2 p3 E2 so apart
        refine ke _ _ _ rfl B2 H2 Z2 ?_ E3 d hd
        refine n1.trans ⟨nx.ex, fun a o ho nz => nx.fr a o ho fun z => nz ((g4 a z).elim .inl .inr), fun a z => ?_⟩ E.there
        rcases hz a z with r | r
        · exact (nx.gr a r).elim (fun r => .inl ((g4 a r).elim .inl .inr)) .inr
        · exact .inl (.inr (g5 a r))
/-- f(e, ..), f a def of the module -/
theorem ge_call {x : Str} {k : Nat} {fa : Addr} {fd : FuncData} {ps : List Str} (hF : FnOk X.prog X.w X.K X.mg X.base (L2.CX X.prog X.w) k fa fd ps (spF (gx X cl) n F)) (hr : Room k X.A) (tk : Takes X W) (hg : Gl X x) (hm : X.mg x = some (.ref fa)) (hk : PySem.W.keepIn X.K (.ref fa) = true) (hb : Binds X.K fd ps [])
    (h : GA X cl W (e :: es) f) (hlen : (e :: es).length = n) (hgl : ∀ ρ rs ρ', f ρ = some (.ok rs, ρ') → rs.length = n)
    (hdb : (x == ("__debug__" : Str)) = false := by decide) (he : starEach (e :: es) X.env = (false, eval e X.env) :: starEach es X.env := by rfl) (hpl : (backTo pos (starEach es X.env)).any (·.1) = false := by rfl) :
    GE X cl W (.Call (.Name x p) (e :: es) [] pos) (xCall F f) := ⟨fun σ B H ρ Z res ρ' E e1 Q k ke => by
  refine ⟨_, pe_callS hF hr hg hm hk hb (fun σ => passAt tk σ) pa_U hdb he hpl, ?_⟩
  rcases bind_ok e1 with ⟨rs, ρ1, e2, e3⟩ | ⟨c, ns, xs, e2, e3⟩
  · refine h.run σ B H ρ Z _ _ E e2 _ (fun rs' er vs B1 H1 Z1 fp n1 E1 rvs ap => ?_) (fun _ _ _ q => by cases q)
    cases er
    exact call_ready E n1 E1 rvs ap (rvs.len.trans (hgl _ _ _ e2)) e3 k ke
  · subst e3
    exact h.run σ B H ρ Z _ _ E e2 _ (fun _ q => by cases q) fun _ _ _ q => by cases q; exact ke _ _ _ rfl⟩
end
/-- how many arguments are made -/
theorem len_nil {ρ ρ' : Env} {rs : List R} (h : aNil ρ = some (.ok rs, ρ')) : rs.length = 0 := by
  cases h
  rfl
theorem len_cons {f : M R} {g : M (List R)} {n : Nat} (hg : ∀ ρ rs ρ', g ρ = some (.ok rs, ρ') → rs.length = n) : ∀ ρ rs ρ', aCons f g ρ = some (.ok rs, ρ') → rs.length = n + 1 := fun ρ rs ρ' h => by
  rcases bind_ok h with ⟨r, ρ1, e2, e3⟩ | ⟨c, ns, xs, e2, e3⟩
  · rcases bind_ok e3 with ⟨r2, ρ2, e4, e5⟩ | ⟨c, ns, xs, e4, e5⟩
    · cases e5
      simp [hg _ _ _ e4]
    · cases e5
  · cases e3
end Av
set_option Elab.async false
set_option linter.all false
set_option maxRecDepth 100000
set_option maxHeartbeats 2000000
/-! Statements. -/
namespace Av
open PySem L2

inductive Fl where
  | nx | bk | ct | rt (s : S) | er (c : Str) (ns : List Str) (xs : List D)
abbrev MS := Env → Option (Fl × Env)

/-- what a statement's end must give -/
def Fin (X : Cx) (cl : Str → Addr) (W : WX) (Rs : List Nat) (D : Ends) (σ : L2.St) (B H : Hp) (Z : Set') (fl : Fl) (ρ' : Env) : Prop :=
  ∀ (σ' : L2.St) (B' H' : Hp) (Z' : Set'), (∀ i ∈ Rs, σ'[i]? = σ[i]?) → EV (gx X cl) B' H' σ' ρ' Z' →
    match fl with
    | .nx => Nx B H Z B' H' Z' → D.nx σ' H'
    | .bk => Nx B H Z B' H' Z' → D.bk σ' H'
    | .ct => Nx B H Z B' H' Z' → D.ct σ' H'
    | .rt s => ∀ v f, Nx B H Z B' H' (Or' f Z') → SV (gx X cl) B' H' v s f → Apart f Z' → D.rt v H'
    | .er c ns xs => Nx B H Z B' H' Z' → ∀ d, ErV (gx X cl) B' ns xs d → W (.ref (cl c)) d σ' H'
structure GS (X : Cx) (cl : Str → Addr) (W : WX) (Rs : List Nat) (st : Stmt) (g : MS) : Prop where
  run : ∀ (σ : L2.St) (B H : Hp) (ρ : Env) (Z : Set') (fl : Fl) (ρ' : Env), EV (gx X cl) B H σ ρ Z → g ρ = some (fl, ρ') → ∀ D : Ends, Fin X cl W Rs D σ B H Z fl ρ' → tUS X st D σ H
structure GSs (X : Cx) (cl : Str → Addr) (W : WX) (Rs : List Nat) (st : List Stmt) (g : MS) : Prop where
  run : ∀ (σ : L2.St) (B H : Hp) (ρ : Env) (Z : Set') (fl : Fl) (ρ' : Env), EV (gx X cl) B H σ ρ Z → g ρ = some (fl, ρ') → ∀ D : Ends, Fin X cl W Rs D σ B H Z fl ρ' → tUSs X st D σ H

section
variable {X : Cx} {cl : Str → Addr} {W : WX} {Rs : List Nat} {st : Stmt} {rest : List Stmt} {g h : MS} {e : Expr} {f : M R} {pos : Pos}
/-- behind a step, from the step's start -/
theorem Fin.step {D : Ends} {σ σ1 : L2.St} {B H B1 H1 : Hp} {Z Z1 : Set'} {ρ : Env} {fl : Fl} {ρ' : Env} (F : Fin X cl W Rs D σ B H Z fl ρ') (E : EV (gx X cl) B H σ ρ Z) (n : Nx B H Z B1 H1 Z1) (k : ∀ i ∈ Rs, σ1[i]? = σ[i]?) : Fin X cl W Rs D σ1 B1 H1 Z1 fl ρ' :=
  fun σ' B' H' Z' k' E' => by
    have q := F σ' B' H' Z' (fun i hi => (k' i hi).trans (k i hi)) E'
    cases fl with
    | nx => exact fun n' => q (n.then n' E)
    | bk => exact fun n' => q (n.then n' E)
    | ct => exact fun n' => q (n.then n' E)
    | rt s => exact fun v f n' => q v f (n.then n' E)
    | er c ns xs => exact fun n' => q (n.then n' E)

def sNil : MS := fun ρ => some (.nx, ρ)
def sSeq (g h : MS) : MS := fun ρ => match g ρ with
  | some (.nx, ρ1) => h ρ1
  | r => r
theorem gss_nil : GSs X cl W Rs [] sNil := ⟨fun σ B H ρ Z fl ρ' E e D F => by
  cases e
  exact ⟨_, pss_nil, F σ B H Z (fun _ _ => rfl) E Nx.refl⟩⟩
theorem gss_cons (h1 : GS X cl W Rs st g) (h2 : GSs X cl W Rs rest h) : GSs X cl W Rs (st :: rest) (sSeq g h) := ⟨fun σ B H ρ Z fl ρ' E e D F => by
  refine ⟨_, pss_cons ps_U pss_U, ?_⟩
  unfold sSeq at e
  split at e
  · rename_i ρ1 q
    refine h1.run σ B H ρ Z _ _ E q _ fun σ1 B1 H1 Z1 k1 E1 n1 => ?_
    exact h2.run σ1 B1 H1 ρ1 Z1 _ _ E1 e D (F.step E n1 k1)
  · rename_i nq
    refine h1.run σ B H ρ Z fl ρ' E e _ fun σ1 B1 H1 Z1 k1 E1 => ?_
    have q := F σ1 B1 H1 Z1 k1 E1
    cases fl with
    | nx => exact (nq ρ' e).elim
    | bk => exact q
    | ct => exact q
    | rt s => exact q
    | er c ns xs => exact q⟩
theorem gss_one (h1 : GS X cl W Rs st g) : GSs X cl W Rs [st] g := ⟨fun σ B H ρ Z fl ρ' E e D F => ⟨_, pss_one ps_U, h1.run σ B H ρ Z fl ρ' E e D F⟩⟩

def sPass : MS := sNil
theorem gs_pass : GS X cl W Rs (.Pass pos) sPass := ⟨fun σ B H ρ Z fl ρ' E e D F => by
  cases e
  exact ⟨_, ps_pass, F σ B H Z (fun _ _ => rfl) E Nx.refl⟩⟩
def sBreak : MS := fun ρ => some (.bk, ρ)
theorem gs_break : GS X cl W Rs (.Break pos) sBreak := ⟨fun σ B H ρ Z fl ρ' E e D F => by
  cases e
  exact ⟨_, ps_break, F σ B H Z (fun _ _ => rfl) E Nx.refl⟩⟩
def sCont : MS := fun ρ => some (.ct, ρ)
theorem gs_cont : GS X cl W Rs (.Continue pos) sCont := ⟨fun σ B H ρ Z fl ρ' E e D F => by
  cases e
  exact ⟨_, ps_continue, F σ B H Z (fun _ _ => rfl) E Nx.refl⟩⟩
/-- from an expression's end to a statement's -/
def sOf (f : M R) (k : R → MS) : MS := fun ρ => match f ρ with
  | some (.ok r, ρ1) => k r ρ1
  | some (.er c ns xs, ρ1) => some (.er c ns xs, ρ1)
  | none => none
def sExpr (f : M R) : MS := sOf f fun _ ρ => some (.nx, ρ)
theorem gs_expr (he : GE X cl W e f) (hs : swapsWith e none pos.line X.env = pure false := by rfl) : GS X cl W Rs (.Expr e pos) (sExpr f) := ⟨fun σ B H ρ Z fl ρ' E q D F => by
  refine ⟨_, ps_expr pe_U hs, ?_⟩
  unfold sExpr sOf at q
  split at q
  · rename_i r ρ1 q1
    cases q
    refine he.run σ B H ρ Z _ _ E q1 _ (fun r' er v B1 H1 Z1 fp n1 E1 rv ap => ?_) (fun _ _ _ q => by cases q)
    exact F σ B1 H1 Z1 (fun _ _ => rfl) E1 n1.drop
  · rename_i c ns xs ρ1 q1
    cases q
    refine he.run σ B H ρ Z _ _ E q1 _ (fun _ q => by cases q) fun c' ns' xs' q B1 H1 Z1 n1 E1 d hd => ?_
    cases q
    exact F σ B1 H1 Z1 (fun _ _ => rfl) E1 n1 d hd
  · cases q⟩
/-- return e: a tree of its own -/
def sRet (f : M R) : MS := sOf f fun r ρ => match r with
  | .t s => some (.rt s, ρ)
  | .pl _ => none
theorem gs_ret (he : GE X cl W e f) : GS X cl W Rs (.Return (some e) pos) (sRet f) := ⟨fun σ B H ρ Z fl ρ' E q D F => by
  refine ⟨_, ps_ret pe_U, ?_⟩
  unfold sRet sOf at q
  split at q
  · rename_i r ρ1 q1
    cases r with
    | pl i => cases q
    | t s =>
      cases q
      refine he.run σ B H ρ Z _ _ E q1 _ (fun r' er v B1 H1 Z1 fp n1 E1 rv ap => ?_) (fun _ _ _ q => by cases q)
      cases er
      exact F σ B1 H1 Z1 (fun _ _ => rfl) E1 v fp n1 rv ap
  · rename_i c ns xs ρ1 q1
    cases q
    refine he.run σ B H ρ Z _ _ E q1 _ (fun _ q => by cases q) fun c' ns' xs' q B1 H1 Z1 n1 E1 d hd => ?_
    cases q
    exact F σ B1 H1 Z1 (fun _ _ => rfl) E1 n1 d hd
  · cases q⟩
/-- a slot's tree moves out -/
def xMove (i : Nat) : M R := fun ρ => match ρ[i]? with
  | some (some s) => some (.ok (.t s), ρ.set i none)
  | _ => none
theorem ge_move (i : Nat) {x : Str} {pos : Pos} (hN : X.N[i]? = some x := by rfl) (hv : Vis X.env.scope x := by first | exact Or.inl rfl | exact Or.inr (Or.inl rfl) | exact Or.inr (Or.inr rfl)) (hd : (x == ("__debug__" : Str)) = false := by decide)
    (hcd : (x == ("__classdict__" : Str)) = false := by decide) : GE X cl W (.Name x pos) (xMove i) :=
  ge_of (pe_var hN hv hd hcd) fun σ B H ρ Z res ρ' E e Q k => by
    unfold xMove at e
    split at e
    · rename_i s hi
      cases e
      obtain ⟨v, f, Zr, e1, h1, E1, ap, hz⟩ := E.out hi
      exact ⟨v, e1, k _ rfl v B H Zr f (Nx.refl.sub fun a z => (hz a).mpr z) E1 h1 ap⟩
    · cases e
def sRetN : MS := fun ρ => some (.rt (.im .non), ρ)
theorem gs_retN : GS X cl W Rs (.Return none pos) sRetN := ⟨fun σ B H ρ Z fl ρ' E q D F => by
  cases q
  exact ⟨_, ps_retN, F σ B H Z (fun _ _ => rfl) E .non (fun _ => False) (Nx.refl.sub orF) ⟨rfl, fun _ z => z⟩ fun _ z => z.elim⟩⟩
def sIf (t : M Bool) (g h : MS) : MS := fun ρ => match t ρ with
  | some (.ok true, ρ1) => g ρ1
  | some (.ok false, ρ1) => h ρ1
  | some (.er c ns xs, ρ1) => some (.er c ns xs, ρ1)
  | none => none
theorem gs_if {c : Expr} {a b : List Stmt} {t : M Bool} (hc : GT X cl W c t) (ha : GSs X cl W Rs a g) (hb : GSs X cl W Rs b h) : GS X cl W Rs (.If c a b pos) (sIf t g h) := ⟨fun σ B H ρ Z fl ρ' E q D F => by
  refine ⟨_, ps_if pt_U pss_U pss_U, ?_⟩
  unfold sIf at q
  split at q
  · rename_i ρ1 q1
    refine hc.run σ B H ρ Z _ _ E q1 _ (fun r' er B1 H1 Z1 n1 E1 => ?_) (fun _ _ _ q => by cases q)
    cases er
    rw [if_pos rfl]
    exact ha.run σ B1 H1 ρ1 Z1 _ _ E1 q D (F.step E n1 fun _ _ => rfl)
  · rename_i ρ1 q1
    refine hc.run σ B H ρ Z _ _ E q1 _ (fun r' er B1 H1 Z1 n1 E1 => ?_) (fun _ _ _ q => by cases q)
    cases er
    rw [if_neg Bool.false_ne_true]
    exact hb.run σ B1 H1 ρ1 Z1 _ _ E1 q D (F.step E n1 fun _ _ => rfl)
  · rename_i c ns xs ρ1 q1
    cases q
    refine hc.run σ B H ρ Z _ _ E q1 _ (fun _ q => by cases q) fun c' ns' xs' q B1 H1 Z1 n1 E1 d hd => ?_
    cases q
    exact F σ B1 H1 Z1 (fun _ _ => rfl) E1 n1 d hd
  · cases q⟩

/-! ### targets -/
abbrev MG := S → Env → Option Env
def tUG (X : Cx) (tg : Expr) : TG := fun v σ H Q => ∃ t, PG X tg t ∧ t v σ H Q
theorem pg_U {tg : Expr} : PG X tg (tUG X tg) := ⟨fun pins s σ H v u Q I r ⟨_, ht, h⟩ => ht.run pins s σ H v u Q I r h⟩
structure GG (X : Cx) (cl : Str → Addr) (Rs : List Nat) (tg : Expr) (m : MG) : Prop where
  run : ∀ (σ : L2.St) (B H : Hp) (ρ : Env) (Z : Set') (v : V) (s : S) (fp : Set') (ρ' : Env), EV (gx X cl) B H σ ρ Z → SV (gx X cl) B H v s fp → Apart fp Z → m s ρ = some ρ' → ∀ Q : L2.St → Hp → Prop,
    (∀ σ' Z', (∀ i ∈ Rs, σ'[i]? = σ[i]?) → EV (gx X cl) B H σ' ρ' Z' → (∀ a, Z' a → fp a ∨ Z a) → Q σ' H) → tUG X tg v σ H Q
/-- a name: the slot's old tree is let go -/
def gSlot (i : Nat) : MG := fun s ρ => if i < ρ.length then some (ρ.set i (some s)) else none
theorem EV.store {G : Gx} {B H : Hp} {σ : L2.St} {ρ : Env} {Z fp : Set'} {v : V} {s : S} {i : Nat} (E : EV G B H σ ρ Z) (hv : SV G B H v s fp) (ap : Apart fp Z) (hi : i < ρ.length) :
    ∃ Z', EV G B H (σ.set i (some v)) (ρ.set i (some s)) Z' ∧ ∀ a, Z' a → fp a ∨ Z a := by
  obtain ⟨Zr, E1, hz⟩ := E.clear i
  have hi1 : i < (ρ.set i none).length := by rw [List.length_set]; exact hi
  have hn : ∀ s, (ρ.set i none)[i]? ≠ some (some s) := fun s q => by
    rw [List.getElem?_set_self hi] at q
    cases q
  have E2 := E1.put (i := i) hi1 hn hv fun a ha z => ap a ha (hz a z)
  rw [List.set_set] at E2
  exact ⟨_, E2, fun a z => z.elim .inl fun q => .inr (hz a q)⟩
theorem gg_name (i : Nat) {x : Str} (hN : X.N.Nodup) (hr : i ∉ Rs := by decide) (hi : X.N[i]? = some x := by rfl) (hx : Loc X.env.scope x := by first | exact Or.inl rfl | exact Or.inr rfl) (hf : X.fn x = true ∨ X.env.scope.names.lookup x = some .local := by first | exact .inl rfl | exact .inr rfl | assumption) : GG X cl Rs (.Name x pos) (gSlot i) :=
  ⟨fun σ B H ρ Z v s fp ρ' E hv ap q Q k => by
    unfold gSlot at q
    split at q
    · rename_i hl
      cases q
      obtain ⟨Z', E2, hz⟩ := E.store hv ap hl
      refine ⟨_, pg_name hN hi hx hf, k _ Z' (fun j hj => ?_) E2 hz⟩
      rw [List.getElem?_set_ne]
      rintro rfl
      exact hr hj
    · cases q⟩
/-- frozen items to targets, one by one -/
abbrev MGs := List D → Env → Option Env
structure GGs (X : Cx) (cl : Str → Addr) (Rs : List Nat) (tgs : List Expr) (m : MGs) : Prop where
  run : ∀ (σ : L2.St) (B H : Hp) (ρ : Env) (Z : Set') (vs : List V) (ds : List D) (ρ' : Env), EV (gx X cl) B H σ ρ Z → DVs (gx X cl) B vs ds → m ds ρ = some ρ' → ∀ Q : L2.St → Hp → Prop,
    (∀ σ' Z', (∀ i ∈ Rs, σ'[i]? = σ[i]?) → EV (gx X cl) B H σ' ρ' Z' → (∀ a, Z' a → Z a) → Q σ' H) → ∃ t, PGs X tgs t ∧ t vs σ H Q
def gsNil : MGs := fun ds ρ => match ds with
  | [] => some ρ
  | _ => none
def gsCons (m : MG) (ms : MGs) : MGs := fun ds ρ => match ds with
  | d :: ds => (m (.im d) ρ).bind fun ρ1 => ms ds ρ1
  | [] => none
theorem ggs_nil : GGs X cl Rs [] gsNil := ⟨fun σ B H ρ Z vs ds ρ' E hv q Q k => by
  unfold gsNil at q
  split at q
  · cases q
    exact ⟨_, pgs_nil, hv, k σ Z (fun _ _ => rfl) E fun _ z => z⟩
  · cases q⟩
theorem ggs_cons {tg : Expr} {tgs : List Expr} {m : MG} {ms : MGs} (h1 : GG X cl Rs tg m) (h2 : GGs X cl Rs tgs ms) (hs : (assignEach (tg :: tgs) X.env).map (·.2) = assign tg X.env :: (assignEach tgs X.env).map (·.2) := by rfl) : GGs X cl Rs (tg :: tgs) (gsCons m ms) :=
  ⟨fun σ B H ρ Z vs ds ρ' E hv q Q k => by
    unfold gsCons at q
    split at q
    · rename_i d ds
      cases q1 : m (.im d) ρ with
      | none => rw [q1] at q; cases q
      | some ρ1 =>
        rw [q1] at q
        obtain ⟨v, r, rfl, hd, hds⟩ := hv
        refine ⟨_, pgs_cons (t := tUG X tg) (u := fun vs σ H Q => ∃ t, PGs X tgs t ∧ t vs σ H Q) pg_U ⟨fun pins s σ H vs us Q I r ⟨_, ht, h⟩ => ht.run pins s σ H vs us Q I r h⟩ hs, v, r, rfl, ?_⟩
        refine h1.run σ B H ρ Z v (.im d) (fun _ => False) ρ1 E ⟨hd, fun _ z => z⟩ (fun _ z => z.elim) q1 _ fun σ1 Z1 k1 E1 z1 => ?_
        exact h2.run σ1 B H ρ1 Z1 r ds ρ' E1 hds q Q fun σ2 Z2 k2 E2 z2 => k σ2 Z2 (fun i hi => (k2 i hi).trans (k1 i hi)) E2 fun a z => (z1 a (z2 a z)).elim False.elim id
    · cases q⟩
/-- (a, b, ..) = a frozen tuple -/
def gTuple (n : Nat) (ms : MGs) : MG := fun s ρ => match s with
  | .im (.tup ds) => if ds.length = n then ms ds ρ else none
  | _ => none
theorem gg_tup {tgs : List Expr} {k : Nat} {ms : MGs} {n : Nat} (hc : X.calm = true) (h : GGs X cl Rs tgs ms) (hn : (assignEach tgs X.env).length = n := by rfl) (hst : (assignEach tgs X.env).findIdx? (·.1) = none := by rfl) : GG X cl Rs (.Tuple tgs k pos) (gTuple n ms) :=
  ⟨fun σ B H ρ Z v s fp ρ' E hv ap q Q kq => by
    unfold gTuple at q
    split at q
    · rename_i ds
      split at q
      · rename_i hl
        obtain ⟨⟨a, vs, rfl, h3, h4⟩, _⟩ := hv
        obtain ⟨t, ht, hq⟩ := h.run σ B H ρ Z vs ds ρ' E h4 q Q fun σ' Z' k1 E1 z1 => kq σ' Z' k1 E1 fun a z => .inr (z1 a z)
        exact ⟨_, pg_tup hc ht hn hst, a, vs, rfl, ex_t E.sub h3, h4.length.trans hl, hq⟩
      · cases q
    · cases q⟩

/-- target = e -/
def sAsg (f : M R) (m : MG) : MS := sOf f fun r ρ => match r with
  | .t s => (m s ρ).map fun ρ1 => (.nx, ρ1)
  | .pl _ => none
theorem gs_asg_of {t : TE} {tg : Expr} {m : MG} (h : ∀ g, PG X tg g → PS X st (tAsg t g)) (he : TOk X cl W t f) (hg : GG X cl Rs tg m) : GS X cl W Rs st (sAsg f m) := ⟨fun σ B H ρ Z fl ρ' E q D F => by
  refine ⟨_, h _ pg_U, ?_⟩
  unfold sAsg sOf at q
  split at q
  · rename_i r ρ1 q1
    cases r with
    | pl i => cases q
    | t s =>
      dsimp only at q
      cases q2 : m s ρ1 with
      | none => rw [q2] at q; cases q
      | some ρ2 =>
        rw [q2] at q
        cases q
        refine he.run σ B H ρ Z _ _ E q1 _ (fun r' er v B1 H1 Z1 fp n1 E1 rv ap => ?_) (fun _ _ _ q => by cases q)
        cases er
        refine hg.run σ B1 H1 ρ1 Z1 v s fp ρ' E1 rv ap q2 _ fun σ2 Z2 k2 E2 z2 => ?_
        exact F σ2 B1 H1 Z2 k2 E2 (n1.sub fun a z => z2 a z)
  · rename_i c ns xs ρ1 q1
    cases q
    refine he.run σ B H ρ Z _ _ E q1 _ (fun _ q => by cases q) fun c' ns' xs' q B1 H1 Z1 n1 E1 d hd => ?_
    cases q
    exact F σ B1 H1 Z1 (fun _ _ => rfl) E1 n1 d hd
  · cases q⟩
theorem ge_tok (h : GE X cl W e f) : TOk X cl W (tU X e) f := ⟨h.run⟩
theorem gs_asg {tg : Expr} {m : MG} (he : GE X cl W e f) (hg : GG X cl Rs tg m) (hs : swapsWithSole [tg] e pos.line X.env = pure false := by rfl) (hw : swappedStores [tg] e X.env = pure none := by rfl)
    (h1 : (assignEach [tg] X.env).map (·.2) = [assign tg X.env] := by rfl) : GS X cl W Rs (.Assign [tg] e pos) (sAsg f m) :=
  gs_asg_of (t := tU X e) (fun g hg => ps_asg pe_U hg hs hw h1) (ge_tok he) hg
end
end Av
set_option Elab.async false
set_option linter.all false
set_option maxRecDepth 100000
set_option maxHeartbeats 2000000
/-! Loops and comprehensions. -/
namespace Av
open PySem L2

/-! ### while -/
/-- so many turns at most -/
def whileN (c : M Bool) (b : MS) : Nat → MS
  | 0 => fun _ => none
  | n + 1 => fun ρ => match c ρ with
    | some (.ok true, ρ1) => (match b ρ1 with
      | some (.nx, ρ2) => whileN c b n ρ2
      | some (.ct, ρ2) => whileN c b n ρ2
      | some (.bk, ρ2) => some (.nx, ρ2)
      | some (.rt s, ρ2) => some (.rt s, ρ2)
      | some (.er k ns xs, ρ2) => some (.er k ns xs, ρ2)
      | none => none)
    | some (.ok false, ρ1) => some (.nx, ρ1)
    | some (.er k ns xs, ρ1) => some (.er k ns xs, ρ1)
    | none => none
theorem whileN_succ {c : M Bool} {b : MS} : ∀ {n : Nat} {ρ : Env} {r : Fl × Env}, whileN c b n ρ = some r → whileN c b (n + 1) ρ = some r
  | 0, _, _, h => by cases h
  | n + 1, ρ, r, h => by
    unfold whileN at h ⊢
    cases e : c ρ with
    | none => rw [e] at h; cases h
    | some p =>
      obtain ⟨o, ρ1⟩ := p
      rw [e] at h
      cases o with
      | er k ns xs => exact h
      | ok t =>
        cases t with
        | false => exact h
        | true =>
          dsimp only at h ⊢
          cases e2 : b ρ1 with
          | none => rw [e2] at h; cases h
          | some p =>
            obtain ⟨fl, ρ2⟩ := p
            rw [e2] at h
            cases fl with
            | nx => exact whileN_succ h
            | ct => exact whileN_succ h
            | _ => exact h
theorem whileN_mono {c : M Bool} {b : MS} {n m : Nat} {ρ : Env} {r : Fl × Env} (h : whileN c b n ρ = some r) (l : n ≤ m) : whileN c b m ρ = some r := by
  induction l with
  | refl => exact h
  | step _ ih => exact whileN_succ ih
open Classical in
/-- as many turns as it takes -/
noncomputable def sWhile (c : M Bool) (b : MS) : MS := fun ρ => if h : ∃ n r, whileN c b n ρ = some r then some (Classical.choose (Classical.choose_spec h)) else none
theorem sWhile_eq {c : M Bool} {b : MS} {n : Nat} {ρ : Env} {r : Fl × Env} (h : whileN c b n ρ = some r) : sWhile c b ρ = some r := by
  have ex : ∃ n r, whileN c b n ρ = some r := ⟨n, r, h⟩
  unfold sWhile
  rw [dif_pos ex]
  have q := Classical.choose_spec (Classical.choose_spec ex)
  have a := whileN_mono (m := n + Classical.choose ex) h (by omega)
  have b := whileN_mono (m := n + Classical.choose ex) q (by omega)
  rw [a] at b
  exact b.symm
theorem sWhile_inv {c : M Bool} {b : MS} {ρ : Env} {r : Fl × Env} (h : sWhile c b ρ = some r) : ∃ n, whileN c b n ρ = some r := by
  unfold sWhile at h
  split at h
  · rename_i ex
    have q := Classical.choose_spec (Classical.choose_spec ex)
    rw [Option.some.inj h] at q
    exact ⟨_, q⟩
  · cases h

section
variable {X : Cx} {cl : Str → Addr} {W : WX} {Rs : List Nat} {st : Stmt} {g h : MS} {e : Expr} {f : M R} {pos : Pos} {body : List Stmt}
/-- what a loop's invariant says of slots and heap -/
structure At (X : Cx) (cl : Str → Addr) (Rs : List Nat) (σ0 : L2.St) (B H : Hp) (Z : Set') (σ : L2.St) (B' H' : Hp) (ρ : Env) (Z' : Set') : Prop where
  nx : Nx B H Z B' H' Z'
  ev : EV (gx X cl) B' H' σ ρ Z'
  kept : ∀ i ∈ Rs, σ[i]? = σ0[i]?
theorem gs_while {t : M Bool} (hc : GT X cl W e t) (hb : GSs X cl W Rs body g) (hps : ∀ {t u}, PT X e t → PSs X body u → PS X (.While e body [] pos) (tWhile t u)) : GS X cl W Rs (.While e body [] pos) (sWhile t g) := ⟨fun σ B H ρ Z fl ρ' E q D F => by
  refine ⟨_, hps pt_U pss_U, ?_⟩
  obtain ⟨n0, q⟩ := sWhile_inv q
  refine ⟨fun n σ1 H1 => ∃ B1 ρ1 Z1, At X cl Rs σ B H Z σ1 B1 H1 ρ1 Z1 ∧ whileN t g n ρ1 = some (fl, ρ'), ⟨n0, B, ρ, Z, ⟨Nx.refl, E, fun _ _ => rfl⟩, q⟩, ?_⟩
  rintro n σ1 H1 ⟨B1, ρ1, Z1, a, q1⟩
  cases n with
  | zero => cases q1
  | succ n =>
    unfold whileN at q1
    cases e1 : t ρ1 with
    | none => rw [e1] at q1; cases q1
    | some p =>
      obtain ⟨o, ρ2⟩ := p
      rw [e1] at q1
      cases o with
      | er k ns xs =>
        cases q1
        refine hc.run σ1 B1 H1 ρ1 Z1 _ _ a.ev e1 _ (fun _ q => by cases q) fun c' ns' xs' q B2 H2 Z2 n2 E2 d hd => ?_
        cases q
        exact F σ1 B2 H2 Z2 a.kept E2 (a.nx.then n2 E) d hd
      | ok b =>
        refine hc.run σ1 B1 H1 ρ1 Z1 _ _ a.ev e1 _ (fun r' er B2 H2 Z2 n2 E2 => ?_) (fun _ _ _ q => by cases q)
        cases er
        have a2 : Nx B H Z B2 H2 Z2 := a.nx.then n2 E
        cases b with
        | false =>
          cases q1
          rw [if_neg Bool.false_ne_true]
          exact F σ1 B2 H2 Z2 a.kept E2 a2
        | true =>
          rw [if_pos rfl]
          dsimp only at q1
          refine ⟨fun σ3 H3 => ∃ B3 ρ3 Z3, At X cl Rs σ B H Z σ3 B3 H3 ρ3 Z3 ∧ whileN t g n ρ3 = some (fl, ρ'), fun σ3 H3 hN => ⟨n, Nat.lt_succ_self n, hN⟩, ?_⟩
          cases e2 : g ρ2 with
          | none => rw [e2] at q1; cases q1
          | some p =>
            obtain ⟨fb, ρ3⟩ := p
            rw [e2] at q1
            refine hb.run σ1 B2 H2 ρ2 Z2 fb ρ3 E2 e2 _ fun σ3 B3 H3 Z3 k3 E3 => ?_
            have kept : ∀ i ∈ Rs, σ3[i]? = σ[i]? := fun i hi => (k3 i hi).trans (a.kept i hi)
            cases fb with
            | nx => exact fun n3 => ⟨B3, ρ3, Z3, ⟨a2.then n3 E, E3, kept⟩, q1⟩
            | ct => exact fun n3 => ⟨B3, ρ3, Z3, ⟨a2.then n3 E, E3, kept⟩, q1⟩
            | bk =>
              cases q1
              exact fun n3 => F σ3 B3 H3 Z3 kept E3 (a2.then n3 E)
            | rt s =>
              cases q1
              exact fun v f n3 => F σ3 B3 H3 Z3 kept E3 v f (a2.then n3 E)
            | er c ns xs =>
              cases q1
              exact fun n3 => F σ3 B3 H3 Z3 kept E3 (a2.then n3 E)⟩

/-! ### what is walked -/
/-- an item that comes: frozen data of the base, or a new tuple of such -/
def ItemOk (G : Gx) (B1 H : Hp) (x : V) (H' : Hp) (d : D) : Prop :=
  (H' = H ∧ DV G B1 x d) ∨ ∃ p xs es, x = .ref p ∧ H p = none ∧ H' = upd H p (.tup xs) ∧ d = .tup es ∧ DVs G B1 xs es
structure Src (G : Gx) (J : It) (B1 : Hp) (ds : List D) : Prop where
  go : ∀ (i : Nat) H, i < ds.length → Ex B1 H → J.go i H
  yld : ∀ (i : Nat) H x H' d, ds[i]? = some d → Ex B1 H → J.yld i H x H' → ItemOk G B1 H x H' d
  stop : ∀ H, Ex B1 H → J.stop ds.length H
def tUI (X : Cx) (tg iter : Expr) : TI := fun σ H R => ∃ wi, PI X tg iter wi ∧ wi σ H R
theorem pi_U {tg iter : Expr} : PI X tg iter (tUI X tg iter) := ⟨fun pins s σ H R I ⟨_, ht, h⟩ => ht.run pins s σ H R I h⟩
structure GI (X : Cx) (cl : Str → Addr) (W : WX) (tg iter : Expr) (f : M (List D)) : Prop where
  run : ∀ (σ : L2.St) (B H : Hp) (ρ : Env) (Z : Set') (res : Res (List D)) (ρ' : Env), EV (gx X cl) B H σ ρ Z → f ρ = some (res, ρ') → ∀ R : It → Hp → Prop,
    (∀ ds, res = .ok ds → ∀ J B' H' Z', Nx B H Z B' H' Z' → EV (gx X cl) B' H' σ ρ' Z' → Src (gx X cl) J B' ds → R J H') →
    (∀ c ns xs, res = .er c ns xs → ∀ B' H' Z', Nx B H Z B' H' Z' → EV (gx X cl) B' H' σ ρ' Z' → ∀ d, ErV (gx X cl) B' ns xs d → W (.ref (cl c)) d σ H') → tUI X tg iter σ H R
/-- an item's arrival -/
theorem ItemOk.come {G : Gx} {B1 B H H' : Hp} {σ : L2.St} {ρ : Env} {Z : Set'} {x : V} {d : D} (o : ItemOk G B1 H x H' d) (E : EV G B H σ ρ Z) (e : Ex B1 B) : ∃ B', New B H B' H' (fun _ => False) ∧ DV G B' x d := by
  rcases o with ⟨rfl, h⟩ | ⟨p, xs, es, rfl, hp, rfl, rfl, h⟩
  · exact ⟨B, New.refl E.sub, h.mono e⟩
  · obtain ⟨nw, q⟩ := new_tup E.sub hp (h.mono e)
    exact ⟨_, nw, q.1⟩

/-! ### for -/
def forX (m : MG) (g : MS) : List D → MS
  | [], ρ => some (.nx, ρ)
  | d :: ds, ρ => match m (.im d) ρ with
    | none => none
    | some ρ1 => match g ρ1 with
      | some (.nx, ρ2) => forX m g ds ρ2
      | some (.ct, ρ2) => forX m g ds ρ2
      | some (.bk, ρ2) => some (.nx, ρ2)
      | some (.rt s, ρ2) => some (.rt s, ρ2)
      | some (.er k ns xs, ρ2) => some (.er k ns xs, ρ2)
      | none => none
def sFor (f : M (List D)) (m : MG) (g : MS) : MS := fun ρ => match f ρ with
  | some (.ok ds, ρ1) => forX m g ds ρ1
  | some (.er c ns xs, ρ1) => some (.er c ns xs, ρ1)
  | none => none
theorem gs_for {tg iter : Expr} {f : M (List D)} {m : MG} (hps : ∀ {wi gg u}, PI X tg iter wi → PG X tg gg → PSs X body u → PS X (.For tg iter body [] pos) (tFor wi gg u)) (hi : GI X cl W tg iter f) (hg : GG X cl Rs tg m) (hb : GSs X cl W Rs body g) : GS X cl W Rs (.For tg iter body [] pos) (sFor f m g) := ⟨fun σ B H ρ Z fl ρ' E q D F => by
  refine ⟨_, hps pi_U pg_U pss_U, ?_⟩
  unfold sFor at q
  split at q
  · rename_i ds ρ1 q1
    refine hi.run σ B H ρ Z _ _ E q1 _ (fun ds' er J B1 H1 Z1 n1 E1 src => ?_) (fun _ _ _ q => by cases q)
    cases er
    refine ⟨fun i k σ2 H2 => k = ds.length - i ∧ i ≤ ds.length ∧ ∃ B2 ρ2 Z2, At X cl Rs σ B H Z σ2 B2 H2 ρ2 Z2 ∧ Ex B1 B2 ∧ forX m g (ds.drop i) ρ2 = some (fl, ρ'), ⟨ds.length, rfl, Nat.zero_le _, B1, ρ1, Z1, ⟨n1, E1, fun _ _ => rfl⟩, Ex.refl B1, q⟩, ?_⟩
    rintro i k σ2 H2 ⟨rfl, hi, B2, ρ2, Z2, a, ex, q2⟩
    by_cases hlt : i < ds.length
    · refine .inr ⟨src.go i H2 hlt (ex.trans a.ev.sub), fun σ3 H3 => i + 1 ≤ ds.length ∧ ∃ B3 ρ3 Z3, At X cl Rs σ B H Z σ3 B3 H3 ρ3 Z3 ∧ Ex B1 B3 ∧ forX m g (ds.drop (i + 1)) ρ3 = some (fl, ρ'),
        fun σ3 H3 ⟨h1, h2⟩ => ⟨ds.length - (i + 1), by omega, rfl, h1, h2⟩, fun x H3 hy => ?_⟩
      have hd : ds[i]? = some ds[i] := List.getElem?_eq_getElem hlt
      obtain ⟨B3, nw, hx⟩ := (src.yld i H2 x H3 _ hd (ex.trans a.ev.sub) hy).come a.ev ex
      have E3 := a.ev.new nw
      have a3 : Nx B H Z B3 H3 Z2 := a.nx.then ((nw.nx fun _ _ => trivial).sub fun _ z => .inr z) E
      have ex3 : Ex B1 B3 := ex.trans nw.ex
      rw [List.drop_eq_getElem_cons hlt] at q2
      unfold forX at q2
      cases e1 : m (.im ds[i]) ρ2 with
      | none => rw [e1] at q2; cases q2
      | some ρ3 =>
        rw [e1] at q2
        dsimp only at q2
        refine hg.run σ2 B3 H3 ρ2 Z2 x (.im ds[i]) (fun _ => False) ρ3 E3 ⟨hx, fun _ z => z⟩ (fun _ z => z.elim) e1 _ fun σ4 Z4 k4 E4 z4 => ?_
        have a4 : Nx B H Z B3 H3 Z4 := a3.sub fun y z => (z4 y z).elim False.elim id
        have kept4 : ∀ i ∈ Rs, σ4[i]? = σ[i]? := fun i hi => (k4 i hi).trans (a.kept i hi)
        cases e2 : g ρ3 with
        | none => rw [e2] at q2; cases q2
        | some p =>
          obtain ⟨fb, ρ5⟩ := p
          rw [e2] at q2
          refine hb.run σ4 B3 H3 ρ3 Z4 fb ρ5 E4 e2 _ fun σ5 B5 H5 Z5 k5 E5 => ?_
          have kept : ∀ i ∈ Rs, σ5[i]? = σ[i]? := fun i hi => (k5 i hi).trans (kept4 i hi)
          cases fb with
          | nx => exact fun n5 => ⟨hlt, B5, ρ5, Z5, ⟨a4.then n5 E, E5, kept⟩, ex3.trans n5.ex, q2⟩
          | ct => exact fun n5 => ⟨hlt, B5, ρ5, Z5, ⟨a4.then n5 E, E5, kept⟩, ex3.trans n5.ex, q2⟩
          | bk =>
            cases q2
            exact fun n5 => F σ5 B5 H5 Z5 kept E5 (a4.then n5 E)
          | rt s =>
            cases q2
            exact fun v f n5 => F σ5 B5 H5 Z5 kept E5 v f (a4.then n5 E)
          | er c ns xs =>
            cases q2
            exact fun n5 => F σ5 B5 H5 Z5 kept E5 (a4.then n5 E)
    · have e : i = ds.length := by omega
      subst e
      rw [List.drop_length] at q2
      cases q2
      exact .inl ⟨src.stop H2 (ex.trans a.ev.sub), F σ2 B2 H2 Z2 a.kept a.ev a.nx⟩
  · rename_i c ns xs ρ1 q1
    cases q
    refine hi.run σ B H ρ Z _ _ E q1 _ (fun _ q => by cases q) fun c' ns' xs' q B1 H1 Z1 n1 E1 d hd => ?_
    cases q
    exact F σ B1 H1 Z1 (fun _ _ => rfl) E1 n1 d hd
  · cases q⟩
end
end Av
set_option Elab.async false
set_option linter.all false
set_option maxRecDepth 100000
set_option maxHeartbeats 2000000
/-! List comprehensions. -/
namespace Av
open PySem L2

def wipeE (ρ : Env) : List Nat → Env
  | [] => ρ
  | v :: vs => (wipeE ρ vs).set v none
def restore (ρ0 ρ : Env) : List Nat → Env
  | [] => ρ
  | v :: vs => match ρ0[v]? with
    | some (some (.im d)) => (restore ρ0 ρ vs).set v (some (.im d))
    | _ => restore ρ0 ρ vs
/-- the turns of a comprehension: what is made so far -/
def compX (n : Nat) (m : MG) (t : M Bool) (f : M R) (vs : List Nat) : List D → List S → Env → Option (List S × Env)
  | [], acc, ρ => some (acc, ρ)
  | d :: ds, acc, ρ => match m (.im d) ρ with
    | none => none
    | some ρ1 => if ρ1.length = n then (match t ρ1 with
      | some (.ok true, ρ2) => (match f ρ2 with
        | some (.ok (.t s), ρ3) => if acc.length < 100000 then compX n m t f vs ds (acc ++ [s]) (wipeE ρ3 vs) else none
        | _ => none)
      | some (.ok false, ρ2) => compX n m t f vs ds acc (wipeE ρ2 vs)
      | _ => none) else none
def xComp (n : Nat) (fi : M (List D)) (m : MG) (t : M Bool) (f : M R) (vs : List Nat) : M R := fi.bind fun ds ρ => if ρ.length = n then (match compX n m t f vs ds [] (wipeE ρ vs) with
  | some (acc, ρ2) => some (.ok (.t (.lst acc)), restore ρ ρ2 vs)
  | none => none) else none
def others (n : Nat) (vs : List Nat) : List Nat := (List.range n).filter fun i => !vs.contains i

section
variable {G : Gx} {B H B' H' : Hp} {σ σ' : L2.St} {ρ : Env} {Z : Set'}
theorem EV.other (E : EV G B H σ ρ Z) (hl : σ'.length = σ.length) (k : ∀ (i : Nat) s, ρ[i]? = some (some s) → σ'[i]? = σ[i]?) : EV G B H σ' ρ Z := by
  obtain ⟨fps, h1, h2, h3, h4⟩ := E.slots
  refine ⟨hl.trans E.len, E.sub, fps, fun i s hi => ?_, h2, h3, h4⟩
  obtain ⟨v, e, hv⟩ := h1 i s hi
  exact ⟨v, (k i s hi).trans e, hv⟩
theorem wipeE_len : ∀ vs : List Nat, (wipeE ρ vs).length = ρ.length
  | [] => rfl
  | v :: vs => by
    show ((wipeE ρ vs).set v none).length = _
    rw [List.length_set, wipeE_len vs]
theorem wipeE_get {i : Nat} {s : S} : ∀ {vs : List Nat}, (wipeE ρ vs)[i]? = some (some s) → ρ[i]? = some (some s) ∧ i ∉ vs
  | [], h => ⟨h, by simp⟩
  | v :: vs, h => by
    have h' : ((wipeE ρ vs).set v none)[i]? = some (some s) := h
    by_cases n : v = i
    · subst n
      by_cases l : v < (wipeE ρ vs).length
      · rw [List.getElem?_set_self l] at h'
        cases h'
      · rw [List.getElem?_eq_none (by simpa using l)] at h'
        cases h'
    · rw [List.getElem?_set_ne n] at h'
      obtain ⟨h1, h2⟩ := wipeE_get h'
      exact ⟨h1, by simp only [List.mem_cons, not_or]; exact ⟨fun e => n e.symm, h2⟩⟩
theorem wipe_get {i : Nat} : ∀ {vs : List Nat}, i ∉ vs → (wipe σ vs)[i]? = σ[i]?
  | [], _ => rfl
  | v :: vs, h => by
    show ((wipe σ vs).set v none)[i]? = _
    have h1 : i ≠ v := fun e => h (e ▸ List.mem_cons_self ..)
    rw [List.getElem?_set_ne (Ne.symm h1)]
    exact wipe_get fun z => h (List.mem_cons_of_mem _ z)
theorem EV.wipe (E : EV G B H σ ρ Z) : ∀ vs : List Nat, ∃ Z', EV G B H σ (wipeE ρ vs) Z' ∧ ∀ a, Z' a → Z a
  | [] => ⟨Z, E, fun _ z => z⟩
  | v :: vs => by
    obtain ⟨Z1, E1, h1⟩ := EV.wipe E vs
    obtain ⟨Z2, E2, h2⟩ := E1.clear v
    exact ⟨Z2, E2, fun a z => h1 a (h2 a z)⟩
theorem EV.wiped (E : EV G B H σ ρ Z) (vs : List Nat) : ∃ Z', EV G B H (L2.wipe σ vs) (wipeE ρ vs) Z' ∧ ∀ a, Z' a → Z a := by
  obtain ⟨Z', E', h⟩ := E.wipe vs
  exact ⟨Z', E'.other (wipe_length σ vs) fun i s hi => wipe_get (wipeE_get hi).2, h⟩
/-- the outer slots come back -/
theorem EV.back {ρ0 : Env} {B0 H0 : Hp} {Z0 : Set'} (E0 : EV G B0 H0 σ ρ0 Z0) (ex : Ex B0 B) : ∀ (vs : List Nat), (∀ v ∈ vs, ∀ s, ρ[v]? ≠ some (some s)) → EV G B H σ ρ Z → vs.Nodup → ∃ Z', EV G B H σ (restore ρ0 ρ vs) Z' ∧ (∀ a, Z' a → Z a) ∧ ∀ j, j ∉ vs → (restore ρ0 ρ vs)[j]? = ρ[j]?
  | [], _, E, _ => ⟨Z, E, fun _ z => z, fun _ _ => rfl⟩
  | v :: vs, hn, E, nd => by
    obtain ⟨nv, nd'⟩ := List.nodup_cons.mp nd
    obtain ⟨Z1, E1, z1, k1⟩ := EV.back E0 ex vs (fun w hw => hn w (List.mem_cons_of_mem _ hw)) E nd'
    unfold restore
    split
    · rename_i d hd
      obtain ⟨u, f, e1, h1, _⟩ := E0.get hd
      have hv : ∀ s, (restore ρ0 ρ vs)[v]? ≠ some (some s) := fun s q => by
        rw [k1 v nv] at q
        exact hn v (List.mem_cons_self ..) s q
      have hl : v < (restore ρ0 ρ vs).length := by
        rw [← E1.len]
        exact (List.getElem?_eq_some_iff.mp e1).1
      have E2 := E1.put (s := .im d) (v := u) (f := fun _ => False) hl hv ⟨h1.1.mono ex, fun _ z => z⟩ fun _ z => z.elim
      rw [set_self e1] at E2
      refine ⟨_, E2, fun a z => z.elim False.elim (z1 a), fun j hj => ?_⟩
      have n : j ≠ v := fun e => hj (e ▸ List.mem_cons_self ..)
      rw [List.getElem?_set_ne (Ne.symm n)]
      exact k1 j fun z => hj (List.mem_cons_of_mem _ z)
    · exact ⟨Z1, E1, z1, fun j hj => k1 j fun z => hj (List.mem_cons_of_mem _ z)⟩
theorem others_kept {n : Nat} {vs : List Nat} {σ2 : L2.St} (hn : σ.length = n) (h2 : σ2.length = n) (k : ∀ i ∈ others n vs, σ2[i]? = (L2.wipe σ vs)[i]?) : L2.wipe σ2 vs = L2.wipe σ vs := by
  refine List.ext_getElem? fun i => ?_
  by_cases hv : i ∈ vs
  · have none_at : ∀ {τ : L2.St} (us : List Nat), i ∈ us → i < τ.length → (L2.wipe τ us)[i]? = some none := fun {τ} us => by
      induction us with
      | nil => intro h; cases h
      | cons u us ih =>
        intro h hl
        show ((L2.wipe τ us).set u none)[i]? = some none
        by_cases e : u = i
        · subst e
          exact List.getElem?_set_self (by rw [wipe_length]; exact hl)
        · rw [List.getElem?_set_ne e]
          exact ih ((List.mem_cons.mp h).resolve_left fun z => e z.symm) hl
    by_cases hl : i < n
    · rw [none_at vs hv (by rw [h2]; exact hl), none_at vs hv (by rw [hn]; exact hl)]
    · rw [List.getElem?_eq_none (by rw [wipe_length]; omega), List.getElem?_eq_none (by rw [wipe_length]; omega)]
  · rw [wipe_get hv, wipe_get hv]
    by_cases hl : i < n
    · have hm : i ∈ others n vs := List.mem_filter.mpr ⟨List.mem_range.mpr hl, by simp [hv]⟩
      rw [k i hm, wipe_get hv]
    · rw [List.getElem?_eq_none (by omega), List.getElem?_eq_none (by omega)]
end

section
variable {X : Cx} {cl : Str → Addr} {W : WX} {elt tg iter : Expr} {ifs : List Expr} {scope : Scope} {own : List (Str × Nat)} {pos spos : Pos} {fi : M (List D)} {m : MG} {t : M Bool} {f : M R}
abbrev W0 : WX := fun _ _ _ _ => False
/-- the block's contexts -/
abbrev blk (X : Cx) (scope : Scope) (s : Shared) (H : Hp) (C : Addr) (c : List (Str × Addr)) (fp : List Addr) : Cx := X.blk s H scope (compEnvC scope c C X.env) fp
def tUBE (X : Cx) (scope : Scope) (e : Expr) : TE := fun σ H Q => ∀ s H0 C c fp, tU (blk X scope s H0 C c fp) e σ H Q
def tUBG (X : Cx) (scope : Scope) (e : Expr) : TG := fun v σ H Q => ∀ s H0 C c fp, tUG (blk X scope s H0 C c fp) e v σ H Q
def tUBT (X : Cx) (scope : Scope) (es : List Expr) : TT := fun σ H Q => ∀ s H0 C c fp, ∃ t, PTs (blk X scope s H0 C c fp) es t ∧ t σ H Q
/-- the tests of a comprehension -/
structure GTs (X : Cx) (cl : Str → Addr) (W : WX) (es : List Expr) (f : M Bool) : Prop where
  run : ∀ (σ : L2.St) (B H : Hp) (ρ : Env) (Z : Set') (res : Res Bool) (ρ' : Env), EV (gx X cl) B H σ ρ Z → f ρ = some (res, ρ') → ∀ Q : Bool → Hp → Prop,
    (∀ b, res = .ok b → ∀ B' H' Z', Nx B H Z B' H' Z' → EV (gx X cl) B' H' σ ρ' Z' → Q b H') →
    (∀ c ns xs, res = .er c ns xs → ∀ B' H' Z', Nx B H Z B' H' Z' → EV (gx X cl) B' H' σ ρ' Z' → ∀ d, ErV (gx X cl) B' ns xs d → W (.ref (cl c)) d σ H') → ∃ t, PTs X es t ∧ t σ H Q
def tTrue : M Bool := M.ret true
theorem gts_nil : GTs X cl W [] tTrue := ⟨fun σ B H ρ Z res ρ' E e Q k _ => by
  cases e
  exact ⟨_, pts_nil, k _ rfl B H Z Nx.refl E⟩⟩
theorem gts_one {c : Expr} (h : GT X cl W c t) : GTs X cl W [c] t := ⟨fun σ B H ρ Z res ρ' E e Q k ke =>
  ⟨_, pts_one pt_U, h.run σ B H ρ Z res ρ' E e Q k ke⟩⟩
/-- the new list of a comprehension, while it grows -/
theorem comp_turns {n : Nat} {vs : List Nat} {G : Gx} {B1 H1 : Hp} {σ : L2.St} {Q : VK} {J : It} {Dl : Addr} {ds : List D} {te : TE} {tt : TT} {gg : TG} (hn : σ.length = n)
    (hg : ∀ (σ : L2.St) (B H : Hp) (ρ : Env) (Z : Set') (v : V) (d : D) (ρ' : Env), EV G B H σ ρ Z → DV G B v d → m (.im d) ρ = some ρ' → ∀ Q : L2.St → Hp → Prop, (∀ σ' Z', (∀ i ∈ others n vs, σ'[i]? = σ[i]?) → EV G B H σ' ρ' Z' → (∀ a, Z' a → Z a) → Q σ' H) → gg v σ H Q)
    (ht : ∀ (σ : L2.St) (B H : Hp) (ρ : Env) (Z : Set') (b : Bool) (ρ' : Env), EV G B H σ ρ Z → t ρ = some (.ok b, ρ') → ∀ Q : Bool → Hp → Prop, (∀ B' H' Z', Nx B H Z B' H' Z' → EV G B' H' σ ρ' Z' → Q b H') → tt σ H Q)
    (he : ∀ (σ : L2.St) (B H : Hp) (ρ : Env) (Z : Set') (s : S) (ρ' : Env), EV G B H σ ρ Z → f ρ = some (.ok (.t s), ρ') → ∀ Q : VK, (∀ v B' H' Z' fp, Nx B H Z B' H' (Or' fp Z') → EV G B' H' σ ρ' Z' → SV G B' H' v s fp → Apart fp Z' → Q v H') → te σ H Q)
    (src : Src G J B1 ds) {ρ1 : Env} {Z1 : Set'} (E1 : EV G B1 H1 (wipe σ vs) ρ1 Z1) (hD : H1 Dl = none) {accF : List S} {ρ2 : Env} (q : compX n m t f vs ds [] ρ1 = some (accF, ρ2))
    (k : ∀ B' H' Z' fp, Nx B1 H1 Z1 B' H' (Or' fp Z') → EV G B' H' (wipe σ vs) ρ2 Z' → SV G B' H' (.ref Dl) (.lst accF) fp → Apart fp Z' → Q (.ref Dl) H') :
    ∃ W : Nat → Nat → Hp → Prop, (∃ m, W 0 m (upd H1 Dl (.lst []))) ∧ ∀ i m H, W i m H →
      (J.stop i H ∧ Q (.ref Dl) H) ∨ (J.go i H ∧ ∃ N : Hp → Prop, (∀ H', N H' → ∃ m', m' < m ∧ W (i + 1) m' H') ∧ ∀ x H', J.yld i H x H' → gg x (wipe σ vs) H' fun σ2 H2 => wipe σ2 vs = wipe σ vs ∧ tt σ2 H2 fun b H3 =>
        if b = true then te σ2 H3 fun y H4 => ∃ acc, H4 Dl = some (.lst acc) ∧ acc.length < sizeLine ∧ N (upd H4 Dl (.lst (acc ++ [y]))) else N H3) := by
  have bD : B1 Dl = none := fresh_back E1.sub hD
  -- the list at Dl holds acc, apart from all else
  let I : Nat → Hp → Prop := fun i H => i ≤ ds.length ∧ ∃ B ρ Z acc vacc fa, Nx B1 H1 Z1 B H (Or' (fun a => a = Dl ∨ fa a) Z) ∧ EV G B H (wipe σ vs) ρ Z ∧ H Dl = some (.lst vacc) ∧ B Dl = none ∧ SVs G B H vacc acc fa ∧ ¬ fa Dl ∧ Apart (fun a => a = Dl ∨ fa a) Z ∧ compX n m t f vs (ds.drop i) acc ρ = some (accF, ρ2)
  refine ⟨fun i k H => k = ds.length - i ∧ I i H, ⟨ds.length, rfl, Nat.zero_le _, B1, ρ1, Z1, [], [], fun _ => False, ?_, ?_, upd_same, bD, ⟨rfl, fun _ z => z⟩, fun z => z, ?_, q⟩, ?_⟩
  · refine ⟨Ex.refl B1, fun a o h _ => ⟨Ex.new hD a o h, rfl⟩, fun a z => ?_⟩
    rcases z with (z | z) | z
    · exact .inr (z ▸ hD)
    · exact z.elim
    · exact .inl z
  · refine E1.mono (Ex.refl B1) (fun a o h => Ex.new hD a o (E1.sub a o h)) fun a ha => ⟨?_, (E1.own a ha).1⟩
    obtain ⟨o, ho⟩ := E1.there a ha
    exact upd_ne (ne_of_none ho hD)
  · rintro a (rfl | z) y
    · obtain ⟨o, ho⟩ := E1.there a y
      rw [hD] at ho
      cases ho
    · exact z
  rintro i k0 H ⟨rfl, hi, B, ρ, Z, acc, vacc, fa, nx, E, hl, hb, hacc, nfa, ap, q2⟩
  by_cases hlt : i < ds.length
  · have ex : Ex B1 B := nx.ex
    refine .inr ⟨src.go i H hlt (ex.trans E.sub), I (i + 1), fun H' h => ⟨ds.length - (i + 1), by omega, rfl, h⟩, fun x H' hy => ?_⟩
    have hd : ds[i]? = some ds[i] := List.getElem?_eq_getElem hlt
    obtain ⟨B', nw, hx⟩ := (src.yld i H x H' _ hd (ex.trans E.sub) hy).come E ex
    have E' := E.new nw
    rw [List.drop_eq_getElem_cons hlt] at q2
    unfold compX at q2
    cases e1 : m (.im ds[i]) ρ with
    | none => rw [e1] at q2; cases q2
    | some ρ3 =>
      rw [e1] at q2
      dsimp only at q2
      refine hg (wipe σ vs) B' H' ρ Z x ds[i] ρ3 E' hx e1 _ fun σ3 Z3 k3 E3 z3 => ?_
      split at q2
      · rename_i hl3
        have l3 : σ3.length = n := E3.len.trans hl3
        have hw : wipe σ3 vs = wipe σ vs := others_kept hn l3 k3
        refine ⟨hw, ?_⟩
        have nxW : Nx B1 H1 Z1 B' H' (Or' (fun a => a = Dl ∨ fa a) Z3) := nx.trans ⟨nw.ex, fun a o h _ => ⟨nw.kp a o h, nw.bs a o h⟩, fun a z => .inl (z.elim .inl fun y => .inr (z3 a y))⟩ E1.there
        have ap3 : Apart (fun a => a = Dl ∨ fa a) Z3 := fun a z y => ap a z (z3 a y)
        have hl' : H' Dl = some (.lst vacc) := nw.kp _ _ hl
        have hb' : B' Dl = none := (nw.bs _ _ hl).trans hb
        have hacc' : SVs G B' H' vacc acc fa := hacc.mono nw.ex fun a ha => by
          obtain ⟨h1, o, ho⟩ := hacc.own a ha
          exact ⟨(nw.kp a o ho).trans ho.symm, (nw.bs a o ho).trans h1⟩
        -- a step of the block leaves the list as it is
        have stay : ∀ {B2 H2 : Hp} {Z2 : Set'}, Nx B' H' Z3 B2 H2 Z2 → H2 Dl = some (.lst vacc) ∧ B2 Dl = none ∧ SVs G B2 H2 vacc acc fa ∧ Apart (fun a => a = Dl ∨ fa a) Z2 ∧ Nx B1 H1 Z1 B2 H2 (Or' (fun a => a = Dl ∨ fa a) Z2) := fun {B2 H2 Z2} n2 => by
          have s1 := n2.fr Dl _ hl' (ap3 Dl (.inl rfl))
          have own : ∀ a, (a = Dl ∨ fa a) → ∃ o, H' a = some o := fun a z => z.elim (fun e => ⟨_, e ▸ hl'⟩) fun z => (hacc'.own a z).2
          refine ⟨s1.1, s1.2.trans hb', hacc'.pass n2 fun a ha => ap3 a (.inr ha), n2.apart ap3 own, nxW.trans ⟨n2.ex, fun a o h z => n2.fr a o h fun y => z (.inr y), fun a z => ?_⟩ E1.there⟩
          rcases z with z | z
          · exact .inl (.inl z)
          · exact (n2.gr a z).elim (fun y => .inl (.inr y)) .inr
        split at q2
        · rename_i ρ4 e2
          refine ht σ3 B' H' ρ3 Z3 true ρ4 E3 e2 _ fun B4 H4 Z4 n4 E4 => ?_
          rw [if_pos rfl]
          split at q2
          · rename_i s ρ5 e3
            split at q2
            · rename_i hz
              refine he σ3 B4 H4 ρ4 Z4 s ρ5 E4 e3 _ fun v B5 H5 Z5 fp n5 E5 hv apv => ?_
              have n35 : Nx B' H' Z3 B5 H5 (Or' fp Z5) := n4.then n5 E3
              obtain ⟨g1, g2, g3, g4, g5⟩ := stay n35
              refine ⟨vacc, g1, by rw [g3.length]; exact sz_lt hz, ?_⟩
              have apF : Apart (fun a => a = Dl ∨ fa a) fp := fun a z y => g4 a z (.inl y)
              have nfp : ¬ fp Dl := fun z => apF Dl (.inl rfl) z
              have nz5 : ¬ Z5 Dl := fun z => g4 Dl (.inl rfl) (.inr z)
              have fresh : ∀ a o, H5 a = some o → a ≠ Dl → upd H5 Dl (.lst (vacc ++ [v])) a = some o := fun a o h n => (upd_ne n).trans h
              have sv2 : SVs G B5 (upd H5 Dl (.lst (vacc ++ [v]))) (vacc ++ [v]) (acc ++ [s]) (fun a => fa a ∨ fp a) := by
                refine (g3.append (SVs.one hv) fun a ha z => apF a (.inr ha) z).mono (Ex.refl B5) fun a z => ?_
                refine ⟨upd_ne fun e => ?_, ?_⟩
                · subst e
                  exact z.elim nfa nfp
                · exact z.elim (fun y => (g3.own a y).1) fun y => (hv.own a y).1
              obtain ⟨Z6, E6, z6⟩ := E5.wiped vs
              rw [hw] at E6
              have sub5 : Ex B5 (upd H5 Dl (.lst (vacc ++ [v]))) := fun a o h => by
                have n : a ≠ Dl := fun e => by rw [e, g2] at h; cases h
                exact fresh a o (E5.sub a o h) n
              have E7 : EV G B5 (upd H5 Dl (.lst (vacc ++ [v]))) (wipe σ vs) (wipeE ρ5 vs) Z6 := E6.mono (Ex.refl B5) sub5 fun a ha => ⟨upd_ne fun e => nz5 (e ▸ z6 a ha), (E6.own a ha).1⟩
              refine ⟨hlt, B5, wipeE ρ5 vs, Z6, acc ++ [s], vacc ++ [v], fun a => fa a ∨ fp a, ?_, E7, upd_same, g2, sv2, fun z => z.elim nfa nfp, fun a z y => ?_, q2⟩
              · refine ⟨g5.ex, fun a o h z => ?_, fun a z => ?_⟩
                · obtain ⟨h1, h2⟩ := g5.fr a o h z
                  refine ⟨fresh a o h1 fun e => ?_, h2⟩
                  rw [e, hD] at h
                  cases h
                · rcases z with (z | z | z) | z
                  · exact g5.gr a (.inl (.inl z))
                  · exact g5.gr a (.inl (.inr z))
                  · exact g5.gr a (.inr (.inl z))
                  · exact g5.gr a (.inr (.inr (z6 a z)))
              · have y5 := z6 a y
                rcases z with z | z | z
                · exact g4 a (.inl z) (.inr y5)
                · exact g4 a (.inr z) (.inr y5)
                · exact apv a z y5
            · cases q2
          · cases q2
        · rename_i ρ4 e2
          refine ht σ3 B' H' ρ3 Z3 false ρ4 E3 e2 _ fun B4 H4 Z4 n4 E4 => ?_
          rw [if_neg Bool.false_ne_true]
          obtain ⟨g1, g2, g3, g4, g5⟩ := stay n4
          obtain ⟨Z6, E6, z6⟩ := E4.wiped vs
          rw [hw] at E6
          exact ⟨hlt, B4, wipeE ρ4 vs, Z6, acc, vacc, fa, g5.sub fun a z => z.elim .inl fun y => .inr (z6 a y), E6, g1, g2, g3, nfa, fun a z y => g4 a z (z6 a y), q2⟩
        · cases q2
      · cases q2
  · have e : i = ds.length := by omega
    subst e
    rw [List.drop_length] at q2
    cases q2
    exact .inl ⟨src.stop H (nx.ex.trans E.sub), k B H Z (fun a => a = Dl ∨ fa a) nx E ⟨Dl, vacc, fa, rfl, hl, hb, hacc, nfa, fun _ => Iff.rfl⟩ ap⟩

theorem TOk.comp {n : Nat} (nd : (own.map (·.2)).Nodup) (hi : GI X cl W tg iter fi)
    (hg : ∀ s H C c fp, GG (blk X scope s H C c fp) cl (others n (own.map (·.2))) tg m) (ht : ∀ s H C c fp, GTs (blk X scope s H C c fp) cl W0 ifs t) (he : ∀ s H C c fp, GE (blk X scope s H C c fp) cl W0 elt f) :
    TOk X cl W (tLc (tUI X tg iter) (tUBG X scope tg) (tUBT X scope ifs) (tUBE X scope elt) (own.map (·.2))) (xComp n fi m t f (own.map (·.2))) := ⟨fun σ B H ρ Z res ρ' E e1 Q k ke => by
  rcases bind_ok e1 with ⟨ds, ρ1, e2, e3⟩ | ⟨c, ns, xs, e2, e3⟩
  · split at e3
    · rename_i hl
      cases e4 : compX n m t f (own.map (·.2)) ds [] (wipeE ρ1 (own.map (·.2))) with
      | none => rw [e4] at e3; cases e3
      | some p =>
        obtain ⟨acc, ρ2⟩ := p
        rw [e4] at e3
        cases e3
        refine hi.run σ B H ρ Z _ _ E e2 _ (fun ds' er J B1 H1 Z1 n1 E1 src => ?_) (fun _ _ _ q => by cases q)
        cases er
        intro Dl hD
        obtain ⟨Zw, Ew, zw⟩ := E1.wiped (own.map (·.2))
        have hn : σ.length = n := E1.len.trans hl
        refine comp_turns hn (fun σ B H ρ Z v d ρ' E hv q Q k => ?_) (fun σ B H ρ Z b ρ' E q Q k => ?_) (fun σ B H ρ Z s ρ' E q Q k => ?_) src Ew hD e4 fun B' H' Z' fp n2 E2 hv ap => ?_
        · intro s H0 C c fp
          exact (hg s H0 C c fp).run σ B H ρ Z v (.im d) (fun _ => False) ρ' E ⟨hv, fun _ z => z⟩ (fun _ z => z.elim) q Q fun σ' Z' k1 E1 z1 => k σ' Z' k1 E1 fun a z => (z1 a z).elim False.elim id
        · intro s H0 C c fp
          exact (ht s H0 C c fp).run σ B H ρ Z _ _ E q Q (fun b eb B' H' Z' n E => by cases eb; exact k B' H' Z' n E) fun _ _ _ q => by cases q
        · intro s0 H0 C c fp
          exact (he s0 H0 C c fp).run σ B H ρ Z _ _ E q Q (fun r er v B' H' Z' fp n E rv ap => by cases er; exact k v B' H' Z' fp n E rv ap) fun _ _ _ q => by cases q
        · -- the outer slots again
          have hz : ∀ v ∈ own.map (·.2), ∀ s, ρ2[v]? ≠ some (some s) := by
            have all : ∀ (ds : List D) (a0 : List S) (ρ0 : Env), (∀ v ∈ own.map (·.2), ∀ s, ρ0[v]? ≠ some (some s)) → ∀ {r}, compX n m t f (own.map (·.2)) ds a0 ρ0 = some r → ∀ v ∈ own.map (·.2), ∀ s, r.2[v]? ≠ some (some s) := by
              intro ds
              induction ds with
              | nil => intro a0 ρ0 h0 r hr; cases hr; exact h0
              | cons d ds ih =>
                intro a0 ρ0 h0 r hr
                unfold compX at hr
                split at hr
                · cases hr
                · split at hr
                  · split at hr
                    · split at hr
                      · split at hr
                        · exact ih _ _ (fun v hv s q => (wipeE_get q).2 hv) hr
                        · cases hr
                      · cases hr
                    · exact ih _ _ (fun v hv s q => (wipeE_get q).2 hv) hr
                    · cases hr
                  · cases hr
            exact all ds [] _ (fun v hv s q => (wipeE_get q).2 hv) e4
          have E3 : EV (gx X cl) B' H' σ ρ2 Z' := E2.other (wipe_length σ _).symm fun i s hi => (wipe_get fun z => hz i z s hi).symm
          obtain ⟨Z4, E4, z4, _⟩ := EV.back E1 n2.ex (own.map (·.2)) hz E3 nd
          refine k _ rfl (.ref Dl) B' H' Z4 fp ?_ E4 hv fun a h z => ap a h (z4 a z)
          refine n1.trans ⟨n2.ex, fun a o h z => n2.fr a o h fun y => z (zw a y), fun a z => ?_⟩ E.there
          rcases z with z | z
          · exact (n2.gr a (.inl z)).elim (fun y => .inl (zw a y)) .inr
          · exact (n2.gr a (.inr (z4 a z))).elim (fun y => .inl (zw a y)) .inr
    · cases e3
  · subst e3
    exact hi.run σ B H ρ Z _ _ E e2 _ (fun _ q => by cases q) fun _ _ _ q => by cases q; exact ke _ _ _ rfl⟩
theorem pe_block (hc : X.calm = true) (hN : X.N.Nodup) (ok : BlkOk X.N X.env.scope scope own) (hs : ∀ x, foldedSetIterable iter X.env x = pure x := by intro _; rfl) :
    PE X (.ListComp elt [⟨tg, iter, ifs, 0⟩] scope pos) (tLc (tUI X tg iter) (tUBG X scope tg) (tUBT X scope ifs) (tUBE X scope elt) (own.map (·.2))) :=
  pe_lc hc hN pi_U ok (fun s H C c fp => ⟨fun pins s0 σ H0 v u Q I r h => pg_U.run pins s0 σ H0 v u Q I r (h s H C c fp)⟩)
    (fun s H C c fp => ⟨fun pins s0 σ H0 Q I h => by obtain ⟨t, ht, q⟩ := h s H C c fp; exact ht.run pins s0 σ H0 Q I q⟩) (fun s H C c fp => ⟨fun pins s0 σ H0 Q I h => pe_U.run pins s0 σ H0 Q I (h s H C c fp)⟩) hs
theorem ps_block {i : Nat} {y : Str} {py : Pos} (hc : X.calm = true) (hN : X.N.Nodup) (hy : X.N[i]? = some y) (hyl : X.env.scope.names.lookup y = some .local)
    (hsw : swapsWith (.ListComp elt [⟨tg, iter, ifs, 0⟩] scope pos) (some (.Name y py)) spos.line X.env = pure true) (ok : BlkOk X.N X.env.scope scope own) (hs : ∀ x, foldedSetIterable iter X.env x = pure x := by intro _; rfl) :
    PS X (.Assign [.Name y py] (.ListComp elt [⟨tg, iter, ifs, 0⟩] scope pos) spos) (tAsg (tLc (tUI X tg iter) (tUBG X scope tg) (tUBT X scope ifs) (tUBE X scope elt) (own.map (·.2))) (gName i)) :=
  ps_setLc hc hN hy hyl hsw pi_U ok (fun s H C c fp => ⟨fun pins s0 σ H0 v u Q I r h => pg_U.run pins s0 σ H0 v u Q I r (h s H C c fp)⟩)
    (fun s H C c fp => ⟨fun pins s0 σ H0 Q I h => by obtain ⟨t, ht, q⟩ := h s H C c fp; exact ht.run pins s0 σ H0 Q I q⟩) (fun s H C c fp => ⟨fun pins s0 σ H0 Q I h => pe_U.run pins s0 σ H0 Q I (h s H C c fp)⟩) hs
/-- [elt for tg in iter if ..] as a value -/
theorem ge_comp {n : Nat} (hc : X.calm = true) (hN : X.N.Nodup) (ok : BlkOk X.N X.env.scope scope own) (nd : (own.map (·.2)).Nodup) (hi : GI X cl W tg iter fi)
    (hg : ∀ s H C c fp, GG (blk X scope s H C c fp) cl (others n (own.map (·.2))) tg m) (ht : ∀ s H C c fp, GTs (blk X scope s H C c fp) cl W0 ifs t) (he : ∀ s H C c fp, GE (blk X scope s H C c fp) cl W0 elt f) (hs : ∀ x, foldedSetIterable iter X.env x = pure x := by intro _; rfl) :
    GE X cl W (.ListComp elt [⟨tg, iter, ifs, 0⟩] scope pos) (xComp n fi m t f (own.map (·.2))) := ge_t (pe_block hc hN ok hs) (TOk.comp nd hi hg ht he)
/-- name = [elt for ..] -/
theorem gs_comp {n i : Nat} {y : Str} {py : Pos} {Rs : List Nat} (hc : X.calm = true) (hN : X.N.Nodup) (hy : X.N[i]? = some y) (hyl : X.env.scope.names.lookup y = some .local) (hr : i ∉ Rs)
    (hsw : swapsWith (.ListComp elt [⟨tg, iter, ifs, 0⟩] scope pos) (some (.Name y py)) spos.line X.env = pure true) (ok : BlkOk X.N X.env.scope scope own) (nd : (own.map (·.2)).Nodup) (hi : GI X cl W tg iter fi)
    (hg : ∀ s H C c fp, GG (blk X scope s H C c fp) cl (others n (own.map (·.2))) tg m) (ht : ∀ s H C c fp, GTs (blk X scope s H C c fp) cl W0 ifs t) (he : ∀ s H C c fp, GE (blk X scope s H C c fp) cl W0 elt f) (hs : ∀ x, foldedSetIterable iter X.env x = pure x := by intro _; rfl) :
    GS X cl W Rs (.Assign [.Name y py] (.ListComp elt [⟨tg, iter, ifs, 0⟩] scope pos) spos) (sAsg (xComp n fi m t f (own.map (·.2))) (gSlot i)) := ⟨fun σ B H ρ Z fl ρ' E q D F => by
  refine ⟨_, ps_block hc hN hy hyl hsw ok hs, ?_⟩
  have he := TOk.comp (W := W) nd hi hg ht he
  unfold sAsg sOf at q
  split at q
  · rename_i r ρ1 q1
    cases r with
    | pl i => cases q
    | t s =>
      dsimp only at q
      unfold gSlot at q
      split at q
      · rename_i hl
        cases q
        refine he.run σ B H ρ Z _ _ E q1 _ (fun r' er v B1 H1 Z1 fp n1 E1 rv ap => ?_) (fun _ _ _ q => by cases q)
        cases er
        obtain ⟨Z2, E2, hz⟩ := E1.store rv ap hl
        exact F _ B1 H1 Z2 (fun j hj => by rw [List.getElem?_set_ne]; rintro rfl; exact hr hj) E2 (n1.sub fun a z => hz a z)
      · cases q
  · rename_i c ns xs ρ1 q1
    cases q
    refine he.run σ B H ρ Z _ _ E q1 _ (fun _ q => by cases q) fun c' ns' xs' q B1 H1 Z1 n1 E1 d hd => ?_
    cases q
    exact F σ B1 H1 Z1 (fun _ _ => rfl) E1 n1 d hd
  · cases q⟩
end
end Av
set_option Elab.async false
set_option linter.all false
set_option maxRecDepth 100000
set_option maxHeartbeats 2000000
/-! What is walked: lists, tuples, texts, ranges, enumerate, zip, reversed. -/
namespace Av
open PySem L2 RZ RT

section
variable {G : Gx} {B1 : Hp}
theorem src_list {a : Addr} {vs : List V} {ds : List D} (h : SqL G.K B1 a vs) (hd : DVs G B1 vs ds) : Src G (Itl G.K a) B1 ds where
  go := fun i H hi e => by
    have hl : i < vs.length := by rw [hd.length]; exact hi
    exact ⟨vs, vs[i], ex_l e h, List.getElem?_eq_getElem hl⟩
  yld := fun i H x H' d hi e y => by
    obtain ⟨v, hv, hdv⟩ := hd.get hi
    have q := y.2 vs (ex_l e h)
    rw [hv] at q
    cases q
    exact .inl ⟨y.1, hdv⟩
  stop := fun H e => ⟨vs, ex_l e h, by rw [hd.length]; exact Nat.le_refl _⟩
theorem src_tup {a : Addr} {vs : List V} {ds : List D} (h : SqT G.K B1 a vs) (hd : DVs G B1 vs ds) : Src G (Itt G.K a) B1 ds where
  go := fun i H hi e => by
    have hl : i < vs.length := by rw [hd.length]; exact hi
    exact ⟨vs, vs[i], ex_t e h, List.getElem?_eq_getElem hl⟩
  yld := fun i H x H' d hi e y => by
    obtain ⟨v, hv, hdv⟩ := hd.get hi
    have q := y.2 vs (ex_t e h)
    rw [hv] at q
    cases q
    exact .inl ⟨y.1, hdv⟩
  stop := fun H e => ⟨vs, ex_t e h, by rw [hd.length]; exact Nat.le_refl _⟩
/-- a text's signs -/
def signs (x : Str) : List D := x.cps.toList.map fun c => .str ⟨#[c]⟩
theorem src_str {x : Str} : Src G (Its x) B1 (signs x) where
  go := fun i H hi e => by
    have : i < x.cps.size := by simpa [signs] using hi
    exact this
  yld := fun i H v H' d hi e y => by
    obtain ⟨y1, c, y2, y3⟩ := y
    unfold signs at hi
    rw [List.getElem?_map] at hi
    have e2 : x.cps.toList[i]? = some c := by simpa using y2
    rw [e2] at hi
    cases hi
    exact .inl ⟨y1, y3⟩
  stop := fun H e => by
    show x.cps.size ≤ (signs x).length
    simp [signs]
def rangeD (lo : Int) (n : Nat) : List D := (List.range n).map fun (i : Nat) => .int (lo + (i : Int))
theorem src_range {lo : Int} {n : Nat} : Src G (Itr lo n) B1 (rangeD lo n) where
  go := fun i H hi e => by
    show i < n
    simpa [rangeD] using hi
  yld := fun i H v H' d hi e y => by
    unfold rangeD at hi
    rw [List.getElem?_map] at hi
    cases q : (List.range n)[i]? with
    | none => rw [q] at hi; cases hi
    | some j =>
      rw [q] at hi
      cases hi
      have e2 : j = i := by
        have h2 := List.getElem?_eq_some_iff.mp q
        obtain ⟨h3, h4⟩ := h2
        rw [List.getElem_range] at h4
        exact h4.symm
      subst e2
      exact .inl ⟨y.1, y.2⟩
  stop := fun H e => by
    show n ≤ (rangeD lo n).length
    simp [rangeD]
def downD (hi : Int) (n : Nat) : List D := (List.range n).map fun (i : Nat) => .int (hi + (i : Int) * (-1))
theorem src_down {lo : Int} {n : Nat} : Src G (Itc lo (-1) n) B1 (downD lo n) where
  go := fun i H hi e => by
    show i < n
    simpa [downD] using hi
  yld := fun i H v H' d hi e y => by
    unfold downD at hi
    rw [List.getElem?_map] at hi
    cases q : (List.range n)[i]? with
    | none => rw [q] at hi; cases hi
    | some j =>
      rw [q] at hi
      cases hi
      have e2 : j = i := by
        obtain ⟨h3, h4⟩ := List.getElem?_eq_some_iff.mp q
        rw [List.getElem_range] at h4
        exact h4.symm
      subst e2
      exact .inl ⟨y.1, y.2⟩
  stop := fun H e => by
    show n ≤ (downD lo n).length
    simp [downD]
/-- numbered -/
def enumD : Nat → List D → List D
  | _, [] => []
  | i, d :: ds => .tup [.int i, d] :: enumD (i + 1) ds
theorem enumD_len : ∀ (ds : List D) (i : Nat), (enumD i ds).length = ds.length
  | [], _ => rfl
  | d :: ds, i => by
    show (enumD (i + 1) ds).length + 1 = _
    rw [enumD_len ds]
    rfl
theorem enumD_get : ∀ (ds : List D) (i j : Nat), (enumD i ds)[j]? = (ds[j]?).map fun d => .tup [.int ((i + j : Nat) : Int), d]
  | [], i, j => by simp [enumD]
  | d :: ds, i, 0 => by simp [enumD]
  | d :: ds, i, j + 1 => by
    show (enumD (i + 1) ds)[j]? = _
    rw [enumD_get ds (i + 1) j]
    simp only [List.getElem?_cons_succ]
    congr 1
    funext d
    congr 4
    omega
theorem src_enum {a : Addr} {vs : List V} {ds : List D} (h : SqL G.K B1 a vs) (hd : DVs G B1 vs ds) : Src G (Ite G.K a) B1 (enumD 0 ds) where
  go := fun i H hi e => by
    rw [enumD_len] at hi
    have hl : i < vs.length := by rw [hd.length]; exact hi
    exact ⟨vs, vs[i], ex_l e h, List.getElem?_eq_getElem hl⟩
  yld := fun i H x H' d hi e y => by
    rw [enumD_get] at hi
    cases q : ds[i]? with
    | none => rw [q] at hi; cases hi
    | some d0 =>
      rw [q] at hi
      cases hi
      obtain ⟨T, v, rfl, hT, rfl, hv⟩ := y
      obtain ⟨v', hv', hdv⟩ := hd.get q
      have q2 := hv vs (ex_l e h)
      rw [hv'] at q2
      cases q2
      refine .inr ⟨T, _, _, rfl, hT, rfl, rfl, ⟨_, _, rfl, ?_, _, _, rfl, hdv, rfl⟩⟩
      show V.int (i : Nat) = V.int ((0 + i : Nat) : Int)
      rw [Nat.zero_add]
  stop := fun H e => ⟨vs, ex_l e h, by rw [enumD_len, hd.length]; exact Nat.le_refl _⟩
def zipD : List D → List D → List D
  | a :: as, b :: bs => .tup [a, b] :: zipD as bs
  | _, _ => []
theorem zipD_len : ∀ (as bs : List D), (zipD as bs).length = min as.length bs.length
  | [], bs => by simp [zipD]
  | a :: as, [] => by simp [zipD]
  | a :: as, b :: bs => by
    show (zipD as bs).length + 1 = _
    rw [zipD_len as bs, List.length_cons, List.length_cons]
    omega
theorem zipD_get : ∀ (as bs : List D) (i : Nat) (d : D), (zipD as bs)[i]? = some d → ∃ a b, as[i]? = some a ∧ bs[i]? = some b ∧ d = .tup [a, b]
  | [], bs, i, d, h => by simp [zipD] at h
  | a :: as, [], i, d, h => by simp [zipD] at h
  | a :: as, b :: bs, 0, d, h => by
    simp [zipD] at h
    exact ⟨a, b, rfl, rfl, h.symm⟩
  | a :: as, b :: bs, i + 1, d, h => by
    obtain ⟨x, y, h1, h2, h3⟩ := zipD_get as bs i d (by simpa [zipD] using h)
    exact ⟨x, y, by simpa using h1, by simpa using h2, h3⟩
theorem src_zipL {a b : Addr} {vs us : List V} {ds es : List D} (h : SqL G.K B1 a vs) (hd : DVs G B1 vs ds) (h2 : SqL G.K B1 b us) (hd2 : DVs G B1 us es) : Src G (Itz G.K a b) B1 (zipD ds es) where
  go := fun i H hi e => by
    rw [zipD_len] at hi
    have hl : i < vs.length := by rw [hd.length]; omega
    have hl2 : i < us.length := by rw [hd2.length]; omega
    exact ⟨vs, us, vs[i], us[i], ex_l e h, ex_l e h2, List.getElem?_eq_getElem hl, List.getElem?_eq_getElem hl2⟩
  yld := fun i H x H' d hi e y => by
    obtain ⟨p, q, hp, hq, rfl⟩ := zipD_get ds es i d hi
    obtain ⟨T, v, u, rfl, hT, rfl, hv, hu⟩ := y
    obtain ⟨v', hv', hdv⟩ := hd.get hp
    obtain ⟨u', hu', hdu⟩ := hd2.get hq
    have q1 := hv vs (ex_l e h)
    have q2 := hu us (ex_l e h2)
    rw [hv'] at q1
    rw [hu'] at q2
    cases q1; cases q2
    exact .inr ⟨T, _, _, rfl, hT, rfl, rfl, ⟨_, _, rfl, hdv, _, _, rfl, hdu, rfl⟩⟩
  stop := fun H e => ⟨vs, us, ex_l e h, ex_l e h2, by rw [zipD_len, hd.length, hd2.length]; omega⟩
theorem src_zipT {a b : Addr} {vs us : List V} {ds es : List D} (h : SqT G.K B1 a vs) (hd : DVs G B1 vs ds) (h2 : SqT G.K B1 b us) (hd2 : DVs G B1 us es) : Src G (ItzT G.K a b) B1 (zipD ds es) where
  go := fun i H hi e => by
    rw [zipD_len] at hi
    have hl : i < vs.length := by rw [hd.length]; omega
    have hl2 : i < us.length := by rw [hd2.length]; omega
    exact ⟨vs, us, vs[i], us[i], ex_t e h, ex_t e h2, List.getElem?_eq_getElem hl, List.getElem?_eq_getElem hl2⟩
  yld := fun i H x H' d hi e y => by
    obtain ⟨p, q, hp, hq, rfl⟩ := zipD_get ds es i d hi
    obtain ⟨T, v, u, rfl, hT, rfl, hv, hu⟩ := y
    obtain ⟨v', hv', hdv⟩ := hd.get hp
    obtain ⟨u', hu', hdu⟩ := hd2.get hq
    have q1 := hv vs (ex_t e h)
    have q2 := hu us (ex_t e h2)
    rw [hv'] at q1
    rw [hu'] at q2
    cases q1; cases q2
    exact .inr ⟨T, _, _, rfl, hT, rfl, rfl, ⟨_, _, rfl, hdv, _, _, rfl, hdu, rfl⟩⟩
  stop := fun H e => ⟨vs, us, ex_t e h, ex_t e h2, by rw [zipD_len, hd.length, hd2.length]; omega⟩
theorem rev_get {α : Type} {ds : List α} {i : Nat} {d : α} (h : ds.reverse[i]? = some d) : ds[ds.length - 1 - i]? = some d := by
  have hi : i < ds.length := by
    have := (List.getElem?_eq_some_iff.mp h).1
    simpa using this
  rw [List.getElem?_reverse hi] at h
  exact h
theorem src_rev {a : Addr} {vs : List V} {ds : List D} (h : SqL G.K B1 a vs) (hd : DVs G B1 vs ds) : Src G (Itv G.K a vs.length) B1 ds.reverse where
  go := fun i H hi e => by
    rw [List.length_reverse] at hi
    have hl := hd.length
    have h2 : vs.length - 1 - i < vs.length := by omega
    exact ⟨by omega, vs, vs[vs.length - 1 - i], ex_l e h, List.getElem?_eq_getElem h2⟩
  yld := fun i H x H' d hi e y => by
    have hi' := rev_get hi
    obtain ⟨v, hv, hdv⟩ := hd.get hi'
    have q := y.2 vs (ex_l e h)
    rw [hd.length, hv] at q
    cases q
    exact .inl ⟨y.1, hdv⟩
  stop := fun H e => by
    show vs.length ≤ ds.reverse.length
    rw [List.length_reverse, hd.length]
    exact Nat.le_refl _
theorem src_revT {a : Addr} {vs : List V} {ds : List D} (h : SqT G.K B1 a vs) (hd : DVs G B1 vs ds) : Src G (ItvT G.K a vs.length) B1 ds.reverse where
  go := fun i H hi e => by
    rw [List.length_reverse] at hi
    have hl := hd.length
    have h2 : vs.length - 1 - i < vs.length := by omega
    exact ⟨by omega, vs, vs[vs.length - 1 - i], ex_t e h, List.getElem?_eq_getElem h2⟩
  yld := fun i H x H' d hi e y => by
    have hi' := rev_get hi
    obtain ⟨v, hv, hdv⟩ := hd.get hi'
    have q := y.2 vs (ex_t e h)
    rw [hd.length, hv] at q
    cases q
    exact .inl ⟨y.1, hdv⟩
  stop := fun H e => by
    show vs.length ≤ ds.reverse.length
    rw [List.length_reverse, hd.length]
    exact Nat.le_refl _
end

/-! ### a value, frozen for a walk -/
/-- a tree, or a slot's object, becomes data -/
def still (r : R) (ρ : Env) : Option (D × Env) := match r with
  | .t s => some (fz s, ρ)
  | .pl i => match ρ[i]? with
    | some (some s) => some (fz s, ρ.set i (some (.im (fz s))))
    | _ => none
section
variable {X : Cx} {cl : Str → Addr} {W : WX} {tg iter a b c e : Expr} {f fa fb fc : M R} {pos p : Pos}
theorem still_ok {G : Gx} {B H B1 H1 : Hp} {σ : L2.St} {ρ ρ1 ρ2 : Env} {Z Z1 fp : Set'} {v : V} {r : R} {d : D} (E : EV G B H σ ρ Z) (n1 : Nx B H Z B1 H1 (Or' fp Z1)) (E1 : EV G B1 H1 σ ρ1 Z1) (rv : RV G B1 H1 σ v r fp) (ap : Apart fp Z1)
    (q : still r ρ1 = some (d, ρ2)) : ∃ B2 Z2, Ex B1 B2 ∧ Nx B H Z B2 H1 Z2 ∧ EV G B2 H1 σ ρ2 Z2 ∧ DV G B2 v d := by
  cases r with
  | t s =>
    cases q
    obtain ⟨B2, x1, x2, hd, x4⟩ := SV.freeze rv E1.sub
    exact ⟨B2, Z1, x1, n1.froze x1 x4, E1.froze ap x1 x2 x4, hd⟩
  | pl i =>
    unfold still at q
    dsimp only at q
    split at q
    · rename_i s hi
      cases q
      obtain ⟨v', f, Zr, e1, h1, E2, ap2, hz⟩ := E1.out hi
      have ev : v' = v := by
        have e0 := rv.1
        rw [e1] at e0
        exact Option.some.inj (Option.some.inj e0)
      subst ev
      have hl : i < ρ1.length := (List.getElem?_eq_some_iff.mp hi).1
      obtain ⟨B2, x1, x2, hd, x4⟩ := h1.freeze E1.sub
      have E3 : EV G B2 H1 σ (ρ1.set i none) Zr := E2.mono x1 x2 fun a ha => ⟨rfl, by
        rw [x4 a fun q => ap2 a q ha]
        exact (E2.own a ha).1⟩
      have E4 := E3.put (i := i) (s := .im (fz s)) (v := v') (f := fun _ => False) (by rw [List.length_set]; exact hl) (fun s q => by
        rw [List.getElem?_set_self hl] at q
        cases q) ⟨hd, fun _ z => z⟩ fun _ z => z.elim
      rw [List.set_set, set_self e1] at E4
      refine ⟨B2, _, x1, ?_, E4, hd⟩
      refine n1.trans ⟨x1, fun a o ho nz => ⟨ho, x4 a fun q => nz (.inr ((hz a).mpr (.inl q)))⟩, fun a z => ?_⟩ E.there
      rcases z with z | z
      · exact z.elim
      · exact .inl (.inr ((hz a).mpr (.inr z)))
    · cases q
def seqD : D → Option (List D)
  | .lst ds => some ds
  | .slst ds => some ds
  | .tup ds => some ds
  | .str x => some (signs x)
  | _ => none
/-- for .. in e, e a list, a tuple, a text -/
def iSeq (f : M R) : M (List D) := f.bind fun r ρ => match still r ρ with
  | some (d, ρ1) => (match seqD d with
    | some ds => some (.ok ds, ρ1)
    | none => none)
  | none => none
theorem gi_seq (h : GE X cl W iter f) : GI X cl W tg iter (iSeq f) := ⟨fun σ B H ρ Z res ρ' E e1 R k ke => by
  rcases bind_ok e1 with ⟨r, ρ1, e2, e3⟩ | ⟨c, ns, xs, e2, e3⟩
  · cases q : still r ρ1 with
    | none => rw [q] at e3; cases e3
    | some pr =>
      obtain ⟨d, ρ2⟩ := pr
      rw [q] at e3
      dsimp only at e3
      cases d with
      | lst ds =>
        cases e3
        refine ⟨_, pi_list pe_U, h.run σ B H ρ Z _ _ E e2 _ (fun r' er v B1 H1 Z1 fp n1 E1 rv ap => ?_) (fun _ _ _ q => by cases q)⟩
        cases er
        obtain ⟨B2, Z2, x1, n2, E2, a, vs, rfl, h3, h4⟩ := still_ok E n1 E1 rv ap q
        exact ⟨a, rfl, ⟨vs, sq_of (E2.sub _ _ h3)⟩, k _ rfl _ B2 H1 Z2 n2 E2 (src_list (G := gx X cl) (sq_of h3) h4)⟩
      | slst ds =>
        cases e3
        refine ⟨_, pi_list pe_U, h.run σ B H ρ Z _ _ E e2 _ (fun r' er v B1 H1 Z1 fp n1 E1 rv ap => ?_) (fun _ _ _ q => by cases q)⟩
        cases er
        obtain ⟨B2, Z2, x1, n2, E2, a, vs, rfl, h3, h4⟩ := still_ok E n1 E1 rv ap q
        exact ⟨a, rfl, ⟨vs, ex_l E2.sub h3⟩, k _ rfl _ B2 H1 Z2 n2 E2 (src_list (G := gx X cl) h3 h4)⟩
      | tup ds =>
        cases e3
        refine ⟨_, pi_tup pe_U, h.run σ B H ρ Z _ _ E e2 _ (fun r' er v B1 H1 Z1 fp n1 E1 rv ap => ?_) (fun _ _ _ q => by cases q)⟩
        cases er
        obtain ⟨B2, Z2, x1, n2, E2, a, vs, rfl, h3, h4⟩ := still_ok E n1 E1 rv ap q
        exact ⟨a, rfl, ⟨vs, ex_t E2.sub h3⟩, k _ rfl _ B2 H1 Z2 n2 E2 (src_tup (G := gx X cl) h3 h4)⟩
      | str x =>
        cases e3
        refine ⟨_, pi_str pe_U, h.run σ B H ρ Z _ _ E e2 _ (fun r' er v B1 H1 Z1 fp n1 E1 rv ap => ?_) (fun _ _ _ q => by cases q)⟩
        cases er
        obtain ⟨B2, Z2, x1, n2, E2, hv⟩ := still_ok E n1 E1 rv ap q
        exact ⟨x, hv, k _ rfl _ B2 H1 Z2 n2 E2 src_str⟩
      | _ => cases e3
  · subst e3
    exact ⟨_, pi_list pe_U, h.run σ B H ρ Z _ _ E e2 _ (fun _ q => by cases q) fun _ _ _ q => by cases q; exact ke _ _ _ rfl⟩⟩

/-! ### range -/
def smallI (i : Int) : Bool := decide (-(2 ^ 61) ≤ i ∧ i < 2 ^ 61)
def intsR (ρ : Env) : List R → Option (List Int)
  | [] => some []
  | r :: rs => match rd ρ r, intsR ρ rs with
    | some (.im (.int i)), some is => some (i :: is)
    | _, _ => none
theorem intsR_ok {G : Gx} {B H : Hp} {σ : L2.St} {ρ : Env} {Z : Set'} (E : EV G B H σ ρ Z) : ∀ {rs : List R} {vs : List V} {fp : Set'} {is : List Int}, RVs G B H σ vs rs fp → intsR ρ rs = some is → vs = is.map V.int
  | [], vs, fp, is, h, e => by
    cases e
    exact h.1
  | r :: rs, vs, fp, is, h, e => by
    obtain ⟨v, w, f1, f2, rfl, h1, h2, _⟩ := h
    unfold intsR at e
    split at e
    · rename_i i js q1 q2
      cases e
      obtain ⟨f, hv⟩ := h1.read E q1
      have ev : v = V.int i := hv.1
      rw [ev, intsR_ok E h2 q2]
      rfl
    · cases e
def iRange (f : M (List R)) : M (List D) := f.bind fun rs ρ => match intsR ρ rs with
  | some [n] => if smallI n then some (.ok (rangeD 0 n.toNat), ρ) else none
  | some [a, b] => if smallI a && smallI b then some (.ok (rangeD a (b - a).toNat), ρ) else none
  | some [a, b, c] => if smallI a && smallI b && decide (c = -1) then some (.ok (downD a (a - b).toNat), ρ) else none
  | _ => none
theorem small_ok {i : Int} (h : smallI i = true) : -(2 ^ 62) ≤ i ∧ i < 2 ^ 62 := by
  have := of_decide_eq_true h
  omega
/-- what the three ranges share -/
theorem gi_range {es : List Expr} {fs : M (List R)} {wi : TI} (hp : PI X tg e wi) (h : GA X cl W es fs) (hes : es.length = 1 ∨ es.length = 2 ∨ es.length = 3) (hlen : ∀ ρ rs ρ', fs ρ = some (.ok rs, ρ') → rs.length = es.length)
    (w1 : es.length = 1 → wi = iRng1 (tUA X es)) (w2 : es.length = 2 → wi = iRng2 (tUA X es)) (w3 : es.length = 3 → wi = iRng3 (tUA X es)) : GI X cl W tg e (iRange fs) := ⟨fun σ B H ρ Z res ρ' E e1 RR k ke => by
  refine ⟨wi, hp, ?_⟩
  rcases bind_ok e1 with ⟨rs, ρ1, e2, e3⟩ | ⟨c, ns, xs, e2, e3⟩
  · have hl := hlen _ _ _ e2
    cases q : intsR ρ1 rs with
    | none => rw [q] at e3; cases e3
    | some is =>
      rw [q] at e3
      have run : ∀ Q : List V → Hp → Prop, (∀ B1 H1 Z1, Nx B H Z B1 H1 Z1 → EV (gx X cl) B1 H1 σ ρ1 Z1 → Q (is.map V.int) H1) → tUA X es σ H Q := fun Q kq => by
        refine h.run σ B H ρ Z _ _ E e2 _ (fun rs' er vs B1 H1 Z1 fp n1 E1 rvs ap => ?_) (fun _ _ _ q => by cases q)
        cases er
        rw [intsR_ok E1 rvs q]
        exact kq B1 H1 Z1 n1.drop E1
      have il : is.length = es.length := by
        rw [← hl]
        have all : ∀ (rs : List R) (is : List Int), intsR ρ1 rs = some is → is.length = rs.length := fun rs => by
          induction rs with
          | nil => intro is h; cases h; rfl
          | cons r rs ih =>
            intro is h
            unfold intsR at h
            split at h
            · rename_i q2
              cases h
              simp [ih _ q2]
            · cases h
        exact all rs is q
      split at e3
      · rename_i n hq
        cases hq
        split at e3
        · rename_i hs
          cases e3
          rw [w1 (il.symm.trans rfl)]
          refine run _ fun B1 H1 Z1 n1 E1 => ?_
          exact ⟨n, rfl, (small_ok hs).1, (small_ok hs).2, k _ rfl _ B1 H1 Z1 n1 E1 src_range⟩
        · cases e3
      · rename_i a b hq
        cases hq
        split at e3
        · rename_i hs
          cases e3
          rw [w2 (il.symm.trans rfl)]
          rw [Bool.and_eq_true] at hs
          refine run _ fun B1 H1 Z1 n1 E1 => ?_
          exact ⟨a, b, rfl, ⟨(small_ok hs.1).1, (small_ok hs.1).2, (small_ok hs.2).1, (small_ok hs.2).2⟩, k _ rfl _ B1 H1 Z1 n1 E1 src_range⟩
        · cases e3
      · rename_i a b c hq
        cases hq
        split at e3
        · rename_i hs
          cases e3
          rw [w3 (il.symm.trans rfl)]
          rw [Bool.and_eq_true, Bool.and_eq_true] at hs
          have hc : c = -1 := of_decide_eq_true hs.2
          subst hc
          refine run _ fun B1 H1 Z1 n1 E1 => ?_
          exact ⟨a, b, -1, (a - b).toNat, rfl, RgC.neg (small_ok hs.1.1).1 (small_ok hs.1.1).2 (small_ok hs.1.2).1 (small_ok hs.1.2).2, k _ rfl _ B1 H1 Z1 n1 E1 src_down⟩
        · cases e3
      · cases e3
  · subst e3
    have er : ∀ Q : List V → Hp → Prop, tUA X es σ H Q := fun Q => h.run σ B H ρ Z _ _ E e2 _ (fun _ q => by cases q) fun _ _ _ q => by cases q; exact ke _ _ _ rfl
    rcases hes with z | z | z
    · rw [w1 z]; exact er _
    · rw [w2 z]; exact er _
    · rw [w3 z]; exact er _⟩
theorem gi_range1 {fs : M (List R)} (hg : Gl X "range") (hm : X.mg "range" = none) (h : GA X cl W [a] fs) (hl : ∀ ρ rs ρ', fs ρ = some (.ok rs, ρ') → rs.length = 1) (hs : starEach [a] X.env = [(false, eval a X.env)] := by rfl) : GI X cl W tg (.Call (.Name "range" p) [a] [] pos) (iRange fs) :=
  gi_range (pi_range1 hg hm pa_U hs) h (.inl rfl) hl (fun _ => rfl) (fun z => nomatch z) (fun z => nomatch z)
theorem gi_range2 {fs : M (List R)} (hg : Gl X "range") (hm : X.mg "range" = none) (h : GA X cl W [a, b] fs) (hl : ∀ ρ rs ρ', fs ρ = some (.ok rs, ρ') → rs.length = 2) (hs : starEach [a, b] X.env = [(false, eval a X.env), (false, eval b X.env)] := by rfl) (hs2 : starEach [b] X.env = [(false, eval b X.env)] := by rfl) :
    GI X cl W tg (.Call (.Name "range" p) [a, b] [] pos) (iRange fs) := gi_range (pi_range2 hg hm pa_U hs hs2) h (.inr (.inl rfl)) hl (fun z => nomatch z) (fun _ => rfl) (fun z => nomatch z)
theorem gi_range3 {fs : M (List R)} (hg : Gl X "range") (hm : X.mg "range" = none) (h : GA X cl W [a, b, c] fs) (hl : ∀ ρ rs ρ', fs ρ = some (.ok rs, ρ') → rs.length = 3)
    (hs : starEach [a, b, c] X.env = (false, eval a X.env) :: starEach [b, c] X.env := by rfl) (hpl : (backTo pos (starEach [b, c] X.env)).any (·.1) = false := by rfl) :
    GI X cl W tg (.Call (.Name "range" p) [a, b, c] [] pos) (iRange fs) := gi_range (pi_range3 hg hm pa_U hs hpl) h (.inr (.inr rfl)) hl (fun z => nomatch z) (fun z => nomatch z) (fun _ => rfl)
end
end Av
set_option Elab.async false
set_option linter.all false
set_option maxRecDepth 100000
set_option maxHeartbeats 2000000
/-! A def by its body: the promise by the body's function. -/
namespace Av
open PySem L2

/-- what the arguments' objects have become: only of the slots Rs, which the body never names anew -/
def finsAt (Rs : List Nat) (ρ : Env) : Nat → Nat → List (Option S)
  | _, 0 => []
  | k, n + 1 => (if k ∈ Rs then (ρ[k]?).join else none) :: finsAt Rs ρ (k + 1) n
/-- a def of n parameters and m names -/
def fnM (n m : Nat) (Rs : List Nat) (g : MS) : Fn := fun args => if args.length = n then (match g (args.map some ++ List.replicate (m - n) none) with
  | some (.rt s, ρ) => some (.ret s, finsAt Rs ρ 0 n)
  | some (.nx, ρ) => some (.ret (.im .non), finsAt Rs ρ 0 n)
  | some (.er c ns xs, ρ) => some (.er c ns xs, finsAt Rs ρ 0 n)
  | _ => none) else none

section
variable {G : Gx} {B H : Hp}
theorem EV.nil (e : Ex B H) : EV G B H [] [] (fun _ => False) := ⟨rfl, e, fun _ _ => False, fun i s h => (by simp at h), fun _ _ _ z => z, fun _ _ _ _ z => z.elim, fun _ => ⟨False.elim, fun ⟨_, z⟩ => z⟩⟩
theorem EV.cons {σ : L2.St} {ρ : Env} {Z f : Set'} {v : V} {s : S} (E : EV G B H σ ρ Z) (hv : SV G B H v s f) (ap : ∀ a, f a → ¬ Z a) : EV G B H (some v :: σ) (some s :: ρ) (fun a => f a ∨ Z a) := by
  obtain ⟨fps, h1, h2, h3, h4⟩ := E.slots
  refine ⟨by simp [E.len], E.sub, fun i => match i with | 0 => f | i + 1 => fps i, fun i t hi => ?_, fun i hi a => ?_, fun i j a n hi => ?_, fun a => ?_⟩
  · cases i with
    | zero => cases hi; exact ⟨v, rfl, hv⟩
    | succ i => exact h1 i t (by simpa using hi)
  · cases i with
    | zero => exact (hi s rfl).elim
    | succ i => exact h2 i (fun t q => hi t (by simpa using q)) a
  · cases i with
    | zero =>
      cases j with
      | zero => exact (n rfl).elim
      | succ j => exact fun z => ap a hi ((h4 a).mpr ⟨j, z⟩)
    | succ i =>
      cases j with
      | zero => exact fun z => ap a z ((h4 a).mpr ⟨i, hi⟩)
      | succ j => exact h3 i j a (fun e => n (congrArg _ e)) hi
  · rw [h4 a]
    constructor
    · rintro (z | ⟨i, z⟩)
      · exact ⟨0, z⟩
      · exact ⟨i + 1, z⟩
    · rintro ⟨i, z⟩
      cases i with
      | zero => exact .inl z
      | succ i => exact .inr ⟨i, z⟩
theorem EV.start : ∀ {args : List S} {vs : List V} {fp : Set'}, Ex B H → SVs G B H vs args fp → ∃ Z, EV G B H (vs.map some) (args.map some) Z ∧ ∀ a, Z a ↔ fp a
  | [], vs, fp, e, h => by
    rw [h.1]
    exact ⟨_, EV.nil e, fun a => ⟨False.elim, fun z => h.2 a z⟩⟩
  | s :: ss, vs, fp, e, h => by
    obtain ⟨v, r, f1, f2, rfl, h1, h2, h3, h4⟩ := h
    obtain ⟨Z, E, hz⟩ := EV.start e h2
    exact ⟨_, E.cons h1 fun a ha z => h3 a ha ((hz a).mp z), fun a => by rw [h4 a, hz a]⟩
theorem EV.pad {σ : L2.St} {ρ : Env} {Z : Set'} (E : EV G B H σ ρ Z) (k : Nat) : EV G B H (σ ++ List.replicate k none) (ρ ++ List.replicate k none) Z := by
  obtain ⟨fps, h1, h2, h3, h4⟩ := E.slots
  have cut : ∀ (i : Nat) s, (ρ ++ List.replicate k none)[i]? = some (some s) → ρ[i]? = some (some s) := fun i s q => by
    by_cases hi : i < ρ.length
    · rw [List.getElem?_append_left hi] at q
      exact q
    · rw [List.getElem?_append_right (by omega)] at q
      have := List.mem_of_getElem? q
      have := List.eq_of_mem_replicate this
      cases this
  refine ⟨by simp [E.len], E.sub, fps, fun i s hi => ?_, fun i hi => h2 i fun s q => hi s ?_, h3, h4⟩
  · have hi' := cut i s hi
    obtain ⟨v, e, hv⟩ := h1 i s hi'
    exact ⟨v, by rw [List.getElem?_append_left (List.getElem?_eq_some_iff.mp e).1]; exact e, hv⟩
  · rw [List.getElem?_append_left (List.getElem?_eq_some_iff.mp q).1]
    exact q
theorem EV.fins {Rs : List Nat} {σ : L2.St} {ρ : Env} {Z : Set'} (E : EV G B H σ ρ Z) : ∀ (vs : List V) (k : Nat), (∀ j v, k + j ∈ Rs → vs[j]? = some v → σ[k + j]? = some (some v)) →
    ∃ fa, SVo G B H vs (finsAt Rs ρ k vs.length) fa ∧ ∀ a, fa a → Z a := by
  obtain ⟨fps, h1, h2, h3, h4⟩ := E.slots
  have main : ∀ (vs : List V) (k : Nat), (∀ j v, k + j ∈ Rs → vs[j]? = some v → σ[k + j]? = some (some v)) →
      ∃ fa, SVo G B H vs (finsAt Rs ρ k vs.length) fa ∧ ∀ a, fa a → ∃ i, k ≤ i ∧ fps i a := by
    intro vs
    induction vs with
    | nil => intro k _; exact ⟨fun _ => False, ⟨rfl, fun _ z => z⟩, fun _ z => z.elim⟩
    | cons v vs ih =>
      intro k hk
      obtain ⟨fa, g1, g2⟩ := ih (k + 1) fun j u hj hu => by
        have e : k + 1 + j = k + (j + 1) := by omega
        rw [e] at hj ⊢
        exact hk (j + 1) u hj (by simpa using hu)
      show ∃ fa, SVo G B H (v :: vs) ((if k ∈ Rs then (ρ[k]?).join else none) :: finsAt Rs ρ (k + 1) vs.length) fa ∧ _
      by_cases hR : k ∈ Rs
      · rw [if_pos hR]
        cases e : (ρ[k]?).join with
        | none => exact ⟨fa, ⟨v, vs, rfl, g1⟩, fun a z => let ⟨i, h5, h6⟩ := g2 a z; ⟨i, by omega, h6⟩⟩
        | some s =>
          have e2 : ρ[k]? = some (some s) := by
            cases q : ρ[k]? with
            | none => rw [q] at e; cases e
            | some o => rw [q] at e; cases o with
              | none => cases e
              | some s' => cases e; rfl
          obtain ⟨u, e3, hv⟩ := h1 k s e2
          have e4 := hk 0 v hR rfl
          rw [Nat.add_zero, e3] at e4
          cases e4
          exact ⟨fun a => fps k a ∨ fa a, ⟨v, vs, fps k, fa, rfl, hv, g1, fun a ha z => let ⟨i, h5, h6⟩ := g2 a z; h3 k i a (by omega) ha h6, fun _ => Iff.rfl⟩, fun a z => z.elim (fun z => ⟨k, Nat.le_refl _, z⟩) fun z => let ⟨i, h5, h6⟩ := g2 a z; ⟨i, by omega, h6⟩⟩
      · rw [if_neg hR]
        exact ⟨fa, ⟨v, vs, rfl, g1⟩, fun a z => let ⟨i, h5, h6⟩ := g2 a z; ⟨i, by omega, h6⟩⟩
  intro vs k hk
  obtain ⟨fa, g1, g2⟩ := main vs k hk
  exact ⟨fa, g1, fun a z => let ⟨i, _, h6⟩ := g2 a z; (h4 a).mpr ⟨i, h6⟩⟩
end

section
variable {P : Program} {w : World} {K : PySem.W.Frag} {mg : Str → Option Value} {base : Heap} {cl : Str → Addr}
/-- THE RULE of a def: its body's function gives its promise -/
theorem fn_ok {x qual : Str} {st : Stmt} {f : Addr} {fd : FuncData} {N ps : List Str} {k : Nat} {Rs : List Nat} {g : MS} (Fd : Fun K x qual st f fd) (Sc : FnScope N ps (defScope st)) (hR : ∀ i ∈ Rs, i < ps.length)
    (hb : ∀ (cdv : Value) (A : Around) (outer : List PySem.Env) (s : Shared) (H : Hp) (E : XK), Room k (A.deeper (PyProof.Rows.envOfC qual (defScope st) s.heap.objs.size f cdv)) →
      GSs (cxOf (L2.CX P w) P w K mg base N qual (defScope st) f cdv A outer s H E) cl (fun c d _ H => E c d H) Rs (defBody st) g) :
    FnOk P w K mg base (L2.CX P w) (k + 1) f fd ps (spF ⟨K, cl⟩ ps.length (fnM ps.length N.length Rs g)) := by
  refine Fd.okX Sc (fun vs H Q E h => h.1) fun cdv A outer s H vs Q E hr h => ?_
  obtain ⟨hl, B, args, fp, out, fin, ex, sv, hF, k0⟩ := h
  refine ⟨_, pss_U, ?_⟩
  obtain ⟨Z, E0, hz⟩ := EV.start ex sv
  have E1 := E0.pad (N.length - ps.length)
  unfold fnM at hF
  split at hF
  · have hst : L2.start N vs = vs.map some ++ List.replicate (N.length - ps.length) none := by
      unfold L2.start
      rw [hl]
    rw [hst]
    -- what a normal end and an exception give
    have done : ∀ (fl : Fl) (ρ' : Env), g (args.map some ++ List.replicate (N.length - ps.length) none) = some (fl, ρ') →
        (∀ s, fl = .rt s → out = .ret s ∧ fin = finsAt Rs ρ' 0 ps.length) → (fl = .nx → out = .ret (.im .non) ∧ fin = finsAt Rs ρ' 0 ps.length) →
        (∀ c ns xs, fl = .er c ns xs → out = .er c ns xs ∧ fin = finsAt Rs ρ' 0 ps.length) → fl ≠ .bk → fl ≠ .ct →
        tUSs (cxOf (L2.CX P w) P w K mg base N qual (defScope st) f cdv A outer s H E) (defBody st) { nx := fun _ H' => Q .non H', rt := Q } (vs.map some ++ List.replicate (N.length - ps.length) none) H := by
      intro fl ρ' hg h1 h2 h3 h4 h5
      refine (hb cdv A outer s H E hr).run _ B H _ Z fl ρ' E1 hg _ fun σ' B' H' Z' kp E' => ?_
      obtain ⟨fa, g1, g2⟩ := E'.fins (Rs := Rs) vs 0 fun j v hj hv => by
        rw [Nat.zero_add] at hj ⊢
        rw [kp j hj]
        have hj2 : j < (vs.map some).length := by
          rw [List.length_map]
          exact (List.getElem?_eq_some_iff.mp hv).1
        rw [List.getElem?_append_left hj2, List.getElem?_map, hv]
        rfl
      have lift : ∀ {Z2 : Set'}, Nx B H Z B' H' Z2 → Nx B H fp B' H' Z2 := fun {Z2} n => ⟨n.ex, fun a o ho nz => n.fr a o ho fun z => nz ((hz a).mp z), fun a z => (n.gr a z).elim (fun q => .inl ((hz a).mp q)) .inr⟩
      rw [hl] at g1
      cases fl with
      | nx =>
        obtain ⟨rfl, rfl⟩ := h2 rfl
        intro n
        exact (k0 B' H' fa E'.sub g1).1 _ rfl .non (fun _ => False) (lift (n.sub fun a z => z.elim False.elim (g2 a))) ⟨rfl, fun _ z => z⟩ fun _ z => z.elim
      | rt sv =>
        obtain ⟨rfl, rfl⟩ := h1 sv rfl
        intro v f2 n hv ap
        exact (k0 B' H' fa E'.sub g1).1 _ rfl v f2 (lift (n.sub fun a z => z.elim .inl fun y => .inr (g2 a y))) hv fun a ha z => ap a ha (g2 a z)
      | er c ns xs =>
        obtain ⟨rfl, rfl⟩ := h3 c ns xs rfl
        intro n d hd
        exact (k0 B' H' fa E'.sub g1).2 c ns xs rfl (lift (n.sub fun a z => g2 a z)) d hd
      | bk => exact (h4 rfl).elim
      | ct => exact (h5 rfl).elim
    split at hF
    · rename_i s' ρ' hg
      cases hF
      exact done _ _ hg (fun s h => by cases h; exact ⟨rfl, rfl⟩) (fun h => nomatch h) (fun _ _ _ h => nomatch h) (fun h => nomatch h) (fun h => nomatch h)
    · rename_i ρ' hg
      cases hF
      exact done _ _ hg (fun s h => nomatch h) (fun h => ⟨rfl, rfl⟩) (fun _ _ _ h => nomatch h) (fun h => nomatch h) (fun h => nomatch h)
    · rename_i c ns xs ρ' hg
      cases hF
      exact done _ _ hg (fun s h => nomatch h) (fun h => nomatch h) (fun _ _ _ h => by cases h; exact ⟨rfl, rfl⟩) (fun h => nomatch h) (fun h => nomatch h)
    · cases hF
  · cases hF
end
end Av
set_option Elab.async false
set_option linter.all false
set_option maxRecDepth 100000
set_option maxHeartbeats 2000000
/-! What changes a slot's object: methods, x[i] = e, x += e. -/
namespace Av
open PySem L2

section
variable {G : Gx} {B H : Hp}
/-- one of the trees is taken out -/
theorem SVs.pick : ∀ {ss : List S} {vs : List V} {fp : Set'} {i : Nat} {s : S}, SVs G B H vs ss fp → ss[i]? = some s →
    ∃ v f fr, vs[i]? = some v ∧ SV G B H v s f ∧ SVs G B H (vs.eraseIdx i) (ss.eraseIdx i) fr ∧ (∀ b, f b → ¬ fr b) ∧ ∀ b, fp b ↔ f b ∨ fr b
  | [], _, _, _, _, _, e => by simp at e
  | s :: ss, _, _, 0, _, h, e => by
    obtain ⟨v, r, f1, f2, rfl, h1, h2, h3, h4⟩ := h
    simp at e; subst e
    exact ⟨v, f1, f2, rfl, h1, h2, h3, h4⟩
  | s :: ss, _, _, i + 1, _, h, e => by
    obtain ⟨v, r, f1, f2, rfl, h1, h2, h3, h4⟩ := h
    obtain ⟨u, f, fr, g1, g2, g3, g4, g5⟩ := SVs.pick (i := i) h2 (by simpa using e)
    refine ⟨u, f, fun b => f1 b ∨ fr b, by simpa using g1, g2, ⟨v, _, f1, fr, rfl, h1, g3, fun b hb z => h3 b hb ((g5 b).mpr (.inr z)), fun _ => Iff.rfl⟩, fun b hb z => ?_, fun b => ?_⟩
    · rcases z with z | z
      · exact h3 b z ((g5 b).mpr (.inl hb))
      · exact g4 b hb z
    · rw [h4 b, g5 b]
      constructor
      · rintro (z | z | z)
        · exact .inr (.inl z)
        · exact .inl z
        · exact .inr (.inr z)
      · rintro (z | z | z)
        · exact .inr (.inl z)
        · exact .inl z
        · exact .inr (.inr z)
/-- another one in its place -/
theorem SVs.put : ∀ {ss : List S} {vs : List V} {fr f : Set'} {i : Nat} {s : S} {v : V}, i < ss.length → vs.length = ss.length → SVs G B H (vs.eraseIdx i) (ss.eraseIdx i) fr → SV G B H v s f → (∀ b, f b → ¬ fr b) →
    SVs G B H (vs.set i v) (ss.set i s) (fun b => f b ∨ fr b)
  | [], _, _, _, _, _, _, hi, _, _, _, _ => by simp at hi
  | t :: ss, [], _, _, _, _, _, _, hl, _, _, _ => by simp at hl
  | t :: ss, u :: vs, fr, f, 0, s, v, _, _, h, hv, ap => ⟨v, vs, f, fr, rfl, hv, h, ap, fun _ => Iff.rfl⟩
  | t :: ss, u :: vs, fr, f, i + 1, s, v, hi, hl, h, hv, ap => by
    obtain ⟨u', r, f1, f2, e, h1, h2, h3, h4⟩ := h
    have e1 : u = u' := by injection e
    have e2 : vs.eraseIdx i = r := by injection e
    subst e1 e2
    have ih := SVs.put (i := i) (ss := ss) (vs := vs) (by simpa using hi) (by simpa using hl) h2 hv fun b hb z => ap b hb ((h4 b).mpr (.inr z))
    refine ⟨u, _, f1, _, rfl, h1, ih, fun b hb z => ?_, fun b => ?_⟩
    · rcases z with z | z
      · exact ap b z ((h4 b).mpr (.inl hb))
      · exact h3 b hb z
    · show (f b ∨ fr b) ↔ f1 b ∨ (f b ∨ f2 b)
      rw [h4 b]
      constructor
      · rintro (z | z | z)
        · exact .inr (.inl z)
        · exact .inl z
        · exact .inr (.inr z)
      · rintro (z | z | z)
        · exact .inr (.inl z)
        · exact .inl z
        · exact .inr (.inr z)
end

def MutOp (X : Cx) (cl : Str → Addr) (id : String) (g : S → List S → Option (S × S)) : Prop :=
  ∀ (B H : Hp) (v : V) (s : S) (fp : Set') (us : List V) (as : List S) (fpa : Set') (res s' : S), SV (gx X cl) B H v s fp → SVs (gx X cl) B H us as fpa → Apart fp fpa → Ex B H → g s as = some (res, s') → ∀ Q : VK,
    (∀ w B' H' fr fn, Ex B B' → Ex B' H' → (∀ a o, H a = some o → ¬ fp a → ¬ fpa a → H' a = some o ∧ B' a = B a) → SV (gx X cl) B' H' w res fr → SV (gx X cl) B' H' v s' fn → Apart fr fn → (∀ a, fr a ∨ fn a → fp a ∨ fpa a ∨ H a = none) → Q w H') →
    ∃ r, MtR X id r ∧ r v us H Q
/-- x.m(..), x the name of slot i -/
def xMut (i : Nat) (T : String) (g : S → List S → Option (S × S)) (f : M (List R)) : M R := fun ρ => match ρ[i]? with
  | some (some s0) => if kindS T s0 = true then (f.bind fun rs ρ1 => match trees rs, ρ1[i]? with
      | some as, some (some s) => (match g s as with
        | some (res, s') => some (.ok (.t res), ρ1.set i (some s'))
        | none => none)
      | _, _ => none) ρ else none
  | _ => none
section
variable {X : Cx} {cl : Str → Addr} {W : WX} {Rs : List Nat} {st : Stmt} {e o a b : Expr} {es : List Expr} {f : M (List R)} {fe fi : M R} {pos apos cpos : Pos} {T id : String} {g : S → List S → Option (S × S)} {name x : Str} {i : Nat}
theorem mut_core (op : MutOp X cl id g) {σ : L2.St} {B H B1 H1 : Hp} {ρ ρ1 ρ' : Env} {Z Z1 fp : Set'} {rs : List R} {us : List V} {v : V} {res : Res R} {Q : VK} (E : EV (gx X cl) B H σ ρ Z) (n1 : Nx B H Z B1 H1 (Or' fp Z1)) (E1 : EV (gx X cl) B1 H1 σ ρ1 Z1) (rv : RVs (gx X cl) B1 H1 σ us rs fp) (ap : Apart fp Z1)
    (hv : σ[i]? = some (some v)) (q : (match trees rs, ρ1[i]? with
      | some as, some (some s) => (match g s as with
        | some (res, s') => some (Res.ok (R.t res), ρ1.set i (some s'))
        | none => none)
      | _, _ => none) = some (res, ρ')) (k : ∀ r, res = .ok r → ∀ v B' H' Z' fp, Nx B H Z B' H' (Or' fp Z') → EV (gx X cl) B' H' σ ρ' Z' → RV (gx X cl) B' H' σ v r fp → Apart fp Z' → Q v H') :
    ∃ r, MtR X id r ∧ r v us H1 Q := by
  split at q
  · rename_i as s ht hi
    split at q
    · rename_i re s' hg
      cases q
      obtain ⟨v', f, Zr, e1, h1, E2, ap2, hz⟩ := E1.out hi
      have ev : v' = v := by
        rw [hv] at e1
        exact (Option.some.inj (Option.some.inj e1)).symm
      subst ev
      have hl : i < ρ1.length := (List.getElem?_eq_some_iff.mp hi).1
      refine op B1 H1 v' s f us as fp re s' h1 (rv.trees ht) (fun y hy z => ap y z ((hz y).mpr (.inl hy))) E1.sub hg Q fun w B2 H2 fr fn x1 x2 fr2 hr hn apr gr => ?_
      have own : ∀ y, Zr y → ∃ o, H1 y = some o := fun y hy => E2.there y hy
      have E3 : EV (gx X cl) B2 H2 σ (ρ1.set i none) Zr := E2.mono x1 x2 fun y hy => by
        obtain ⟨o, ho⟩ := own y hy
        obtain ⟨h2, h3⟩ := fr2 y o ho (fun z => ap2 y z hy) fun z => ap y z ((hz y).mpr (.inr hy))
        exact ⟨h2.trans ho.symm, h3.trans (E2.own y hy).1⟩
      have out : ∀ y, (fr y ∨ fn y) → ¬ Zr y := fun y hy z => by
        rcases gr y hy with r | r | r
        · exact ap2 y r z
        · exact ap y r ((hz y).mpr (.inr z))
        · obtain ⟨o, ho⟩ := own y z
          rw [ho] at r
          cases r
      have E4 := E3.put (i := i) (s := s') (v := v') (f := fn) (by rw [List.length_set]; exact hl) (fun s q => by
        rw [List.getElem?_set_self hl] at q
        cases q) hn fun y hy => out y (.inr hy)
      rw [List.set_set, set_self hv] at E4
      refine k _ rfl w B2 H2 _ fr ?_ E4 hr fun y hy z => z.elim (fun z => apr y hy z) fun z => out y (.inl hy) z
      refine n1.trans ⟨x1, fun y o ho nz => fr2 y o ho (fun z => nz (.inr ((hz y).mpr (.inl z)))) fun z => nz (.inl z), fun y z => ?_⟩ E.there
      have lift : (fr y ∨ fn y) → Or' fp Z1 y ∨ H1 y = none := fun z => by
        rcases gr y z with r | r | r
        · exact .inl (.inr ((hz y).mpr (.inl r)))
        · exact .inl (.inl r)
        · exact .inr r
      rcases z with z | z | z
      · exact lift (.inl z)
      · exact lift (.inr z)
      · exact .inl (.inr ((hz y).mpr (.inr z)))
    · cases q
  · cases q
theorem ge_mut (op : MutOp X cl id g) (pa : PlainAttrs T) (slot : Slot T name id) (hty : typeOf (.builtin id) = pure (.type "method_descriptor")) (ho : PE X o (tVar i)) (ha : GA X cl W (e :: es) f)
    (hbase : attributeBase o name X.env (eval o X.env) = eval o X.env := by rfl)
    (hfew : ((backTo cpos (starEach (e :: es) X.env)).all (fun x => !x.1) && (backToKw cpos (keywordEach [] X.env)).all (fun x => x.1.isSome)
      && decide ((e :: es).length + ([] : List Keyword).length + (if ([] : List Keyword).isEmpty then 0 else 1) < 30)) = true := by rfl)
    (hline : (apos.endLine == cpos.line) = true := by rfl) (hs : starEach (e :: es) X.env = (false, eval e X.env) :: starEach es X.env := by rfl) (hplain : (backTo cpos (starEach es X.env)).any (·.1) = false := by rfl) :
    GE X cl W (.Call (.Attribute o name apos) (e :: es) [] cpos) (xMut i T g f) := by
  have hu : MtR X id (fun v us H Q => ∃ r, MtR X id r ∧ r v us H Q) := fun pins s σ H x xs v us Q I rx rs ⟨_, hr, q⟩ => hr pins s σ H x xs v us Q I rx rs q
  refine ge_t (pe_bm pa slot hty hu ho pa_U hbase hfew hline hs hplain) ⟨fun σ B H ρ Z res ρ' E e1 Q k ke => ?_⟩
  unfold xMut at e1
  split at e1
  · rename_i s0 hi
    split at e1
    · rename_i hk
      obtain ⟨v, f0, e0, hv, _⟩ := E.get hi
      refine ⟨v, e0, kind_ok hv E.sub hk, ?_⟩
      rcases bind_ok e1 with ⟨rs, ρ1, e2, e3⟩ | ⟨c, ns, xs, e2, e3⟩
      · refine ha.run σ B H ρ Z _ _ E e2 _ (fun rs' er us B1 H1 Z1 fp n1 E1 rvs ap => ?_) (fun _ _ _ q => by cases q)
        cases er
        exact mut_core op E n1 E1 rvs ap e0 e3 k
      · subst e3
        exact ha.run σ B H ρ Z _ _ E e2 _ (fun _ q => by cases q) fun _ _ _ q => by cases q; exact ke _ _ _ rfl
    · cases e1
  · cases e1
theorem ge_mut0 (op : MutOp X cl id g) (pa : PlainAttrs T) (slot : Slot T name id) (hty : typeOf (.builtin id) = pure (.type "method_descriptor")) (ho : PE X o (tVar i))
    (hbase : attributeBase o name X.env (eval o X.env) = eval o X.env := by rfl) (hline : (apos.endLine == cpos.line) = true := by rfl) : GE X cl W (.Call (.Attribute o name apos) [] [] cpos) (xMut i T g aNil) := by
  have hu : MtR X id (fun v us H Q => ∃ r, MtR X id r ∧ r v us H Q) := fun pins s σ H x xs v us Q I rx rs ⟨_, hr, q⟩ => hr pins s σ H x xs v us Q I rx rs q
  refine ge_t (pe_bm0 pa slot hty hu ho hbase hline) ⟨fun σ B H ρ Z res ρ' E e1 Q k ke => ?_⟩
  unfold xMut at e1
  split at e1
  · rename_i s0 hi
    split at e1
    · rename_i hk
      obtain ⟨v, f0, e0, hv, _⟩ := E.get hi
      refine ⟨v, e0, kind_ok hv E.sub hk, ?_⟩
      exact mut_core op (rs := []) (us := []) (fp := fun _ => False) E (Nx.refl.sub orF) E ⟨rfl, fun _ z => z⟩ (fun _ z => z.elim) e0 e1 k
    · cases e1
  · cases e1

/-! ### lists' methods -/
def lAppend : S → List S → Option (S × S)
  | .lst xs, [y] => if xs.length < 100000 then some (.im .non, .lst (xs ++ [y])) else none
  | _, _ => none
/-- an owned list gets other items -/
theorem list_upd {G : Gx} {B H : Hp} {p : Addr} {ws us : List V} {ss ts : List S} {fq fn : Set'} (e : Ex B H) (hp : H p = some (.lst ws)) (bp : B p = none) (h2 : SVs G B H us ts fn) (np : ¬ fn p) :
    Ex B (upd H p (.lst us)) ∧ SV G B (upd H p (.lst us)) (.ref p) (.lst ts) (fun a => a = p ∨ fn a) ∧ ∀ a o, H a = some o → a ≠ p → upd H p (.lst us) a = some o := by
  have keep : ∀ a o, H a = some o → a ≠ p → upd H p (.lst us) a = some o := fun a o h n => (upd_ne n).trans h
  refine ⟨fun a o h => keep a o (e a o h) fun z => ?_, ⟨p, us, fn, rfl, upd_same, bp, h2.mono (Ex.refl B) fun a ha => ⟨upd_ne fun z => np (z ▸ ha), (h2.own a ha).1⟩, np, fun _ => Iff.rfl⟩, keep⟩
  rw [z, bp] at h
  cases h
theorem mut_append : MutOp X cl "list.append" lAppend := fun B H v s fp us as fpa res s' hv ha ap e hg Q k => by
  unfold lAppend at hg
  split at hg
  · rename_i xs y
    split at hg
    · rename_i hz
      cases hg
      obtain ⟨p, ws, fq, rfl, hp, bp, hs, nq, hfp⟩ := hv
      obtain ⟨u, r, f1, f2, rfl, hu, hr, h3, h4⟩ := ha
      obtain ⟨rfl, h5⟩ := hr
      have apq : ∀ a, fq a → ¬ f1 a := fun a h z => ap a ((hfp a).mpr (.inr h)) ((h4 a).mpr (.inl z))
      have sv := hs.append (SVs.one hu) apq
      obtain ⟨u1, u2, u3⟩ := list_upd (fq := fq) (ss := xs) e hp bp sv fun z => z.elim nq fun z => ap p ((hfp p).mpr (.inl rfl)) ((h4 p).mpr (.inl z))
      refine ⟨_, mt_append, p, ws, u, rfl, rfl, hp, by rw [hs.length]; exact sz_lt hz, ?_⟩
      refine k .non B _ (fun _ => False) _ (Ex.refl B) u1 (fun a o h n1 n2 => ⟨u3 a o h fun z => n1 ((hfp a).mpr (.inl z)), rfl⟩) ⟨rfl, fun _ z => z⟩ u2 (fun _ z => z.elim) fun a z => ?_
      rcases z with z | z | z | z
      · exact z.elim
      · exact .inl ((hfp a).mpr (.inl z))
      · exact .inl ((hfp a).mpr (.inr z))
      · exact .inr (.inl ((h4 a).mpr (.inl z)))
    · cases hg
  · cases hg
def lExtend : S → List S → Option (S × S)
  | .lst xs, [.lst ys] => if xs.length + ys.length ≤ 100000 then some (.im .non, .lst (xs ++ ys)) else none
  | .lst xs, [.im (.lst ds)] => if xs.length + ds.length ≤ 100000 then some (.im .non, .lst (xs ++ ds.map .im)) else none
  | _, _ => none
theorem mut_extend : MutOp X cl "list.extend" lExtend := fun B H v s fp us as fpa res s' hv ha ap e hg Q k => by
  unfold lExtend at hg
  split at hg
  · rename_i xs ys
    split at hg
    · rename_i hz
      cases hg
      obtain ⟨p, ws, fq, rfl, hp, bp, hs, nq, hfp⟩ := hv
      obtain ⟨u, r, f1, f2, rfl, hu, hr, h3, h4⟩ := ha
      obtain ⟨rfl, h5⟩ := hr
      obtain ⟨q, zs, fz, rfl, hq, bq, hzs, nqz, hfz⟩ := hu
      have in1 : ∀ a, fz a → fpa a := fun a z => (h4 a).mpr (.inl ((hfz a).mpr (.inr z)))
      have sv := hs.append hzs fun a h z => ap a ((hfp a).mpr (.inr h)) (in1 a z)
      obtain ⟨u1, u2, u3⟩ := list_upd (fq := fq) (ss := xs) e hp bp sv fun z => z.elim nq fun z => ap p ((hfp p).mpr (.inl rfl)) (in1 p z)
      refine ⟨_, mt_extend, p, q, ws, zs, rfl, rfl, hp, hq, by rw [hs.length, hzs.length]; exact sz_of hz, ?_⟩
      refine k .non B _ (fun _ => False) _ (Ex.refl B) u1 (fun a o h n1 n2 => ⟨u3 a o h fun z => n1 ((hfp a).mpr (.inl z)), rfl⟩) ⟨rfl, fun _ z => z⟩ u2 (fun _ z => z.elim) fun a z => ?_
      rcases z with z | z | z | z
      · exact z.elim
      · exact .inl ((hfp a).mpr (.inl z))
      · exact .inl ((hfp a).mpr (.inr z))
      · exact .inr (.inl (in1 a z))
    · cases hg
  · rename_i xs ds
    split at hg
    · rename_i hz
      cases hg
      obtain ⟨p, ws, fq, rfl, hp, bp, hs, nq, hfp⟩ := hv
      obtain ⟨u, r, f1, f2, rfl, ⟨⟨q, zs, rfl, hq, hzs⟩, _⟩, ⟨rfl, _⟩, h3, h4⟩ := ha
      have sv := hs.append (DVs.im (H := H) hzs) fun a h z => z
      obtain ⟨u1, u2, u3⟩ := list_upd (fq := fq) (ss := xs) e hp bp sv fun z => z.elim nq id
      refine ⟨_, mt_extend, p, q, ws, zs, rfl, rfl, hp, e _ _ hq, by rw [hs.length, hzs.length]; exact sz_of hz, ?_⟩
      refine k .non B _ (fun _ => False) _ (Ex.refl B) u1 (fun a o h n1 n2 => ⟨u3 a o h fun z => n1 ((hfp a).mpr (.inl z)), rfl⟩) ⟨rfl, fun _ z => z⟩ u2 (fun _ z => z.elim) fun a z => ?_
      rcases z with z | z | z | z
      · exact z.elim
      · exact .inl ((hfp a).mpr (.inl z))
      · exact .inl ((hfp a).mpr (.inr z))
      · exact z.elim
    · cases hg
  · cases hg
theorem eraseIdx_last {α : Type} (xs : List α) : xs.eraseIdx (xs.length - 1) = xs.dropLast := by
  rw [List.dropLast_eq_take]
  cases xs with
  | nil => rfl
  | cons x xs =>
    rw [List.eraseIdx_eq_take_drop_succ]
    simp
/-- the last one, or the i-th -/
def lPop : S → List S → Option (S × S)
  | .lst xs, [] => (xs[xs.length - 1]?).map fun x => (x, .lst xs.dropLast)
  | .lst xs, [.im (.int i)] => if -(2 ^ 60) ≤ i ∧ i < 2 ^ 60 then (match ixN xs.length i with
    | some j => (xs[j]?).map fun x => (x, .lst (xs.eraseIdx j))
    | none => none) else none
  | _, _ => none
theorem pop_core {G : Gx} {B H : Hp} {p : Addr} {ws : List V} {xs : List S} {fp fq : Set'} {j : Nat} {x : S} {Q : VK} (e : Ex B H) (hp : H p = some (.lst ws)) (bp : B p = none) (hs : SVs G B H ws xs fq) (nq : ¬ fq p) (hfp : ∀ b, fp b ↔ b = p ∨ fq b) (hx : xs[j]? = some x)
    (k : ∀ w B' H' fr fn, Ex B B' → Ex B' H' → (∀ a o, H a = some o → ¬ fp a → H' a = some o ∧ B' a = B a) → SV G B' H' w x fr → SV G B' H' (.ref p) (.lst (xs.eraseIdx j)) fn → Apart fr fn → (∀ a, fr a ∨ fn a → fp a) → Q w H') :
    ∃ u, ws[j]? = some u ∧ Q u (upd H p (.lst (ws.eraseIdx j))) := by
  obtain ⟨u, f, fr, h1, h2, h3, h4, h5⟩ := hs.pick hx
  refine ⟨u, h1, ?_⟩
  have nf : ¬ f p := fun z => nq ((h5 p).mpr (.inl z))
  have nfr : ¬ fr p := fun z => nq ((h5 p).mpr (.inr z))
  obtain ⟨u1, u2, u3⟩ := list_upd (fq := fq) (ss := xs) e hp bp h3 nfr
  refine k u B _ f _ (Ex.refl B) u1 (fun a o h n => ⟨u3 a o h fun z => n ((hfp a).mpr (.inl z)), rfl⟩) (h2.mono (Ex.refl B) fun a ha => ⟨upd_ne fun z => nf (z ▸ ha), (h2.own a ha).1⟩) u2 (fun a ha z => ?_) fun a z => ?_
  · rcases z with z | z
    · exact nf (z ▸ ha)
    · exact h4 a ha z
  · rcases z with z | z | z
    · exact (hfp a).mpr (.inr ((h5 a).mpr (.inl z)))
    · exact (hfp a).mpr (.inl z)
    · exact (hfp a).mpr (.inr ((h5 a).mpr (.inr z)))
theorem mut_pop : MutOp X cl "list.pop" lPop := fun B H v s fp us as fpa res s' hv ha ap e hg Q k => by
  unfold lPop at hg
  split at hg
  · rename_i xs
    obtain ⟨p, ws, fq, rfl, hp, bp, hs, nq, hfp⟩ := hv
    obtain ⟨rfl, hna⟩ := ha
    cases hx : xs[xs.length - 1]? with
    | none => rw [hx] at hg; cases hg
    | some x =>
      rw [hx] at hg
      cases hg
      have hl := hs.length
      obtain ⟨u, h1, h2⟩ := pop_core (Q := Q) e hp bp hs nq hfp hx fun w B' H' fr fn x1 x2 x3 x4 x5 x6 x7 =>
        k w B' H' fr fn x1 x2 (fun a o h n _ => x3 a o h n) x4 (by rw [eraseIdx_last] at x5; exact x5) x6 fun a z => .inl (x7 a z)
      rw [← hl] at h1 h2
      rw [eraseIdx_last] at h2
      exact ⟨_, mt_pop, p, ws, u, rfl, rfl, hp, h1, h2⟩
  · rename_i xs i
    split at hg
    · rename_i hb
      obtain ⟨p, ws, fq, rfl, hp, bp, hs, nq, hfp⟩ := hv
      obtain ⟨u0, r0, f1, f2, rfl, ⟨hu0, _⟩, ⟨rfl, _⟩, _, h4⟩ := ha
      cases hu0
      cases hj : ixN xs.length i with
      | none => rw [hj] at hg; cases hg
      | some j =>
        rw [hj] at hg
        dsimp only at hg
        cases hx : xs[j]? with
        | none => rw [hx] at hg; cases hg
        | some x =>
          rw [hx] at hg
          cases hg
          have hl := hs.length
          obtain ⟨u, h1, h2⟩ := pop_core (Q := Q) e hp bp hs nq hfp hx fun w B' H' fr fn x1 x2 x3 x4 x5 x6 x7 =>
            k w B' H' fr fn x1 x2 (fun a o h n _ => x3 a o h n) x4 x5 x6 fun a z => .inl (x7 a z)
          obtain ⟨q1, q2, q3, q4⟩ := ixN_seq hj
          rw [← hl] at q1
          exact ⟨_, mt_popAt, p, ws, i, j, u, rfl, rfl, hp, by omega, by omega, q1, h1, h2⟩
    · cases hg
  · cases hg
def lClear : S → List S → Option (S × S)
  | .lst _, [] => some (.im .non, .lst [])
  | _, _ => none
theorem mut_clear : MutOp X cl "list.clear" lClear := fun B H v s fp us as fpa res s' hv ha ap e hg Q k => by
  unfold lClear at hg
  split at hg
  · cases hg
    obtain ⟨p, ws, fq, rfl, hp, bp, hs, nq, hfp⟩ := hv
    obtain ⟨rfl, hna⟩ := ha
    obtain ⟨u1, u2, u3⟩ := list_upd (G := gx X cl) (fq := fq) (ss := []) (us := []) (ts := []) (fn := fun _ => False) e hp bp ⟨rfl, fun _ z => z⟩ fun z => z
    refine ⟨_, mt_clear, p, ws, rfl, rfl, hp, ?_⟩
    refine k .non B _ (fun _ => False) _ (Ex.refl B) u1 (fun a o h n1 n2 => ⟨u3 a o h fun z => n1 ((hfp a).mpr (.inl z)), rfl⟩) ⟨rfl, fun _ z => z⟩ u2 (fun _ z => z.elim) fun a z => ?_
    rcases z with z | z | z
    · exact z.elim
    · exact .inl ((hfp a).mpr (.inl z))
    · exact z.elim
  · cases hg
end
end Av
set_option Elab.async false
set_option linter.all false
set_option maxRecDepth 100000
set_option maxHeartbeats 2000000
/-! x[i] = e, x += e, more than one target. -/
namespace Av
open PySem L2

/-- a target whose store may change what the slots hold -/
structure GH (X : Cx) (cl : Str → Addr) (Rs : List Nat) (tg : Expr) (m : MG) : Prop where
  run : ∀ (σ : L2.St) (B H : Hp) (ρ : Env) (Z : Set') (v : V) (s : S) (fp : Set') (ρ' : Env), EV (gx X cl) B H σ ρ Z → SV (gx X cl) B H v s fp → Apart fp Z → m s ρ = some ρ' → ∀ Q : L2.St → Hp → Prop,
    (∀ σ' B' H' Z', (∀ i ∈ Rs, σ'[i]? = σ[i]?) → Nx B H (Or' fp Z) B' H' Z' → EV (gx X cl) B' H' σ' ρ' Z' → Q σ' H') → tUG X tg v σ H Q

/-- a dict's pairs with one more, or one otherwise -/
def putD {α : Type} : List Key → List α → Key → α → List Key × List α
  | k :: ks, x :: xs, j, y => if k = j then (k :: ks, y :: xs) else ((k :: (putD ks xs j y).1), x :: (putD ks xs j y).2)
  | _, _, j, y => ([j], [y])
/-- x[i] = s -/
def putS (t : S) (key : D) (s : S) : Option S := match t, key with
  | .lst xs, .int i => (match ixN xs.length i with
    | some j => some (.lst (xs.set j s))
    | none => none)
  | .dct ks xs, d => (match keyOf d with
    | some k => if ks.length < 100000 ∧ ks.Nodup then some (.dct (putD ks xs k s).1 (putD ks xs k s).2) else none
    | none => none)
  | _, _ => none

section
variable {G : Gx} {B H : Hp}
theorem map_other {ks : List Key} {vs : List V} {k : Key} {v : V} (h : k ∉ ks) : (ks.zip vs).map (fun kv => if kv.1 = k then (kv.1, v) else kv) = ks.zip vs := by
  have : ∀ kv ∈ ks.zip vs, (if kv.1 = k then (kv.1, v) else kv) = kv := fun kv hkv => by
    have : kv.1 ∈ ks := (List.of_mem_zip hkv).1
    rw [if_neg]
    rintro rfl
    exact h this
  rw [List.map_congr_left this]
  simp
theorem put_zip {k : Key} {v : V} : ∀ {ks : List Key} {vs : List V}, ks.length = vs.length → ks.Nodup → putK (ks.zip vs) k v = (putD ks vs k v).1.zip (putD ks vs k v).2
  | [], [], _, _ => rfl
  | j :: ks, u :: vs, hl, nd => by
    obtain ⟨nj, nd'⟩ := List.nodup_cons.mp nd
    have hl' : ks.length = vs.length := by simpa using hl
    have ih := put_zip (k := k) (v := v) hl' nd'
    unfold putD
    by_cases e : j = k
    · subst e
      rw [if_pos rfl]
      unfold putK
      simp only [List.zip_cons_cons, List.any_cons, decide_true, Bool.true_or, if_true, List.map_cons]
      rw [map_other nj]
    · rw [if_neg e]
      unfold putK at ih ⊢
      simp only [List.zip_cons_cons, List.any_cons, decide_eq_false e, Bool.false_or, List.map_cons, if_neg e]
      split
      · rename_i h
        rw [if_pos h] at ih
        rw [ih]
      · rename_i h
        rw [if_neg h] at ih
        rw [List.cons_append, ih]
  | [], _ :: _, hl, _ => by simp at hl
  | _ :: _, [], hl, _ => by simp at hl
theorem putD_keys {α β : Type} {k : Key} {x : α} {y : β} : ∀ {ks : List Key} {xs : List α} {ys : List β}, ks.length = xs.length → ks.length = ys.length → (putD ks xs k x).1 = (putD ks ys k y).1 ∧ (putD ks xs k x).1.length = (putD ks xs k x).2.length
  | [], [], [], _, _ => ⟨rfl, rfl⟩
  | j :: ks, u :: xs, w :: ys, h1, h2 => by
    have ih := putD_keys (k := k) (x := x) (y := y) (ks := ks) (xs := xs) (ys := ys) (by simpa using h1) (by simpa using h2)
    unfold putD
    by_cases e : j = k
    · rw [if_pos e, if_pos e]
      exact ⟨rfl, by simpa using h1⟩
    · rw [if_neg e, if_neg e]
      exact ⟨by rw [ih.1], by simp [ih.2]⟩
  | [], [], _ :: _, _, h => by simp at h
  | [], _ :: _, _, h, _ => by simp at h
  | _ :: _, [], _, h, _ => by simp at h
  | _ :: _, _ :: _, [], _, h => by simp at h
theorem putD_vs {k : Key} {v : V} {s : S} {f : Set'} : ∀ {ks : List Key} {vs : List V} {ss : List S} {fp : Set'}, ks.length = vs.length → SVs G B H vs ss fp → SV G B H v s f → (∀ a, f a → ¬ fp a) →
    ∃ g, SVs G B H (putD ks vs k v).2 (putD ks ss k s).2 g ∧ ∀ a, g a → f a ∨ fp a
  | [], [], ss, fp, _, h, hv, _ => by
    have e : ss = [] := List.eq_nil_of_length_eq_zero (by rw [← h.length]; rfl)
    subst e
    exact ⟨f, SVs.one hv, fun a z => .inl z⟩
  | j :: ks, u :: vs, [], fp, _, h, _, _ => by
    have := h.length
    simp at this
  | j :: ks, u :: vs, t :: ss, fp, hl, h, hv, ap => by
    obtain ⟨u', r, f1, f2, e, h1, h2, h3, h4⟩ := h
    cases e
    unfold putD
    by_cases e : j = k
    · rw [if_pos e, if_pos e]
      exact ⟨fun a => f a ∨ f2 a, ⟨v, vs, f, f2, rfl, hv, h2, fun a ha z => ap a ha ((h4 a).mpr (.inr z)), fun _ => Iff.rfl⟩, fun a z => z.elim .inl fun z => .inr ((h4 a).mpr (.inr z))⟩
    · rw [if_neg e, if_neg e]
      obtain ⟨g, g1, g2⟩ := putD_vs (ks := ks) (by simpa using hl) h2 hv fun a ha z => ap a ha ((h4 a).mpr (.inr z))
      refine ⟨fun a => f1 a ∨ g a, ⟨u, _, f1, g, rfl, h1, g1, fun a ha z => ?_, fun _ => Iff.rfl⟩, fun a z => ?_⟩
      · rcases g2 a z with r | r
        · exact ap a r ((h4 a).mpr (.inl ha))
        · exact h3 a ha r
      · rcases z with z | z
        · exact .inr ((h4 a).mpr (.inl z))
        · exact (g2 a z).elim .inl fun r => .inr ((h4 a).mpr (.inr r))
  | [], _ :: _, _, _, hl, _, _, _ => by simp at hl
  | _ :: _, [], _, _, hl, _, _, _ => by simp at hl

theorem SVs.setAt {ss : List S} {vs : List V} {fp f : Set'} {j : Nat} {v : V} {s : S} (h : SVs G B H vs ss fp) (hj : j < ss.length) (hv : SV G B H v s f) (ap : ∀ a, f a → ¬ fp a) :
    ∃ g, SVs G B H (vs.set j v) (ss.set j s) g ∧ ∀ a, g a → f a ∨ fp a := by
  obtain ⟨u, f0, fr, h1, h2, h3, h4, h5⟩ := h.pick (List.getElem?_eq_getElem hj)
  exact ⟨_, SVs.put hj h.length h3 hv fun b hb z => ap b hb ((h5 b).mpr (.inr z)), fun a z => z.elim .inl fun z => .inr ((h5 a).mpr (.inr z))⟩
theorem dct_upd {p : Addr} {kvs : List (Key × V)} {ks : List Key} {us : List V} {ts : List S} {fn : Set'} (e : Ex B H) (hp : ∃ o, H p = some o) (bp : B p = none) (hl : ks.length = us.length) (h2 : SVs G B H us ts fn) (np : ¬ fn p) :
    Ex B (upd H p (.dK (ks.zip us))) ∧ SV G B (upd H p (.dK (ks.zip us))) (.ref p) (.dct ks ts) (fun a => a = p ∨ fn a) ∧ ∀ a o, H a = some o → a ≠ p → upd H p (.dK (ks.zip us)) a = some o := by
  have keep : ∀ a o, H a = some o → a ≠ p → upd H p (.dK (ks.zip us)) a = some o := fun a o h n => (upd_ne n).trans h
  refine ⟨fun a o h => keep a o (e a o h) fun z => ?_, ⟨p, us, fn, rfl, upd_same, hl, bp, h2.mono (Ex.refl B) fun a ha => ⟨upd_ne fun z => np (z ▸ ha), (h2.own a ha).1⟩, np, fun _ => Iff.rfl⟩, keep⟩
  rw [z, bp] at h
  cases h
end

section
variable {X : Cx} {cl : Str → Addr} {W : WX} {Rs : List Nat} {st : Stmt} {e o a b i : Expr} {fe fi : M R} {pos : Pos} {m : MG} {x : Str} {j : Nat}
theorem GG.gh (h : GG X cl Rs e m) : GH X cl Rs e m := ⟨fun σ B H ρ Z v s fp ρ' E hv ap q Q k => h.run σ B H ρ Z v s fp ρ' E hv ap q Q fun σ' Z' k1 E1 z1 => k σ' B H Z' k1 (Nx.refl.sub z1) E1⟩
theorem gs_asgH {t : TE} {tg : Expr} {f : M R} (h : ∀ g, PG X tg g → PS X st (tAsg t g)) (he : TOk X cl W t f) (hg : GH X cl Rs tg m) : GS X cl W Rs st (sAsg f m) := ⟨fun σ B H ρ Z fl ρ' E q D F => by
  refine ⟨_, h _ pg_U, ?_⟩
  unfold sAsg sOf at q
  split at q
  · rename_i r ρ1 q1
    cases r with
    | pl i => cases q
    | t s =>
      dsimp only at q
      cases q2 : m s ρ1 with
      | none => rw [q2] at q; cases q
      | some ρ2 =>
        rw [q2] at q
        cases q
        refine he.run σ B H ρ Z _ _ E q1 _ (fun r' er v B1 H1 Z1 fp n1 E1 rv ap => ?_) (fun _ _ _ q => by cases q)
        cases er
        refine hg.run σ B1 H1 ρ1 Z1 v s fp ρ' E1 rv ap q2 _ fun σ2 B2 H2 Z2 k2 n2 E2 => ?_
        exact F σ2 B2 H2 Z2 k2 E2 (n1.trans n2 E.there)
  · rename_i c ns xs ρ1 q1
    cases q
    refine he.run σ B H ρ Z _ _ E q1 _ (fun _ q => by cases q) fun c' ns' xs' q B1 H1 Z1 n1 E1 d hd => ?_
    cases q
    exact F σ B1 H1 Z1 (fun _ _ => rfl) E1 n1 d hd
  · cases q⟩
theorem gs_asg' {tg : Expr} {f : M R} (he : GE X cl W e f) (hg : GH X cl Rs tg m) (hs : swapsWithSole [tg] e pos.line X.env = pure false := by rfl) (hw : swappedStores [tg] e X.env = pure none := by rfl)
    (h1 : (assignEach [tg] X.env).map (·.2) = [assign tg X.env] := by rfl) : GS X cl W Rs (.Assign [tg] e pos) (sAsg f m) :=
  gs_asgH (t := tU X e) (fun g hg => ps_asg pe_U hg hs hw h1) (ge_tok he) hg
/-- x[i] = .., x the name of slot j -/
def gStore (j : Nat) (fi : M R) : MG := fun s ρ => match ρ[j]? with
  | some (some _) => (match fi ρ with
    | some (.ok (.t (.im d)), ρ1) => (match ρ1[j]? with
      | some (some t) => (match putS t d s with
        | some t' => some (ρ1.set j (some t'))
        | none => none)
      | _ => none)
    | _ => none)
  | _ => none
theorem pset_U (X : Cx) : PSet X (fun o i v H Q => ∃ t, PSet X t ∧ t o i v H Q) := fun pins s σ H o i v ov iv u Q I ro ri rv ⟨_, ht, h⟩ => ht pins s σ H o i v ov iv u Q I ro ri rv h
/-- a store by values -/
theorem put_ok (hu : X.A.units + 1 < cLine) {B H : Hp} {v w : V} {d : D} {t t' s : S} {f fp : Set'} (ht : SV (gx X cl) B H w t f) (hd : DV (gx X cl) B v d) {u : V} (hs : SV (gx X cl) B H u s fp) (ap : Apart fp f) (e : Ex B H) (q : putS t d s = some t') (Q : Hp → Prop)
    (k : ∀ H' g, Ex B H' → (∀ a o, H a = some o → ¬ f a → H' a = some o) → SV (gx X cl) B H' w t' g → (∀ a, g a → fp a ∨ f a) → (∀ a, ¬ f a → H' a = H a) → Q H') : ∃ r, PSet X r ∧ r w v u H Q := by
  unfold putS at q
  split at q
  · rename_i xs i
    cases hj : ixN xs.length i with
    | none => rw [hj] at q; cases q
    | some n =>
      rw [hj] at q
      cases q
      obtain ⟨p, ws, fq, rfl, hp, bp, hw, nq, hfp⟩ := ht
      cases hd
      obtain ⟨q1, q2, q3, q4⟩ := ixN_seq hj
      obtain ⟨g, g1, g2⟩ := hw.setAt q2 hs fun a ha z => ap a ha ((hfp a).mpr (.inr z))
      have ng : ¬ g p := fun z => (g2 p z).elim (fun y => ap p y ((hfp p).mpr (.inl rfl))) nq
      obtain ⟨u1, u2, u3⟩ := list_upd (fq := fq) (ss := xs) e hp bp g1 ng
      refine ⟨_, set_list, p, ws, i, n, rfl, rfl, hp, by rw [hw.length]; exact hj, ?_⟩
      exact k _ _ u1 (fun a o h n => u3 a o h fun z => n ((hfp a).mpr (.inl z))) u2 (fun a z => z.elim (fun z => .inr ((hfp a).mpr (.inl z))) fun z => (g2 a z).elim .inl fun z => .inr ((hfp a).mpr (.inr z)))
        fun a n => upd_ne fun z => n ((hfp a).mpr (.inl z))
  · rename_i ks xs
    cases hk : keyOf d with
    | none => rw [hk] at q; cases q
    | some ky =>
      rw [hk] at q
      dsimp only at q
      split at q
      · rename_i hz
        cases q
        obtain ⟨p, ws, fq, rfl, hp, hl, bp, hw, nq, hfp⟩ := ht
        have ev := keyOf_ok hd hk
        subst ev
        obtain ⟨g, g1, g2⟩ := putD_vs (k := ky) hl hw hs fun a ha z => ap a ha ((hfp a).mpr (.inr z))
        have ng : ¬ g p := fun z => (g2 p z).elim (fun y => ap p y ((hfp p).mpr (.inl rfl))) nq
        have hxl : ks.length = xs.length := by rw [hl, hw.length]
        have k1 := putD_keys (k := ky) (x := u) (y := s) hl hxl
        have k2 := putD_keys (k := ky) (x := s) (y := u) hxl hl
        obtain ⟨u1, u2, u3⟩ := dct_upd (kvs := ks.zip ws) (ks := (putD ks xs ky s).1) e ⟨_, hp⟩ bp (by rw [← k1.1]; exact k1.2) g1 ng
        refine ⟨_, set_dict hu, p, upd H p (.dK ((putD ks xs ky s).1.zip (putD ks ws ky u).2)), rfl, ?_, ?_⟩
        · have pz : putK (ks.zip ws) ky u = (putD ks xs ky s).1.zip (putD ks ws ky u).2 := by rw [put_zip hl hz.2, k1.1]
          rw [← pz]
          exact DPut.k hp (by rw [List.length_zip]; have := sz_lt hz.1; omega)
        · exact k _ _ u1 (fun a o h n => u3 a o h fun z => n ((hfp a).mpr (.inl z))) u2 (fun a z => z.elim (fun z => .inr ((hfp a).mpr (.inl z))) fun z => (g2 a z).elim .inl fun z => .inr ((hfp a).mpr (.inr z)))
            fun a n => upd_ne fun z => n ((hfp a).mpr (.inl z))
      · cases q
  · cases q
theorem gh_store (hu : X.A.units + 1 < cLine) (hj : j ∉ Rs ∨ True) (ho : PE X o (tVar j)) (hi : GE X cl W i fi)
    (ha : ∀ v, assign (.Subscript o i pos) X.env v = (do
      let ov ← holding [v] (eval o X.env)
      let iv ← holding [v, ov] (eval i X.env)
      standAt pos
      holding [v, ov, iv] (setItem ov iv v)
      release [v, ov, iv] []) := by intro _; rfl) : GH X cl Rs (.Subscript o i pos) (gStore j fi) := ⟨fun σ B H ρ Z v s fp ρ' E hv ap q Q k => by
  refine ⟨_, pg_sub ho pe_U (pset_U X) ha, ?_⟩
  unfold gStore at q
  split at q
  · rename_i t0 h0
    obtain ⟨w, f0, e0, _, _⟩ := E.get h0
    refine ⟨w, e0, ?_⟩
    split at q
    · rename_i d ρ1 q1
      split at q
      · rename_i t hj1
        cases q2 : putS t d s with
        | none => rw [q2] at q; cases q
        | some t' =>
          rw [q2] at q
          cases q
          refine hi.run σ B H ρ Z _ _ E q1 _ (fun r' er u B1 H1 Z1 fu n1 E1 ru au => ?_) (fun _ _ _ q => by cases q)
          cases er
          have hvo : ∀ a, fp a → ∃ o, H a = some o := fun a ha => (hv.own a ha).2
          have n1' := n1.drop
          have hv1 : SV (gx X cl) B1 H1 v s fp := hv.pass n1' ap
          have ap1 : Apart fp Z1 := n1'.apart ap hvo
          obtain ⟨w', f, Zr, e1, hw, E2, ap2, hz⟩ := E1.out hj1
          have ew : w' = w := by
            rw [e0] at e1
            exact (Option.some.inj (Option.some.inj e1)).symm
          subst ew
          have hl : j < ρ1.length := (List.getElem?_eq_some_iff.mp hj1).1
          refine put_ok hu hw ru.1 hv1 (fun a ha z => ap1 a ha ((hz a).mpr (.inl z))) E1.sub q2 _ fun H2 g x1 x2 hg gg same => ?_
          have E3 : EV (gx X cl) B1 H2 σ (ρ1.set j none) Zr := E2.mono (Ex.refl B1) x1 fun a ha => ⟨same a fun z => ap2 a z ha, (E2.own a ha).1⟩
          have out : ∀ a, g a → ¬ Zr a := fun a ha z => (gg a ha).elim (fun y => ap1 a y ((hz a).mpr (.inr z))) fun y => ap2 a y z
          have E4 := E3.put (i := j) (s := t') (v := w') (f := g) (by rw [List.length_set]; exact hl) (fun s q => by
            rw [List.getElem?_set_self hl] at q
            cases q) hg out
          rw [List.set_set, set_self e0] at E4
          refine k σ B1 H2 _ (fun _ _ => rfl) ?_ E4
          have nn : Nx B H (Or' fp Z) B1 H1 (Or' fp Z1) := ⟨n1.ex, fun a o h z => n1.fr a o h fun y => z (.inr y), fun a z => z.elim (fun y => .inl (.inl y)) fun y => (n1'.gr a y).elim (fun r => .inl (.inr r)) .inr⟩
          refine nn.trans ⟨Ex.refl B1, fun a o h z => ⟨x2 a o h fun y => z (.inr ((hz a).mpr (.inl y))), rfl⟩, fun a z => ?_⟩ fun a z => z.elim (hvo a) (E.there a)
          rcases z with z | z
          · exact .inl ((gg a z).elim .inl fun y => .inr ((hz a).mpr (.inl y)))
          · exact .inl (.inr ((hz a).mpr (.inr z)))
      · cases q
    · cases q
  · cases q⟩

/-! ### x += e, ints -/
def sAug (j : Nat) (g : Int → Int → Int) (f : M R) : MS := fun ρ => match ρ[j]? with
  | some (some (.im (.int a))) => (match f ρ with
    | some (.ok (.t (.im (.int b))), ρ1) => some (.nx, ρ1.set j (some (.im (.int (g a b)))))
    | some (.er c ns xs, ρ1) => some (.er c ns xs, ρ1)
    | _ => none)
  | _ => none
theorem gs_aug {op : Operator} {g : Int → Int → Int} {f : M R} {pos' : Pos} (hp : PIp X op (ipI g)) (hN : X.N.Nodup) (hr : j ∉ Rs) (he : GE X cl W e f) (hi : X.N[j]? = some x := by rfl) (hx : Loc X.env.scope x := by first | exact Or.inl rfl | exact Or.inr rfl)
    (hf : X.fn x = true ∨ X.env.scope.names.lookup x = some .local := by first | exact .inl rfl | exact .inr rfl | assumption) : GS X cl W Rs (.AugAssign (.Name x pos') op e pos) (sAug j g f) := ⟨fun σ B H ρ Z fl ρ' E q D F => by
  refine ⟨_, ps_aug hN hi hx pe_U hp hf, ?_⟩
  unfold sAug at q
  split at q
  · rename_i a0 h0
    obtain ⟨w, f0, e0, hw, _⟩ := E.get h0
    have ew : w = .int a0 := hw.1
    subst ew
    refine ⟨_, e0, ?_⟩
    split at q
    · rename_i b0 ρ1 q1
      cases q
      refine he.run σ B H ρ Z _ _ E q1 _ (fun r' er v B1 H1 Z1 fp n1 E1 rv ap => ?_) (fun _ _ _ q => by cases q)
      cases er
      have ev : v = .int b0 := rv.1
      subst ev
      refine ⟨a0, b0, rfl, rfl, ?_⟩
      have hl : j < ρ1.length := by
        rw [← E1.len]
        exact (List.getElem?_eq_some_iff.mp e0).1
      obtain ⟨Z2, E2, hz⟩ := E1.store (v := .int (g a0 b0)) (s := .im (.int (g a0 b0))) (fp := fun _ => False) ⟨rfl, fun _ z => z⟩ (fun _ z => z.elim) hl
      exact F _ B1 H1 Z2 (fun i hi => by rw [List.getElem?_set_ne]; rintro rfl; exact hr hi) E2 (n1.sub fun a z => .inr ((hz a z).elim False.elim id))
    · rename_i c ns xs ρ1 q1
      cases q
      refine he.run σ B H ρ Z _ _ E q1 _ (fun _ q => by cases q) fun c' ns' xs' q B1 H1 Z1 n1 E1 d hd => ?_
      cases q
      exact F σ B1 H1 Z1 (fun _ _ => rfl) E1 n1 d hd
    · cases q
  · cases q⟩

/-! ### a, b = e, f: no pair is kept -/
/-- trees to names, from the left -/
def stores : List Nat → List S → Env → Option Env
  | [], [], ρ => some ρ
  | j :: js, s :: ss, ρ => if j < ρ.length then stores js ss (ρ.set j (some s)) else none
  | _, _, _ => none
def sPar (js : List Nat) (f : M (List R)) : MS := fun ρ => match f ρ with
  | some (.ok rs, ρ1) => (match trees rs with
    | some ss => (stores js ss ρ1).map fun ρ2 => (.nx, ρ2)
    | none => none)
  | some (.er c ns xs, ρ1) => some (.er c ns xs, ρ1)
  | none => none
def setAll : List Nat → List V → L2.St → L2.St
  | j :: js, v :: vs, σ => setAll js vs (σ.set j (some v))
  | _, _, σ => σ
theorem stores_ok {G : Gx} {B H : Hp} : ∀ {js : List Nat} {ss : List S} {vs : List V} {fp Z : Set'} {σ : L2.St} {ρ ρ' : Env}, EV G B H σ ρ Z → SVs G B H vs ss fp → Apart fp Z → stores js ss ρ = some ρ' →
    vs.length = js.length ∧ ∃ Z', EV G B H (setAll js vs σ) ρ' Z' ∧ (∀ a, Z' a → fp a ∨ Z a) ∧ ∀ i, i ∉ js → (setAll js vs σ)[i]? = σ[i]?
  | [], [], vs, fp, Z, σ, ρ, ρ', E, h, ap, q => by
    cases q
    obtain ⟨rfl, _⟩ := h
    exact ⟨rfl, Z, E, fun a z => .inr z, fun _ _ => rfl⟩
  | j :: js, s :: ss, vs, fp, Z, σ, ρ, ρ', E, h, ap, q => by
    unfold stores at q
    split at q
    · rename_i hl
      obtain ⟨v, r, f1, f2, rfl, h1, h2, h3, h4⟩ := h
      obtain ⟨Z1, E1, z1⟩ := E.store h1 (fun a ha => ap a ((h4 a).mpr (.inl ha))) hl
      have ap1 : Apart f2 Z1 := fun a ha z => (z1 a z).elim (fun y => h3 a y ha) fun y => ap a ((h4 a).mpr (.inr ha)) y
      obtain ⟨k1, Z', E', z', k2⟩ := stores_ok E1 h2 ap1 q
      refine ⟨by simp [k1], Z', E', fun a z => ?_, fun i hi => ?_⟩
      · rcases z' a z with y | y
        · exact .inl ((h4 a).mpr (.inr y))
        · exact (z1 a y).elim (fun y => .inl ((h4 a).mpr (.inl y))) .inr
      · show (setAll js r (σ.set j (some v)))[i]? = _
        rw [k2 i fun z => hi (List.mem_cons_of_mem _ z), List.getElem?_set_ne]
        rintro rfl
        exact hi (List.mem_cons_self ..)
    · cases q
  | [], _ :: _, _, _, _, _, _, _, _, _, _, q => by cases q
  | _ :: _, [], _, _, _, _, _, _, _, _, _, q => by cases q
/-- names as one tuple target, by places -/
theorem gs_par_of {js : List Nat} {es : List Expr} {f : M (List R)} (hr : ∀ j ∈ js, j ∉ Rs) (h : PS X st (fun D σ H => tUA X es σ H fun vs H1 => ∀ H2, (H2 = H1 ∨ ∃ p, H1 p = none ∧ H2 = upd H1 p (.tup vs)) → vs.length = js.length → D.nx (setAll js vs σ) H2)) (he : GA X cl W es f) :
    GS X cl W Rs st (sPar js f) := ⟨fun σ B H ρ Z fl ρ' E q D F => by
  refine ⟨_, h, ?_⟩
  unfold sPar at q
  split at q
  · rename_i rs ρ1 q1
    cases q2 : trees rs with
    | none => rw [q2] at q; cases q
    | some ss =>
      rw [q2] at q
      dsimp only at q
      cases q3 : stores js ss ρ1 with
      | none => rw [q3] at q; cases q
      | some ρ2 =>
        rw [q3] at q
        cases q
        refine he.run σ B H ρ Z _ _ E q1 _ (fun r' er vs B1 H1 Z1 fp n1 E1 rvs ap => ?_) (fun _ _ _ q => by cases q)
        cases er
        intro H2 hH _
        have sv := rvs.trees q2
        have step : ∃ n : Nx B H Z B1 H2 (Or' fp Z1), EV (gx X cl) B1 H2 σ ρ1 Z1 ∧ SVs (gx X cl) B1 H2 vs ss fp := by
          rcases hH with rfl | ⟨p, hp, rfl⟩
          · exact ⟨n1, E1, sv⟩
          · have keep : ∀ a o, H1 a = some o → upd H1 p (.tup vs) a = some o := fun a o h => Ex.new hp a o h
            have same : ∀ a, (∃ o, H1 a = some o) → upd H1 p (.tup vs) a = H1 a := fun a ⟨o, ho⟩ => (keep a o ho).trans ho.symm
            refine ⟨n1.trans ⟨Ex.refl B1, fun a o h _ => ⟨keep a o h, rfl⟩, fun a z => .inl z⟩ E.there, E1.mono (Ex.refl B1) (fun a o h => keep a o (E1.sub a o h)) fun a ha => ⟨same a (E1.there a ha), (E1.own a ha).1⟩,
              sv.mono (Ex.refl B1) fun a ha => ⟨same a (sv.own a ha).2, (sv.own a ha).1⟩⟩
        obtain ⟨n2, E2, sv2⟩ := step
        obtain ⟨_, Z3, E3, z3, k3⟩ := stores_ok E2 sv2 ap q3
        exact F _ B1 H2 Z3 (fun i hi => k3 i fun z => hr i z hi) E3 (n2.sub z3)
  · rename_i c ns xs ρ1 q1
    cases q
    refine he.run σ B H ρ Z _ _ E q1 _ (fun _ q => by cases q) fun c' ns' xs' q B1 H1 Z1 n1 E1 d hd => ?_
    cases q
    exact F σ B1 H1 Z1 (fun _ _ => rfl) E1 n1 d hd
  · cases q⟩
end
end Av
set_option Elab.async false
set_option linter.all false
set_option maxRecDepth 100000
set_option maxHeartbeats 2000000
/-! Slices, texts' methods, all, any, sum, max, min, isinstance, dicts' get. -/
namespace Av
open PySem L2

section
variable {X : Cx} {cl : Str → Addr} {W : WX} {a b c e o : Expr} {es : List Expr} {fa fb fc f fo : M R} {pos p p2 : Pos}
/-! ### slices -/
structure GO (X : Cx) (cl : Str → Addr) (W : WX) (e : Option Expr) (f : M (Option Int)) : Prop where
  run : ∀ (σ : L2.St) (B H : Hp) (ρ : Env) (Z : Set') (res : Res (Option Int)) (ρ' : Env), EV (gx X cl) B H σ ρ Z → f ρ = some (res, ρ') → ∀ Q : Option Int → Hp → Prop,
    (∀ r, res = .ok r → ∀ B' H' Z', Nx B H Z B' H' Z' → EV (gx X cl) B' H' σ ρ' Z' → Q r H') →
    (∀ c ns xs, res = .er c ns xs → ∀ B' H' Z', Nx B H Z B' H' Z' → EV (gx X cl) B' H' σ ρ' Z' → ∀ d, ErV (gx X cl) B' ns xs d → W (.ref (cl c)) d σ H') → ∃ t, PO X e t ∧ t σ H Q
def oNone : M (Option Int) := M.ret none
def oSome (f : M R) : M (Option Int) := f.bind fun r ρ => match rd ρ r with
  | some (.im (.int i)) => some (.ok (some i), ρ)
  | _ => none
theorem go_none : GO X cl W none oNone := ⟨fun σ B H ρ Z res ρ' E q Q k _ => by
  cases q
  exact ⟨_, po_none, k _ rfl B H Z Nx.refl E⟩⟩
theorem go_some (h : GE X cl W e f) : GO X cl W (some e) (oSome f) := ⟨fun σ B H ρ Z res ρ' E q Q k ke => by
  refine ⟨_, po_some pe_U, ?_⟩
  rcases bind_ok q with ⟨r, ρ1, e2, e3⟩ | ⟨c, ns, xs, e2, e3⟩
  · refine h.run σ B H ρ Z _ _ E e2 _ (fun r' er v B1 H1 Z1 fp n1 E1 rv ap => ?_) (fun _ _ _ q => by cases q)
    cases er
    split at e3
    · rename_i i q2
      cases e3
      obtain ⟨f2, hv⟩ := rv.read E1 q2
      exact ⟨i, hv.1, k _ rfl B1 H1 Z1 n1.drop E1⟩
    · cases e3
  · subst e3
    exact h.run σ B H ρ Z _ _ E e2 _ (fun _ q => by cases q) fun _ _ _ q => by cases q; exact ke _ _ _ rfl⟩
def cutG {α : Type} (xs : List α) (lo hi : Option Int) : List α := (xs.drop (HT.sIx xs.length 0 lo)).take (HT.sIx xs.length xs.length hi - HT.sIx xs.length 0 lo)
theorem DVs.cut {G : Gx} {B : Hp} {vs : List V} {ds : List D} (h : DVs G B vs ds) (lo hi : Option Int) : DVs G B (cutV vs lo hi) (cutG ds lo hi) := by
  unfold cutV cutG
  rw [h.length]
  exact (h.drop _).take _
/-- s[lo:hi] -/
def sliceS (s : S) (lo hi : Option Int) : Option S := match s with
  | .im (.str x) => if x.length ≤ 100000 then some (.im (.str (cutS x lo hi))) else none
  | .im (.tup ds) => some (.im (.tup (cutG ds lo hi)))
  | t => (items t).map fun ds => .lst ((cutG ds lo hi).map .im)
def xSlice (fo : M R) (fl fh : M (Option Int)) : M R := fo.bind fun r => fl.bind fun lo => fh.bind fun hi ρ => match (rd ρ r).bind fun s => sliceS s lo hi with
  | some z => some (.ok (.t z), ρ)
  | none => none
theorem slice_ok {B H : Hp} {v : V} {s z : S} {f : Set'} {lo hi : Option Int} {Q : VK} (e : Ex B H) (h : SV (gx X cl) B H v s f) (q : sliceS s lo hi = some z)
    (k : ∀ w B' H' f, New B H B' H' f → SV (gx X cl) B' H' w z f → Q w H') : ∃ r, SlR X r ∧ r v lo hi H Q := by
  unfold sliceS at q
  split at q
  · split at q
    · rename_i x c
      cases q
      cases h.1
      exact ⟨_, sl_str, _, rfl, sz_of c, k _ B H _ (New.refl e) ⟨rfl, fun _ z => z⟩⟩
    · cases q
  · rename_i ds
    cases q
    obtain ⟨⟨a, vs, rfl, h3, h4⟩, _⟩ := h
    have hl := h4.length
    refine ⟨_, sl_tupA, a, vs, rfl, ex_t e h3, fun hw => ?_, fun hw p hp => ?_⟩
    · have : cutG ds lo hi = ds := by
        unfold cutG
        rw [← hl, hw.1, hw.2, List.drop_zero, hl]
        exact List.take_of_length_le (by omega)
      rw [this] at k
      exact k _ B H _ (New.refl e) ⟨⟨a, vs, rfl, h3, h4⟩, fun _ z => z⟩
    · obtain ⟨n, q⟩ := new_tup e hp (h4.cut lo hi)
      exact k _ _ _ _ n q
  · cases hi' : items s with
    | none => rw [hi'] at q; cases q
    | some ds =>
      rw [hi'] at q
      cases q
      rename_i n1 n2
      have hsq : ∃ a vs, v = .ref a ∧ SqL X.K H a vs ∧ DVs (gx X cl) B vs ds := by
        cases s with
        | im d =>
          cases d with
          | lst es =>
            cases hi'
            obtain ⟨⟨a, vs, rfl, h3, h4⟩, _⟩ := h
            exact ⟨a, vs, rfl, sq_of (e _ _ h3), h4⟩
          | slst es =>
            cases hi'
            obtain ⟨⟨a, vs, rfl, h3, h4⟩, _⟩ := h
            exact ⟨a, vs, rfl, ex_l e h3, h4⟩
          | tup es => exact (n2 es rfl).elim
          | _ => cases hi'
        | lst ts =>
          obtain ⟨a, vs, fq, rfl, h3, _, h4, _⟩ := h
          have q' := allIm_eq hi'
          subst q'
          exact ⟨a, vs, rfl, sq_of h3, (SVs.ofIm h4).1⟩
        | _ => cases hi'
      obtain ⟨a, vs, rfl, h3, h4⟩ := hsq
      refine ⟨_, sl_list, a, vs, rfl, h3, fun p hp => ?_⟩
      obtain ⟨n, q⟩ := new_lst e hp (DVs.im (h4.cut lo hi))
      exact k _ _ _ _ n q
theorem ge_slice {lo hi : Option Expr} {fl fh : M (Option Int)} (ho : GE X cl W o fo) (hl : GO X cl W lo fl) (hh : GO X cl W hi fh) : GE X cl W (.Subscript o (.Slice lo hi none p2) pos) (xSlice fo fl fh) := by
  have hr : SlR X (fun x lo hi H Q => ∃ r, SlR X r ∧ r x lo hi H Q) := fun pins s σ H x v vl vu lo hi sl Q I rx hs pl pu ⟨_, hr, q⟩ => hr pins s σ H x v vl vu lo hi sl Q I rx hs pl pu q
  have po : ∀ (e : Option Expr), PO X e (fun σ H Q => ∃ t, PO X e t ∧ t σ H Q) := fun e => ⟨fun pins s σ H Q I ⟨_, ht, q⟩ => ht.run pins s σ H Q I q⟩
  refine ge_t (pe_slice hr pe_U (po lo) (po hi)) ⟨fun σ B H ρ Z res ρ' E e1 Q k ke => ?_⟩
  rcases bind_ok e1 with ⟨r, ρ1, e2, e3⟩ | ⟨c, ns, xs, e2, e3⟩
  · refine ho.run σ B H ρ Z _ _ E e2 _ (fun r' er v B1 H1 Z1 fp n1 E1 rv ap => ?_) (fun _ _ _ q => by cases q)
    cases er
    rcases bind_ok e3 with ⟨l, ρ2, e4, e5⟩ | ⟨c, ns, xs, e4, e5⟩
    · refine hl.run σ B1 H1 ρ1 Z1 _ _ E1 e4 _ (fun r' er B2 H2 Z2 n2 E2 => ?_) (fun _ _ _ q => by cases q)
      cases er
      rcases bind_ok e5 with ⟨h, ρ3, e6, e7⟩ | ⟨c, ns, xs, e6, e7⟩
      · refine hh.run σ B2 H2 ρ2 Z2 _ _ E2 e6 _ (fun r' er B3 H3 Z3 n3 E3 => ?_) (fun _ _ _ q => by cases q)
        cases er
        have n13 : Nx B1 H1 Z1 B3 H3 Z3 := n2.then n3 E1
        have rv3 := rv.pass n13 ap
        have n03 : Nx B H Z B3 H3 Z3 := n1.drop.then n13 E
        cases q : rd ρ3 r with
        | none => rw [q] at e7; cases e7
        | some s =>
          rw [q] at e7
          dsimp only [Option.bind] at e7
          cases q2 : sliceS s l h with
          | none => rw [q2] at e7; cases e7
          | some z =>
            rw [q2] at e7
            cases e7
            obtain ⟨f2, hv⟩ := rv3.read E3 q
            exact slice_ok E3.sub hv q2 fun w B4 H4 f4 nw hw => k _ rfl w B4 H4 Z3 f4 (n03.then (nw.nx fun _ _ => trivial) E) (E3.new nw) hw (nw.apart E3.there)
      · subst e7
        exact hh.run σ B2 H2 ρ2 Z2 _ _ E2 e6 _ (fun _ q => by cases q) fun _ _ _ q B3 H3 Z3 n3 E3 => by cases q; exact ke _ _ _ rfl B3 H3 Z3 (n1.drop.then (n2.then n3 E1) E) E3
    · subst e5
      exact hl.run σ B1 H1 ρ1 Z1 _ _ E1 e4 _ (fun _ q => by cases q) fun _ _ _ q B3 H3 Z3 n3 E3 => by cases q; exact ke _ _ _ rfl B3 H3 Z3 (n1.drop.then n3 E) E3
  · subst e3
    exact ho.run σ B H ρ Z _ _ E e2 _ (fun _ q => by cases q) ke

/-! ### texts -/
theorem op_mul_str : OpR X (binaryOp .Mult) (fun x y H Q => ∃ s n, x = .str s ∧ y = .int n ∧ MulOk s n ∧ Q (.str (Txt.mul s n)) H) := fun pins s σ H x y v u Q I rx ry ⟨z, n, e1, e2, ok, q⟩ => by
  subst e1 e2
  obtain ⟨t, rfl⟩ := rx
  obtain ⟨t', rfl⟩ := ry
  exact SB.mul ok fun t' k => ⟨.str (Txt.mul z n), H, I.tok k, ⟨t', rfl⟩, q⟩
open Classical in
/-- text * number, else as ints and lists -/
noncomputable def bMulS : List S → Option S
  | [.im (.str x), .im (.int k)] => if MulOk x k then some (.im (.str (Txt.mul x k))) else none
  | ss => bMul ss
theorem opn_mulS : OpN X cl (relOp X .Mult) bMulS := fun B H vs ss z e hl hs hg Q k => by
  unfold bMulS at hg
  split at hg
  · split at hg
    · rename_i c
      cases hg
      obtain ⟨v, u, rfl, ⟨_, h1, _⟩, ⟨_, h2, _⟩⟩ := hs2 hl hs
      cases h1; cases h2
      exact ⟨_, l2_op op_mul_str, _, _, rfl, _, _, rfl, rfl, c, k _ B H _ (New.refl e) ⟨rfl, fun _ z => z⟩⟩
    · cases hg
  · exact opn_mul B H vs _ z e hl hs hg Q k
/-- texts among data -/
def strsD : List D → Option (List Str)
  | [] => some []
  | .str x :: ds => (strsD ds).map (x :: ·)
  | _ :: _ => none
theorem strsD_ok {G : Gx} {B : Hp} : ∀ {ds : List D} {vs : List V} {xs : List Str}, DVs G B vs ds → strsD ds = some xs → vs = xs.map V.str
  | [], vs, xs, h, q => by cases q; exact h
  | .str x :: ds, vs, xs, h, q => by
    unfold strsD at q
    cases e : strsD ds with
    | none => rw [e] at q; cases q
    | some ys =>
      rw [e] at q
      cases q
      obtain ⟨v, r, rfl, h1, h2⟩ := h
      rw [show v = V.str x from h1, strsD_ok h2 e]
      rfl
  | .non :: _, _, _, _, q => by cases q
  | .bl _ :: _, _, _, _, q => by cases q
  | .int _ :: _, _, _, _, q => by cases q
  | .tup _ :: _, _, _, _, q => by cases q
  | .lst _ :: _, _, _, _, q => by cases q
  | .slst _ :: _, _, _, _, q => by cases q
  | .dct _ _ :: _, _, _, _, q => by cases q
  | .ins _ _ _ :: _, _, _, _, q => by cases q
def intsD : List D → Option (List Int)
  | [] => some []
  | .int x :: ds => (intsD ds).map (x :: ·)
  | _ :: _ => none
theorem intsD_ok {G : Gx} {B : Hp} : ∀ {ds : List D} {vs : List V} {xs : List Int}, DVs G B vs ds → intsD ds = some xs → vs = xs.map V.int
  | [], vs, xs, h, q => by cases q; exact h
  | .int x :: ds, vs, xs, h, q => by
    unfold intsD at q
    cases e : intsD ds with
    | none => rw [e] at q; cases q
    | some ys =>
      rw [e] at q
      cases q
      obtain ⟨v, r, rfl, h1, h2⟩ := h
      rw [show v = V.int x from h1, intsD_ok h2 e]
      rfl
  | .non :: _, _, _, _, q => by cases q
  | .bl _ :: _, _, _, _, q => by cases q
  | .str _ :: _, _, _, _, q => by cases q
  | .tup _ :: _, _, _, _, q => by cases q
  | .lst _ :: _, _, _, _, q => by cases q
  | .slst _ :: _, _, _, _, q => by cases q
  | .dct _ _ :: _, _, _, _, q => by cases q
  | .ins _ _ _ :: _, _, _, _, q => by cases q
def blsD : List D → Option (List Bool)
  | [] => some []
  | .bl x :: ds => (blsD ds).map (x :: ·)
  | _ :: _ => none
theorem blsD_ok {G : Gx} {B : Hp} : ∀ {ds : List D} {vs : List V} {xs : List Bool}, DVs G B vs ds → blsD ds = some xs → vs = xs.map V.bl
  | [], vs, xs, h, q => by cases q; exact h
  | .bl x :: ds, vs, xs, h, q => by
    unfold blsD at q
    cases e : blsD ds with
    | none => rw [e] at q; cases q
    | some ys =>
      rw [e] at q
      cases q
      obtain ⟨v, r, rfl, h1, h2⟩ := h
      rw [show v = V.bl x from h1, blsD_ok h2 e]
      rfl
  | .non :: _, _, _, _, q => by cases q
  | .int _ :: _, _, _, _, q => by cases q
  | .str _ :: _, _, _, _, q => by cases q
  | .tup _ :: _, _, _, _, q => by cases q
  | .lst _ :: _, _, _, _, q => by cases q
  | .slst _ :: _, _, _, _, q => by cases q
  | .dct _ _ :: _, _, _, _, q => by cases q
  | .ins _ _ _ :: _, _, _, _, q => by cases q
/-- sep.join(xs) -/
def bJoin : List S → Option S
  | [.im (.str a), s] => ((items s).bind strsD).bind fun xs => if (xs.map (·.length)).sum + xs.length * a.length ≤ 16777216 then some (.im (.str (Txt.join a xs))) else none
  | _ => none
theorem opn_join : OpN X cl (relM X "str.join") bJoin := fun B H vs ss z e hl hs hg Q k => by
  unfold bJoin at hg
  split at hg
  · rename_i a s
    cases q1 : items s with
    | none => rw [q1] at hg; cases hg
    | some ds =>
      rw [q1] at hg
      cases q2 : strsD ds with
      | none => simp [q2] at hg
      | some xs =>
        simp only [q2, Option.bind] at hg
        split at hg
        · rename_i c
          cases hg
          obtain ⟨v, u, rfl, ⟨_, h1, _⟩, ⟨_, h2⟩⟩ := hs2 hl hs
          cases h1
          obtain ⟨p, ws, rfl, hq, hd⟩ := items_ok h2 e q1
          rw [strsD_ok hd q2] at hq
          refine ⟨fun vs H Q => ∃ a p, ∃ ys : List Str, vs = [.str a, .ref p] ∧ (SqL X.K H p (ys.map V.str) ∨ SqT X.K H p (ys.map V.str)) ∧ (ys.map (·.length)).sum + ys.length * a.length ≤ 16777216 ∧ Q (.str (Txt.join a ys)) H, ?_, a, p, xs, rfl, hq, c, k _ B H _ (New.refl e) ⟨rfl, fun _ z => z⟩⟩
          intro pins s σ H x xs v us Q I rx rs ⟨a, p, ys, ev, h1, h2, h3⟩
          cases ev
          exact mt_join pins s σ H _ _ v us Q I rx rs ⟨a, p, ys, rfl, rfl, h1, h2, h3⟩
        · cases hg
  · cases hg
/-- s.split(sep) -/
def bSplit : List S → Option S
  | [.im (.str a), .im (.str b)] => if (b.length == 0) = false ∧ a.length + 2 ≤ 100000 then some (.lst ((Txt.split a b).map fun x => .im (.str x))) else none
  | _ => none
theorem dvs_strs {G : Gx} {B : Hp} : ∀ xs : List Str, DVs G B (xs.map V.str) (xs.map D.str)
  | [] => rfl
  | x :: xs => ⟨_, _, rfl, rfl, dvs_strs xs⟩
theorem dvs_ints {G : Gx} {B : Hp} : ∀ xs : List Int, DVs G B (xs.map V.int) (xs.map D.int)
  | [] => rfl
  | x :: xs => ⟨_, _, rfl, rfl, dvs_ints xs⟩
theorem opn_split : OpN X cl (relM X "str.split") bSplit := fun B H vs ss z e hl hs hg Q k => by
  unfold bSplit at hg
  split at hg
  · rename_i a b
    split at hg
    · rename_i c
      cases hg
      obtain ⟨v, u, rfl, ⟨_, h1, _⟩, ⟨_, h2, _⟩⟩ := hs2 hl hs
      cases h1; cases h2
      refine ⟨fun vs H Q => ∃ a b, vs = [.str a, .str b] ∧ (b.length == 0) = false ∧ a.length + 2 ≤ sizeLine ∧ rNewStrs (Txt.split a b) H Q, ?_, a, b, rfl, c.1, sz_of c.2, fun p hp => ?_⟩
      · intro pins s σ H x xs v us Q I rx rs ⟨a, b, ev, h1, h2, h3⟩
        cases ev
        exact mt_split pins s σ H _ _ v us Q I rx rs ⟨a, b, rfl, rfl, h1, h2, h3⟩
      · obtain ⟨n, q⟩ := new_lst e hp (DVs.im (H := H) (dvs_strs (G := gx X cl) (B := B) (Txt.split a b)))
        rw [List.map_map] at q
        exact k _ _ _ _ n q
    · cases hg
  · cases hg

/-! ### all, any, sum, max, min -/
def lstItems : S → Option (List D)
  | .im (.lst ds) => some ds
  | .lst ss => allIm ss
  | _ => none
def bAll : List S → Option S
  | [s] => ((elems s).bind blsD).map fun bs => .im (.bl (bs.all id))
  | _ => none
def bAny : List S → Option S
  | [s] => ((elems s).bind blsD).map fun bs => .im (.bl (bs.any id))
  | _ => none
def bSum : List S → Option S
  | [s] => ((elems s).bind intsD).map fun is => .im (.int is.sum)
  | _ => none
theorem opn_all (hc : X.calm = true) : OpN X cl (relCall X (.builtin "all")) bAll := fun B H vs ss z e hl hs hg Q k => by
  unfold bAll at hg
  split at hg
  · rename_i s
    cases q1 : elems s with
    | none => rw [q1] at hg; cases hg
    | some ds =>
      rw [q1] at hg
      cases q2 : blsD ds with
      | none => simp [q2] at hg
      | some xs =>
        simp [q2] at hg
        subst hg
        obtain ⟨v, rfl, f, h1⟩ := hs1 hl hs
        obtain ⟨p, ws, rfl, hq, hd⟩ := elems_ok h1 e q1
        rw [blsD_ok hd q2] at hq
        exact ⟨_, cr_all hc, p, xs, rfl, sq_of hq, k _ B H _ (New.refl e) ⟨by simp [DV], fun _ z => z⟩⟩
  · cases hg
theorem opn_any (hc : X.calm = true) : OpN X cl (relCall X (.builtin "any")) bAny := fun B H vs ss z e hl hs hg Q k => by
  unfold bAny at hg
  split at hg
  · rename_i s
    cases q1 : elems s with
    | none => rw [q1] at hg; cases hg
    | some ds =>
      rw [q1] at hg
      cases q2 : blsD ds with
      | none => simp [q2] at hg
      | some xs =>
        simp [q2] at hg
        subst hg
        obtain ⟨v, rfl, f, h1⟩ := hs1 hl hs
        obtain ⟨p, ws, rfl, hq, hd⟩ := elems_ok h1 e q1
        rw [blsD_ok hd q2] at hq
        exact ⟨_, cr_any hc, p, xs, rfl, sq_of hq, k _ B H _ (New.refl e) ⟨by simp [DV], fun _ z => z⟩⟩
  · cases hg
theorem opn_sum (hc : X.calm = true) : OpN X cl (relCall X (.builtin "sum")) bSum := fun B H vs ss z e hl hs hg Q k => by
  unfold bSum at hg
  split at hg
  · rename_i s
    cases q1 : elems s with
    | none => rw [q1] at hg; cases hg
    | some ds =>
      rw [q1] at hg
      cases q2 : intsD ds with
      | none => simp [q2] at hg
      | some xs =>
        simp [q2] at hg
        subst hg
        obtain ⟨v, rfl, f, h1⟩ := hs1 hl hs
        obtain ⟨p, ws, rfl, hq, hd⟩ := elems_ok h1 e q1
        rw [intsD_ok hd q2] at hq
        exact ⟨_, cr_sum hc, p, xs, rfl, sq_of hq, k _ B H _ (New.refl e) ⟨rfl, fun _ z => z⟩⟩
  · cases hg
def gMax (i j : Int) : Option D := some (.int (if j > i then j else i))
def gMin (i j : Int) : Option D := some (.int (if j < i then j else i))
theorem opn_max2 (hc : X.calm = true) : OpN X cl (relCall X (.builtin "max")) (bInt gMax) := opn_int fun i j d h => by
  cases h
  exact ⟨_, fun _ => rfl, _, call_max2 hc, fun H Q q => ⟨_, _, rfl, q⟩⟩
theorem opn_min2 (hc : X.calm = true) : OpN X cl (relCall X (.builtin "min")) (bInt gMin) := opn_int fun i j d h => by
  cases h
  exact ⟨_, fun _ => rfl, _, call_min2 hc, fun H Q q => ⟨_, _, rfl, q⟩⟩

/-! ### isinstance(x, T) -/
def tyName : S → Option String
  | .im .non => some "NoneType"
  | .im (.bl _) => some "bool"
  | .im (.int _) => some "int"
  | .im (.str _) => some "str"
  | .im (.tup _) => some "tuple"
  | .im (.lst _) => some "list"
  | .im (.slst _) => some "list"
  | .im (.dct _ _) => some "dict"
  | .lst _ => some "list"
  | .dct _ _ => some "dict"
  | _ => none
theorem tyName_ok {B H : Hp} {v : V} {s : S} {f : Set'} {t : String} (h : SV (gx X cl) B H v s f) (e : Ex B H) (q : tyName s = some t) : TyX X.K H v (.type t) := by
  have sqT : ∀ {a vs}, SqT X.K H a vs → TyX X.K H (.ref a) (.type "tuple") := fun {a vs} h => by
    rcases h with (h | ⟨o, h⟩) | ⟨o, its, n, h1, h2, _⟩
    · exact .base (.tup h)
    · exact .fTuple h
    · exact .kTuple h1 h2
  have sqL : ∀ {a vs}, SqL X.K H a vs → TyX X.K H (.ref a) (.type "list") := fun {a vs} h => by
    rcases h with (h | ⟨o, h⟩) | ⟨o, its, n, h1, h2, _⟩
    · exact .base (.lst h)
    · exact .base (.frz h)
    · exact .kList h1 h2
  cases s with
  | im d =>
    cases d with
    | non => cases q; cases h.1; exact .base .non
    | bl b => cases q; cases h.1; exact .base (.bl b)
    | int b => cases q; cases h.1; exact .base (.int b)
    | str b => cases q; cases h.1; exact .base (.str b)
    | tup ds => cases q; obtain ⟨⟨a, vs, rfl, h3, _⟩, _⟩ := h; exact sqT (ex_t e h3)
    | lst ds => cases q; obtain ⟨⟨a, vs, rfl, h3, _⟩, _⟩ := h; exact .base (.lst (e _ _ h3))
    | slst ds => cases q; obtain ⟨⟨a, vs, rfl, h3, _⟩, _⟩ := h; exact sqL (ex_l e h3)
    | dct ks ds => cases q; obtain ⟨⟨a, vs, rfl, h3, _⟩, _⟩ := h; exact .base (.dK (e _ _ h3))
    | ins c ns ds => cases q
  | lst ss => cases q; obtain ⟨a, vs, fq, rfl, h3, _⟩ := h; exact .base (.lst h3)
  | dct ks ss => cases q; obtain ⟨a, vs, fq, rfl, h3, _⟩ := h; exact .base (.dK h3)
  | obj c ns ss => cases q
/-- which of the built-in types has which as its base -/
def isSub (a b : String) : Bool := a == b || (a == "bool" && b == "int")
theorem kit_tab : ∀ a ∈ ["NoneType", "bool", "int", "str", "tuple", "list", "dict"], ∀ b ∈ ["bool", "int", "str", "tuple", "list", "dict"], kitB a b = some (isSub a b) := by decide +kernel
theorem tyName_in {s : S} {t : String} (q : tyName s = some t) : t ∈ ["NoneType", "bool", "int", "str", "tuple", "list", "dict"] := by
  unfold tyName at q
  split at q <;> first | (cases q; simp; done) | cases q
def bIsi (T : String) : List S → Option S
  | [s] => (tyName s).map fun t => .im (.bl (isSub t T))
  | _ => none
theorem ge_isi {T : String} {x : Str} (hT : T ∈ ["bool", "int", "str", "tuple", "list", "dict"]) (hg : Gl X "isinstance") (hm : X.mg "isinstance" = none) (hgT : Gl X x) (hmT : X.mg x = none) (hvT : bootBuiltins x = some (.type T)) (h : GE X cl W e f) (hn : x ≠ "__name__" := by decide) (hdb : (x == ("__debug__" : Str)) = false := by decide)
    (he : starEach [e, .Name x p2] X.env = (false, eval e X.env) :: starEach [.Name x p2] X.env := by rfl) (hpl : (backTo pos (starEach [.Name x p2] X.env)).any (·.1) = false := by rfl) (he2 : starEach [.Name x p2] X.env = (false, eval (.Name x p2) X.env) :: starEach [] X.env := by rfl) :
    GE X cl W (.Call (.Name "isinstance" p) [e, .Name x p2] [] pos) (m1 (bIsi T) f) := by
  have hv : bootBuiltins "isinstance" = some (.builtin "isinstance") := by decide +kernel
  have pn : PE X (.Name x p2) (tC (.ty T)) := pe_bltn hgT hmT hvT rfl hn hdb
  refine ge_t (pe_callB call_isi hg hm hv (pa_cons pe_U (pa_cons pn pa_nil he2) he) (by decide) (by decide) he hpl) ⟨fun σ B H ρ Z res ρ' E e1 Q k ke => ?_⟩
  show tU X e σ H fun x H1 => rIsi X.K [x, .ty T] H1 Q
  rcases bind_ok e1 with ⟨r, ρ1, e2, e3⟩ | ⟨c, ns, xs, e2, e3⟩
  · refine h.run σ B H ρ Z _ _ E e2 _ (fun r' er v B1 H1 Z1 fp n1 E1 rv ap => ?_) (fun _ _ _ q => by cases q)
    cases er
    cases q : rd ρ1 r with
    | none => rw [q] at e3; cases e3
    | some s =>
      rw [q] at e3
      cases q2 : tyName s with
      | none => simp [bIsi, q2] at e3
      | some t =>
        simp [bIsi, q2] at e3
        obtain ⟨rfl, rfl⟩ := e3
        obtain ⟨f2, hv⟩ := rv.read E1 q
        refine ⟨v, .ty T, .type t, .type T, isSub t T, rfl, .ty T, tyName_ok hv E1.sub q2, kit_ty (kit_tab t (tyName_in q2) T hT), ?_⟩
        exact k _ rfl _ B1 H1 Z1 (fun _ => False) (n1.drop.sub orF) E1 ⟨rfl, fun _ z => z⟩ fun _ z => z.elim
  · subst e3
    exact h.run σ B H ρ Z _ _ E e2 _ (fun _ q => by cases q) ke
end
end Av
set_option Elab.async false
set_option linter.all false
set_option maxRecDepth 100000
set_option maxHeartbeats 2000000
/-! Defs by name: what a call of one wants, and how one is made from its body. -/
namespace Av
open PySem L2

/-- a def of the module stands in the program's text -/
def DefIn (K : PySem.W.Frag) (mg : Str → Option Value) (x : Str) (st : Stmt) (ps : List Str) : Prop := ∃ f fd, Fun K x x st f fd ∧ mg x = some (.ref f) ∧ Binds K fd ps []
/-- a def keeps the promise of its function, k calls deep -/
def CalF (P : Program) (w : World) (K : PySem.W.Frag) (mg : Str → Option Value) (base : Heap) (cl : Str → Addr) (x : Str) (k n : Nat) (F : Fn) : Prop :=
  ∃ fa fd ps, FnOk P w K mg base (L2.CX P w) k fa fd ps (spF ⟨K, cl⟩ n F) ∧ mg x = some (.ref fa) ∧ PySem.W.keepIn K (.ref fa) = true ∧ Binds K fd ps []

section
variable {P : Program} {w : World} {K : PySem.W.Frag} {mg : Str → Option Value} {base : Heap} {cl : Str → Addr}
theorem cal_of {x : Str} {st : Stmt} {N ps : List Str} {k : Nat} {Rs : List Nat} {g : MS} (Df : DefIn K mg x st ps) (Sc : FnScope N ps (defScope st)) (hR : ∀ i ∈ Rs, i < ps.length)
    (hb : ∀ (f : Addr) (cdv : Value) (A : Around) (outer : List PySem.Env) (s : Shared) (H : Hp) (E : XK), Room k (A.deeper (PyProof.Rows.envOfC x (defScope st) s.heap.objs.size f cdv)) →
      GSs (cxOf (L2.CX P w) P w K mg base N x (defScope st) f cdv A outer s H E) cl (fun c d _ H => E c d H) Rs (defBody st) g) :
    CalF P w K mg base cl x (k + 1) ps.length (fnM ps.length N.length Rs g) := by
  obtain ⟨f, fd, Fd, hm, b⟩ := Df
  exact ⟨f, fd, ps, fn_ok Fd Sc hR fun cdv A outer s H E hr => hb f cdv A outer s H E hr, hm, Fd.kp, b⟩
theorem CalF.to {x : Str} {k n : Nat} {F F' : Fn} (h : CalF P w K mg base cl x k n F) (e : ∀ ss r, F' ss = some r → F ss = some r) : CalF P w K mg base cl x k n F' := by
  obtain ⟨fa, fd, ps, h1, h2⟩ := h
  refine ⟨fa, fd, ps, h1.imp (fun vs H Q E q => ?_), h2⟩
  obtain ⟨hl, B, args, fp, out, fin, ex, sv, hF, k0⟩ := q
  exact ⟨hl, B, args, fp, out, fin, ex, sv, e _ _ hF, k0⟩
end

section
variable {X : Cx} {cl : Str → Addr} {W : WX} {e : Expr} {es : List Expr} {f : M (List R)} {pos p : Pos} {F : Fn} {n k : Nat} {x : Str}
theorem takes0 : Takes X W0 := fun u s' ⟨_, _, _, _, _, _, _, _, _, _, _, _, _, _, _, _, w⟩ => w.elim
theorem units65 {A : Around} (hr : Room k A) : A.units + 65 < cLine := by
  have := hr.un
  omega
theorem units1 {A : Around} (hr : Room k A) : A.units + 1 < cLine := by
  have := hr.un
  omega
theorem ge_callF (c : CalF X.prog X.w X.K X.mg X.base cl x k n F) (hr : Room k X.A) (tk : Takes X W) (h : GA X cl W (e :: es) f) (hgl : ∀ ρ rs ρ', f ρ = some (.ok rs, ρ') → rs.length = n) (hg : Gl X x := by rfl) (hlen : (e :: es).length = n := by rfl)
    (hdb : (x == ("__debug__" : Str)) = false := by decide) (he : starEach (e :: es) X.env = (false, eval e X.env) :: starEach es X.env := by rfl) (hpl : (backTo pos (starEach es X.env)).any (·.1) = false := by rfl) :
    GE X cl W (.Call (.Name x p) (e :: es) [] pos) (xCall F f) := by
  obtain ⟨fa, fd, ps, h1, h2, h3, h4⟩ := c
  exact ge_call h1 hr tk hg h2 h3 h4 h hlen hgl hdb he hpl
end

theorem len0 : ∀ ρ rs ρ', aNil ρ = some (.ok rs, ρ') → rs.length = 0 := fun _ _ _ h => len_nil h
/-- a name of the module that holds data -/
def GD (K : PySem.W.Frag) (mg : Str → Option Value) (x : Str) (d : D) : Prop := ∃ u v, mg x = some u ∧ RelV v u ∧ ∀ cl B, DV ⟨K, cl⟩ B v d
theorem ge_globD {X : Cx} {cl : Str → Addr} {W : WX} {x : Str} {d : D} {pos : Pos} (g : GD X.K X.mg x d) (hg : Gl X x := by rfl) (hdb : (x == ("__debug__" : Str)) = false := by decide) : GE X cl W (.Name x pos) (xC d) := by
  obtain ⟨u, v, h1, h2, h3⟩ := g
  exact ge_glob hg h1 h2 (fun B => h3 cl B) hdb

section
variable {K : PySem.W.Frag} {h : Heap} {mg : Str → Option Value} {x : Str}
theorem gd_str {y : Str} {t} (X : K.In h) (G : h.Ns mainGlobals mg) (a : PySem.W.nsIn K mainGlobals x = some (some (.str y t))) : GD K mg x (.str y) := ⟨_, .str y, PySem.W.mg_of X G a, ⟨t, rfl⟩, fun _ _ => rfl⟩
theorem gd_int {i : Int} {t} (X : K.In h) (G : h.Ns mainGlobals mg) (a : PySem.W.nsIn K mainGlobals x = some (some (.int i t))) : GD K mg x (.int i) := ⟨_, .int i, PySem.W.mg_of X G a, ⟨t, rfl⟩, fun _ _ => rfl⟩
theorem vals_strs : ∀ l : List (Str × Tok), Vals (l.map fun p => V.str p.1) (l.map fun p => Value.str p.1 p.2)
  | [] => .nil
  | p :: l => .cons ⟨p.2, rfl⟩ (vals_strs l)
theorem dvs_fst {G : Gx} {B : Hp} : ∀ l : List (Str × Tok), DVs G B (l.map fun p => V.str p.1) (l.map fun p => D.str p.1)
  | [] => rfl
  | p :: l => ⟨_, _, rfl, rfl, dvs_fst l⟩
theorem gd_strs {g : Addr} {od : Option Addr} {sl : Array (Option Value)} {n : Nat} (l : List (Str × Tok)) (X : K.In h) (G : h.Ns mainGlobals mg) (a : PySem.W.nsIn K mainGlobals x = some (some (.ref g))) (k : K.lookup g = some ⟨.type "tuple", od, .seq (l.map fun p => Value.str p.1 p.2).toArray n, sl⟩) (hs : l.length ≤ 100000) : GD K mg x (.tup (l.map fun p => D.str p.1)) :=
  ⟨_, .ref g, PySem.W.mg_of X G a, rfl, fun cl B => ⟨g, l.map fun p => V.str p.1, rfl, Or.inr ⟨_, _, _, k, rfl, rfl, sz_of (by simpa using hs), vals_strs l⟩, dvs_fst l⟩⟩
end

/-- what the law promises of a script's numbers -/
def spT (K : PySem.W.Frag) : Sp := fun vs H Q _ => ∃ (a : Addr) (ns : List Int), vs = [.ref a] ∧ SqL K H a (ns.map V.int) ∧ ns.length ≤ 63 ∧ (∀ z ∈ ns, Builtin.Int.intBits z ≤ 1048576) ∧ ∀ H', Q (.bl true) H'
theorem law_of {P : Program} {w : World} {K : PySem.W.Frag} {mg : Str → Option Value} {base : Heap} {cl : Str → Addr} {k : Nat} {fa : Addr} {fd : FuncData} {ps : List Str} {F : Fn} (h : FnOk P w K mg base (L2.CX P w) k fa fd ps (spF ⟨K, cl⟩ 1 F))
    (q : ∀ ns : List Int, ns.length ≤ 63 → (∀ z ∈ ns, Builtin.Int.intBits z ≤ 1048576) → ∃ fin, F [.im (.slst (ns.map .int))] = some (.ret (.im (.bl true)), fin) ∧ (fin = [] ∨ fin = [none])) : FnOk P w K mg base (L2.CX P w) k fa fd ps (spT K) := by
  refine h.imp (fun vs H Q E r => ?_)
  obtain ⟨a, ns, rfl, hS, h63, hb, k0⟩ := r
  obtain ⟨fin, hF, hfin⟩ := q ns h63 hb
  have sv : SVs ⟨K, cl⟩ H H [.ref a] [.im (.slst (ns.map .int))] (fun _ => False) := ⟨_, _, fun _ => False, fun _ => False, rfl, ⟨⟨a, _, rfl, hS, dvs_ints ns⟩, fun _ z => z⟩, ⟨rfl, fun _ z => z⟩, fun _ z => z.elim, fun _ => ⟨False.elim, fun z => z.elim id id⟩⟩
  refine ⟨rfl, H, _, fun _ => False, _, fin, Ex.refl H, sv, hF, fun B' H' fb e so => ⟨fun s es v f nx sv ap => ?_, fun c ns xs er => nomatch er⟩⟩
  cases es
  rw [show v = .bl true from sv.1]
  exact k0 H'
theorem no_cx {P : Program} {w : World} {H : Hp} {s : Shared} {e : Value} {s' : Shared} (z : L2.CX P w [] H s (fun _ _ _ => False) e s') : False := by
  obtain ⟨_, _, _, _, _, _, _, _, _, _, _, _, z⟩ := z
  exact z
end Av
set_option Elab.async false
set_option linter.all false
set_option maxRecDepth 100000
set_option maxHeartbeats 2000000
/-! What the mirrors give, read backwards: a wish about the end becomes one about the start. -/
noncomputable section
namespace Av
open PySem L2

def Wp {α : Type} (r : Option (α × Env)) (Q : α → Env → Prop) : Prop := ∃ x ρ, r = some (x, ρ) ∧ Q x ρ
/-- behind a value: on, or out with the exception -/
def onOk {α β : Type} (x : Res α) (ρ : Env) (Q : Res β → Env → Prop) (k : α → Prop) : Prop := match x with
  | .ok a => k a
  | .er c ns xs => Q (.er c ns xs) ρ
def opv (g : List S → Option S) (ss : List S) (Q : S → Prop) : Prop := ∃ z, g ss = some z ∧ Q z
def ofO {α : Type} (o : Option α) (Q : α → Prop) : Prop := ∃ z, o = some z ∧ Q z

section
variable {α β : Type} {ρ : Env} {Q : Res R → Env → Prop}
@[simp] theorem ofO_some {a : α} {Q : α → Prop} : ofO (some a) Q ↔ Q a := ⟨fun ⟨z, e, q⟩ => by cases e; exact q, fun q => ⟨a, rfl, q⟩⟩
@[simp] theorem ofO_none {Q : α → Prop} : ofO (none : Option α) Q ↔ False := ⟨(fun ⟨z, e, q⟩ => nomatch e), False.elim⟩
@[simp] theorem onOk_ok {a : α} {Q : Res β → Env → Prop} {k : α → Prop} : onOk (.ok a) ρ Q k ↔ k a := Iff.rfl
@[simp] theorem onOk_er {c ns xs} {Q : Res β → Env → Prop} {k : α → Prop} : onOk (.er c ns xs) ρ Q k ↔ Q (.er c ns xs) ρ := Iff.rfl
theorem Wp.imp {r : Option (α × Env)} {Q Q' : α → Env → Prop} (h : Wp r Q) (k : ∀ x ρ, Q x ρ → Q' x ρ) : Wp r Q' := by
  obtain ⟨x, ρ, e, q⟩ := h
  exact ⟨x, ρ, e, k x ρ q⟩
@[simp] theorem wp_some {x : α} {Q : α → Env → Prop} : Wp (some (x, ρ)) Q ↔ Q x ρ := ⟨fun ⟨_, _, e, q⟩ => by cases e; exact q, fun q => ⟨_, _, rfl, q⟩⟩
@[simp] theorem wp_none {Q : α → Env → Prop} : Wp none Q ↔ False := ⟨(fun ⟨_, _, e, q⟩ => nomatch e), False.elim⟩
@[simp] theorem wp_ret {a : α} {Q : Res α → Env → Prop} : Wp (M.ret a ρ) Q ↔ Q (.ok a) ρ := wp_some
theorem wp_bind {m : M α} {k : α → M β} {Q : Res β → Env → Prop} : Wp (M.bind m k ρ) Q ↔ Wp (m ρ) fun x ρ1 => onOk x ρ1 Q fun a => Wp (k a ρ1) Q := by
  unfold M.bind
  cases e : m ρ with
  | none => simp
  | some p =>
    obtain ⟨x, ρ1⟩ := p
    cases x with
    | ok a => simp
    | er c ns xs => simp
theorem Wp.iff {m : Option (Res α × Env)} {Q : Res β → Env → Prop} {p p' : α → Env → Prop} (h : ∀ a ρ1, p a ρ1 ↔ p' a ρ1) : (Wp m fun x ρ1 => onOk x ρ1 Q fun a => p a ρ1) ↔ (Wp m fun x ρ1 => onOk x ρ1 Q fun a => p' a ρ1) := by
  refine ⟨fun k => k.imp fun x ρ1 q => ?_, fun k => k.imp fun x ρ1 q => ?_⟩ <;> cases x
  · exact (h _ _).mp q
  · exact q
  · exact (h _ _).mpr q
  · exact q
theorem wp_match {o : Option S} {Q : Res R → Env → Prop} : Wp (match o with
  | some z => some (Res.ok (R.t z), ρ)
  | none => none) Q ↔ ofO o fun z => Q (.ok (.t z)) ρ := by cases o <;> simp
@[simp] theorem wp_c {d : D} : Wp (xC d ρ) Q ↔ Q (.ok (.t (.im d))) ρ := wp_ret
/-- what a slot holds: data, or an object -/
def onVar (o : Option (Option S)) (i : Nat) (k : R → Prop) : Prop := match o with
  | some (some (.im d)) => k (.t (.im d))
  | some (some _) => k (.pl i)
  | _ => False
@[simp] theorem onVar_im {d i k} : onVar (some (some (.im d))) i k ↔ k (.t (.im d)) := Iff.rfl
@[simp] theorem onVar_lst {ss i k} : onVar (some (some (.lst ss))) i k ↔ k (.pl i) := Iff.rfl
@[simp] theorem onVar_dct {ks ss i k} : onVar (some (some (.dct ks ss))) i k ↔ k (.pl i) := Iff.rfl
@[simp] theorem onVar_obj {c ns ss i k} : onVar (some (some (.obj c ns ss))) i k ↔ k (.pl i) := Iff.rfl
@[simp] theorem onVar_none {i k} : onVar (some none) i k ↔ False := Iff.rfl
@[simp] theorem wp_var {i : Nat} : Wp (xVar i ρ) Q ↔ onVar ρ[i]? i fun r => Q (.ok r) ρ := by
  unfold xVar
  rcases ρ[i]? with _ | _ | s
  · simp [onVar]
  · simp [onVar]
  · cases s <;> simp [onVar]
@[simp] theorem wp_take {i : Nat} : Wp (xTake i ρ) Q ↔ ofO (ρ[i]?).join fun s => Q (.ok (.t (.im (fz s)))) (ρ.set i (some (.im (fz s)))) := by
  unfold xTake
  rcases ρ[i]? with _ | _ | s <;> simp
@[simp] theorem wp_move {i : Nat} : Wp (xMove i ρ) Q ↔ ofO (ρ[i]?).join fun s => Q (.ok (.t s)) (ρ.set i none) := by
  unfold xMove
  rcases ρ[i]? with _ | _ | s <;> simp
@[simp] theorem wp_m1 {g f} : Wp (m1 g f ρ) Q ↔ Wp (f ρ) fun x ρ1 => onOk x ρ1 Q fun r => ofO (rd ρ1 r) fun s => opv g [s] fun z => Q (.ok (.t z)) ρ1 := by
  unfold m1
  rw [wp_bind]
  refine Wp.iff fun r ρ1 => ?_
  cases e : rd ρ1 r with
  | none => simp
  | some s => cases e2 : g [s] <;> simp [opv, e2]
@[simp] theorem wp_m2 {g f1 f2} : Wp (m2 g f1 f2 ρ) Q ↔ Wp (f1 ρ) fun x ρ1 => onOk x ρ1 Q fun r1 => Wp (f2 ρ1) fun x ρ2 => onOk x ρ2 Q fun r2 => ofO (rd ρ2 r1) fun s1 => ofO (rd ρ2 r2) fun s2 => opv g [s1, s2] fun z => Q (.ok (.t z)) ρ2 := by
  unfold m2
  rw [wp_bind]
  refine Wp.iff fun r ρ1 => ?_
  rw [wp_bind]
  refine Wp.iff fun r2 ρ2 => ?_
  cases e : rd ρ2 r with
  | none => simp [rds, e]
  | some s => cases e1 : rd ρ2 r2 with
    | none => simp [rds, e, e1]
    | some s2 => cases e2 : g [s, s2] <;> simp [rds, e, e1, opv, e2]
def rdsP (ρ : Env) (rs : List R) (k : List S → Prop) : Prop := ofO (rds ρ rs) k
@[simp] theorem rdsP_nil {k} : rdsP ρ [] k ↔ k [] := ofO_some
@[simp] theorem rdsP_cons {r rs k} : rdsP ρ (r :: rs) k ↔ ofO (rd ρ r) fun s => rdsP ρ rs fun ss => k (s :: ss) := by
  unfold rdsP
  rw [rds]
  cases rd ρ r <;> cases rds ρ rs <;> simp
@[simp] theorem wp_mN {g f} : Wp (mN g f ρ) Q ↔ Wp (f ρ) fun x ρ1 => onOk x ρ1 Q fun rs => rdsP ρ1 rs fun ss => opv g ss fun z => Q (.ok (.t z)) ρ1 := by
  unfold mN
  rw [wp_bind]
  refine Wp.iff fun r ρ1 => ?_
  unfold rdsP
  cases e : rds ρ1 r with
  | none => simp
  | some ss => cases e2 : g ss <;> simp [opv, e2]
@[simp] theorem wp_aNil {Q : Res (List R) → Env → Prop} : Wp (aNil ρ) Q ↔ Q (.ok []) ρ := wp_ret
@[simp] theorem wp_aCons {f g} {Q : Res (List R) → Env → Prop} : Wp (aCons f g ρ) Q ↔ Wp (f ρ) fun x ρ1 => onOk x ρ1 Q fun r => Wp (g ρ1) fun x ρ2 => onOk x ρ2 Q fun rs => Q (.ok (r :: rs)) ρ2 := by
  unfold aCons
  simp only [wp_bind, wp_ret]
@[simp] theorem rd_t {s : S} : rd ρ (.t s) = some s := rfl
@[simp] theorem rd_pl {i : Nat} : rd ρ (.pl i) = (ρ[i]?).join := rfl

/-! ### tests -/
def asB : S → Option Bool
  | .im (.bl b) => some b
  | _ => none
def asBl (s : S) (k : Bool → Prop) : Prop := ofO (asB s) k
@[simp] theorem asBl_bl {b k} : asBl (.im (.bl b)) k ↔ k b := ofO_some
theorem bl_eq {r : R} : bl? ρ r = (rd ρ r).bind asB := by
  unfold bl?
  cases rd ρ r with
  | none => rfl
  | some s => cases s with
    | im d => cases d <;> rfl
    | lst _ => rfl
    | dct _ _ => rfl
    | obj _ _ _ => rfl
@[simp] theorem wp_test {f} {Q : Res Bool → Env → Prop} : Wp (xTest f ρ) Q ↔ Wp (f ρ) fun x ρ1 => onOk x ρ1 Q fun r => ofO (rd ρ1 r) fun s => asBl s fun b => Q (.ok b) ρ1 := by
  unfold xTest
  rw [wp_bind]
  refine Wp.iff fun r ρ1 => ?_
  cases e : rd ρ1 r with
  | none => simp [bl_eq, e]
  | some s => cases e2 : asB s <;> simp [bl_eq, e, e2, asBl]
@[simp] theorem wp_notT {f} {Q : Res Bool → Env → Prop} : Wp (xNotT f ρ) Q ↔ Wp (f ρ) fun x ρ1 => onOk x ρ1 Q fun b => Q (.ok (!b)) ρ1 := by
  unfold xNotT
  simp only [wp_bind, wp_ret]
@[simp] theorem wp_and {f g} {Q : Res Bool → Env → Prop} : Wp (xAnd f g ρ) Q ↔ Wp (f ρ) fun x ρ1 => onOk x ρ1 Q fun b => if b = true then Wp (g ρ1) Q else Q (.ok false) ρ1 := by
  unfold xAnd
  rw [wp_bind]
  refine Wp.iff fun b ρ1 => ?_
  cases b <;> simp
@[simp] theorem wp_or {f g} {Q : Res Bool → Env → Prop} : Wp (xOr f g ρ) Q ↔ Wp (f ρ) fun x ρ1 => onOk x ρ1 Q fun b => if b = true then Q (.ok true) ρ1 else Wp (g ρ1) Q := by
  unfold xOr
  rw [wp_bind]
  refine Wp.iff fun b ρ1 => ?_
  cases b <;> simp
@[simp] theorem wp_andV {f g} : Wp (xAndV f g ρ) Q ↔ Wp (f ρ) fun x ρ1 => onOk x ρ1 Q fun r => ofO (rd ρ1 r) fun s => asBl s fun c => if c = true then Wp (g ρ1) Q else Q (.ok (.t (.im (.bl false)))) ρ1 := by
  unfold xAndV
  rw [wp_bind]
  refine Wp.iff fun r ρ1 => ?_
  cases e : rd ρ1 r with
  | none => simp [bl_eq, e]
  | some s => rcases e2 : asB s with _ | ⟨_ | _⟩ <;> simp [bl_eq, e, e2, asBl]
@[simp] theorem wp_orV {f g} : Wp (xOrV f g ρ) Q ↔ Wp (f ρ) fun x ρ1 => onOk x ρ1 Q fun r => ofO (rd ρ1 r) fun s => asBl s fun c => if c = true then Q (.ok (.t (.im (.bl true)))) ρ1 else Wp (g ρ1) Q := by
  unfold xOrV
  rw [wp_bind]
  refine Wp.iff fun r ρ1 => ?_
  cases e : rd ρ1 r with
  | none => simp [bl_eq, e]
  | some s => rcases e2 : asB s with _ | ⟨_ | _⟩ <;> simp [bl_eq, e, e2, asBl]
@[simp] theorem wp_notV {f} : Wp (xNotV f ρ) Q ↔ Wp (f ρ) fun x ρ1 => onOk x ρ1 Q fun r => ofO (rd ρ1 r) fun s => asBl s fun c => Q (.ok (.t (.im (.bl (!c))))) ρ1 := by
  unfold xNotV
  rw [wp_bind]
  refine Wp.iff fun r ρ1 => ?_
  cases e : rd ρ1 r with
  | none => simp [bl_eq, e]
  | some s => rcases e2 : asB s with _ | ⟨_ | _⟩ <;> simp [bl_eq, e, e2, asBl]
@[simp] theorem wp_if {t : M Bool} {f g} : Wp (xIf t f g ρ) Q ↔ Wp (t ρ) fun x ρ1 => onOk x ρ1 Q fun c => if c = true then Wp (f ρ1) Q else Wp (g ρ1) Q := by
  unfold xIf
  rw [wp_bind]
  refine Wp.iff fun b ρ1 => ?_
  cases b <;> simp
def treesP (rs : List R) (k : List S → Prop) : Prop := ofO (trees rs) k
@[simp] theorem treesP_nil {k} : treesP [] k ↔ k [] := ofO_some
@[simp] theorem treesP_t {s rs k} : treesP (.t s :: rs) k ↔ treesP rs fun ss => k (s :: ss) := by
  unfold treesP
  rw [trees, tree]
  cases trees rs <;> simp
@[simp] theorem treesP_pl {i rs k} : treesP (.pl i :: rs) k ↔ False := by
  unfold treesP
  rw [trees, tree]
  simp
@[simp] theorem wp_tup {f} : Wp (xTup f ρ) Q ↔ Wp (f ρ) fun x ρ1 => onOk x ρ1 Q fun rs => treesP rs fun ss => ss.length ≤ 100000 ∧ Q (.ok (.t (.im (.tup (fzs ss))))) ρ1 := by
  unfold xTup
  rw [wp_bind]
  refine Wp.iff fun rs ρ1 => ?_
  unfold treesP
  cases e : trees rs with
  | none => simp
  | some ss => by_cases c : ss.length ≤ 100000 <;> simp [c]
@[simp] theorem wp_lst {f} : Wp (xLst f ρ) Q ↔ Wp (f ρ) fun x ρ1 => onOk x ρ1 Q fun rs => treesP rs fun ss => ss.length ≤ 100000 ∧ Q (.ok (.t (.lst ss))) ρ1 := by
  unfold xLst
  rw [wp_bind]
  refine Wp.iff fun rs ρ1 => ?_
  unfold treesP
  cases e : trees rs with
  | none => simp
  | some ss => by_cases c : ss.length ≤ 100000 <;> simp [c]
@[simp] theorem wp_dct0 : Wp (xDct0 ρ) Q ↔ Q (.ok (.t (.dct [] []))) ρ := wp_ret
@[simp] theorem wp_chain {g g' fa fb fc} : Wp (xChain g g' fa fb fc ρ) Q ↔ Wp (fa ρ) fun x ρ1 => onOk x ρ1 Q fun r1 => Wp (fb ρ1) fun x ρ2 => onOk x ρ2 Q fun r2 => ofO (rd ρ2 r1) fun s1 => ofO (rd ρ2 r2) fun s2 => opv g [s1, s2] fun z => asBl z fun c =>
    if c = true then Wp (fc ρ2) fun x ρ3 => onOk x ρ3 Q fun r3 => ofO (rd ρ3 r2) fun s2 => ofO (rd ρ3 r3) fun s3 => opv g' [s2, s3] fun z => Q (.ok (.t z)) ρ3 else Q (.ok (.t (.im (.bl false)))) ρ2 := by
  unfold xChain
  rw [wp_bind]
  refine Wp.iff fun r1 ρ1 => ?_
  rw [wp_bind]
  refine Wp.iff fun r2 ρ2 => ?_
  cases e : rd ρ2 r1 with
  | none => simp [rds, e]
  | some s1 => cases e1 : rd ρ2 r2 with
    | none => simp [rds, e, e1]
    | some s2 => cases e2 : g [s1, s2] with
      | none => simp [rds, e, e1, opv, e2]
      | some z =>
        simp only [rds, e, e1, opv, e2, ofO_some, Option.bind_some, Option.some.injEq, exists_eq_left', asBl]
        rcases e3 : asB z with _ | ⟨_ | _⟩
        · have n : ∀ b, z ≠ .im (.bl b) := fun b q => by rw [q] at e3; cases e3
          have : ∀ {γ : Type} (a : γ) (b : γ), (match some z with | some (.im (.bl true)) => some a | some (.im (.bl false)) => some b | _ => none) = none := by
            intro γ a b
            split
            · rename_i q; cases q; exact (n _ rfl).elim
            · rename_i q; cases q; exact (n _ rfl).elim
            · rfl
          split
          · rename_i q; cases q; exact (n _ rfl).elim
          · rename_i q; cases q; exact (n _ rfl).elim
          · simp
        · have : z = .im (.bl false) := by
            unfold asB at e3
            split at e3 <;> cases e3; rfl
          subst this
          simp
        · have : z = .im (.bl true) := by
            unfold asB at e3
            split at e3 <;> cases e3; rfl
          subst this
          simp only [ofO_some, if_true]
          rw [wp_bind]
          refine Wp.iff fun r3 ρ3 => ?_
          cases e4 : rd ρ3 r2 with
          | none => simp [rds, e4]
          | some s3 => cases e5 : rd ρ3 r3 with
            | none => simp [rds, e4, e5]
            | some s4 => cases e6 : g' [s3, s4] <;> simp [rds, e4, e5, opv, e6]
end
end Av
end
set_option Elab.async false
set_option linter.all false
set_option maxRecDepth 100000
set_option maxHeartbeats 2000000
/-! Wishes read backwards: statements, walks, comprehensions, calls. -/
noncomputable section
namespace Av
open PySem L2

def offS {α : Type} (x : Res α) (ρ : Env) (Q : Fl → Env → Prop) (k : α → Prop) : Prop := match x with
  | .ok a => k a
  | .er c ns xs => Q (.er c ns xs) ρ
section
variable {α β : Type} {ρ : Env} {Q : Fl → Env → Prop} {g h : MS} {f : M R}
@[simp] theorem offS_ok {a : α} {k : α → Prop} : offS (.ok a) ρ Q k ↔ k a := Iff.rfl
@[simp] theorem offS_er {c ns xs} {k : α → Prop} : offS (.er c ns xs) ρ Q k ↔ Q (.er c ns xs) ρ := Iff.rfl
theorem Wp.offs {m : Option (Res α × Env)} {p p' : α → Env → Prop} (h : ∀ a ρ1, p a ρ1 ↔ p' a ρ1) : (Wp m fun x ρ1 => offS x ρ1 Q fun a => p a ρ1) ↔ (Wp m fun x ρ1 => offS x ρ1 Q fun a => p' a ρ1) := by
  refine ⟨fun k => k.imp fun x ρ1 q => ?_, fun k => k.imp fun x ρ1 q => ?_⟩ <;> cases x
  · exact (h _ _).mp q
  · exact q
  · exact (h _ _).mpr q
  · exact q
def onNx (fl : Fl) (ρ : Env) (Q : Fl → Env → Prop) (k : Prop) : Prop := match fl with
  | .nx => k
  | fl => Q fl ρ
@[simp] theorem onNx_nx {k} : onNx .nx ρ Q k ↔ k := Iff.rfl
@[simp] theorem onNx_bk {k} : onNx .bk ρ Q k ↔ Q .bk ρ := Iff.rfl
@[simp] theorem onNx_ct {k} : onNx .ct ρ Q k ↔ Q .ct ρ := Iff.rfl
@[simp] theorem onNx_rt {s k} : onNx (.rt s) ρ Q k ↔ Q (.rt s) ρ := Iff.rfl
@[simp] theorem onNx_er {c ns xs k} : onNx (.er c ns xs) ρ Q k ↔ Q (.er c ns xs) ρ := Iff.rfl
@[simp] theorem wp_nil : Wp (sNil ρ) Q ↔ Q .nx ρ := wp_some
@[simp] theorem wp_pass : Wp (sPass ρ) Q ↔ Q .nx ρ := wp_some
@[simp] theorem wp_break : Wp (sBreak ρ) Q ↔ Q .bk ρ := wp_some
@[simp] theorem wp_cont : Wp (sCont ρ) Q ↔ Q .ct ρ := wp_some
@[simp] theorem wp_retN : Wp (sRetN ρ) Q ↔ Q (.rt (.im .non)) ρ := wp_some
@[simp] theorem wp_seq : Wp (sSeq g h ρ) Q ↔ Wp (g ρ) fun fl ρ1 => onNx fl ρ1 Q (Wp (h ρ1) Q) := by
  unfold sSeq
  cases e : g ρ with
  | none => simp
  | some p =>
    obtain ⟨fl, ρ1⟩ := p
    cases fl <;> simp
theorem wp_of {k : R → MS} : Wp (sOf f k ρ) Q ↔ Wp (f ρ) fun x ρ1 => offS x ρ1 Q fun r => Wp (k r ρ1) Q := by
  unfold sOf
  cases e : f ρ with
  | none => simp
  | some p =>
    obtain ⟨x, ρ1⟩ := p
    cases x <;> simp
@[simp] theorem wp_expr : Wp (sExpr f ρ) Q ↔ Wp (f ρ) fun x ρ1 => offS x ρ1 Q fun r => Q .nx ρ1 := by
  unfold sExpr
  simp [wp_of]
def asT (r : R) (k : S → Prop) : Prop := match r with
  | .t s => k s
  | .pl _ => False
@[simp] theorem asT_t {s k} : asT (.t s) k ↔ k s := Iff.rfl
@[simp] theorem asT_pl {i k} : asT (.pl i) k ↔ False := Iff.rfl
@[simp] theorem wp_sret : Wp (sRet f ρ) Q ↔ Wp (f ρ) fun x ρ1 => offS x ρ1 Q fun r => asT r fun s => Q (.rt s) ρ1 := by
  unfold sRet
  rw [wp_of]
  refine Wp.offs fun r ρ1 => ?_
  cases r <;> simp
@[simp] theorem wp_asg {m : MG} : Wp (sAsg f m ρ) Q ↔ Wp (f ρ) fun x ρ1 => offS x ρ1 Q fun r => asT r fun s => ofO (m s ρ1) fun ρ2 => Q .nx ρ2 := by
  unfold sAsg
  rw [wp_of]
  refine Wp.offs fun r ρ1 => ?_
  cases r with
  | t s => cases e : m s ρ1 <;> simp [e]
  | pl i => simp
@[simp] theorem ofO_slot {i : Nat} {s : S} {k : Env → Prop} : ofO (gSlot i s ρ) k ↔ i < ρ.length ∧ k (ρ.set i (some s)) := by
  unfold gSlot
  by_cases c : i < ρ.length <;> simp [c]
@[simp] theorem ofO_gsNil {k : Env → Prop} : ofO (gsNil [] ρ) k ↔ k ρ := ofO_some
@[simp] theorem ofO_gsCons {m : MG} {ms : MGs} {d ds} {k : Env → Prop} : ofO (gsCons m ms (d :: ds) ρ) k ↔ ofO (m (.im d) ρ) fun ρ1 => ofO (ms ds ρ1) k := by
  unfold gsCons
  cases e : m (.im d) ρ <;> simp [e]
@[simp] theorem ofO_gTuple {n : Nat} {ms : MGs} {ds} {k : Env → Prop} : ofO (gTuple n ms (.im (.tup ds)) ρ) k ↔ ds.length = n ∧ ofO (ms ds ρ) k := by
  unfold gTuple
  by_cases c : ds.length = n <;> simp [c]
@[simp] theorem wp_sif {t : M Bool} : Wp (sIf t g h ρ) Q ↔ Wp (t ρ) fun x ρ1 => offS x ρ1 Q fun c => if c = true then Wp (g ρ1) Q else Wp (h ρ1) Q := by
  unfold sIf
  cases e : t ρ with
  | none => simp
  | some p =>
    obtain ⟨x, ρ1⟩ := p
    rcases x with ⟨_ | _⟩ | _ <;> simp
/-- a store: x[i] = s -/
def okIm (x : Res R) (k : D → Prop) : Prop := match x with
  | .ok (.t (.im d)) => k d
  | _ => False
@[simp] theorem okIm_im {d k} : okIm (.ok (.t (.im d))) k ↔ k d := Iff.rfl
@[simp] theorem ofO_store {j : Nat} {fi : M R} {s : S} {k : Env → Prop} : ofO (gStore j fi s ρ) k ↔ ofO (ρ[j]?).join fun _ => Wp (fi ρ) fun x ρ1 => okIm x fun d => ofO (ρ1[j]?).join fun t => ofO (putS t d s) fun t' => k (ρ1.set j (some t')) := by
  unfold gStore
  rcases ρ[j]? with _ | _ | t0
  · simp
  · simp
  · simp only [Option.join_some, ofO_some]
    rcases fi ρ with _ | ⟨x, ρ1⟩
    · simp
    · simp only [wp_some]
      rcases x with ⟨_ | i⟩ | _
      · rename_i s'
        cases s' with
        | im d =>
          simp only [okIm_im]
          rcases ρ1[j]? with _ | _ | t
          · simp
          · simp
          · cases e : putS t d s <;> simp [e]
        | lst _ => simp [okIm]
        | dct _ _ => simp [okIm]
        | obj _ _ _ => simp [okIm]
      · simp [okIm]
      · simp [okIm]

/-! ### walks -/
@[simp] theorem wp_for {fi : M (List D)} {m : MG} : Wp (sFor fi m g ρ) Q ↔ Wp (fi ρ) fun x ρ1 => offS x ρ1 Q fun ds => Wp (forX m g ds ρ1) Q := by
  unfold sFor
  cases e : fi ρ with
  | none => simp
  | some p =>
    obtain ⟨x, ρ1⟩ := p
    cases x <;> simp
/-- the end of a turn -/
def turn (fl : Fl) (ρ : Env) (Q : Fl → Env → Prop) (k : Prop) : Prop := match fl with
  | .nx => k
  | .ct => k
  | .bk => Q .nx ρ
  | .rt s => Q (.rt s) ρ
  | .er c ns xs => Q (.er c ns xs) ρ
@[simp] theorem turn_nx {k} : turn .nx ρ Q k ↔ k := Iff.rfl
@[simp] theorem turn_ct {k} : turn .ct ρ Q k ↔ k := Iff.rfl
@[simp] theorem turn_bk {k} : turn .bk ρ Q k ↔ Q .nx ρ := Iff.rfl
@[simp] theorem turn_rt {s k} : turn (.rt s) ρ Q k ↔ Q (.rt s) ρ := Iff.rfl
@[simp] theorem turn_er {c ns xs k} : turn (.er c ns xs) ρ Q k ↔ Q (.er c ns xs) ρ := Iff.rfl
@[simp] theorem wp_forNil {m : MG} : Wp (forX m g [] ρ) Q ↔ Q .nx ρ := wp_some
theorem wp_forCons {m : MG} {d ds} : Wp (forX m g (d :: ds) ρ) Q ↔ ofO (m (.im d) ρ) fun ρ1 => Wp (g ρ1) fun fl ρ2 => turn fl ρ2 Q (Wp (forX m g ds ρ2) Q) := by
  rw [forX]
  cases e : m (.im d) ρ with
  | none => simp
  | some ρ1 =>
    cases e2 : g ρ1 with
    | none => simp [e2]
    | some p =>
      obtain ⟨fl, ρ2⟩ := p
      cases fl <;> simp [e2]
/-- a walk by an invariant: of the items that are gone and those ahead -/
theorem for_inv {m : MG} (I : List D → List D → Env → Prop) {ds : List D} (h0 : I [] ds ρ) (hs : ∀ don d rest ρ, I don (d :: rest) ρ → ofO (m (.im d) ρ) fun ρ1 => Wp (g ρ1) fun fl ρ2 => turn fl ρ2 Q (I (don ++ [d]) rest ρ2)) (he : ∀ ρ, I ds [] ρ → Q .nx ρ) : Wp (forX m g ds ρ) Q := by
  have main : ∀ (rest don : List D) ρ, I don rest ρ → don ++ rest = ds → Wp (forX m g rest ρ) Q := by
    intro rest
    induction rest with
    | nil =>
      intro don ρ h e
      rw [List.append_nil] at e
      subst e
      exact wp_forNil.mpr (he _ h)
    | cons d rest ih =>
      intro don ρ h e
      rw [wp_forCons]
      obtain ⟨ρ1, e1, q⟩ := hs _ _ _ _ h
      refine ⟨ρ1, e1, q.imp fun fl ρ2 z => ?_⟩
      have nxt : I (don ++ [d]) rest ρ2 → Wp (forX m g rest ρ2) Q := fun z => ih _ _ z (by rw [List.append_assoc]; exact e)
      cases fl <;> first | exact nxt z | exact z
  exact main _ _ _ h0 rfl
/-- a walk by an invariant of the slots alone -/
theorem for_all {m : MG} (I : Env → Prop) {ds : List D} (h0 : I ρ) (hs : ∀ d ∈ ds, ∀ ρ, I ρ → ofO (m (.im d) ρ) fun ρ1 => Wp (g ρ1) fun fl ρ2 => turn fl ρ2 Q (I ρ2)) (he : ∀ ρ, I ρ → Q .nx ρ) : Wp (forX m g ds ρ) Q := by
  refine for_inv (fun don rest ρ => I ρ ∧ ∀ d ∈ rest, d ∈ ds) ⟨h0, fun d h => h⟩ (fun don d rest ρ h => ?_) (fun ρ h => he ρ h.1)
  obtain ⟨ρ1, e1, q⟩ := hs d (h.2 d (List.mem_cons_self ..)) ρ h.1
  refine ⟨ρ1, e1, q.imp fun fl ρ2 z => ?_⟩
  have : I ρ2 → (I ρ2 ∧ ∀ d ∈ rest, d ∈ ds) := fun z => ⟨z, fun d' h' => h.2 d' (List.mem_cons_of_mem _ h')⟩
  cases fl <;> first | exact this z | exact z
end

/-! ### sources -/
section
variable {ρ : Env} {Q : Res (List D) → Env → Prop} {f : M R}
@[simp] theorem wp_iSeq : Wp (iSeq f ρ) Q ↔ Wp (f ρ) fun x ρ1 => onOk x ρ1 Q fun r => ofO (still r ρ1) fun p => ofO (seqD p.1) fun ds => Q (.ok ds) p.2 := by
  unfold iSeq
  rw [wp_bind]
  refine Wp.iff fun r ρ1 => ?_
  cases e : still r ρ1 with
  | none => simp
  | some p => cases e2 : seqD p.1 <;> simp [e2]
@[simp] theorem still_t {s : S} : still (.t s) ρ = some (fz s, ρ) := rfl
@[simp] theorem seqD_lst {ds} : seqD (.lst ds) = some ds := rfl
@[simp] theorem seqD_slst {ds} : seqD (.slst ds) = some ds := rfl
@[simp] theorem seqD_tup {ds} : seqD (.tup ds) = some ds := rfl
@[simp] theorem seqD_str {x} : seqD (.str x) = some (signs x) := rfl
def rangeP (is : List Int) (k : List D → Prop) : Prop := match is with
  | [n] => smallI n = true ∧ k (rangeD 0 n.toNat)
  | [a, b] => smallI a = true ∧ smallI b = true ∧ k (rangeD a (b - a).toNat)
  | [a, b, c] => smallI a = true ∧ smallI b = true ∧ c = -1 ∧ k (downD a (a - b).toNat)
  | _ => False
@[simp] theorem rangeP_1 {n k} : rangeP [n] k ↔ smallI n = true ∧ k (rangeD 0 n.toNat) := Iff.rfl
@[simp] theorem rangeP_2 {a b k} : rangeP [a, b] k ↔ smallI a = true ∧ smallI b = true ∧ k (rangeD a (b - a).toNat) := Iff.rfl
@[simp] theorem rangeP_3 {a b c k} : rangeP [a, b, c] k ↔ smallI a = true ∧ smallI b = true ∧ c = -1 ∧ k (downD a (a - b).toNat) := Iff.rfl
theorem smallI_of {i : Int} (h1 : -1000000000000000 ≤ i) (h2 : i ≤ 1000000000000000) : smallI i = true := by
  unfold smallI
  exact decide_eq_true ⟨by omega, by omega⟩
def asI (s : S) : Option Int := match s with
  | .im (.int i) => some i
  | _ => none
@[simp] theorem asI_int {i} : asI (.im (.int i)) = some i := rfl
@[simp] theorem intsR_nil {k : List Int → Prop} : ofO (intsR ρ []) k ↔ k [] := ofO_some
@[simp] theorem intsR_cons {r rs} {k : List Int → Prop} : ofO (intsR ρ (r :: rs)) k ↔ ofO (rd ρ r) fun s => ofO (asI s) fun i => ofO (intsR ρ rs) fun is => k (i :: is) := by
  rw [intsR]
  cases e : rd ρ r with
  | none => simp
  | some s =>
    cases e2 : intsR ρ rs with
    | none =>
      cases s with
      | im d => cases d <;> simp [asI]
      | lst _ => simp [asI]
      | dct _ _ => simp [asI]
      | obj _ _ _ => simp [asI]
    | some is =>
      cases s with
      | im d => cases d <;> simp [asI]
      | lst _ => simp [asI]
      | dct _ _ => simp [asI]
      | obj _ _ _ => simp [asI]
@[simp] theorem wp_range {fs : M (List R)} : Wp (iRange fs ρ) Q ↔ Wp (fs ρ) fun x ρ1 => onOk x ρ1 Q fun rs => ofO (intsR ρ1 rs) fun is => rangeP is fun ds => Q (.ok ds) ρ1 := by
  unfold iRange
  rw [wp_bind]
  refine Wp.iff fun rs ρ1 => ?_
  cases e : intsR ρ1 rs with
  | none => simp
  | some is =>
    match is with
    | [] => simp [rangeP]
    | [n] => by_cases c : smallI n = true <;> simp [c]
    | [a, b] => by_cases c : smallI a = true <;> by_cases c2 : smallI b = true <;> simp [c, c2]
    | [a, b, x] => by_cases c : smallI a = true <;> by_cases c2 : smallI b = true <;> by_cases c3 : x = -1 <;> simp [c, c2, c3]
    | a :: b :: c :: d :: r => simp [rangeP]
end

/-! ### comprehensions -/
section
variable {ρ : Env} {m : MG} {t : M Bool} {f : M R} {vs : List Nat} {n : Nat}
@[simp] theorem wp_comp {fi : M (List D)} {Q : Res R → Env → Prop} : Wp (xComp n fi m t f vs ρ) Q ↔ Wp (fi ρ) fun x ρ1 => onOk x ρ1 Q fun ds => ρ1.length = n ∧ Wp (compX n m t f vs ds [] (wipeE ρ1 vs)) fun acc ρ2 => Q (.ok (.t (.lst acc))) (restore ρ1 ρ2 vs) := by
  unfold xComp
  rw [wp_bind]
  refine Wp.iff fun ds ρ1 => ?_
  by_cases c : ρ1.length = n
  · rw [if_pos c]
    cases e : compX n m t f vs ds [] (wipeE ρ1 vs) with
    | none => simp
    | some p =>
      obtain ⟨acc, ρ2⟩ := p
      simp [c]
  · simp [c]
/-- a comprehension by an invariant: the items gone, those ahead, what is made so far -/
theorem comp_inv (I : List D → List D → List S → Env → Prop) {ds : List D} {Q : List S → Env → Prop} (h0 : I [] ds [] ρ)
    (hs : ∀ don d rest acc ρ, I don (d :: rest) acc ρ → ofO (m (.im d) ρ) fun ρ1 => ρ1.length = n ∧ Wp (t ρ1) fun x ρ2 => match x with
      | .ok true => Wp (f ρ2) fun x ρ3 => match x with
        | .ok (.t s) => acc.length < 100000 ∧ I (don ++ [d]) rest (acc ++ [s]) (wipeE ρ3 vs)
        | _ => False
      | .ok false => I (don ++ [d]) rest acc (wipeE ρ2 vs)
      | _ => False)
    (he : ∀ acc ρ, I ds [] acc ρ → Q acc ρ) : Wp (compX n m t f vs ds [] ρ) Q := by
  have main : ∀ (rest don : List D) acc ρ, I don rest acc ρ → don ++ rest = ds → Wp (compX n m t f vs rest acc ρ) Q := by
    intro rest
    induction rest with
    | nil =>
      intro don acc ρ h e
      rw [List.append_nil] at e
      subst e
      exact wp_some.mpr (he _ _ h)
    | cons d rest ih =>
      intro don acc ρ h e
      obtain ⟨ρ1, e1, c, x, ρ2, e2, q⟩ := hs _ _ _ _ _ h
      rw [compX]
      simp only [e1, c, if_true, e2]
      have as : ∀ (don d rest : _) , (don ++ [d]) ++ rest = don ++ (d :: rest : List D) := fun _ _ _ => by simp
      split at q
      · obtain ⟨y, ρ3, e3, q⟩ := q
        split at q
        · simp only [e3, q.1, if_true]
          exact ih _ _ _ q.2 ((as _ _ _).trans e)
        · exact q.elim
      · exact ih _ _ _ q ((as _ _ _).trans e)
      · exact q.elim
  exact main _ _ _ _ h0 rfl
@[simp] theorem wipeE_nil : wipeE ρ [] = ρ := rfl
@[simp] theorem wipeE_cons {v : Nat} {vs : List Nat} : wipeE ρ (v :: vs) = (wipeE ρ vs).set v none := rfl
@[simp] theorem wp_tTrue {Q : Res Bool → Env → Prop} : Wp (tTrue ρ) Q ↔ Q (.ok true) ρ := wp_some
end

/-! ### calls -/
/-- what a def gives -/
def FW (F : Fn) (ss : List S) (Q : Out → List (Option S) → Prop) : Prop := ofO (F ss) fun p => Q p.1 p.2
def onRet (o : Out) (ρ : Env) (Q : Res R → Env → Prop) : Prop := match o with
  | .ret s => Q (.ok (.t s)) ρ
  | .er c ns xs => Q (.er c ns xs) ρ
@[simp] theorem onRet_ret {s ρ Q} : onRet (.ret s) ρ Q ↔ Q (.ok (.t s)) ρ := Iff.rfl
@[simp] theorem onRet_er {c ns xs ρ Q} : onRet (.er c ns xs) ρ Q ↔ Q (.er c ns xs) ρ := Iff.rfl
@[simp] theorem wp_call {ρ : Env} {F : Fn} {f : M (List R)} {Q : Res R → Env → Prop} : Wp (xCall F f ρ) Q ↔ Wp (f ρ) fun x ρ1 => onOk x ρ1 Q fun rs => ofO (outs ρ1 rs) fun p => FW F p.1 fun o fin => onRet o (backs p.2 rs fin) Q := by
  unfold xCall
  rw [wp_bind]
  refine Wp.iff fun rs ρ1 => ?_
  unfold callF FW
  cases e : outs ρ1 rs with
  | none => simp
  | some p =>
    cases e2 : F p.1 with
    | none => simp [e2]
    | some r =>
      obtain ⟨o, fin⟩ := r
      cases o <;> simp [e2]
def endF (fl : Fl) (fin : List (Option S)) (Q : Out → List (Option S) → Prop) : Prop := match fl with
  | .rt s => Q (.ret s) fin
  | .nx => Q (.ret (.im .non)) fin
  | .er c ns xs => Q (.er c ns xs) fin
  | _ => False
@[simp] theorem endF_rt {s fin Q} : endF (.rt s) fin Q ↔ Q (.ret s) fin := Iff.rfl
@[simp] theorem endF_nx {fin Q} : endF .nx fin Q ↔ Q (.ret (.im .non)) fin := Iff.rfl
@[simp] theorem endF_er {c ns xs fin Q} : endF (.er c ns xs) fin Q ↔ Q (.er c ns xs) fin := Iff.rfl
theorem fw_fn {n m : Nat} {Rs : List Nat} {g : MS} {args : List S} {Q : Out → List (Option S) → Prop} (hl : args.length = n) : FW (fnM n m Rs g) args Q ↔ Wp (g (args.map some ++ List.replicate (m - n) none)) fun fl ρ => endF fl (finsAt Rs ρ 0 n) Q := by
  unfold FW fnM
  rw [if_pos hl]
  cases e : g (args.map some ++ List.replicate (m - n) none) with
  | none => simp
  | some p =>
    obtain ⟨fl, ρ⟩ := p
    cases fl <;> simp [endF]
theorem FW.imp {F : Fn} {ss : List S} {Q Q' : Out → List (Option S) → Prop} (h : FW F ss Q) (k : ∀ o fin, Q o fin → Q' o fin) : FW F ss Q' := by
  obtain ⟨p, e, q⟩ := h
  exact ⟨p, e, k _ _ q⟩

/-! ### slices, methods -/
section
variable {ρ : Env} {Q : Res R → Env → Prop} {f fo : M R}
@[simp] theorem wp_oNone {Q : Res (Option Int) → Env → Prop} : Wp (oNone ρ) Q ↔ Q (.ok none) ρ := wp_ret
@[simp] theorem wp_oSome {Q : Res (Option Int) → Env → Prop} : Wp (oSome f ρ) Q ↔ Wp (f ρ) fun x ρ1 => onOk x ρ1 Q fun r => ofO (rd ρ1 r) fun s => ofO (asI s) fun i => Q (.ok (some i)) ρ1 := by
  unfold oSome
  rw [wp_bind]
  refine Wp.iff fun r ρ1 => ?_
  cases e : rd ρ1 r with
  | none => simp
  | some s =>
    cases s with
    | im d => cases d <;> simp [asI]
    | lst _ => simp [asI]
    | dct _ _ => simp [asI]
    | obj _ _ _ => simp [asI]
@[simp] theorem wp_slice {fl fh : M (Option Int)} : Wp (xSlice fo fl fh ρ) Q ↔ Wp (fo ρ) fun x ρ1 => onOk x ρ1 Q fun r => Wp (fl ρ1) fun x ρ2 => onOk x ρ2 Q fun lo => Wp (fh ρ2) fun x ρ3 => onOk x ρ3 Q fun hi => ofO (rd ρ3 r) fun s => ofO (sliceS s lo hi) fun z => Q (.ok (.t z)) ρ3 := by
  unfold xSlice
  rw [wp_bind]
  refine Wp.iff fun r ρ1 => ?_
  rw [wp_bind]
  refine Wp.iff fun lo ρ2 => ?_
  rw [wp_bind]
  refine Wp.iff fun hi ρ3 => ?_
  cases e : rd ρ3 r with
  | none => simp
  | some s => cases e2 : sliceS s lo hi <;> simp [e2]
@[simp] theorem wp_meth {T : String} {g : List S → Option S} {f : M (List R)} : Wp (xMeth T g fo f ρ) Q ↔ Wp (fo ρ) fun x ρ1 => onOk x ρ1 Q fun r => ofO (rd ρ1 r) fun s => kindS T s = true ∧ Wp (f ρ1) fun x ρ2 => onOk x ρ2 Q fun rs => rdsP ρ2 (r :: rs) fun ss => opv g ss fun z => Q (.ok (.t z)) ρ2 := by
  unfold xMeth
  rw [wp_bind]
  refine Wp.iff fun r ρ1 => ?_
  cases e : rd ρ1 r with
  | none => simp
  | some s =>
    by_cases c : kindS T s = true
    · simp only [c, if_true, ofO_some, true_and]
      rw [wp_bind]
      refine Wp.iff fun rs ρ2 => ?_
      unfold rdsP
      cases e2 : rds ρ2 (r :: rs) with
      | none => simp
      | some ss => cases e3 : g ss <;> simp [opv, e3]
    · simp [c]
theorem wp_mut {i : Nat} {T : String} {g : S → List S → Option (S × S)} {f : M (List R)} {s0 : S} (h0 : ρ[i]? = some (some s0)) : Wp (xMut i T g f ρ) Q ↔ kindS T s0 = true ∧ Wp (f ρ) fun x ρ1 => onOk x ρ1 Q fun rs => treesP rs fun as => ofO ((ρ1[i]?).join) fun s => ofO (g s as) fun p => Q (.ok (.t p.1)) (ρ1.set i (some p.2)) := by
  unfold xMut
  simp only [h0]
  by_cases c : kindS T s0 = true
  · simp only [c, if_true, true_and]
    rw [wp_bind]
    refine Wp.iff fun rs ρ1 => ?_
    unfold treesP
    cases e : trees rs with
    | none => simp
    | some as =>
      cases e1 : ρ1[i]? with
      | none => simp [e1]
      | some o =>
        cases o with
        | none => simp [e1]
        | some s => cases e2 : g s as <;> simp [e1, e2]
  · simp [c]
end

/-! ### operations on values -/
section
variable {Q : S → Prop}
@[simp] theorem ofO_ite {α : Type} {c : Prop} [Decidable c] {o : Option α} {Q : α → Prop} : ofO (if c then o else none) Q ↔ c ∧ ofO o Q := by
  by_cases h : c <;> simp [h]
@[simp] theorem ofO_map {α β : Type} {o : Option α} {h : α → β} {Q : β → Prop} : ofO (o.map h) Q ↔ ofO o fun a => Q (h a) := by
  cases o <;> simp
@[simp] theorem ofO_bind {α β : Type} {o : Option α} {h : α → Option β} {Q : β → Prop} : ofO (o.bind h) Q ↔ ofO o fun a => ofO (h a) Q := by
  cases o <;> simp
@[simp] theorem op_ii {g i j} : opv (bInt g) [.im (.int i), .im (.int j)] Q ↔ ofO (g i j) fun d => Q (.im d) := by
  show ofO ((g i j).map _) Q ↔ _
  exact ofO_map
@[simp] theorem op_addI {i j} : opv bAdd [.im (.int i), .im (.int j)] Q ↔ Q (.im (.int (i + j))) := by simp [opv, bAdd]
@[simp] theorem op_addS {x y} : opv bAdd [.im (.str x), .im (.str y)] Q ↔ x.length + y.length ≤ 100000 ∧ Q (.im (.str (x ++ y))) := by
  show ofO _ Q ↔ _
  simp [bAdd]
@[simp] theorem op_addT {x y} : opv bAdd [.im (.tup x), .im (.tup y)] Q ↔ x.length + y.length ≤ 100000 ∧ Q (.im (.tup (x ++ y))) := by
  show ofO _ Q ↔ _
  simp [bAdd]
@[simp] theorem op_addL {x y} : opv bAdd [.lst x, .lst y] Q ↔ ofO (allIm x) fun xs => ofO (allIm y) fun ys => xs.length + ys.length ≤ 100000 ∧ Q (.lst ((xs ++ ys).map .im)) := by
  show ofO _ Q ↔ _
  simp only [bAdd, elems]
  cases allIm x <;> cases allIm y <;> simp
/-- a number of few enough bits to be multiplied -/
def Sml (i : Int) : Prop := i.natAbs < 2 ^ 400000
theorem sml_of {i : Int} (h1 : -1000000000000000000000000000000 < i) (h2 : i < 1000000000000000000000000000000) : Sml i := by
  have h : i.natAbs < 2 ^ 200 := by
    have : (1000000000000000000000000000000 : Nat) < 2 ^ 200 := by decide
    omega
  exact Nat.lt_of_lt_of_le h (Nat.pow_le_pow_right (by decide) (by decide))
@[simp] theorem op_mulI {i j : Int} : opv bMul [.im (.int i), .im (.int j)] Q ↔ Sml i ∧ Sml j ∧ Q (.im (.int (i * j))) := by
  show ofO _ Q ↔ _
  simp only [bMul, Sml]
  rw [ofO_ite, ofO_some, and_assoc]
theorem ixN_at {n : Nat} {i : Int} (h0 : 0 ≤ i) (h : i < n) : ixN n i = some i.toNat := by
  unfold ixN
  rw [if_pos h0, if_pos h]
@[simp] theorem atI_0 {α : Type} {x : α} {xs} : atI (x :: xs) 0 = some x := by
  unfold atI
  rw [ixN_at (by decide) (by simp only [List.length_cons]; omega)]
  rfl
@[simp] theorem atI_1 {α : Type} {x y : α} {xs} : atI (x :: y :: xs) 1 = some y := by
  unfold atI
  rw [ixN_at (by decide) (by simp only [List.length_cons]; omega)]
  rfl
@[simp] theorem atI_2 {α : Type} {x y z : α} {xs} : atI (x :: y :: z :: xs) 2 = some z := by
  unfold atI
  rw [ixN_at (by decide) (by simp only [List.length_cons]; omega)]
  rfl
@[simp] theorem atI_3 {α : Type} {x y z u : α} {xs} : atI (x :: y :: z :: u :: xs) 3 = some u := by
  unfold atI
  rw [ixN_at (by decide) (by simp only [List.length_cons]; omega)]
  rfl
@[simp] theorem put_0 {x s : S} {xs} : putS (.lst (x :: xs)) (.int 0) s = some (.lst (s :: xs)) := by
  unfold putS
  simp only
  rw [ixN_at (by decide) (by simp only [List.length_cons]; omega)]
  rfl
@[simp] theorem put_1 {x y s : S} {xs} : putS (.lst (x :: y :: xs)) (.int 1) s = some (.lst (x :: s :: xs)) := by
  unfold putS
  simp only
  rw [ixN_at (by decide) (by simp only [List.length_cons]; omega)]
  rfl
@[simp] theorem put_2 {x y z s : S} {xs} : putS (.lst (x :: y :: z :: xs)) (.int 2) s = some (.lst (x :: y :: s :: xs)) := by
  unfold putS
  simp only
  rw [ixN_at (by decide) (by simp only [List.length_cons]; omega)]
  rfl
@[simp] theorem op_mod {i j} {Q : D → Prop} : ofO (gMod i j) Q ↔ 0 < j ∧ Q (.int (i % j)) := by simp [gMod]
@[simp] theorem op_pow {i j} {Q : D → Prop} : ofO (gPow i j) Q ↔ (0 ≤ j ∧ j ≤ 1000 ∧ i.natAbs < 2 ^ 64) ∧ Q (.int (i ^ j.toNat)) := by
  unfold gPow
  rw [ofO_ite, ofO_some]
@[simp] theorem op_div {i j} {Q : D → Prop} : ofO (gDiv i j) Q ↔ (0 < j ∧ j < 2 ^ 100) ∧ Q (.int (i / j)) := by
  unfold gDiv
  rw [ofO_ite, ofO_some]
@[simp] theorem op_lt {i j} {Q : D → Prop} : ofO (gLt i j) Q ↔ Q (.bl (decide (i < j))) := ofO_some
@[simp] theorem op_le {i j} {Q : D → Prop} : ofO (gLe i j) Q ↔ Q (.bl (decide (i ≤ j))) := ofO_some
@[simp] theorem op_gt {i j} {Q : D → Prop} : ofO (gGt i j) Q ↔ Q (.bl (decide (j < i))) := ofO_some
@[simp] theorem op_ge {i j} {Q : D → Prop} : ofO (gGe i j) Q ↔ Q (.bl (decide (j ≤ i))) := ofO_some
@[simp] theorem op_max {i j} {Q : D → Prop} : ofO (gMax i j) Q ↔ Q (.int (if j > i then j else i)) := ofO_some
@[simp] theorem op_min {i j} {Q : D → Prop} : ofO (gMin i j) Q ↔ Q (.int (if j < i then j else i)) := ofO_some
@[simp] theorem op_len {s} : opv bLen [s] Q ↔ ofO (lenS s) fun n => Q (.im (.int n)) := by
  show ofO _ Q ↔ _
  simp [bLen]
@[simp] theorem len_lst {ss} {Q : Nat → Prop} : ofO (lenS (.lst ss)) Q ↔ Q ss.length := ofO_some
@[simp] theorem len_tup {ss} {Q : Nat → Prop} : ofO (lenS (.im (.tup ss))) Q ↔ Q ss.length := ofO_some
@[simp] theorem len_ilst {ss} {Q : Nat → Prop} : ofO (lenS (.im (.lst ss))) Q ↔ Q ss.length := ofO_some
@[simp] theorem len_slst {ss} {Q : Nat → Prop} : ofO (lenS (.im (.slst ss))) Q ↔ Q ss.length := ofO_some
@[simp] theorem len_str {x} {Q : Nat → Prop} : ofO (lenS (.im (.str x))) Q ↔ x.length ≤ 100000 ∧ Q x.length := by
  show ofO (if _ then _ else _) Q ↔ _
  rw [ofO_ite, ofO_some]
@[simp] theorem ix_str {x i} : opv bIx [.im (.str x), .im (.int i)] Q ↔ x.length ≤ 100000 ∧ ofO (atI x.cps.toList i) fun c => Q (.im (.str ⟨#[c]⟩)) := by
  show ofO (if _ then _ else _) Q ↔ _
  rw [ofO_ite, ofO_map]
@[simp] theorem ix_tup {ds i} : opv bIx [.im (.tup ds), .im (.int i)] Q ↔ ofO (atI ds i) fun d => Q (.im d) := by
  show ofO (Option.map _ _) Q ↔ _
  rw [ofO_map]
@[simp] theorem ix_ilst {ds i} : opv bIx [.im (.lst ds), .im (.int i)] Q ↔ ofO (atI ds i) fun d => Q (.im d) := by
  show ofO (Option.map _ _) Q ↔ _
  rw [ofO_map]
@[simp] theorem ix_slst {ds i} : opv bIx [.im (.slst ds), .im (.int i)] Q ↔ ofO (atI ds i) fun d => Q (.im d) := by
  show ofO (Option.map _ _) Q ↔ _
  rw [ofO_map]
theorem ix_lst {ss ds i} (h : allIm ss = some ds) : opv bIx [.lst ss, .im (.int i)] Q ↔ ofO (atI ds i) fun d => Q (.im d) := by
  unfold opv bIx items
  simp only [h]
  exact ofO_map
@[simp] theorem allIm_nil : allIm [] = some [] := rfl
@[simp] theorem allIm_cons {d ss} : allIm (.im d :: ss) = (allIm ss).map (d :: ·) := rfl
theorem comp_all {n : Nat} {m : MG} {t : M Bool} {f : M R} {vs : List Nat} {ρ : Env} {ds : List D} (h : D → S) (hsm : ds.length ≤ 100000) (hs : ∀ d ∈ ds, ofO (m (.im d) ρ) fun ρ1 => ρ1.length = n ∧ Wp (t ρ1) fun x ρ2 => x = .ok true ∧ Wp (f ρ2) fun x ρ3 => x = .ok (.t (h d)) ∧ wipeE ρ3 vs = ρ) :
    Wp (compX n m t f vs ds [] ρ) fun acc ρ2 => acc = ds.map h ∧ ρ2 = ρ := by
  refine comp_inv (fun don rest acc ρ' => ρ' = ρ ∧ acc = don.map h ∧ (∀ d ∈ rest, d ∈ ds) ∧ don.length + rest.length = ds.length) ⟨rfl, rfl, fun d h => h, by simp⟩ ?_ fun acc ρ' q => ⟨q.2.1, q.1⟩
  rintro don d rest acc _ ⟨rfl, rfl, hm, hl⟩
  obtain ⟨ρ1, e1, c, x, ρ2, e2, rfl, q⟩ := hs d (hm d (List.mem_cons_self ..))
  refine ⟨ρ1, e1, c, _, ρ2, e2, ?_⟩
  dsimp only
  refine q.imp fun x ρ3 z => ?_
  obtain ⟨rfl, z⟩ := z
  dsimp only
  simp only [List.length_cons] at hl
  exact ⟨by rw [List.length_map]; omega, z, by simp, fun d' h' => hm d' (List.mem_cons_of_mem _ h'), by simp; omega⟩
theorem rangeD_mem {lo : Int} {n : Nat} {d : D} (h : d ∈ rangeD lo n) : ∃ i : Int, d = .int i ∧ lo ≤ i ∧ i < lo + n := by
  unfold rangeD at h
  obtain ⟨j, hj, rfl⟩ := List.mem_map.mp h
  have := List.mem_range.mp hj
  exact ⟨_, rfl, by omega, by omega⟩
@[simp] theorem rangeD_len {lo : Int} {n : Nat} : (rangeD lo n).length = n := by simp [rangeD]
@[simp] theorem slice_str {x lo hi} {Q : S → Prop} : ofO (sliceS (.im (.str x)) lo hi) Q ↔ x.length ≤ 100000 ∧ Q (.im (.str (cutS x lo hi))) := by
  show ofO (if _ then _ else _) Q ↔ _
  rw [ofO_ite, ofO_some]
@[simp] theorem slice_slst {x lo hi} {Q : S → Prop} : ofO (sliceS (.im (.slst x)) lo hi) Q ↔ Q (.lst ((cutG x lo hi).map .im)) := by
  simp [sliceS, items]
@[simp] theorem kind_str {x} : kindS "str" (.im (.str x)) = true := by simp [kindS]
@[simp] theorem kind_lst {x} : kindS "list" (.lst x) = true := by simp [kindS]
@[simp] theorem fz_im {d} : fz (.im d) = d := rfl
end
end Av
end
set_option Elab.async false
set_option linter.all false
set_option maxRecDepth 100000
set_option maxHeartbeats 2000000
/-! More rules: pairs of names set at once, enumerate, zip, get. -/
noncomputable section
namespace Av
open PySem L2
section
variable {X : Cx} {cl : Str → Addr} {W : WX} {Rs : List Nat} {st : Stmt} {a b c e e2 tg o : Expr} {es : List Expr} {f : M (List R)} {fe fo fk fx : M R} {pos p px py pz pt : Pos}
theorem gs_parK {js : List Nat} {K : Ends → L2.St → List V → Hp → Prop} (hr : ∀ j ∈ js, j ∉ Rs) (hK : ∀ D σ vs H1, vs.length = js.length → D.nx (setAll js vs σ) H1 → K D σ vs H1) (h : PS X st (fun D σ H => tUA X es σ H (K D σ))) (he : GA X cl W es f) :
    GS X cl W Rs st (sPar js f) := ⟨fun σ B H ρ Z fl ρ' E q D F => by
  refine ⟨_, h, ?_⟩
  unfold sPar at q
  split at q
  · rename_i rs ρ1 q1
    cases q2 : trees rs with
    | none => rw [q2] at q; cases q
    | some ss =>
      rw [q2] at q
      dsimp only at q
      cases q3 : stores js ss ρ1 with
      | none => rw [q3] at q; cases q
      | some ρ2 =>
        rw [q3] at q
        cases q
        refine he.run σ B H ρ Z _ _ E q1 _ (fun r' er vs B1 H1 Z1 fp n1 E1 rvs ap => ?_) (fun _ _ _ q => by cases q)
        cases er
        obtain ⟨hl, Z3, E3, z3, k3⟩ := stores_ok E1 (rvs.trees q2) ap q3
        exact hK D σ vs H1 hl (F _ B1 H1 Z3 (fun i hi => k3 i fun z => hr i z hi) E3 (n1.sub z3))
  · rename_i c ns xs ρ1 q1
    cases q
    refine he.run σ B H ρ Z _ _ E q1 _ (fun _ q => by cases q) fun c' ns' xs' q B1 H1 Z1 n1 E1 d hd => ?_
    cases q
    exact F σ B1 H1 Z1 (fun _ _ => rfl) E1 n1 d hd
  · cases q⟩
/-- x, y = a, b -/
theorem gs_par2 {i j : Nat} {x y : Str} {kt k2 pt2} (hc : X.calm = true) (hN : X.N.Nodup) (hr : ∀ z ∈ [i, j], z ∉ Rs) (hij : i ≠ j) (h : GA X cl W [a, b] f) (hi : X.N[i]? = some x := by rfl) (hj : X.N[j]? = some y := by rfl)
    (hx : X.env.scope.names.lookup x = some .local := by rfl) (hy : X.env.scope.names.lookup y = some .local := by rfl)
    (hw : swappedStores [.Tuple [.Name x px, .Name y py] kt pt] (.Tuple [a, b] k2 pt2) X.env = pure (some [x, y]) := by rfl)
    (hs : swapsWithSole [.Tuple [.Name x px, .Name y py] kt pt] (.Tuple [a, b] k2 pt2) pos.line X.env = pure false := by rfl) :
    GS X cl W Rs (.Assign [.Tuple [.Name x px, .Name y py] kt pt] (.Tuple [a, b] k2 pt2) pos) (sPar [i, j] f) :=
  gs_parK (K := fun D σ vs H1 => ∃ v w, vs = [v, w] ∧ D.nx ((σ.set i (some v)).set j (some w)) H1) hr (fun D σ vs H1 hl q => by
    match vs, hl with
    | [v, w], _ => exact ⟨v, w, rfl, q⟩) (ps_par hc hN hi hj hij hx hy pa_U hw hs) h
/-- x, y, z = a, b, c -/
theorem gs_par3 {i j l : Nat} {x y z : Str} {kt k2 pt2} (hc : X.calm = true) (hN : X.N.Nodup) (hr : ∀ z ∈ [i, j, l], z ∉ Rs) (hij : i ≠ j) (hil : i ≠ l) (hjl : j ≠ l) (h : GA X cl W [a, b, c] f) (hi : X.N[i]? = some x := by rfl) (hj : X.N[j]? = some y := by rfl) (hl : X.N[l]? = some z := by rfl)
    (hx : X.env.scope.names.lookup x = some .local := by rfl) (hy : X.env.scope.names.lookup y = some .local := by rfl) (hz : X.env.scope.names.lookup z = some .local := by rfl)
    (hw : swappedStores [.Tuple [.Name x px, .Name y py, .Name z pz] kt pt] (.Tuple [a, b, c] k2 pt2) X.env = pure (some [x, y, z]) := by rfl)
    (hs : swapsWithSole [.Tuple [.Name x px, .Name y py, .Name z pz] kt pt] (.Tuple [a, b, c] k2 pt2) pos.line X.env = pure false := by rfl) :
    GS X cl W Rs (.Assign [.Tuple [.Name x px, .Name y py, .Name z pz] kt pt] (.Tuple [a, b, c] k2 pt2) pos) (sPar [i, j, l] f) :=
  gs_parK (K := fun D σ vs H1 => ∃ u v w, vs = [u, v, w] ∧ D.nx (((σ.set i (some u)).set j (some v)).set l (some w)) H1) hr (fun D σ vs H1 hl q => by
    match vs, hl with
    | [u, v, w], _ => exact ⟨u, v, w, rfl, q⟩) (ps_par3 hc hN hi hj hl hij hil hjl hx hy hz pa_U hw hs) h
@[simp] theorem wp_par {js : List Nat} {ρ : Env} {Q : Fl → Env → Prop} : Wp (sPar js f ρ) Q ↔ Wp (f ρ) fun x ρ1 => offS x ρ1 Q fun rs => treesP rs fun ss => ofO (stores js ss ρ1) fun ρ2 => Q .nx ρ2 := by
  unfold sPar treesP
  cases e : f ρ with
  | none => simp
  | some pr =>
    obtain ⟨x, ρ1⟩ := pr
    cases x with
    | er c ns xs => simp
    | ok rs =>
      cases e2 : trees rs with
      | none => simp [e2]
      | some ss => cases e3 : stores js ss ρ1 <;> simp [e2, e3]

/-! ### enumerate, zip -/
/-- for i, x in enumerate(e), e a list -/
def lstD : D → Option (List D)
  | .lst ds => some ds
  | .slst ds => some ds
  | _ => none
def iEnumM (f : M R) : M (List D) := f.bind fun r ρ => match still r ρ with
  | some (d, ρ1) => (match lstD d with
    | some ds => some (.ok (enumD 0 ds), ρ1)
    | none => none)
  | none => none
theorem lstD_ok {G : Gx} {B : Hp} {v : V} {d : D} {ds : List D} (h : DV G B v d) (e : lstD d = some ds) : ∃ a vs, v = .ref a ∧ SqL G.K B a vs ∧ DVs G B vs ds := by
  unfold lstD at e
  split at e
  · cases e
    obtain ⟨a, vs, e1, h1, h2⟩ := h
    exact ⟨a, vs, e1, sq_of h1, h2⟩
  · cases e
    exact h
  · cases e
theorem gi_enum {elts : List Expr} {kk : Nat} {tpos : Pos} (hg : Gl X "enumerate") (hm : X.mg "enumerate" = none) (h : GE X cl W e fe) (hs : starEach [e] X.env = [(false, eval e X.env)] := by rfl) :
    GI X cl W (.Tuple elts kk tpos) (.Call (.Name "enumerate" p) [e] [] pos) (iEnumM fe) := ⟨fun σ B H ρ Z res ρ' E e1 R k ke => by
  refine ⟨_, pi_enum hg hm (pa_cons pe_U pa_nil hs) hs, ?_⟩
  rcases bind_ok e1 with ⟨r, ρ1, e2, e3⟩ | ⟨c, ns, xs, e2, e3⟩
  · cases q : still r ρ1 with
    | none => rw [q] at e3; cases e3
    | some pr =>
      obtain ⟨d, ρ2⟩ := pr
      rw [q] at e3
      dsimp only at e3
      cases q2 : lstD d with
      | none => rw [q2] at e3; cases e3
      | some ds =>
        rw [q2] at e3
        cases e3
        refine h.run σ B H ρ Z _ _ E e2 _ (fun r' er v B1 H1 Z1 fp n1 E1 rv ap => ?_) (fun _ _ _ q => by cases q)
        cases er
        obtain ⟨B2, Z2, x1, n2, E2, hd⟩ := still_ok E n1 E1 rv ap q
        obtain ⟨a, vs, rfl, h1, h2⟩ := lstD_ok hd q2
        exact ⟨a, vs, rfl, ex_l E2.sub h1, k _ rfl _ B2 H1 Z2 n2 E2 (src_enum h1 h2)⟩
  · subst e3
    exact h.run σ B H ρ Z _ _ E e2 _ (fun _ q => by cases q) fun _ _ _ q => by cases q; exact ke _ _ _ rfl⟩
@[simp] theorem wp_enum {ρ : Env} {Q : Res (List D) → Env → Prop} : Wp (iEnumM fe ρ) Q ↔ Wp (fe ρ) fun x ρ1 => onOk x ρ1 Q fun r => ofO (still r ρ1) fun p => ofO (lstD p.1) fun ds => Q (.ok (enumD 0 ds)) p.2 := by
  unfold iEnumM
  rw [wp_bind]
  refine Wp.iff fun r ρ1 => ?_
  cases e : still r ρ1 with
  | none => simp
  | some p => cases e2 : lstD p.1 <;> simp [e2]
end
end Av
end
set_option Elab.async false
set_option linter.all false
set_option maxRecDepth 100000
set_option maxHeartbeats 2000000
/-! What all laws share: numbers drawn from a script, and lemmas of texts and lists. -/
noncomputable section
namespace Av
open PySem L2
def m_law_cell : MS := (sSeq (sIf (xTest (m2 (bInt gLt) (xVar 1) (mN bLen (aCons (xVar 0) aNil)))) (sRet (m2 bIx (xVar 0) (xVar 1))) sNil) (sSeq (sAsg (m2 bAdd (m2 bMul (xVar 1) (xC (.int 7919))) (xC (.int 5))) (gSlot 2)) (sSeq (sIf (xTest (m2 (bInt gGt) (mN bLen (aCons (xVar 0) aNil)) (xC (.int 0)))) (sAsg (m2 bAdd (m2 bMul (m2 (bInt gMod) (m2 bIx (xVar 0) (m2 (bInt gMod) (m2 bMul (xVar 1) (xC (.int 7))) (mN bLen (aCons (xVar 0) aNil)))) (xC (.int 2147483629))) (xC (.int 48271))) (m2 bMul (xVar 1) (xC (.int 7919)))) (gSlot 2)) sNil) (sRet (m2 bMul (m2 (bInt gMod) (xVar 2) (xC (.int 2147483647))) (xC (.int 31)))))))
def F_law_cell : Fn := fnM 2 3 [] m_law_cell
def m_law_flow : MS := (sSeq (sAsg (xCall F_law_cell (aCons (xTake 0) (aCons (xTake 1) aNil))) (gSlot 2)) (sSeq (sAsg (xC (.int 0)) (gSlot 3)) (sSeq (sIf (xTest (m2 (bInt gGe) (xVar 2) (m2 (bInt gPow) (xC (.int 10)) (xC (.int 18))))) (sAsg (xTake 2) (gSlot 3)) sNil) (sRet (xLst (aCons (xTake 3) (aCons (xC (.int 0)) (aCons (m2 bAdd (m2 (bInt gMod) (xVar 2) (xC (.int 2147483629))) (m2 bMul (xC (.int 40692)) (xVar 1))) aNil))))))))
def F_law_flow : Fn := fnM 2 4 [] m_law_flow
def m_law_draw : MS := (sSeq (sIf (xTest (m2 (bInt gGt) (m2 bIx (xVar 0) (xC (.int 0))) (xC (.int 0)))) (sSeq (sAsg (m2 (bInt gMod) (m2 bIx (xVar 0) (xC (.int 0))) (xVar 1)) (gSlot 2)) (sSeq (sAsg (m2 (bInt gDiv) (m2 bIx (xVar 0) (xC (.int 0))) (xVar 1)) (gStore 0 (xC (.int 0)))) (sRet (xMove 2)))) sNil) (sSeq (sAsg (m2 bAdd (m2 bIx (xVar 0) (xC (.int 1))) (xC (.int 1))) (gStore 0 (xC (.int 1)))) (sSeq (sAsg (m2 (bInt gMod) (m2 bAdd (m2 bAdd (m2 bMul (m2 bIx (xVar 0) (xC (.int 2))) (m2 bAdd (xC (.int 48271)) (m2 bMul (xC (.int 2)) (m2 bIx (xVar 0) (xC (.int 1)))))) (m2 bMul (xC (.int 7919)) (m2 bIx (xVar 0) (xC (.int 1))))) (xC (.int 1))) (xC (.int 2147483629))) (gSlot 3)) (sSeq (sAsg (m2 (bInt gMod) (m2 bMul (xVar 3) (xVar 3)) (xC (.int 2147483587))) (gSlot 3)) (sRet (m2 (bInt gMod) (m2 (bInt gDiv) (m2 (bInt gMod) (m2 bMul (m2 bAdd (xVar 3) (xC (.int 5))) (m2 bAdd (xVar 3) (xC (.int 40692)))) (xC (.int 2147483579))) (xC (.int 31))) (xVar 1)))))))
def F_law_draw : Fn := fnM 2 4 [0] m_law_draw
def Flow (a b c : Int) : S := .lst [.im (.int a), .im (.int b), .im (.int c)]
theorem draw_fw {a b c m : Int} {Q : Out → List (Option S) → Prop} (ha : 0 ≤ a) (hb : 0 ≤ b) (hb2 : b < 2 ^ 60) (hc : 0 ≤ c) (hc2 : c < 2 ^ 60) (hm : 0 < m) (hm2 : m < 2 ^ 60)
    (k : ∀ r a' b', 0 ≤ r → r < m → 0 ≤ a' → b ≤ b' → b' ≤ b + 1 → Q (.ret (.im (.int r))) [some (Flow a' b' c), none]) : FW F_law_draw [Flow a b c, .im (.int m)] Q := by
  unfold F_law_draw
  rw [fw_fn (by rfl)]
  unfold m_law_draw Flow
  simp [finsAt, ix_lst]
  split
  · exact ⟨hm, ⟨hm, by omega⟩, k _ _ _ (Int.emod_nonneg _ (by omega)) (Int.emod_lt_of_pos _ hm) (Int.ediv_nonneg ha (by omega)) (by omega) (by omega)⟩
  · have q : ∀ x y : Int, 0 < y → 0 ≤ x % y ∧ x % y < y := fun x y h => ⟨Int.emod_nonneg _ (by omega), Int.emod_lt_of_pos _ h⟩
    have q1 := q (c * (48271 + 2 * (b + 1)) + 7919 * (b + 1) + 1) 2147483629 (by decide)
    generalize (c * (48271 + 2 * (b + 1)) + 7919 * (b + 1) + 1) % 2147483629 = u at q1 ⊢
    have q2 := q (u * u) 2147483587 (by decide)
    generalize u * u % 2147483587 = v at q2 ⊢
    refine ⟨sml_of (by omega) (by omega), sml_of (by omega) (by omega), sml_of (by omega) (by omega), sml_of (by omega) (by omega), sml_of (by omega) (by omega), sml_of (by omega) (by omega), sml_of (by omega) (by omega), sml_of (by omega) (by omega), sml_of (by omega) (by omega), hm, ?_⟩
    exact k _ _ _ (q _ m hm).1 (q _ m hm).2 ha (by omega) (by omega)
theorem ofO_at {ns : List Int} {k : Int} {Q : D → Prop} (h0 : 0 ≤ k) (h : k < ns.length) (q : ∀ v ∈ ns, Q (.int v)) : ofO (atI (ns.map D.int) k) Q := by
  unfold atI
  rw [ixN_at h0 (by rw [List.length_map]; exact h)]
  have hk : k.toNat < ns.length := by omega
  exact ⟨.int ns[k.toNat], by simp [hk], q _ (List.getElem_mem _)⟩
theorem cell_fw {ns : List Int} {k : Int} {Q : Out → List (Option S) → Prop} (h0 : 0 ≤ k) (h1 : k < 2 ^ 20) (q : ∀ v, Q (.ret (.im (.int v))) [none, none]) : FW F_law_cell [.im (.slst (ns.map .int)), .im (.int k)] Q := by
  unfold F_law_cell
  rw [fw_fn (by rfl)]
  unfold m_law_cell
  have em : ∀ x y : Int, 0 < y → 0 ≤ x % y ∧ x % y < y := fun x y h => ⟨Int.emod_nonneg _ (by omega), Int.emod_lt_of_pos _ h⟩
  simp [finsAt]
  split
  · exact ofO_at h0 (by omega) fun v _ => q v
  · refine ⟨sml_of (by omega) (by omega), sml_of (by omega) (by omega), ?_⟩
    split
    · rename_i hn
      refine ⟨sml_of (by omega) (by omega), sml_of (by omega) (by omega), hn, ?_⟩
      have b := em (k * 7) ns.length (by omega)
      refine ofO_at b.1 b.2 fun v _ => ?_
      have b2 := em v 2147483629 (by decide)
      have b3 := em (v % 2147483629 * 48271 + k * 7919) 2147483647 (by decide)
      simp
      exact ⟨sml_of (by omega) (by omega), sml_of (by omega) (by omega), sml_of (by omega) (by omega), sml_of (by omega) (by omega), sml_of (by omega) (by omega), sml_of (by omega) (by omega), q _⟩
    · have b3 := em (k * 7919 + 5) 2147483647 (by decide)
      exact ⟨sml_of (by omega) (by omega), sml_of (by omega) (by omega), q _⟩
theorem flow_fw {ns : List Int} {k : Int} {Q : Out → List (Option S) → Prop} (h0 : 0 ≤ k) (h1 : k < 2 ^ 20) (q : ∀ a c, 0 ≤ a → 0 ≤ c → c < 2 ^ 60 → Q (.ret (Flow a 0 c)) [none, none]) : FW F_law_flow [.im (.slst (ns.map .int)), .im (.int k)] Q := by
  unfold F_law_flow
  rw [fw_fn (by rfl)]
  unfold m_law_flow
  simp [finsAt, outs]
  refine cell_fw h0 h1 fun v => ?_
  have b2 : 0 ≤ v % 2147483629 ∧ v % 2147483629 < 2147483629 := ⟨Int.emod_nonneg _ (by decide), Int.emod_lt_of_pos _ (by decide)⟩
  simp [backs]
  split
  · exact ⟨sml_of (by omega) (by omega), sml_of (by omega) (by omega), q _ _ (by omega) (by omega) (by omega)⟩
  · exact ⟨sml_of (by omega) (by omega), sml_of (by omega) (by omega), q _ _ (by omega) (by omega) (by omega)⟩
theorem eq_int {i j : Int} {Q : S → Prop} : opv bEq [.im (.int i), .im (.int j)] Q ↔ Q (.im (.bl (decide (i = j)))) := by
  show ofO _ Q ↔ _
  have e : PyData.eqv (.int i) (.int j) = decide (i = j) := by
    first | rfl | (by_cases h : i = j <;> simp [PyData.eqv, h])
  have s : ∀ i, SeqAt.shaped (.int i) = true := fun _ => rfl
  simp [bEq, py, s, e]
theorem cut_len {x : Str} {lo hi : Option Int} : (cutS x lo hi).length ≤ x.length := by
  unfold cutS Str.length
  simp
  omega
theorem join_len : ∀ xs : List Str, (Str.join "" xs).length = (xs.map (·.length)).sum
  | [] => rfl
  | [x] => by simp [Str.join]
  | x :: y :: r => by
    have e : Str.join "" (x :: y :: r) = x ++ "" ++ Str.join "" (y :: r) := rfl
    rw [e, Str.length_append, Str.length_append, join_len (y :: r)]
    have z : ("" : Str).length = 0 := rfl
    simp [z]
theorem at_ex {α : Type} {xs : List α} {i : Int} (h0 : 0 ≤ i) (h : i < xs.length) : ∃ c ∈ xs, atI xs i = some c := by
  have hk : i.toNat < xs.length := by omega
  refine ⟨xs[i.toNat], List.getElem_mem _, ?_⟩
  unfold atI
  rw [ixN_at h0 h]
  simp [hk]
theorem strsD_map : ∀ xs : List Str, strsD (xs.map D.str) = some xs
  | [] => rfl
  | x :: xs => by
    show (strsD (xs.map D.str)).map (x :: ·) = _
    rw [strsD_map xs]
    rfl
theorem allIm_map2 {α : Type} (h : α → D) (cs : List α) : allIm (cs.map fun c => S.im (h c)) = some (cs.map h) := by
  rw [show (cs.map fun c => S.im (h c)) = (cs.map h).map S.im by simp]
  exact allIm_map _
theorem split_op {a b : Str} {ws : List Str} {Q : S → Prop} (h : Txt.split a b = ws) (h1 : (b.length == 0) = false ∧ a.length + 2 ≤ 100000) (q : Q (.lst (ws.map fun x => .im (.str x)))) : opv bSplit [.im (.str a), .im (.str b)] Q := by
  show ofO _ Q
  simp only [bSplit]
  rw [if_pos h1, h]
  exact ofO_some.mpr q
theorem ix_strs {ws : List Str} {z : Int} {Q : S → Prop} (h0 : 0 ≤ z) (h : z < ws.length) (q : ∀ w ∈ ws, Q (.im (.str w))) : opv bIx [.lst (ws.map fun x => .im (.str x)), .im (.int z)] Q := by
  obtain ⟨w, hw, e⟩ := at_ex h0 h
  rw [ix_lst (allIm_map2 (fun x => D.str x) ws)]
  have e2 : atI (ws.map D.str) z = some (.str w) := by
    unfold atI at e ⊢
    rw [ixN_at h0 h] at e
    rw [ixN_at h0 (by rw [List.length_map]; exact h)]
    simp at e ⊢
    exact e
  rw [show (ws.map fun x => D.str x) = ws.map D.str from rfl, e2]
  exact ofO_some.mpr (q w hw)
theorem app_len {x y : Str} : (x ++ y).length = x.length + y.length := Str.length_append x y
theorem blsD_map : ∀ bs : List Bool, blsD (bs.map D.bl) = some bs
  | [] => rfl
  | b :: bs => by
    show (blsD (bs.map D.bl)).map (b :: ·) = _
    rw [blsD_map bs]
    rfl
theorem all_op {bs : List Bool} {Q : S → Prop} : opv bAll [.lst (bs.map fun b => .im (.bl b))] Q ↔ Q (.im (.bl (bs.all id))) := by
  show ofO _ Q ↔ _
  simp only [bAll, elems, allIm_map2 D.bl bs, Option.bind_some, show (bs.map fun b => D.bl b) = bs.map D.bl from rfl, blsD_map, Option.map_some, ofO_some]
theorem cut_le {α : Type} {xs : List α} {lo hi : Option Int} : (cutG xs lo hi).length ≤ xs.length := by
  unfold cutG
  simp
  omega
theorem ne_bl {a : Bool} {Q : S → Prop} : opv bNe [.im (.bl a), .im (.bl a)] Q ↔ Q (.im (.bl false)) := by
  show ofO _ Q ↔ _
  have s : ∀ i, SeqAt.shaped (.bool i) = true := fun _ => rfl
  have e : PyData.eqv (.bool a) (.bool a) = true := by cases a <;> rfl
  simp [bNe, py, s, e]
theorem isi_bl {a : Bool} {Q : S → Prop} : opv (bIsi "bool") [.im (.bl a)] Q ↔ Q (.im (.bl true)) := by
  show ofO _ Q ↔ _
  simp [bIsi, tyName, isSub]
theorem restore_of {ρ0 ρ r : Env} {v : Nat} (h : restore ρ0 ρ [v] = r) (h2 : ρ[v]? = some none) : ∃ o, r = ρ.set v o := by
  subst h
  unfold restore
  split
  · exact ⟨_, rfl⟩
  · exact ⟨none, (set_self h2).symm⟩
theorem fzs_app : ∀ a b : List S, fzs (a ++ b) = fzs a ++ fzs b
  | [], b => rfl
  | x :: a, b => by
    show fz x :: fzs (a ++ b) = _
    rw [fzs_app a b]
    rfl
theorem fzs_comp {α : Type} (h : α → D) : ∀ xs : List α, fzs (xs.map (S.im ∘ h)) = xs.map h
  | [] => rfl
  | x :: xs => by
    show _ :: fzs (xs.map (S.im ∘ h)) = _
    rw [fzs_comp h xs]
    rfl
end Av
end
set_option Elab.async false
set_option linter.all false
set_option maxRecDepth 100000
set_option maxHeartbeats 2000000
/-! Own classes: fields read, instances made (frozen). -/
noncomputable section
namespace Av
open PySem L2
/-- a plain class and the names of its fields -/
structure Kls (K : PySem.W.Frag) (cl : Str → Addr) (c : Str) (ns : List Str) : Prop where
  cls : Cls K (cl c)
  no : ∀ n ∈ ns, NoAttr K (cl c) n
def fldOf {α : Type} : List Str → List α → Str → Option α
  | n :: ns, x :: xs, f => if n = f then some x else fldOf ns xs f
  | _, _, _ => none
theorem fldOf_ok {G : Gx} {B : Hp} {f : Str} : ∀ {ns : List Str} {vs : List V} {ds : List D} {d : D}, ns.length = vs.length → DVs G B vs ds → fldOf ns ds f = some d → ∃ v, (ns.zip vs).lookup f = some v ∧ DV G B v d
  | [], _, _, _, _, _, e => by cases e
  | _ :: _, _, [], _, _, _, e => by cases e
  | n :: ns, vs, x :: xs, d, hl, h, e => by
    obtain ⟨v, r, rfl, h1, h2⟩ := h
    unfold fldOf at e
    by_cases q : n = f
    · rw [if_pos q] at e
      cases e
      exact ⟨v, by subst q; simp [List.lookup], h1⟩
    · rw [if_neg q] at e
      obtain ⟨u, e1, h3⟩ := fldOf_ok (by simpa using hl) h2 e
      refine ⟨u, ?_, h3⟩
      have : (f == n) = false := by simpa using fun z : f = n => q z.symm
      simp [List.lookup, this, e1]
theorem fldOf_mem {α : Type} {f : Str} : ∀ {ns : List Str} {ds : List α} {d : α}, fldOf ns ds f = some d → f ∈ ns
  | [], _, _, e => by cases e
  | _ :: _, [], _, e => by cases e
  | n :: ns, x :: xs, d, e => by
    unfold fldOf at e
    by_cases q : n = f
    · exact q ▸ List.mem_cons_self ..
    · rw [if_neg q] at e
      exact List.mem_cons_of_mem _ (fldOf_mem e)
/-- a field of an instance of one of the classes cs -/
def aGet (cs : List (Str × List Str)) (f : Str) (s : S) : Option S := match s with
  | .im (.ins c ns ds) => if (c, ns) ∈ cs then (fldOf ns ds f).map .im else none
  | _ => none
def xAttr (cs : List (Str × List Str)) (f : Str) (fe : M R) : M R := fe.bind fun r ρ => match (rd ρ r).bind (aGet cs f) with
  | some z => some (.ok (.t z), ρ)
  | none => none
section
variable {X : Cx} {cl : Str → Addr} {W : WX} {e : Expr} {fe : M R} {f : Str} {pos : Pos} {cs : List (Str × List Str)}
theorem ge_attr (hc : ∀ p ∈ cs, Kls X.K cl p.1 p.2) (h : GE X cl W e fe) (hb : attributeBase e f X.env (eval e X.env) = eval e X.env := by rfl) : GE X cl W (.Attribute e f pos) (xAttr cs f fe) :=
  ge_t (pe_fld pe_U hb) ⟨fun σ B H ρ Z res ρ' E e1 Q k ke => by
    show tU X e σ H fun x H1 => ∃ a C dx fs v, x = .ref a ∧ H1 a = some (.ins C dx fs) ∧ Cls X.K C ∧ NoAttr X.K C f ∧ fs.lookup f = some v ∧ Q v H1
    rcases bind_ok e1 with ⟨r, ρ1, e2, e3⟩ | ⟨c, ns, xs, e2, e3⟩
    · refine h.run σ B H ρ Z _ _ E e2 _ (fun r' er v B1 H1 Z1 fp n1 E1 rv ap => ?_) (fun _ _ _ q => by cases q)
      cases er
      cases q : rd ρ1 r with
      | none => rw [q] at e3; cases e3
      | some s =>
        rw [q] at e3
        dsimp only [Option.bind_some] at e3
        cases q2 : aGet cs f s with
        | none => rw [q2] at e3; cases e3
        | some z =>
          rw [q2] at e3
          cases e3
          unfold aGet at q2
          split at q2
          · rename_i c ns ds
            split at q2
            · rename_i hm
              cases q3 : fldOf ns ds f with
              | none => rw [q3] at q2; cases q2
              | some d =>
                rw [q3] at q2
                cases q2
                obtain ⟨g, hv, _⟩ := rv.read E1 q
                obtain ⟨a, dx, vs, rfl, ha, hl, hd⟩ := hv
                obtain ⟨u, hu, du⟩ := fldOf_ok hl hd q3
                have kc := hc _ hm
                exact ⟨a, _, dx, _, u, rfl, E1.sub _ _ ha, kc.cls, kc.no f (fldOf_mem q3), hu, k _ rfl u B1 H1 Z1 (fun _ => False) (n1.sub fun x z => z.elim False.elim .inr) E1 ⟨du, fun _ z => z⟩ fun _ z => z.elim⟩
            · cases q2
          · cases q2
    · subst e3
      exact h.run σ B H ρ Z _ _ E e2 _ (fun _ q => by cases q) fun _ _ _ q => by cases q; exact ke _ _ _ rfl⟩
@[simp] theorem wp_attr {ρ : Env} {Q : Res R → Env → Prop} : Wp (xAttr cs f fe ρ) Q ↔ Wp (fe ρ) fun x ρ1 => onOk x ρ1 Q fun r => ofO (rd ρ1 r) fun s => ofO (aGet cs f s) fun z => Q (.ok (.t z)) ρ1 := by
  unfold xAttr
  rw [wp_bind]
  refine Wp.iff fun r ρ1 => ?_
  cases e : rd ρ1 r with
  | none => simp
  | some s => cases e2 : aGet cs f s <;> simp [e2]
end
end Av
end
set_option Elab.async false
set_option linter.all false
set_option maxRecDepth 100000
set_option maxHeartbeats 2000000
/-! Own classes: new instances, frozen at once. -/
noncomputable section
namespace Av
open PySem L2
/-- what a plain __init__ promises: the fields ns are set to the values -/
def spIni (C : Addr) (ns : List Str) : Sp := fun vs H Q _ => ∃ p dx xs, vs = .ref p :: xs ∧ xs.length = ns.length ∧ H p = some (.ins C dx []) ∧ Q .non (upd H p (.ins C dx (ns.zip xs)))
def tUK (X : Cx) (kws : List Keyword) : TA := fun σ H Q => ∃ t, PK X kws t ∧ t σ H Q
theorem pk_U {X : Cx} {kws : List Keyword} : PK X kws (tUK X kws) := ⟨fun pos pins s σ H Q I ⟨_, ht, h⟩ => ht.run pos pins s σ H Q I h⟩
structure GK (X : Cx) (cl : Str → Addr) (W : WX) (kws : List Keyword) (f : M (List R)) : Prop where
  run : ∀ (σ : L2.St) (B H : Hp) (ρ : Env) (Z : Set') (res : Res (List R)) (ρ' : Env), EV (gx X cl) B H σ ρ Z → f ρ = some (res, ρ') → ∀ Q : List V → Hp → Prop,
    (∀ rs, res = .ok rs → ∀ vs B' H' Z' fp, Nx B H Z B' H' (Or' fp Z') → EV (gx X cl) B' H' σ ρ' Z' → RVs (gx X cl) B' H' σ vs rs fp → Apart fp Z' → Q vs H') →
    (∀ c ns xs, res = .er c ns xs → ∀ B' H' Z', Nx B H Z B' H' Z' → EV (gx X cl) B' H' σ ρ' Z' → ∀ d, ErV (gx X cl) B' ns xs d → W (.ref (cl c)) d σ H') → tUK X kws σ H Q
section
variable {X : Cx} {cl : Str → Addr} {W : WX} {e : Expr} {es : List Expr} {kws : List Keyword} {f : M R} {g fa fk : M (List R)} {pos kpos p : Pos} {nm : Option Str}
theorem gk_nil : GK X cl W [] aNil := ⟨fun σ B H ρ Z res ρ' E e Q k _ => by
  cases e
  exact ⟨_, pk_nil, k [] rfl [] B H Z (fun _ => False) (Nx.refl.sub fun x z => z.elim False.elim id) E ⟨rfl, fun _ z => z⟩ fun _ z => z.elim⟩⟩
theorem gk_cons (h : GE X cl W e f) (hs : GK X cl W kws g) : GK X cl W (⟨nm, e, kpos⟩ :: kws) (aCons f g) := ⟨fun σ B H ρ Z res ρ' E e1 Q k ke => by
  refine ⟨_, pk_cons pe_U pk_U, ?_⟩
  rcases bind_ok e1 with ⟨r, ρ1, e2, e3⟩ | ⟨c, ns, xs, e2, e3⟩
  · refine h.run σ B H ρ Z _ _ E e2 _ (fun r' er v B1 H1 Z1 fp n1 E1 rv ap => ?_) (fun _ _ _ q => by cases q)
    cases er
    show tUK X kws σ H1 _
    rcases bind_ok e3 with ⟨rs, ρ2, e4, e5⟩ | ⟨c, ns, xs, e4, e5⟩
    · cases e5
      refine hs.run σ B1 H1 ρ1 Z1 _ _ E1 e4 _ (fun rs' er vs B2 H2 Z2 fq n2 E2 rvs ap2 => ?_) (fun _ _ _ q => by cases q)
      cases er
      obtain ⟨n, a12, a1z⟩ := n1.two n2 E.there ap fun a ha => (rv.own a ha).2
      exact k _ rfl (v :: vs) B2 H2 Z2 (Or' fp fq) n E2 ⟨v, vs, fp, fq, rfl, rv.pass n2 ap, rvs, a12, fun _ => Iff.rfl⟩ fun a ha z => ha.elim (fun q => a1z a q z) fun q => ap2 a q z
    · subst e5
      refine hs.run σ B1 H1 ρ1 Z1 _ _ E1 e4 _ (fun _ q => by cases q) fun c' ns' xs' q B2 H2 Z2 n2 E2 d hd => ?_
      cases q
      exact ke _ _ _ rfl B2 H2 Z2 (n1.drop.then n2 E) E2 d hd
  · subst e3
    exact h.run σ B H ρ Z _ _ E e2 _ (fun _ q => by cases q) fun c' ns' xs' q B2 H2 Z2 n2 E2 d hd => by
      cases q
      exact ke _ _ _ rfl B2 H2 Z2 n2 E2 d hd⟩
/-- a new instance stands -/
theorem make_core {c : Str} {ns : List Str} {tl : List V} {ds : List D} {σ : L2.St} {B H B1 H1 : Hp} {ρ1 : Env} {Z Z1 : Set'} {Q : VK} {E0 : XK} (hth : ∀ x, Z x → ∃ o, H x = some o) (n1 : Nx B H Z B1 H1 Z1) (E1 : EV (gx X cl) B1 H1 σ ρ1 Z1) (hd : DVs (gx X cl) B1 tl ds) (hl : tl.length = ns.length)
    (k : ∀ v B' H' Z' fp, Nx B H Z B' H' (Or' fp Z') → EV (gx X cl) B' H' σ ρ1 Z' → RV (gx X cl) B' H' σ v (.t (.im (.ins c ns ds))) fp → Apart fp Z' → Q v H') :
    ∀ x dx, H1 x = none → H1 dx = none → dx ≠ x → spIni (cl c) ns (.ref x :: tl) (upd (upd H1 dx (.own x)) x (.ins (cl c) dx [])) (fun v H3 => v = .non ∧ Q (.ref x) H3) E0 := by
  intro x dx hx hdx ne
  refine ⟨x, dx, tl, rfl, hl, upd_same, rfl, ?_⟩
  rw [upd_upd]
  have kp : ∀ (B0 : Hp) o a u, B0 x = none → B0 dx = none → B0 a = some u → upd (upd B0 dx (.own x)) x o a = some u := fun B0 o a u q1 q2 h => by
    rw [upd_ne (ne_of_none h q1), upd_ne (ne_of_none h q2)]
    exact h
  have bx := fresh_back E1.sub hx
  have bdx := fresh_back E1.sub hdx
  have nw : New B1 H1 (upd (upd B1 dx (.own x)) x (.ins (cl c) dx (ns.zip tl))) (upd (upd H1 dx (.own x)) x (.ins (cl c) dx (ns.zip tl))) (fun _ => False) := by
    refine ⟨fun a o h => kp B1 _ a o bx bdx h, fun a o h => ?_, fun a o h => kp H1 _ a o hx hdx h, fun a o h => ?_, fun _ z => z.elim⟩
    · by_cases q : a = x
      · subst q
        rw [upd_same] at h ⊢
        exact h
      · rw [upd_ne q] at h ⊢
        by_cases q2 : a = dx
        · subst q2
          rw [upd_same] at h ⊢
          exact h
        · rw [upd_ne q2] at h ⊢
          exact E1.sub a o h
    · rw [upd_ne (ne_of_none h hx), upd_ne (ne_of_none h hdx)]
  refine k _ _ _ Z1 (fun _ => False) ?_ (E1.new nw) ⟨⟨x, dx, tl, rfl, upd_same, hl.symm, hd.mono nw.ex⟩, fun _ z => z⟩ fun _ z => z.elim
  exact n1.trans ⟨nw.ex, fun a o h _ => ⟨nw.kp a o h, nw.bs a o h⟩, fun a z => z.elim False.elim .inl⟩ hth

/-- how class c is made: n values and the keywords ks, the fields' values arranged by gD -/
def MkOk (P : Program) (w : World) (K : PySem.W.Frag) (mg : Str → Option Value) (base : Heap) (cl : Str → Addr) (c : Str) (k n : Nat) (ks ns : List Str) (gD : List D → List D → List D) : Prop :=
  ∃ f fd ps g gV, Mk K (cl c) f ∧ FnOk P w K mg base (L2.CX P w) k f fd ps (spIni (cl c) ns) ∧ mg c = some (.ref (cl c)) ∧ KBn K fd ps (n + 1) ks g gV ∧
    ∀ x vs zs, vs.length = n → zs.length = ks.length → ∃ tl, gV (x :: vs) zs = x :: tl ∧ tl.length = ns.length ∧ ∀ (B : Hp) ds es, DVs ⟨K, cl⟩ B vs ds → DVs ⟨K, cl⟩ B zs es → DVs ⟨K, cl⟩ B tl (gD ds es)
def xMake0 (c : Str) (ns : List Str) (gD : List D → List D → List D) (fk : M (List R)) : M R := fk.bind fun ks ρ => match trees ks with
  | some ts => some (.ok (.t (.im (.ins c ns (gD [] (fzs ts))))), ρ)
  | none => none
theorem passes0 : Passes (L2.CX X.prog X.w) X (fun _ _ _ => False) := fun pins σ H s e s' _ z => by
  obtain ⟨_, _, _, _, _, _, _, _, _, _, _, _, z⟩ := z
  exact z.elim
/-- C(k = v, ..) -/
theorem ge_make0 {c : Str} {k : Nat} {ks ns : List Str} {gD : List D → List D → List D} (mk : MkOk X.prog X.w X.K X.mg X.base cl c k 0 ks ns gD) (hr : Room (k + 1) X.A) (h : GK X cl W kws fk) (hlen : ∀ ρ rs ρ', fk ρ = some (.ok rs, ρ') → rs.length = ks.length) (hg : Gl X c := by rfl)
    (hall : (backToKw pos (keywordEach kws X.env)).all (·.1.isSome) = true := by rfl) (hks : (backToKw pos (keywordEach kws X.env)).filterMap (·.1) = ks := by rfl) (hdb : (c == ("__debug__" : Str)) = false := by decide)
    (hpl : ((backTo pos (starEach [] X.env)).any (·.1) || (backToKw pos (keywordEach kws X.env)).any (·.1.isNone)) = false := by rfl) : GE X cl W (.Call (.Name c p) [] kws pos) (xMake0 c ns gD fk) := ⟨fun σ B H ρ Z res ρ' E e1 Q k0 ke => by
  obtain ⟨f, fd, ps, g, gV, M, F, hm, hb, ha⟩ := mk
  refine ⟨_, pe_makeK0 M F hr hg hm hb passes0 pk_U hall hks hdb hpl, ?_⟩
  show tUK X kws σ H fun zs H2 => _
  rcases bind_ok e1 with ⟨rs, ρ1, e2, e3⟩ | ⟨c', ns', xs, e2, e3⟩
  · cases q : trees rs with
    | none => rw [q] at e3; cases e3
    | some ts =>
      rw [q] at e3
      cases e3
      refine h.run σ B H ρ Z _ _ E e2 _ (fun rs' er zs B1 H1 Z1 fp n1 E1 rvs ap => ?_) (fun _ _ _ q => by cases q)
      cases er
      have hz : zs.length = ks.length := rvs.len.trans (hlen _ _ _ e2)
      obtain ⟨B2, x1, x2, hd, x4⟩ := (rvs.trees q).freeze E1.sub
      obtain ⟨tl, ht, tll, hD⟩ := ha (.int 0) [] zs rfl hz
      refine ⟨rfl, hz, ?_⟩
      intro x dx hx hdx ne
      obtain ⟨tl, ht, tll, hD⟩ := ha (.ref x) [] zs rfl hz
      rw [ht]
      exact make_core E.there (n1.froze x1 x4) (E1.froze ap x1 x2 x4) (hD B2 [] _ rfl hd) tll (k0 _ rfl) x dx hx hdx ne
  · subst e3
    exact h.run σ B H ρ Z _ _ E e2 _ (fun _ q => by cases q) fun _ _ _ q => by cases q; exact ke _ _ _ rfl⟩
@[simp] theorem wp_make0 {c ns gD} {ρ : Env} {Q : Res R → Env → Prop} : Wp (xMake0 c ns gD fk ρ) Q ↔ Wp (fk ρ) fun x ρ1 => onOk x ρ1 Q fun rs => treesP rs fun ts => Q (.ok (.t (.im (.ins c ns (gD [] (fzs ts)))))) ρ1 := by
  unfold xMake0 treesP
  rw [wp_bind]
  refine Wp.iff fun rs ρ1 => ?_
  cases e : trees rs <;> simp
end
end Av
end
set_option Elab.async false
set_option linter.all false
set_option maxRecDepth 100000
set_option maxHeartbeats 2000000
/-! == by an own __eq__, the left one an instance of the class. -/
noncomputable section
namespace Av
open PySem L2 PySem.Spec PyProof.Rows
section
variable {X : Cx} {C f : Addr} {fd : FuncData} {ps : List Str} {sp : Sp} {E : XK} {n : Nat} {CX : CXT}
def rOwn (X : Cx) (C : Addr) (sp : Sp) (E : XK) : R2 := fun x y H Q => ∃ a dx fs tb, x = .ref a ∧ H a = some (.ins C dx fs) ∧ TyX X.K H y tb ∧ PySem.W.notFirst X.K C tb = true ∧ sp [x, y] H (fun v H' => (∃ b, v = .bl b) ∧ Q v H') E
theorem op_own (F : FnOk X.prog X.w X.K X.mg X.base CX n f fd ps sp) (hs : PySem.W.findIn X.K (.ref C) "__eq__" = some (some (.ref f))) (hf : PySem.W.isFn X.K (.ref f) = true) (hb : Binds X.K fd ps []) (hx : Passes CX X E) (hr : Room n X.A) :
    OpR X (compareOp .Eq) (rOwn X C sp E) := by
  intro pins s σ H x y v u Q I rx ry h
  obtain ⟨a, dx, fs, tb, rfl, ha, ty, nf, hsp⟩ := h
  cases rx
  show wpAny (model X.prog X.w) X.A (richCompare .Eq (.ref a) u) (EP X pins σ Q) X.xe s
  obtain ⟨mA, J, _⟩ := ins_get I.hok ha
  obtain ⟨od, J, _⟩ := J.look
  obtain ⟨m, hF⟩ := I.fr
  obtain ⟨Pk, kx, hk, _⟩ := kit_of I ry ty
  have lk : PySem.W.Looks (model X.prog X.w) s.heap (typeOf u) tb := kx.ty _ _ I.kIn hk
  refine PySem.W.cmp_K (op := .Eq) (tb := tb) hr.units0 hF I.ok.mod.kin J lk nf hs hf ?_
  have hl := F.len _ _ _ _ hsp
  have r2 : Vals [V.ref a, y] [Value.ref a, u] := .cons rfl (.cons ry .nil)
  refine wpAny_call (codeAny_mono (F.run X.A X.stack s H ⟨[.ref a, u], []⟩ [.ref a, u] [.ref a, y] _ E hr I.env0 (by
    have := hb s [.ref a, u] I.kIn (by simpa using hl)
    simpa using this) r2 hsp) fun r s' hq => ?_)
  cases r with
  | error e => exact hx pins σ H s e s' I hq
  | ok fl =>
    cases fl with
    | ret w =>
      obtain ⟨z, H', I', rz, ⟨b, ez⟩, q⟩ := I.after hq
      subst ez
      cases rz
      exact ⟨.bl b, H', I', rfl, q⟩
    | next => exact False.elim hq
    | brk => exact False.elim hq
    | cont => exact False.elim hq
end
end Av
end
set_option Elab.async false
set_option linter.all false
set_option maxRecDepth 100000
set_option maxHeartbeats 2000000
/-! in, count, index of lists whose items are compared by an own __eq__ (each comparison may make objects). -/
namespace Av
open PySem PySem.SeqAt
open AutoSeq1 (wpAny_loadPart')
open MeetsSeq MeetsSeq2 MeetsSeq3 SeqRoads2
section
variable {prog : Program} {w : World} {A : Around} {R : Result → Shared → Prop}
/-- the list at l has N items at each turn; the i-th item's comparison with x gives e i -/
def Turns (prog : Program) (w : World) (A : Around) (E : Value → Shared → Prop) (l : Addr) (x : Value) (N : Nat) (e : Nat → Bool) (I : Nat → Shared → Prop) : Prop :=
  ∀ i s, I i s → ∃ (items : Array Value) (n : Nat), s.heap.get? l = some { cls := .type "list", data := .seq items n } ∧ items.size = N ∧
    ∀ (h1 : i < items.size), wpAny (model prog w) A.in1 (eqBool items[i] x) (fun r s' => r = e i ∧ I (i + 1) s') E s
def anyTo (e : Nat → Bool) : Nat → Nat → Bool
  | _, 0 => false
  | i, k + 1 => e i || anyTo e (i + 1) k
def countTo (e : Nat → Bool) : Nat → Nat → Nat
  | _, 0 => 0
  | i, k + 1 => (if e i then 1 else 0) + countTo e (i + 1) k
theorem seek_in (l : Addr) (x : Value) (N : Nat) (e : Nat → Bool) (I : Nat → Shared → Prop) (hl : Turns prog w A (fun e s' => R (.error e) s') l x N e I) (b : Bool)
    (fin : ∀ i s, i ≤ N → I i s → R (.ok (.ret (.bool b))) s) (k : Nat) :
    ∀ i : Nat, N - i = k → i ≤ N → anyTo e i k = b → ∀ s, I i s → wpAny (model prog w) A.in1 (Builtin.«list.__contains__.loop» ⟨[.ref l, x, rawInt i], []⟩) (GQ.FinOf prog w A R) (fun e s' => R (.error e) s') s := by
  induction k with
  | zero =>
    intro i hk hi hb s h
    obtain ⟨items, n, hl1, hs1, _⟩ := hl _ _ h
    have hq := fin i s hi h
    have hb' : b = false := hb.symm
    obtain ⟨hp, g, d, tk, os⟩ := s
    have hi2 : items[((i : Nat) : Int).toNat]? = none := by simp; omega
    subst hb'
    wp_walk using wpAny_loadPart' hl1
    rw [hi2]
    wp_walk
    exact hq
  | succ k ih =>
    intro i hk hi hb s h
    obtain ⟨items, n, hl1, hs1, ht⟩ := hl _ _ h
    have hlt : i < items.size := by omega
    have ht := ht hlt
    obtain ⟨hp, g, d, tk, os⟩ := s
    have hi2 : items[((i : Nat) : Int).toNat]? = some items[i] := by simp [hlt]
    wp_walk using wpAny_loadPart' hl1
    rw [hi2]
    refine wpAny_bind (wpAny_mono ht (fun r s2 h2 => ?_) fun _ _ x => x)
    obtain ⟨hr, h2⟩ := h2
    subst hr
    have hb2 : (e i || anyTo e (i + 1) k) = b := hb
    cases he : e i with
    | true =>
      rw [he] at hb2
      have hq := fin (i + 1) s2 (by omega) h2
      rw [← hb2] at hq
      obtain ⟨hp2, g2, d2, tk2, os2⟩ := s2
      wp_walk
      exact hq
    | false =>
      rw [he] at hb2
      have hrec := ih (i + 1) (by omega) (by omega) (by simpa using hb2) s2 h2
      have hc : ((i : Int) + 1) = ((i + 1 : Nat) : Int) := by omega
      obtain ⟨hp2, g2, d2, tk2, os2⟩ := s2
      wp_walk
      rw [hc]
      exact ⟨plainId_quiet plain_contains_loop _, codeAny_builtin entry_contains_loop (by
        rw [Around.under_plainId plain_contains_loop _]
        exact hrec)⟩
theorem list_in (l : Addr) (x : Value) (N : Nat) (e : Nat → Bool) (I : Nat → Shared → Prop) (hl : Turns prog w A (fun e s' => R (.error e) s') l x N e I)
    (fin : ∀ i s, i ≤ N → I i s → R (.ok (.ret (.bool (anyTo e 0 N)))) s) {s : Shared} (h : I 0 s) :
    wpAny (model prog w) A.in1 (Builtin.«list.__contains__» ⟨[.ref l, x], []⟩) (GQ.FinOf prog w A R) (fun e s' => R (.error e) s') s := by
  obtain ⟨items, n, hl1, hs1, _⟩ := hl _ _ h
  have hrec := seek_in (A := A) (R := R) l x N e I hl _ fin _ 0 rfl (Nat.zero_le _) rfl s h
  obtain ⟨hp, g, d, tk, os⟩ := s
  wp_walk using wpAny_loadPart' hl1
  exact ⟨plainId_quiet plain_contains_loop _, codeAny_builtin entry_contains_loop (by
    rw [Around.under_plainId plain_contains_loop _]
    exact hrec)⟩
end
section
variable {prog : Program} {w : World} {A : Around} {E : Value → Shared → Prop} {s : Shared}
theorem in_own {l : Addr} {x : Value} {N : Nat} {e : Nat → Bool} {Q : Value → Shared → Prop} (I : Nat → Shared → Prop) (hl : Turns prog w A E l x N e I) (fin : ∀ i s, i ≤ N → I i s → Q (.bool (anyTo e 0 N)) s) (h : I 0 s) : wpAny (model prog w) A (compareOp .In x (.ref l)) Q E s := by
  obtain ⟨items, n, hl1, _, _⟩ := hl _ _ h
  have hT : s.TypeIs (.ref l) "list" := ⟨_, hl1, rfl⟩
  show wpAny _ A (do return .bool (← contains (.ref l) x)) Q E s
  refine wpAny_bind (wpAny_contains_slot hT F.slot_list_contains (wpAny_mono (GQ.call_here (Q := fun v s' => ∃ b, v = .bool b ∧ Q (.bool b) s') F.slot_list_contains hT F.entry_list_contains (F.args_list_contains_2 _ _)
    (list_in (R := wants (fun v s' => ∃ b, v = .bool b ∧ Q (.bool b) s') E) l x N e I hl (fun i s' hi q => ⟨_, rfl, fin i s' hi q⟩) h)) (fun v s' hv => ?_) fun _ _ e => e))
  obtain ⟨b, rfl, hq⟩ := hv
  exact wpAny_truthy_bool (wpAny_pure hq)
theorem notIn_own {l : Addr} {x : Value} {N : Nat} {e : Nat → Bool} {Q : Value → Shared → Prop} (I : Nat → Shared → Prop) (hl : Turns prog w A E l x N e I) (fin : ∀ i s, i ≤ N → I i s → Q (.bool (!anyTo e 0 N)) s) (h : I 0 s) : wpAny (model prog w) A (compareOp .NotIn x (.ref l)) Q E s := by
  obtain ⟨items, n, hl1, _, _⟩ := hl _ _ h
  have hT : s.TypeIs (.ref l) "list" := ⟨_, hl1, rfl⟩
  show wpAny _ A (do return .bool (!(← contains (.ref l) x))) Q E s
  refine wpAny_bind (wpAny_contains_slot hT F.slot_list_contains (wpAny_mono (GQ.call_here (Q := fun v s' => ∃ b, v = .bool b ∧ Q (.bool (!b)) s') F.slot_list_contains hT F.entry_list_contains (F.args_list_contains_2 _ _)
    (list_in (R := wants (fun v s' => ∃ b, v = .bool b ∧ Q (.bool (!b)) s') E) l x N e I hl (fun i s' hi q => ⟨_, rfl, fin i s' hi q⟩) h)) (fun v s' hv => ?_) fun _ _ e => e))
  obtain ⟨b, rfl, hq⟩ := hv
  exact wpAny_truthy_bool (wpAny_pure hq)
end
section
variable {prog : Program} {w : World} {A : Around} {R : Result → Shared → Prop}
theorem seek_count (l : Addr) (x : Value) (N : Nat) (e : Nat → Bool) (I : Nat → Shared → Prop) (hl : Turns prog w A (fun e s' => R (.error e) s') l x N e I) (c : Int)
    (fin : ∀ s tk, I N s → R (.ok (.ret (.int c tk))) { s with toks := s.toks + 1 }) (k : Nat) :
    ∀ (i : Nat) (found : Int), N - i = k → i ≤ N → found + (countTo e i k : Nat) = c → ∀ s, I i s → wpAny (model prog w) A.in1 (Builtin.«list.count.loop» ⟨[.ref l, x, rawInt i, rawInt found], []⟩) (GQ.FinOf prog w A R) (fun e s' => R (.error e) s') s := by
  induction k with
  | zero =>
    intro i found hk hi hb s h
    obtain ⟨items, n, hl1, hs1, _⟩ := hl _ _ h
    have hi' : i = N := by omega
    subst hi'
    have hq := fin s s.toks h
    have hb' : c = found := by
      rw [← hb]
      show found + ((0 : Nat) : Int) = found
      omega
    obtain ⟨hp, g, d, tk, os⟩ := s
    have hi2 : items[((i : Nat) : Int).toNat]? = none := by simp; omega
    subst hb'
    wp_walk using wpAny_loadPart' hl1
    rw [hi2]
    wp_walk
    simpa using hq
  | succ k ih =>
    intro i found hk hi hb s h
    obtain ⟨items, n, hl1, hs1, ht⟩ := hl _ _ h
    have hlt : i < items.size := by omega
    have ht := ht hlt
    obtain ⟨hp, g, d, tk, os⟩ := s
    have hi2 : items[((i : Nat) : Int).toNat]? = some items[i] := by simp [hlt]
    wp_walk using wpAny_loadPart' hl1
    rw [hi2]
    refine wpAny_bind (wpAny_mono ht (fun r s2 h2 => ?_) fun _ _ x => x)
    obtain ⟨hr, h2⟩ := h2
    have hb2 : found + (((if e i then 1 else 0) + countTo e (i + 1) k : Nat) : Int) = c := hb
    have hc : ((i : Int) + 1) = ((i + 1 : Nat) : Int) := by omega
    subst hr
    have hrec := ih (i + 1) (found + if e i then 1 else 0) (by omega) (by omega) (by
      cases he : e i <;> rw [he] at hb2 <;> simp only [if_true, Bool.false_eq_true, if_false] at hb2 ⊢ <;> omega) s2 h2
    obtain ⟨hp2, g2, d2, tk2, os2⟩ := s2
    wp_walk
    rw [hc]
    refine ⟨plainId_quiet plain_count_loop _, codeAny_builtin entry_count_loop (by
      rw [Around.under_plainId plain_count_loop _]
      cases he : e i with
      | false =>
        simp only [he, Bool.false_eq_true, if_false, Int.add_zero] at hrec ⊢
        exact hrec
      | true =>
        simp only [he, if_true] at hrec ⊢
        exact hrec)⟩
theorem list_count (l : Addr) (x : Value) (N : Nat) (e : Nat → Bool) (I : Nat → Shared → Prop) (hl : Turns prog w A (fun e s' => R (.error e) s') l x N e I)
    (fin : ∀ s tk, I N s → R (.ok (.ret (.int (countTo e 0 N : Nat) tk))) { s with toks := s.toks + 1 }) {s : Shared} (h : I 0 s) :
    wpAny (model prog w) A.in1 (Builtin.«list.count» ⟨[.ref l, x], []⟩) (GQ.FinOf prog w A R) (fun e s' => R (.error e) s') s := by
  obtain ⟨items, n, hl1, hs1, _⟩ := hl _ _ h
  have hrec := seek_count (A := A) (R := R) l x N e I hl _ fin _ 0 0 rfl (Nat.zero_le _) (by rw [Nat.sub_zero]; omega) s h
  obtain ⟨hp, g, d, tk, os⟩ := s
  wp_walk using wpAny_loadPart' hl1
  exact ⟨plainId_quiet plain_count_loop _, codeAny_builtin entry_count_loop (by
    rw [Around.under_plainId plain_count_loop _]
    exact hrec)⟩
theorem seek_index (l : Addr) (x : Value) (N : Nat) (e : Nat → Bool) (I : Nat → Shared → Prop) (hl : Turns prog w A (fun e s' => R (.error e) s') l x N e I) (upto : Int) (j : Nat) (hj : j < N) (hup : (N : Int) ≤ upto) (hit : e j = true)
    (fin : ∀ s tk, I (j + 1) s → R (.ok (.ret (.int (j : Nat) tk))) { s with toks := s.toks + 1 }) (k : Nat) :
    ∀ i : Nat, j - i = k → i ≤ j → (∀ m, i ≤ m → m < j → e m = false) → ∀ s, I i s → wpAny (model prog w) A.in1 (Builtin.«list.index.loop» ⟨[.ref l, x, rawInt i, rawInt upto], []⟩) (GQ.FinOf prog w A R) (fun e s' => R (.error e) s') s := by
  induction k with
  | zero =>
    intro i hk hi hno s h
    obtain ⟨items, n, hl1, hs1, ht⟩ := hl _ _ h
    have hi' : i = j := by omega
    subst hi'
    have hlt : i < items.size := by omega
    have ht := ht hlt
    obtain ⟨hp, g, d, tk, os⟩ := s
    have hi2 : (if (i : Int) < upto then items[((i : Nat) : Int).toNat]? else none) = some items[i] := by
      rw [if_pos (by omega)]
      simp [hlt]
    wp_walk using wpAny_loadPart' hl1
    rw [hi2]
    refine wpAny_bind (wpAny_mono ht (fun r s2 h2 => ?_) fun _ _ x => x)
    obtain ⟨hr, h2⟩ := h2
    rw [hit] at hr
    subst hr
    have hq := fin s2 s2.toks h2
    obtain ⟨hp2, g2, d2, tk2, os2⟩ := s2
    wp_walk
    exact hq
  | succ k ih =>
    intro i hk hi hno s h
    obtain ⟨items, n, hl1, hs1, ht⟩ := hl _ _ h
    have hlt : i < items.size := by omega
    have ht := ht hlt
    obtain ⟨hp, g, d, tk, os⟩ := s
    have hi2 : (if (i : Int) < upto then items[((i : Nat) : Int).toNat]? else none) = some items[i] := by
      rw [if_pos (by omega)]
      simp [hlt]
    wp_walk using wpAny_loadPart' hl1
    rw [hi2]
    refine wpAny_bind (wpAny_mono ht (fun r s2 h2 => ?_) fun _ _ x => x)
    obtain ⟨hr, h2⟩ := h2
    rw [hno i (Nat.le_refl _) (by omega)] at hr
    subst hr
    have hrec := ih (i + 1) (by omega) (by omega) (fun m h1 h2 => hno m (by omega) h2) s2 h2
    have hc : ((i : Int) + 1) = ((i + 1 : Nat) : Int) := by omega
    obtain ⟨hp2, g2, d2, tk2, os2⟩ := s2
    wp_walk
    rw [hc]
    exact ⟨plainId_quiet plain_index_loop _, codeAny_builtin entry_index_loop (by
      rw [Around.under_plainId plain_index_loop _]
      exact hrec)⟩
theorem list_index (l : Addr) (x : Value) (N : Nat) (e : Nat → Bool) (I : Nat → Shared → Prop) (hl : Turns prog w A (fun e s' => R (.error e) s') l x N e I) (j : Nat) (hj : j < N) (hN : N < 1000000) (hit : e j = true) (hno : ∀ m, m < j → e m = false)
    (fin : ∀ s tk, I (j + 1) s → R (.ok (.ret (.int (j : Nat) tk))) { s with toks := s.toks + 1 }) {s : Shared} (h : I 0 s) :
    wpAny (model prog w) A.in1 (Builtin.«list.index» ⟨[.ref l, x], []⟩) (GQ.FinOf prog w A R) (fun e s' => R (.error e) s') s := by
  obtain ⟨items, n, hl1, hs1, _⟩ := hl _ _ h
  have hrec := seek_index (A := A) (R := R) l x N e I hl (2 ^ 63 - 1) j hj (by omega) hit fin _ 0 rfl (Nat.zero_le _) (fun m _ h => hno m h) s h
  obtain ⟨hp, g, d, tk, os⟩ := s
  wp_walk using wpAny_loadPart' hl1
  exact ⟨plainId_quiet plain_index_loop _, codeAny_builtin entry_index_loop (by
    rw [Around.under_plainId plain_index_loop _]
    exact hrec)⟩
end
end Av
set_option Elab.async false
set_option linter.all false
set_option maxRecDepth 100000
set_option maxHeartbeats 2000000
/-! == of own instances by values. -/
noncomputable section
namespace Av
open PySem L2
/-- an own class whose __eq__ is the def of function F -/
structure EqK (X : Cx) (cl : Str → Addr) (c : Str) (ns : List Str) (F : Fn) (n : Nat) : Prop where
  cls : Cls X.K (cl c)
  ha : PySem.W.findIn X.K (.ref (cl c)) "__class__" = some (some (.builtin "object.__class__"))
  hn : PySem.W.specialIn X.K (.builtin "object.__class__") "__get__" = some (some (.builtin "getset_descriptor.__get__"))
  ht : PySem.W.takesIn X.K (.builtin "object.__class__") = some true
  hm : PySem.W.mroIn X.K (cl c) (.type "object") = some true
  nf : ∀ T ∈ ["NoneType", "bool", "int", "str", "tuple", "list", "dict"], PySem.W.notFirst X.K (cl c) (.type T) = true
  eq : ∃ f fd ps, FnOk X.prog X.w X.K X.mg X.base (L2.CX X.prog X.w) n f fd ps (spF (gx X cl) 2 F) ∧ PySem.W.findIn X.K (.ref (cl c)) "__eq__" = some (some (.ref f)) ∧ PySem.W.isFn X.K (.ref f) = true ∧ Binds X.K fd ps []
/-- the type of what stands right -/
def rightOk (c : Str) : D → Bool
  | .ins c' _ _ => c' == c
  | d => (tyName (.im d)).isSome
def ownEq (c : Str) (ns : List Str) (F : Fn) (a b : D) : Option Bool := match a with
  | .ins c' ns' _ => if c' = c ∧ ns' = ns ∧ rightOk c b = true then (match F [.im a, .im b] with
    | some (.ret (.im (.bl r)), _) => some r
    | _ => none) else none
  | _ => none
section
variable {X : Cx} {cl : Str → Addr} {c : Str} {ns : List Str} {F : Fn} {n : Nat}
theorem right_ty (k : EqK X cl c ns F n) {B H : Hp} {v : V} {d : D} (h : DV (gx X cl) B v d) (e : Ex B H) (q : rightOk c d = true) : ∃ tb, TyX X.K H v tb ∧ PySem.W.notFirst X.K (cl c) tb = true := by
  have base : ∀ d, DV (gx X cl) B v d → (tyName (.im d)).isSome = true → ∃ tb, TyX X.K H v tb ∧ PySem.W.notFirst X.K (cl c) tb = true := fun d h q => by
    obtain ⟨t, ht⟩ := Option.isSome_iff_exists.mp q
    exact ⟨.type t, tyName_ok (cl := cl) (s := .im d) (f := fun _ => False) ⟨h, fun _ z => z⟩ e ht, k.nf t (tyName_in ht)⟩
  cases d with
  | ins c' ns' ds =>
    have hc : c' = c := by simpa [rightOk] using q
    subst hc
    obtain ⟨a, dx, vs, rfl, h1, _, _⟩ := h
    exact ⟨.ref (cl c'), .base (.ins (e _ _ h1) k.cls k.ha k.hn k.ht k.hm), by unfold PySem.W.notFirst; simp⟩
  | _ => exact base _ h q
/-- the own == of two data, run in place -/
theorem own_run (k : EqK X cl c ns F n) (hr : Room n X.A) {B H : Hp} {v u : V} {a b : D} {r : Bool} (hv : DV (gx X cl) B v a) (hu : DV (gx X cl) B u b) (e : Ex B H) (q : ownEq c ns F a b = some r) (Q : VK)
    (kq : ∀ B' H', New B H B' H' (fun _ => False) → Q (.bl r) H') : ∃ t : R2, OpR X (compareOp .Eq) t ∧ t v u H Q := by
  unfold ownEq at q
  split at q
  · rename_i c' ns' ds
    split at q
    · rename_i hc
      obtain ⟨rfl, rfl, hr2⟩ := hc
      split at q
      · rename_i r' fin hF
        cases q
        obtain ⟨f, fd, ps, F0, h1, h2, h3⟩ := k.eq
        obtain ⟨tb, ty, nf⟩ := right_ty k hu e hr2
        refine ⟨_, op_own F0 h1 h2 h3 passes0 hr, ?_⟩
        have hv0 := hv
        obtain ⟨p, dx, vs, rfl, hp, _, _⟩ := hv
        refine ⟨p, dx, _, tb, rfl, e _ _ hp, ty, nf, rfl, B, [.im (.ins c' ns' ds), .im b], fun _ => False, _, fin, e, ?_, hF, fun B' H' fa hs so => ⟨fun s es w g nx sv ap => ?_, fun _ _ _ er => nomatch er⟩⟩
        · exact ⟨_, _, fun _ => False, fun _ => False, rfl, ⟨hv0, fun _ z => z⟩, ⟨_, _, fun _ => False, fun _ => False, rfl, ⟨hu, fun _ z => z⟩, ⟨rfl, fun _ z => z⟩, fun _ z => z.elim, fun _ => ⟨False.elim, fun z => z.elim id id⟩⟩, fun _ z => z.elim, fun _ => ⟨False.elim, fun z => z.elim id id⟩⟩
        · cases es
          obtain ⟨rfl, _⟩ := (show w = .bl r ∧ _ from ⟨sv.1, trivial⟩)
          exact ⟨⟨r, rfl⟩, kq B' H' ⟨nx.ex, hs, fun a o h => (nx.fr a o h id).1, fun a o h => (nx.fr a o h id).2, fun _ z => z.elim⟩⟩
      · cases q
    · cases q
  · cases q
def bEqOwn (c : Str) (ns : List Str) (F : Fn) : List S → Option S
  | [.im a, .im b] => (ownEq c ns F a b).map fun r => .im (.bl r)
  | _ => none
theorem opn_eqOwn (k : EqK X cl c ns F n) (hr : Room n X.A) : OpN X cl (relCmp X .Eq) (bEqOwn c ns F) := fun B H vs ss z e hl hs hg Q kq => by
  unfold bEqOwn at hg
  split at hg
  · rename_i a b
    cases q : ownEq c ns F a b with
    | none => rw [q] at hg; cases hg
    | some r =>
      rw [q] at hg
      cases hg
      obtain ⟨v, u, rfl, ⟨_, h1, _⟩, ⟨_, h2, _⟩⟩ := hs2 hl hs
      obtain ⟨t, ht, hq⟩ := own_run k hr h1 h2 e q Q fun B' H' nw => kq _ B' H' _ nw ⟨rfl, fun _ z => z⟩
      exact ⟨_, l2_cmp ht, _, _, rfl, hq⟩
  · cases hg
end
end Av
end
set_option Elab.async false
set_option linter.all false
set_option maxRecDepth 100000
set_option maxHeartbeats 2000000
/-! != of two instances of a class that has an own __eq__ alone. -/
noncomputable section
namespace Av
open PySem L2 PySem.Spec PyProof.Rows
section
variable {prog : Program} {w : World} {A : Around} {E : Value → Shared → Prop} {s : Shared} {K : PySem.W.Frag} {x C f : Addr} {ox : Obj} {od : Option Obj} {b : Value}
/-- a special that the class takes from object -/
theorem ifBound_obj {M : Model} {name : Str} {id : String} {args : List Value} {Q : Option Value → Shared → Prop} (X : K.In s.heap) (I : PySem.W.InstAt s.heap x ox C od) (hs : PySem.W.findIn K (.ref C) name = some (some (.builtin id))) (S : Slot "object" name id)
    (h : wpAny M A (call (.builtin id) (.ref x :: args)) (fun v => Q (some v)) E s) : wpAny M A (callSpecialIfBound? (.ref x) name args) Q E s := by
  simp only [callSpecialIfBound?, bindSpecialIfBound?]
  refine wpAny_holding (wpAny_bind (wpAny_bind (wpAny_bind (I.type.here ((PySem.W.looks_findIn X hs).here ?_)))))
  simp only [S.bind]
  refine wpAny_bind (wpAny_askSetting (wpAny_ite ?_))
  have fin : wpAny M A (call (.builtin id) ([.ref x] ++ args) >>= fun v => pure (some v)) Q E s := wpAny_bind (wpAny_mono h (fun v s' h' => wpAny_pure h') fun _ _ h' => h')
  split
  · exact wpAny_bind (wpAny_pure (wpAny_pure fin))
  · exact wpAny_tryCatch (wpAny_bind (wpAny_pure (wpAny_pure fin)))
/-- object.__ne__ by the own __eq__ -/
theorem objNe_own {y : Value} {Q : PySem.Fin → Shared → Prop} (X : K.In s.heap) (I : PySem.W.InstAt s.heap x ox C od) (hu : A.units < cLine) (hs : PySem.W.findIn K (.ref C) "__eq__" = some (some (.ref f))) (hf : PySem.W.isFn K (.ref f) = true)
    (hcall : wpAny (model prog w) A (call (.ref f) [.ref x, y]) (fun v s' => ∃ b, v = .bool b ∧ Q (.done (.ret (.bool (!b)))) s') E s) : wpAny (model prog w) A (Builtin.«object.__ne__» ⟨[.ref x, y], []⟩) Q E s := by
  unfold Builtin.«object.__ne__»
  repeat (first
    | with_reducible refine wpAny_cRoomFor hu ?_
    | (refine wpAny_bind (m := callSpecialIfBound? (.ref x) (Str.ofString "__eq__") [y])
        (PySem.W.ifBound_K X I hs hf (wpAny_mono hcall (fun r s' hr => by
          obtain ⟨b, rfl, hq⟩ := hr
          repeat (first | exact hq | exact wpAny_pure hq | exact wpAny_truthy_bool hq | (refine wpAny_bind (m := truthy (.bool _)) (wpAny_truthy_bool ?_)) | wp_step)) fun _ _ e => e)))
    | wp_step)
theorem cmp_neOwn {y : Value} {tb : Value} {h₀ : Heap} {L : Addr} {m : Str → Option Value} {Q : Value → Shared → Prop} (hu : A.units + 1 < cLine) (F : Fr h₀ L s.heap m) (X₀ : K.In h₀) (I : PySem.W.InstAt s.heap x ox C od) (hb : PySem.W.Looks (model prog w) s.heap (typeOf y) tb) (hn : PySem.W.notFirst K C tb = true)
    (hne : PySem.W.findIn K (.ref C) "__ne__" = some (some (.builtin "object.__ne__"))) (hm : PySem.W.mroIn K C (.type "object") = some true)
    (hs : PySem.W.findIn K (.ref C) "__eq__" = some (some (.ref f))) (hf : PySem.W.isFn K (.ref f) = true)
    (hcall : wpAny (model prog w) A.in1 (call (.ref f) [.ref x, y]) (fun v s' => ∃ b, v = .bool b ∧ Q (.bool (!b)) s') E s) : wpAny (model prog w) A (richCompare .NotEq (.ref x) y) Q E s := by
  have X := X₀.keeps F.keep
  have one : wpAny (model prog w) A (tryCompare (.ref x) (cmpInfo .NotEq).2.1 y) (fun r s' => ∃ v, r = some v ∧ Q v s') E s := by
    unfold tryCompare
    refine wpAny_bind (ifBound_obj X I hne PySem.F.cmp_object.ne (wpAny_call (codeAny_call_builtin PySem.F.cmp_object.ne.plain PySem.F.cmpEntry_ne
      (PySem.W.check_slot PySem.F.cmpKind_ne PySem.F.cmpSplit_ne ((I.type (M := model prog w)).andThen (PySem.W.looks_mroIn X hm)) (PySem.F.cmpArgs_ne _ _)
        (objNe_own (A := A.in1) X I hu hs hf (wpAny_mono hcall (fun v s' hv => ?_) fun _ _ e => e))))))
    obtain ⟨b, rfl, hq⟩ := hv
    first | exact ⟨b, rfl, wpAny_pure ⟨_, rfl, hq⟩⟩ | exact ⟨b, rfl, wpAny_pure (wpAny_pure ⟨_, rfl, hq⟩)⟩
  unfold richCompare
  simp only [oneThing_ref]
  refine wpAny_holding (wpAny_bind (wpAny_cRoomFor (Nat.lt_of_succ_lt hu) ?_))
  refine wpAny_bind (I.type.here (wpAny_bind (hb.here ?_)))
  split
  · rename_i q
    have e : PySem.W.subIn K tb (.ref C) = some false := by
      rcases Bool.or_eq_true_iff.mp hn with e | e
      · rw [beq_iff_eq.mp e] at q; simp at q
      · exact beq_iff_eq.mp e
    refine wpAny_bind ((PySem.W.looks_subIn X e).here ?_)
    simp only [Bool.false_eq_true, if_false]
    refine wpAny_bind (wpAny_mono one (fun r s' z => ?_) fun _ _ e => e)
    obtain ⟨v, rfl, hq⟩ := z
    exact wpAny_pure hq
  · refine wpAny_bind (wpAny_pure ?_)
    simp only [Bool.false_eq_true, if_false]
    refine wpAny_bind (wpAny_mono one (fun r s' z => ?_) fun _ _ e => e)
    obtain ⟨v, rfl, hq⟩ := z
    exact wpAny_pure hq
end
end Av
end
set_option Elab.async false
set_option linter.all false
set_option maxRecDepth 100000
set_option maxHeartbeats 2000000
/-! != of own instances by values; in, not in. -/
noncomputable section
namespace Av
open PySem L2 PySem.Spec PyProof.Rows
section
variable {X : Cx} {C f : Addr} {fd : FuncData} {ps : List Str} {sp : Sp} {E : XK} {n : Nat} {CX : CXT}
/-- the own __eq__ called somewhere below the running body -/
theorem call_own (F : FnOk X.prog X.w X.K X.mg X.base CX n f fd ps sp) (hb : Binds X.K fd ps []) (hx : Passes CX X E) {A : Around} (hr : Room n A) (hfr : A.frames = X.A.frames) {pins : List (Addr × Obj)} {σ : L2.St} {H : Hp} {s : Shared} (I : Inv X pins σ H s)
    {a : Addr} {y : V} {u : Value} (ry : RelV y u) {Q : VK} (hsp : sp [.ref a, y] H (fun v H' => (∃ b, v = .bl b) ∧ Q v H') E) :
    wpAny (model X.prog X.w) A (call (.ref f) [.ref a, u]) (fun v s' => ∃ b H', v = .bool b ∧ Inv X pins σ H' s' ∧ Q (.bl b) H') X.xe s := by
  have hl := F.len _ _ _ _ hsp
  have r2 : Vals [V.ref a, y] [Value.ref a, u] := .cons rfl (.cons ry .nil)
  have e0 : Env0 X.prog X.w X.K X.mg X.base A X.stack s H := by
    have e := I.env0
    exact ⟨by rw [hfr]; exact e.frames, e.mod, e.bs, e.bsz, e.funs, e.frf, e.hok, e.bare⟩
  refine wpAny_call (codeAny_mono (F.run A X.stack s H ⟨[.ref a, u], []⟩ [.ref a, u] [.ref a, y] _ E hr e0 (by
    have := hb s [.ref a, u] I.kIn (by simpa using hl)
    simpa using this) r2 hsp) fun r s' hq => ?_)
  cases r with
  | error e => exact hx pins σ H s e s' I hq
  | ok fl =>
    cases fl with
    | ret w =>
      obtain ⟨z, H', I', rz, ⟨b, ez⟩, q⟩ := I.after hq
      subst ez
      cases rz
      exact ⟨b, H', rfl, I', q⟩
    | next => exact False.elim hq
    | brk => exact False.elim hq
    | cont => exact False.elim hq
theorem op_ownNe (F : FnOk X.prog X.w X.K X.mg X.base CX n f fd ps sp) (hs : PySem.W.findIn X.K (.ref C) "__eq__" = some (some (.ref f))) (hf : PySem.W.isFn X.K (.ref f) = true) (hb : Binds X.K fd ps []) (hx : Passes CX X E) (hr : Room (n + 1) X.A)
    (hne : PySem.W.findIn X.K (.ref C) "__ne__" = some (some (.builtin "object.__ne__"))) (hm : PySem.W.mroIn X.K C (.type "object") = some true) :
    OpR X (compareOp .NotEq) (fun x y H Q => ∃ a dx fs tb, x = .ref a ∧ H a = some (.ins C dx fs) ∧ TyX X.K H y tb ∧ PySem.W.notFirst X.K C tb = true ∧ sp [x, y] H (fun v H' => (∃ b, v = .bl b) ∧ ∀ b, v = .bl b → Q (.bl (!b)) H') E) := by
  intro pins s σ H x y v u Q I rx ry h
  obtain ⟨a, dx, fs, tb, rfl, ha, ty, nf, hsp⟩ := h
  cases rx
  show wpAny (model X.prog X.w) X.A (richCompare .NotEq (.ref a) u) (EP X pins σ Q) X.xe s
  obtain ⟨mA, J, _⟩ := ins_get I.hok ha
  obtain ⟨od, J, _⟩ := J.look
  obtain ⟨m, hF⟩ := I.fr
  obtain ⟨Pk, kx, hk, _⟩ := kit_of I ry ty
  have hu : X.A.units + 1 < cLine := by have := hr.un; omega
  refine cmp_neOwn hu hF I.ok.mod.kin J (kx.ty _ _ I.kIn hk) nf hne hm hs hf (wpAny_mono (call_own F hb hx hr.in1 rfl I ry hsp) (fun w s' z => ?_) fun _ _ e => e)
  obtain ⟨b, H', rfl, I', q⟩ := z
  exact ⟨b, rfl, .bl (!b), H', I', rfl, q b rfl⟩
end
section
variable {X : Cx} {cl : Str → Addr} {c : Str} {ns : List Str} {F : Fn} {n : Nat}
/-- the call of the own __eq__ on data -/
theorem own_sp {B H : Hp} {v u : V} {a b : D} {r : Bool} {E0 : XK} (hv : DV (gx X cl) B v a) (hu : DV (gx X cl) B u b) (e : Ex B H) {fin} (hF : F [.im a, .im b] = some (.ret (.im (.bl r)), fin)) {Q : VK}
    (kq : ∀ B' H', New B H B' H' (fun _ => False) → Q (.bl r) H') : spF (gx X cl) 2 F [v, u] H Q E0 := by
  refine ⟨rfl, B, [.im a, .im b], fun _ => False, _, fin, e, ?_, hF, fun B' H' fa hs so => ⟨fun s es w g nx sv ap => ?_, fun _ _ _ er => nomatch er⟩⟩
  · exact ⟨_, _, fun _ => False, fun _ => False, rfl, ⟨hv, fun _ z => z⟩, ⟨_, _, fun _ => False, fun _ => False, rfl, ⟨hu, fun _ z => z⟩, ⟨rfl, fun _ z => z⟩, fun _ z => z.elim, fun _ => ⟨False.elim, fun z => z.elim id id⟩⟩, fun _ z => z.elim, fun _ => ⟨False.elim, fun z => z.elim id id⟩⟩
  · cases es
    rw [show w = .bl r from sv.1]
    exact kq B' H' ⟨nx.ex, hs, fun a o h => (nx.fr a o h id).1, fun a o h => (nx.fr a o h id).2, fun _ z => z.elim⟩
theorem ownEq_inv {a b : D} {r : Bool} (q : ownEq c ns F a b = some r) : ∃ ds fin, a = .ins c ns ds ∧ rightOk c b = true ∧ F [.im a, .im b] = some (.ret (.im (.bl r)), fin) := by
  unfold ownEq at q
  split at q
  · rename_i c' ns' ds
    split at q
    · rename_i hc
      obtain ⟨rfl, rfl, hr2⟩ := hc
      split at q
      · rename_i r' fin hF
        cases q
        exact ⟨ds, fin, rfl, hr2, hF⟩
      · cases q
    · cases q
  · cases q
def bNeOwn (c : Str) (ns : List Str) (F : Fn) : List S → Option S
  | [.im a, .im b] => (ownEq c ns F a b).map fun r => .im (.bl (!r))
  | _ => none
theorem opn_neOwn (k : EqK X cl c ns F n) (hne : PySem.W.findIn X.K (.ref (cl c)) "__ne__" = some (some (.builtin "object.__ne__"))) (hr : Room (n + 1) X.A) : OpN X cl (relCmp X .NotEq) (bNeOwn c ns F) := fun B H vs ss z e hl hs hg Q kq => by
  unfold bNeOwn at hg
  split at hg
  · rename_i a b
    cases q : ownEq c ns F a b with
    | none => rw [q] at hg; cases hg
    | some r =>
      rw [q] at hg
      cases hg
      obtain ⟨v, u, rfl, ⟨_, h1, _⟩, ⟨_, h2, _⟩⟩ := hs2 hl hs
      obtain ⟨ds, fin, rfl, r2, hF⟩ := ownEq_inv q
      obtain ⟨f, fd, ps, F0, g1, g2, g3⟩ := k.eq
      obtain ⟨tb, ty, nf⟩ := right_ty k h2 e r2
      refine ⟨_, l2_cmp (op_ownNe F0 g1 g2 g3 passes0 hr hne k.hm), _, _, rfl, ?_⟩
      have h0 := h1
      obtain ⟨p, dx, vs, rfl, hp, _, _⟩ := h1
      exact ⟨p, dx, _, tb, rfl, e _ _ hp, ty, nf, own_sp h0 h2 e hF fun B' H' nw => ⟨⟨r, rfl⟩, fun b hb => by
        cases hb
        exact kq _ B' H' _ nw ⟨rfl, fun _ z => z⟩⟩⟩
  · cases hg
end
end Av
end
set_option Elab.async false
set_option linter.all false
set_option maxRecDepth 100000
set_option maxHeartbeats 2000000
/-! in, not in of lists of own instances, by values. -/
noncomputable section
namespace Av
open PySem L2 PySem.Spec PyProof.Rows
mutual
/-- data without lists, dicts, instances -/
def clean : D → Bool
  | .non => true
  | .bl _ => true
  | .int _ => true
  | .str _ => true
  | .tup ds => cleans ds
  | _ => false
def cleans : List D → Bool
  | [] => true
  | d :: ds => clean d && cleans ds
end
section
variable {X : Cx} {pins : List (Addr × Obj)} {σ : L2.St} {cl : Str → Addr}
mutual
theorem DV.inj {B H : Hp} {s : Shared} (I : Inv X pins σ H s) (e : Ex B H) : ∀ {d b : D} {v : V}, DV (gx X cl) B v d → DV (gx X cl) B v b → clean d = true → clean b = true → d = b
  | .non, b, v, h, g, _, c => by
    rw [show v = .non from h] at g
    cases b <;> first | rfl | (cases c; done) | (cases (show V.non = _ from g); done) | (obtain ⟨_, _, q, _⟩ := g; cases q)
  | .bl x, b, v, h, g, _, c => by
    rw [show v = .bl x from h] at g
    cases b <;> first | (cases c; done) | (cases (show V.bl x = _ from g); first | rfl | done) | (obtain ⟨_, _, q, _⟩ := g; cases q)
  | .int x, b, v, h, g, _, c => by
    rw [show v = .int x from h] at g
    cases b <;> first | (cases c; done) | (cases (show V.int x = _ from g); first | rfl | done) | (obtain ⟨_, _, q, _⟩ := g; cases q)
  | .str x, b, v, h, g, _, c => by
    rw [show v = .str x from h] at g
    cases b <;> first | (cases c; done) | (cases (show V.str x = _ from g); first | rfl | done) | (obtain ⟨_, _, q, _⟩ := g; cases q)
  | .tup ds, b, v, h, g, cd, c => by
    obtain ⟨a, vs, rfl, h1, h2⟩ := h
    cases b with
    | tup es =>
      obtain ⟨a', us, ea, g1, g2⟩ := g
      cases ea
      have ev : vs = us := I.tuple_inj (ex_t e h1) (ex_t e g1)
      subst ev
      rw [DVs.inj I e h2 g2 cd c]
    | non => cases (show V.ref a = .non from g)
    | bl _ => cases (show V.ref a = .bl _ from g)
    | int _ => cases (show V.ref a = .int _ from g)
    | str _ => cases (show V.ref a = .str _ from g)
    | lst _ => cases c
    | slst _ => cases c
    | dct _ _ => cases c
    | ins _ _ _ => cases c
  | .lst _, _, _, _, _, c, _ => by cases c
  | .slst _, _, _, _, _, c, _ => by cases c
  | .dct _ _, _, _, _, _, c, _ => by cases c
  | .ins _ _ _, _, _, _, _, c, _ => by cases c
theorem DVs.inj {B H : Hp} {s : Shared} (I : Inv X pins σ H s) (e : Ex B H) : ∀ {ds es : List D} {vs : List V}, DVs (gx X cl) B vs ds → DVs (gx X cl) B vs es → cleans ds = true → cleans es = true → ds = es
  | [], es, vs, h, g, _, _ => by
    rw [show vs = [] from h] at g
    cases es with
    | nil => rfl
    | cons x xs => obtain ⟨_, _, q, _⟩ := g; cases q
  | d :: ds, es, vs, h, g, c1, c2 => by
    obtain ⟨v, r, rfl, h1, h2⟩ := h
    cases es with
    | nil => cases (show v :: r = [] from g)
    | cons x xs =>
      obtain ⟨v', r', q, g1, g2⟩ := g
      cases q
      unfold cleans at c1 c2
      rw [Bool.and_eq_true] at c1 c2
      rw [DV.inj I e h1 g1 c1.1 c2.1, DVs.inj I e h2 g2 c1.2 c2.2]
end
end
end Av
end
set_option Elab.async false
set_option linter.all false
set_option maxRecDepth 100000
set_option maxHeartbeats 2000000
/-! in, not in, by the turns over a list of own instances. -/
noncomputable section
namespace Av
open PySem L2 PySem.Spec PyProof.Rows
def cleanIns (c : Str) (ns : List Str) : D → Bool
  | .ins c' ns' ds => c' == c && ns' == ns && cleans ds
  | _ => false
theorem cleanIns_inv {c : Str} {ns : List Str} {d : D} (h : cleanIns c ns d = true) : ∃ ds, d = .ins c ns ds ∧ cleans ds = true := by
  cases d with
  | ins c' ns' ds =>
    simp [cleanIns] at h
    obtain ⟨⟨rfl, rfl⟩, h⟩ := h
    exact ⟨ds, rfl, h⟩
  | _ => cases h
/-- the comparisons of a list's items with one: all tell -/
def eqAll (c : Str) (ns : List Str) (F : Fn) (b : D) : List D → Option (List Bool)
  | [] => some []
  | d :: ds => match ownEq c ns F d b, eqAll c ns F b ds with
    | some r, some rs => some (r :: rs)
    | _, _ => none
theorem eqAll_get {c : Str} {ns : List Str} {F : Fn} {b : D} : ∀ {ds : List D} {rs : List Bool}, eqAll c ns F b ds = some rs → rs.length = ds.length ∧ ∀ (i : Nat) d, ds[i]? = some d → ∃ r, rs[i]? = some r ∧ ownEq c ns F d b = some r
  | [], rs, h => by cases h; exact ⟨rfl, fun i d h => by simp at h⟩
  | x :: ds, rs, h => by
    unfold eqAll at h
    cases q : ownEq c ns F x b with
    | none => rw [q] at h; cases h
    | some r =>
      cases q2 : eqAll c ns F b ds with
      | none => rw [q, q2] at h; cases h
      | some rs' =>
        rw [q, q2] at h
        cases h
        obtain ⟨g1, g2⟩ := eqAll_get q2
        refine ⟨by simp [g1], fun i d hi => ?_⟩
        cases i with
        | zero => cases hi; exact ⟨r, rfl, q⟩
        | succ i => exact g2 i d (by simpa using hi)
section
variable {X : Cx} {cl : Str → Addr} {c : Str} {ns : List Str} {F : Fn} {n : Nat}
/-- what the turns keep -/
def KeptI (X : Cx) (pins : List (Addr × Obj)) (σ : L2.St) (B H : Hp) (s : Shared) : Prop := ∃ B' H', Inv X pins σ H' s ∧ New B H B' H' (fun _ => False)
theorem New.two {B H B1 H1 B2 H2 : Hp} (a : New B H B1 H1 (fun _ => False)) (b : New B1 H1 B2 H2 (fun _ => False)) : New B H B2 H2 (fun _ => False) :=
  ⟨a.ex.trans b.ex, b.sub, a.kp.trans b.kp, fun x o h => (b.bs x o (a.kp x o h)).trans (a.bs x o h), fun _ z => z.elim⟩
theorem own_turns (k : EqK X cl c ns F n) (hrefl : ∀ ds r, ownEq c ns F (.ins c ns ds) (.ins c ns ds) = some r → r = true) (hr : Room (n + 1) X.A) {pins : List (Addr × Obj)} {σ : L2.St} {B H : Hp} {l p : Addr} {vs : List V} {ds : List D} {b : D} {rs : List Bool}
    (e : Ex B H) (hl : H l = some (.lst vs)) (hd : DVs (gx X cl) B vs ds) (hb : DV (gx X cl) B (.ref p) b) (cb : cleanIns c ns b = true) (cd : ds.all (cleanIns c ns) = true) (q : eqAll c ns F b ds = some rs) :
    Turns X.prog X.w X.A X.xe l (.ref p) vs.length (fun i => rs.getD i false) (fun _ => KeptI X pins σ B H) := by
  intro i s ⟨B1, H1, I, nw⟩
  obtain ⟨z, its, m, hv, hg⟩ := (show ObjOk X.prog X.w H1 s.heap l (.lst vs) from I.hok l _ (nw.kp _ _ hl))
  have hz : its.toArray.size = vs.length := by
    rw [List.size_toArray]
    exact hv.length.symm
  refine ⟨its.toArray, m, hg, hz, fun h1 => ?_⟩
  have hi : i < vs.length := by rw [← hz]; exact h1
  have hdi : i < ds.length := by rw [← hd.length]; exact hi
  obtain ⟨v, hvi, hD⟩ := hd.get (List.getElem?_eq_getElem hdi)
  obtain ⟨d, hdd⟩ : ∃ d, d = ds[i] := ⟨_, rfl⟩
  rw [← hdd] at hD
  have hds : ds[i]? = some d := by rw [hdd]; exact List.getElem?_eq_getElem hdi
  obtain ⟨r, hri, hown⟩ := (eqAll_get q).2 i d hds
  have her : rs.getD i false = r := by simp [List.getD, hri]
  obtain ⟨u, hu, ru⟩ := hv.get hvi
  have hit : its.toArray[i] = u := by
    have g1 : its[i]? = some its.toArray[i] := by
      have h1' : i < its.length := by simpa using h1
      rw [List.getElem?_eq_getElem h1'] <;> simp
    rw [g1] at hu
    exact Option.some.inj hu
  rw [hit]
  have ci : cleanIns c ns d = true := List.all_eq_true.mp cd d (List.mem_of_getElem? hds)
  obtain ⟨es, rfl, ce⟩ := cleanIns_inv ci
  obtain ⟨bs, rfl, cbs⟩ := cleanIns_inv cb
  have hD1 := hD.mono nw.ex
  have hb1 := hb.mono nw.ex
  have hD0 := hD1
  have hb0 := hb1
  obtain ⟨a, dx, us, rfl, ha, hlen, hus⟩ := hD1
  obtain ⟨p', dy, ws, ep, hp, hlen2, hws⟩ := hb1
  cases ep
  cases ru
  by_cases hab : a = p
  · subst hab
    have : us = ws := by
      rw [ha] at hp
      have h5 : ns.zip us = ns.zip ws := by injection hp with h; injection h
      have h6 := congrArg (List.map Prod.snd) h5
      rwa [List.map_snd_zip (by omega), List.map_snd_zip (by omega)] at h6
    subst this
    have : es = bs := DVs.inj I nw.sub hus hws ce cbs
    subst this
    have := hrefl _ _ hown
    subst this
    exact SeqAt.EqAt.same (A := X.A.in1) (s := s) (.ref a) X.prog X.w X.xe _ ⟨her.symm, B1, H1, I, nw⟩
  · obtain ⟨ds', fin, _, r2, hF⟩ := ownEq_inv hown
    obtain ⟨f, fd, ps, F0, g1, g2, g3⟩ := k.eq
    obtain ⟨tb, ty, nf⟩ := right_ty k hb0 nw.sub r2
    refine GQ.eqBool_refG hab ?_
    obtain ⟨mA, J, _⟩ := ins_get I.hok (nw.sub _ _ ha)
    obtain ⟨od, J, _⟩ := J.look
    obtain ⟨m', hFr⟩ := I.fr
    obtain ⟨Pk, kx, hk, _⟩ := kit_of I (show L2.RelV (V.ref p) (Value.ref p) from rfl) ty
    refine PySem.W.cmp_K (op := .Eq) (tb := tb) hr.in1.units0 hFr I.ok.mod.kin J (kx.ty _ _ I.kIn hk) nf g1 g2 ?_
    refine wpAny_mono (call_own F0 g3 passes0 hr.in1 rfl I (show L2.RelV (V.ref p) (Value.ref p) from rfl) (Q := fun w H' => w = .bl r ∧ ∃ B', New B1 H1 B' H' (fun _ => False)) (own_sp hD0 hb0 nw.sub hF fun B' H' n2 => ⟨⟨r, rfl⟩, rfl, B', n2⟩)) (fun w s' z => ?_) fun _ _ x => x
    obtain ⟨b', H', rfl, I', e1, B', n2⟩ := z
    cases e1
    exact ⟨r, rfl, her.symm, B', H', I', nw.two n2⟩
end
end Av
end
set_option Elab.async false
set_option linter.all false
set_option maxRecDepth 100000
set_option maxHeartbeats 2000000
/-! in, not in, count, index of lists of own instances, by values. -/
noncomputable section
namespace Av
open PySem L2 PySem.Spec PyProof.Rows
theorem anyTo_from {rs : List Bool} : ∀ (k i : Nat), i + k = rs.length → anyTo (fun i => rs.getD i false) i k = (rs.drop i).any id
  | 0, i, h => by
    rw [List.drop_of_length_le (by omega)]
    rfl
  | k + 1, i, h => by
    have hi : i < rs.length := by omega
    rw [List.drop_eq_getElem_cons hi]
    show (rs.getD i false || anyTo _ (i + 1) k) = (rs[i] || (rs.drop (i + 1)).any id)
    rw [anyTo_from k (i + 1) (by omega)]
    congr 1
    simp [List.getD, hi]
theorem countTo_from {rs : List Bool} : ∀ (k i : Nat), i + k = rs.length → countTo (fun i => rs.getD i false) i k = (rs.drop i).countP id
  | 0, i, h => by
    rw [List.drop_of_length_le (by omega)]
    rfl
  | k + 1, i, h => by
    have hi : i < rs.length := by omega
    rw [List.drop_eq_getElem_cons hi, List.countP_cons]
    show (if rs.getD i false = true then 1 else 0) + countTo _ (i + 1) k = _
    rw [countTo_from k (i + 1) (by omega)]
    have : rs.getD i false = rs[i] := by simp [List.getD, hi]
    rw [this]
    cases rs[i] <;> simp <;> omega
def seekOwn (c : Str) (ns : List Str) (F : Fn) (b : D) (s : S) : Option (List Bool) := (elems s).bind fun ds => if cleanIns c ns b = true ∧ ds.all (cleanIns c ns) = true then eqAll c ns F b ds else none
def bInOwn (c : Str) (ns : List Str) (F : Fn) : List S → Option S
  | [.im b, s] => (seekOwn c ns F b s).map fun rs => .im (.bl (rs.any id))
  | _ => none
def bNotInOwn (c : Str) (ns : List Str) (F : Fn) : List S → Option S
  | [.im b, s] => (seekOwn c ns F b s).map fun rs => .im (.bl (!rs.any id))
  | _ => none
section
variable {X : Cx} {cl : Str → Addr} {c : Str} {ns : List Str} {F : Fn} {n : Nat}
theorem seekOwn_inv {b : D} {s : S} {rs : List Bool} (h : seekOwn c ns F b s = some rs) : ∃ ds, elems s = some ds ∧ cleanIns c ns b = true ∧ ds.all (cleanIns c ns) = true ∧ eqAll c ns F b ds = some rs := by
  unfold seekOwn at h
  cases q : elems s with
  | none => rw [q] at h; cases h
  | some ds =>
    rw [q] at h
    simp only [Option.bind_some] at h
    split at h
    · rename_i hc
      exact ⟨ds, rfl, hc.1, hc.2, h⟩
    · cases h
def rSeek (X : Cx) (cl : Str → Addr) (c : Str) (ns : List Str) (F : Fn) (g : List Bool → Bool) : R2 := fun x y H Q => ∃ (B : Hp) (p l : Addr) (b : D) (vs : List V) (ds : List D) (rs : List Bool), x = .ref p ∧ y = .ref l ∧ Ex B H ∧ H l = some (.lst vs) ∧ DVs (gx X cl) B vs ds ∧ DV (gx X cl) B (.ref p) b ∧
  cleanIns c ns b = true ∧ ds.all (cleanIns c ns) = true ∧ eqAll c ns F b ds = some rs ∧ ∀ B' H', New B H B' H' (fun _ => False) → Q (.bl (g rs)) H'
theorem op_inOwn (k : EqK X cl c ns F n) (hrefl : ∀ ds r, ownEq c ns F (.ins c ns ds) (.ins c ns ds) = some r → r = true) (hr : Room (n + 1) X.A) : OpR X (compareOp .In) (rSeek X cl c ns F fun rs => rs.any id) ∧ OpR X (compareOp .NotIn) (rSeek X cl c ns F fun rs => !rs.any id) := by
  constructor
  · rintro pins s σ H x y v u Q I rx ry ⟨B, p, l, b, vs, ds, rs, rfl, rfl, e, hl, hd, hb, cb, cd, q, kq⟩
    cases rx
    cases ry
    have hlen : vs.length = rs.length := hd.length.trans (eqAll_get q).1.symm
    refine in_own _ (own_turns k hrefl hr (pins := pins) (σ := σ) e hl hd hb cb cd q) (fun i s' _ h => ?_) ⟨B, H, I, New.refl e⟩
    obtain ⟨B', H', I', nw⟩ := h
    rw [hlen, anyTo_from _ 0 (by omega), List.drop_zero]
    exact ⟨.bl _, H', I', rfl, kq B' H' nw⟩
  · rintro pins s σ H x y v u Q I rx ry ⟨B, p, l, b, vs, ds, rs, rfl, rfl, e, hl, hd, hb, cb, cd, q, kq⟩
    cases rx
    cases ry
    have hlen : vs.length = rs.length := hd.length.trans (eqAll_get q).1.symm
    refine notIn_own _ (own_turns k hrefl hr (pins := pins) (σ := σ) e hl hd hb cb cd q) (fun i s' _ h => ?_) ⟨B, H, I, New.refl e⟩
    obtain ⟨B', H', I', nw⟩ := h
    rw [hlen, anyTo_from _ 0 (by omega), List.drop_zero]
    exact ⟨.bl _, H', I', rfl, kq B' H' nw⟩
/-- from values to the reading -/
theorem seek_read {B H : Hp} {v u : V} {b : D} {s : S} {rs : List Bool} {g : List Bool → Bool} {Q : VK} (e : Ex B H) (q : seekOwn c ns F b s = some rs) (hv : DV (gx X cl) B v b) (hu : ∃ f, SV (gx X cl) B H u s f)
    (kq : ∀ w B' H' f, New B H B' H' f → SV (gx X cl) B' H' w (.im (.bl (g rs))) f → Q w H') : rSeek X cl c ns F g v u H Q := by
  obtain ⟨ds, h1, cb, cd, h2⟩ := seekOwn_inv q
  obtain ⟨f, hu⟩ := hu
  obtain ⟨l, us, rfl, hL, hD⟩ := elems_ok hu e h1
  have cb0 := cb
  obtain ⟨bs, rfl, _⟩ := cleanIns_inv cb0
  have hv0 := hv
  obtain ⟨p, dx, ws, rfl, _, _, _⟩ := hv0
  exact ⟨B, p, l, _, us, ds, rs, rfl, rfl, e, hL, hD, hv, cb, cd, h2, fun B' H' nw => kq _ B' H' _ nw ⟨rfl, fun _ z => z⟩⟩
theorem opn_inOwn (k : EqK X cl c ns F n) (hrefl : ∀ ds r, ownEq c ns F (.ins c ns ds) (.ins c ns ds) = some r → r = true) (hr : Room (n + 1) X.A) : OpN X cl (relCmp X .In) (bInOwn c ns F) := fun B H vs ss z e hl hs hg Q kq => by
  unfold bInOwn at hg
  split at hg
  · rename_i b s
    cases q : seekOwn c ns F b s with
    | none => rw [q] at hg; cases hg
    | some rs =>
      rw [q] at hg
      cases hg
      obtain ⟨v, u, rfl, ⟨_, hv, _⟩, hu⟩ := hs2 hl hs
      exact ⟨_, l2_cmp (op_inOwn k hrefl hr).1, _, _, rfl, seek_read e q hv hu kq⟩
  · cases hg
theorem opn_notInOwn (k : EqK X cl c ns F n) (hrefl : ∀ ds r, ownEq c ns F (.ins c ns ds) (.ins c ns ds) = some r → r = true) (hr : Room (n + 1) X.A) : OpN X cl (relCmp X .NotIn) (bNotInOwn c ns F) := fun B H vs ss z e hl hs hg Q kq => by
  unfold bNotInOwn at hg
  split at hg
  · rename_i b s
    cases q : seekOwn c ns F b s with
    | none => rw [q] at hg; cases hg
    | some rs =>
      rw [q] at hg
      cases hg
      obtain ⟨v, u, rfl, ⟨_, hv, _⟩, hu⟩ := hs2 hl hs
      exact ⟨_, l2_cmp (op_inOwn k hrefl hr).2, _, _, rfl, seek_read e q hv hu kq⟩
  · cases hg
end
end Av
end
set_option Elab.async false
set_option linter.all false
set_option maxRecDepth 100000
set_option maxHeartbeats 2000000
/-! count, index of lists of own instances, by values. -/
noncomputable section
namespace Av
open PySem L2 PySem.Spec PyProof.Rows
section
variable {prog : Program} {w : World} {A : Around} {E : Value → Shared → Prop} {s : Shared}
theorem count_own {l : Addr} {x : Value} {N : Nat} {e : Nat → Bool} {Q : Value → Shared → Prop} (I : Nat → Shared → Prop) (hl : Turns prog w A E l x N e I) (fin : ∀ s tk, I N s → Q (.int (countTo e 0 N : Nat) tk) { s with toks := s.toks + 1 }) (h : I 0 s) : wpAny (model prog w) A (call (.builtin "list.count") [.ref l, x]) Q E s := by
  obtain ⟨items, n, hl1, _, _⟩ := hl _ _ h
  have hT : s.TypeIs (.ref l) "list" := ⟨_, hl1, rfl⟩
  exact GQ.call_here (Q := Q) PySem.F.slot_list_count hT PySem.F.entry_list_count (PySem.F.args_list_count_2 _ _) (list_count (R := wants Q E) l x N e I hl (fun s' tk q => fin s' tk q) h)
theorem index_own {l : Addr} {x : Value} {N : Nat} {e : Nat → Bool} {Q : Value → Shared → Prop} (I : Nat → Shared → Prop) (hl : Turns prog w A E l x N e I) (j : Nat) (hj : j < N) (hN : N < 1000000) (hit : e j = true) (hno : ∀ m, m < j → e m = false)
    (fin : ∀ s tk, I (j + 1) s → Q (.int (j : Nat) tk) { s with toks := s.toks + 1 }) (h : I 0 s) : wpAny (model prog w) A (call (.builtin "list.index") [.ref l, x]) Q E s := by
  obtain ⟨items, n, hl1, _, _⟩ := hl _ _ h
  have hT : s.TypeIs (.ref l) "list" := ⟨_, hl1, rfl⟩
  exact GQ.call_here (Q := Q) PySem.F.slot_list_index hT PySem.F.entry_list_index (PySem.F.args_list_index_2 _ _) (list_index (R := wants Q E) l x N e I hl j hj hN hit hno (fun s' tk q => fin s' tk q) h)
end
def bCountOwn (c : Str) (ns : List Str) (F : Fn) : List S → Option S
  | [s, .im b] => (seekOwn c ns F b s).map fun rs => .im (.int (rs.countP id : Nat))
  | _ => none
def bIndexOwn (c : Str) (ns : List Str) (F : Fn) : List S → Option S
  | [s, .im b] => (seekOwn c ns F b s).bind fun rs => if rs.any id = true ∧ rs.length < 1000000 then some (.im (.int (rs.findIdx id : Nat))) else none
  | _ => none
section
variable {X : Cx} {cl : Str → Addr} {c : Str} {ns : List Str} {F : Fn} {n : Nat}
def rSeekM (X : Cx) (cl : Str → Addr) (c : Str) (ns : List Str) (F : Fn) (g : List Bool → Option Int) : List V → Hp → VK → Prop := fun xs H Q => ∃ (B : Hp) (p l : Addr) (b : D) (vs : List V) (ds : List D) (rs : List Bool) (i : Int), xs = [.ref l, .ref p] ∧ Ex B H ∧ H l = some (.lst vs) ∧ DVs (gx X cl) B vs ds ∧ DV (gx X cl) B (.ref p) b ∧
  cleanIns c ns b = true ∧ ds.all (cleanIns c ns) = true ∧ eqAll c ns F b ds = some rs ∧ g rs = some i ∧ ∀ B' H', New B H B' H' (fun _ => False) → Q (.int i) H'
theorem mt_countOwn (k : EqK X cl c ns F n) (hrefl : ∀ ds r, ownEq c ns F (.ins c ns ds) (.ins c ns ds) = some r → r = true) (hr : Room (n + 1) X.A) : relM X "list.count" (rSeekM X cl c ns F fun rs => some (rs.countP id : Nat)) := by
  rintro pins s σ H x xs v us Q I rx rxs ⟨B, p, l, b, vs, ds, rs, i, ex, e, hl, hd, hb, cb, cd, q, gi, kq⟩
  cases ex
  cases gi
  cases rx
  cases rxs with
  | cons ry rt =>
    cases rt
    cases ry
    have hlen : vs.length = rs.length := hd.length.trans (eqAll_get q).1.symm
    refine count_own _ (own_turns k hrefl hr (pins := pins) (σ := σ) e hl hd hb cb cd q) (fun s' tk h => ?_) ⟨B, H, I, New.refl e⟩
    obtain ⟨B', H', I', nw⟩ := h
    rw [hlen, countTo_from _ 0 (by omega), List.drop_zero]
    exact ⟨.int _, H', I'.tok _, ⟨_, rfl⟩, kq B' H' nw⟩
theorem mt_indexOwn (k : EqK X cl c ns F n) (hrefl : ∀ ds r, ownEq c ns F (.ins c ns ds) (.ins c ns ds) = some r → r = true) (hr : Room (n + 1) X.A) : relM X "list.index" (rSeekM X cl c ns F fun rs => if rs.any id = true ∧ rs.length < 1000000 then some (rs.findIdx id : Nat) else none) := by
  rintro pins s σ H x xs v us Q I rx rxs ⟨B, p, l, b, vs, ds, rs, i, ex, e, hl, hd, hb, cb, cd, q, gi, kq⟩
  cases ex
  dsimp only at gi
  split at gi
  · rename_i hc
    cases gi
    cases rx
    cases rxs with
    | cons ry rt =>
      cases rt
      cases ry
      have hlen : vs.length = rs.length := hd.length.trans (eqAll_get q).1.symm
      have hj : rs.findIdx id < rs.length := by
        rw [List.findIdx_lt_length]
        simpa using hc.1
      refine index_own _ (own_turns k hrefl hr (pins := pins) (σ := σ) e hl hd hb cb cd q) (rs.findIdx id) (by omega) (by omega) ?_ (fun m hm => ?_) (fun s' tk h => ?_) ⟨B, H, I, New.refl e⟩
      · have := List.findIdx_getElem (xs := rs) (p := id) (w := hj)
        simp [List.getD, hj] at this ⊢
        exact this
      · have := List.not_of_lt_findIdx (xs := rs) (p := id) hm
        have hm2 : m < rs.length := by omega
        simp [List.getD, hm2] at this ⊢
        exact this
      · obtain ⟨B', H', I', nw⟩ := h
        exact ⟨.int _, H', I'.tok _, ⟨_, rfl⟩, kq B' H' nw⟩
  · cases gi
theorem seek_readM {B H : Hp} {v u : V} {b : D} {s : S} {rs : List Bool} {g : List Bool → Option Int} {i : Int} {Q : VK} (e : Ex B H) (q : seekOwn c ns F b s = some rs) (gi : g rs = some i) (hv : DV (gx X cl) B v b) (hu : ∃ f, SV (gx X cl) B H u s f)
    (kq : ∀ w B' H' f, New B H B' H' f → SV (gx X cl) B' H' w (.im (.int i)) f → Q w H') : rSeekM X cl c ns F g [u, v] H Q := by
  obtain ⟨ds, h1, cb, cd, h2⟩ := seekOwn_inv q
  obtain ⟨f, hu⟩ := hu
  obtain ⟨l, us, rfl, hL, hD⟩ := elems_ok hu e h1
  have cb0 := cb
  obtain ⟨bs, rfl, _⟩ := cleanIns_inv cb0
  have hv0 := hv
  obtain ⟨p, dx, ws, rfl, _, _, _⟩ := hv0
  exact ⟨B, p, l, _, us, ds, rs, i, rfl, e, hL, hD, hv, cb, cd, h2, gi, fun B' H' nw => kq _ B' H' _ nw ⟨rfl, fun _ z => z⟩⟩
theorem opn_countOwn (k : EqK X cl c ns F n) (hrefl : ∀ ds r, ownEq c ns F (.ins c ns ds) (.ins c ns ds) = some r → r = true) (hr : Room (n + 1) X.A) : OpN X cl (relM X "list.count") (bCountOwn c ns F) := fun B H vs ss z e hl hs hg Q kq => by
  unfold bCountOwn at hg
  split at hg
  · rename_i s b
    cases q : seekOwn c ns F b s with
    | none => rw [q] at hg; cases hg
    | some rs =>
      rw [q] at hg
      cases hg
      obtain ⟨u, v, rfl, hu, ⟨_, hv, _⟩⟩ := hs2 hl hs
      exact ⟨_, mt_countOwn k hrefl hr, seek_readM e q rfl hv hu kq⟩
  · cases hg
theorem opn_indexOwn (k : EqK X cl c ns F n) (hrefl : ∀ ds r, ownEq c ns F (.ins c ns ds) (.ins c ns ds) = some r → r = true) (hr : Room (n + 1) X.A) : OpN X cl (relM X "list.index") (bIndexOwn c ns F) := fun B H vs ss z e hl hs hg Q kq => by
  unfold bIndexOwn at hg
  split at hg
  · rename_i s b
    cases q : seekOwn c ns F b s with
    | none => rw [q] at hg; cases hg
    | some rs =>
      rw [q] at hg
      simp only [Option.bind_some] at hg
      split at hg
      · rename_i hc
        cases hg
        obtain ⟨u, v, rfl, hu, ⟨_, hv, _⟩⟩ := hs2 hl hs
        exact ⟨_, mt_indexOwn k hrefl hr, seek_readM e q (if_pos hc) hv hu kq⟩
      · cases hg
  · cases hg
end
end Av
end
set_option Elab.async false
set_option linter.all false
set_option maxRecDepth 100000
set_option maxHeartbeats 2000000
/-! isinstance(x, an own class). -/
noncomputable section
namespace Av
open PySem L2
/-- facts of a plain own class for isinstance -/
structure IsK (X : Cx) (cl : Str → Addr) (c : Str) : Prop where
  cls : Cls X.K (cl c)
  ha : PySem.W.findIn X.K (.ref (cl c)) "__class__" = some (some (.builtin "object.__class__"))
  hn : PySem.W.specialIn X.K (.builtin "object.__class__") "__get__" = some (some (.builtin "getset_descriptor.__get__"))
  ht : PySem.W.takesIn X.K (.builtin "object.__class__") = some true
  hm : PySem.W.mroIn X.K (cl c) (.type "object") = some true
  no : ∀ T ∈ ["NoneType", "bool", "int", "str", "tuple", "list", "dict"], PySem.W.kitOne X.K (.type T) (.ref (cl c)) = some false
  yes : PySem.W.kitOne X.K (.ref (cl c)) (.ref (cl c)) = some true
  mg : X.mg c = some (.ref (cl c))
def isOwn (c : Str) (s : S) : Option Bool := match s with
  | .im (.ins c' _ _) => if c' = c then some true else none
  | s => (tyName s).map fun _ => false
def bIsOwn (c : Str) : List S → Option S
  | [s] => (isOwn c s).map fun b => .im (.bl b)
  | _ => none
section
variable {X : Cx} {cl : Str → Addr} {W : WX} {e : Expr} {f : M R} {c : Str} {p p2 pos : Pos}
theorem isOwn_ok (k : IsK X cl c) {B H : Hp} {v : V} {s : S} {b : Bool} {g : Set'} (h : SV (gx X cl) B H v s g) (e : Ex B H) (q : isOwn c s = some b) : ∃ t, TyX X.K H v t ∧ PySem.W.kitOne X.K t (.ref (cl c)) = some b := by
  have base : (tyName s).map (fun _ => false) = some b → ∃ t, TyX X.K H v t ∧ PySem.W.kitOne X.K t (.ref (cl c)) = some b := fun q => by
    cases q2 : tyName s with
    | none => rw [q2] at q; cases q
    | some t =>
      rw [q2] at q
      cases q
      exact ⟨.type t, tyName_ok h e q2, k.no t (tyName_in q2)⟩
  unfold isOwn at q
  split at q
  · split at q
    · rename_i c' ns ds hc
      subst hc
      cases q
      obtain ⟨⟨a, dx, vs, rfl, h1, _, _⟩, _⟩ := h
      exact ⟨.ref (cl c'), .base (.ins (e _ _ h1) k.cls k.ha k.hn k.ht k.hm), k.yes⟩
    · cases q
  · exact base q
theorem ge_isOwn (k : IsK X cl c) (hm : X.mg "isinstance" = none) (h : GE X cl W e f) (hg : Gl X "isinstance" := by rfl) (hgT : Gl X c := by rfl) (hdb : (c == ("__debug__" : Str)) = false := by decide)
    (he : starEach [e, .Name c p2] X.env = (false, eval e X.env) :: starEach [.Name c p2] X.env := by rfl) (hpl : (backTo pos (starEach [.Name c p2] X.env)).any (·.1) = false := by rfl) (he2 : starEach [.Name c p2] X.env = (false, eval (.Name c p2) X.env) :: starEach [] X.env := by rfl) :
    GE X cl W (.Call (.Name "isinstance" p) [e, .Name c p2] [] pos) (m1 (bIsOwn c) f) := by
  have hv : bootBuiltins "isinstance" = some (.builtin "isinstance") := by decide +kernel
  have pn : PE X (.Name c p2) (tC (.ref (cl c))) := pe_glob hgT k.mg rfl hdb
  refine ge_t (pe_callB call_isi hg hm hv (pa_cons pe_U (pa_cons pn pa_nil he2) he) (by decide) (by decide) he hpl) ⟨fun σ B H ρ Z res ρ' E e1 Q kq ke => ?_⟩
  show tU X e σ H fun x H1 => rIsi X.K [x, .ref (cl c)] H1 Q
  rcases bind_ok e1 with ⟨r, ρ1, e2, e3⟩ | ⟨c', ns, xs, e2, e3⟩
  · refine h.run σ B H ρ Z _ _ E e2 _ (fun r' er v B1 H1 Z1 fp n1 E1 rv ap => ?_) (fun _ _ _ q => by cases q)
    cases er
    cases q : rd ρ1 r with
    | none => rw [q] at e3; cases e3
    | some s =>
      rw [q] at e3
      cases q2 : isOwn c s with
      | none => simp [bIsOwn, q2] at e3
      | some b =>
        simp [bIsOwn, q2] at e3
        obtain ⟨rfl, rfl⟩ := e3
        obtain ⟨f2, hv⟩ := rv.read E1 q
        obtain ⟨t, ty, kt⟩ := isOwn_ok k hv E1.sub q2
        exact ⟨v, .ref (cl c), t, .ref (cl c), b, rfl, .own _, ty, kt, kq _ rfl _ B1 H1 Z1 (fun _ => False) (n1.drop.sub orF) E1 ⟨rfl, fun _ z => z⟩ fun _ z => z.elim⟩
  · subst e3
    exact h.run σ B H ρ Z _ _ E e2 _ (fun _ q => by cases q) ke
end
end Av
end
set_option Elab.async false
set_option linter.all false
set_option maxRecDepth 100000
set_option maxHeartbeats 2000000
/-! Two operations in one; methods as defs; own classes' facts from the program's text. -/
noncomputable section
namespace Av
open PySem L2
/-- the one, or else the other -/
def orG (g g' : List S → Option S) : List S → Option S := fun ss => match g ss with
  | some z => some z
  | none => g' ss
theorem OpN.or {X : Cx} {cl : Str → Addr} {rel : (List V → Hp → VK → Prop) → Prop} {g g' : List S → Option S} (h : OpN X cl rel g) (h' : OpN X cl rel g') : OpN X cl rel (orG g g') := fun B H vs ss z e hl hs hg Q k => by
  unfold orG at hg
  cases q : g ss with
  | some z' =>
    rw [q] at hg
    cases hg
    exact h B H vs ss _ e hl hs q Q k
  | none =>
    rw [q] at hg
    exact h' B H vs ss z e hl hs hg Q k
theorem orG_left {g g' : List S → Option S} {ss : List S} {z : S} (h : g ss = some z) : orG g g' ss = some z := by
  unfold orG
  rw [h]
theorem orG_right {g g' : List S → Option S} {ss : List S} (h : g ss = none) : orG g g' ss = g' ss := by
  unfold orG
  rw [h]
section
variable {P : Program} {w : World} {K : PySem.W.Frag} {mg : Str → Option Value} {base : Heap} {cl : Str → Addr}
/-- a method keeps the promise of its function -/
def CalMe (P : Program) (w : World) (K : PySem.W.Frag) (mg : Str → Option Value) (base : Heap) (cl : Str → Addr) (c m : Str) (k n : Nat) (F : Fn) : Prop :=
  ∃ fa fd ps, FnOk P w K mg base (L2.CX P w) k fa fd ps (spF ⟨K, cl⟩ n F) ∧ PySem.W.findIn K (.ref (cl c)) m = some (some (.ref fa)) ∧ PySem.W.isFn K (.ref fa) = true ∧ Binds K fd ps []
/-- a method of the class stands in the text -/
def MethIn (K : PySem.W.Frag) (cl : Str → Addr) (c m qual : Str) (st : Stmt) (ps : List Str) : Prop := ∃ f fd, Fun K m qual st f fd ∧ PySem.W.findIn K (.ref (cl c)) m = some (some (.ref f)) ∧ PySem.W.isFn K (.ref f) = true ∧ Binds K fd ps []
theorem meth_of {c m qual : Str} {st : Stmt} {N ps : List Str} {k : Nat} {Rs : List Nat} {g : MS} (Df : MethIn K cl c m qual st ps) (Sc : FnScope N ps (defScope st)) (hR : ∀ i ∈ Rs, i < ps.length)
    (hb : ∀ (f : Addr) (cdv : Value) (A : Around) (outer : List PySem.Env) (s : Shared) (H : Hp) (E : XK), Room k (A.deeper (PyProof.Rows.envOfC qual (defScope st) s.heap.objs.size f cdv)) →
      GSs (cxOf (L2.CX P w) P w K mg base N qual (defScope st) f cdv A outer s H E) cl (fun c d _ H => E c d H) Rs (defBody st) g) :
    CalMe P w K mg base cl c m (k + 1) ps.length (fnM ps.length N.length Rs g) := by
  obtain ⟨f, fd, Fd, hm, b⟩ := Df
  exact ⟨f, fd, ps, fn_ok Fd Sc hR fun cdv A outer s H E hr => hb f cdv A outer s H E hr, hm, b⟩
/-- what a class' text tells -/
structure ClsTxt (K : PySem.W.Frag) (mg : Str → Option Value) (cl : Str → Addr) (c : Str) (ns : List Str) : Prop where
  cls : Cls K (cl c)
  no : ∀ n ∈ ns, NoAttr K (cl c) n
  ha : PySem.W.findIn K (.ref (cl c)) "__class__" = some (some (.builtin "object.__class__"))
  hn : PySem.W.specialIn K (.builtin "object.__class__") "__get__" = some (some (.builtin "getset_descriptor.__get__"))
  ht : PySem.W.takesIn K (.builtin "object.__class__") = some true
  hm : PySem.W.mroIn K (cl c) (.type "object") = some true
  iso : ∀ T ∈ ["NoneType", "bool", "int", "str", "tuple", "list", "dict"], PySem.W.kitOne K (.type T) (.ref (cl c)) = some false
  isy : PySem.W.kitOne K (.ref (cl c)) (.ref (cl c)) = some true
  nf : ∀ T ∈ ["NoneType", "bool", "int", "str", "tuple", "list", "dict"], PySem.W.notFirst K (cl c) (.type T) = true
  mg : mg c = some (.ref (cl c))
theorem ClsTxt.kls {c : Str} {ns : List Str} (t : ClsTxt K mg cl c ns) : Kls K cl c ns := ⟨t.cls, t.no⟩
end
theorem ClsTxt.isk {X : Cx} {cl : Str → Addr} {c : Str} {ns : List Str} (t : ClsTxt X.K X.mg cl c ns) : IsK X cl c := ⟨t.cls, t.ha, t.hn, t.ht, t.hm, t.iso, t.isy, t.mg⟩
theorem ClsTxt.eqk {X : Cx} {cl : Str → Addr} {c : Str} {ns : List Str} {F : Fn} {n : Nat} (t : ClsTxt X.K X.mg cl c ns) (m : CalMe X.prog X.w X.K X.mg X.base cl c "__eq__" n 2 F) : EqK X cl c ns F n := by
  obtain ⟨f, fd, ps, h1, h2, h3, h4⟩ := m
  exact ⟨t.cls, t.ha, t.hn, t.ht, t.hm, t.nf, f, fd, ps, h1, h2, h3, h4⟩
end Av
end
set_option Elab.async false
set_option linter.all false
set_option maxRecDepth 100000
set_option maxHeartbeats 2000000
/-! count of plain data in a list. -/
noncomputable section
namespace Av
open PySem L2 PySem.Spec PyProof.Rows
section
variable {X : Cx} {cl : Str → Addr}
def rCountD (K : PySem.W.Frag) : V → List V → Hp → VK → Prop := fun x xs H Q => ∃ (a : Addr) (y : V) (d : PyData) (ds : List PyData), x = V.ref a ∧ xs = [y] ∧ Dp K H (V.ref a) (.list ds) ∧ Dp K H y d ∧ SeqAt.shaped (.list ds) = true ∧ SeqAt.shaped d = true ∧ Q (.int ((ds.countP fun z => PyData.eqv z d : Nat) : Int)) H
theorem mt_countD (hu : X.A.units + 65 < cLine) : MtR X "list.count" (rCountD X.K) := by
  intro pins s σ H x xs v us Q I rx rxs h
  obtain ⟨a, y, d, ds, rfl, rfl, hl, hy, sl, sd, q⟩ := h
  cases rx
  cases rxs with
  | cons ry rt =>
    rename_i uy ut
    cases rt
    obtain ⟨bs, r1⟩ := Dp.reads I d y uy hy ry
    have hxs : PyData.canLayAll0 ds = true := SeqAt.canLay_of_shaped sl
    cases hl with
    | lst hs ha =>
      obtain ⟨its, rv, ⟨⟨cls, dd, data, sls⟩, n, ho, hc, hdn, hdt⟩, hlen⟩ := I.list hs
      simp only at hc hdt
      subst hc hdt
      obtain ⟨as, h4⟩ := Dp.readsAll I ds _ its ha rv
      have hmap : its.map (SeqAt.readOf s.heap) = ds := SeqAt.readsAll_map ds its as hxs h4
      refine call_meets PySem.F.slot_list_count ⟨_, ho, rfl⟩ PySem.F.entry_list_count (PySem.F.args_list_count_2 _ _)
        (SeqAt.list_countAt a its.toArray n dd sls uy (fun u => PyData.eqv (SeqAt.readOf s.heap u) d)) ⟨ho, SeqAt.items_eqAt (vs := its.toArray) (show ReadsAll s.heap its.toArray.toList ds as from h4) r1 hxs (SeqAt.canLay_of_shaped sd) (room_in_shaped sd hu), ?_⟩
      have e : its.countP (fun u => PyData.eqv (SeqAt.readOf s.heap u) d) = ds.countP fun z => PyData.eqv z d := by
        rw [← hmap, List.countP_map]
        rfl
      refine ⟨.int _, H, I.tok _, ⟨_, rfl⟩, ?_⟩
      show Q (.int ((its.countP (fun u => PyData.eqv (SeqAt.readOf s.heap u) d) : Nat) : Int)) H
      rw [e]
      exact q
def bCountD : List S → Option S
  | [s, b] => (elems s).bind fun ds => if SeqAt.shaped (.list (pys ds)) = true ∧ SeqAt.shaped (py (fz b)) = true then some (.im (.int ((pys ds).countP fun z => PyData.eqv z (py (fz b)) : Nat))) else none
  | _ => none
theorem opn_countD (hu : X.A.units + 65 < cLine) : OpN X cl (relM X "list.count") bCountD := fun B H vs ss z e hl hs hg Q k => by
  unfold bCountD at hg
  split at hg
  · rename_i s b
    cases q : elems s with
    | none => rw [q] at hg; cases hg
    | some ds =>
      rw [q] at hg
      simp only [Option.bind_some] at hg
      split at hg
      · rename_i hc
        cases hg
        obtain ⟨u, v, rfl, ⟨f, hu'⟩, ⟨g, hv⟩⟩ := hs2 hl hs
        obtain ⟨l, us, rfl, hL, hD⟩ := elems_ok hu' e q
        have dl : Dp X.K H (.ref l) (.list (pys ds)) := .lst (sq_of hL) (DVs.dp e hD (SeqAt.canLay_of_shaped hc.1))
        exact ⟨fun xs H Q => ∃ x r, xs = x :: r ∧ rCountD X.K x r H Q, fun pins s0 σ H0 x xs v us Q I rx rxs ⟨x', r', ex, h⟩ => by
          cases ex
          exact mt_countD hu pins s0 σ H0 x xs v us Q I rx rxs h, _, _, rfl, l, v, _, _, rfl, rfl, dl, hv.dp e hc.2, hc.1, hc.2, k _ B H _ (New.refl e) ⟨rfl, fun _ z => z⟩⟩
      · cases hg
  · cases hg
end
end Av
end
set_option Elab.async false
set_option linter.all false
set_option maxRecDepth 100000
set_option maxHeartbeats 2000000
/-! Own classes: an __init__ that sets its parameters as fields, and how such a class is made. -/
noncomputable section
namespace Av
open PySem L2 PyProof.Rows
/-- self.f = f, one behind another, from slot i on -/
def tIni (K : PySem.W.Frag) : Nat → List Str → TS
  | _, [] => tNext
  | i, f :: fs => tSeq (sFld K (tVar 0) (tVar i) f) (tIni K (i + 1) fs)
theorem put_new {f : Str} {v : V} : ∀ {fs : List (Str × V)}, (∀ p ∈ fs, p.1 ≠ f) → putF f v fs = fs ++ [(f, v)]
  | [], _ => rfl
  | (g, x) :: r, h => by
    show (if g = f then _ else _) = _
    rw [if_neg (h (g, x) (List.mem_cons_self ..)), put_new fun p hp => h p (List.mem_cons_of_mem _ hp)]
    rfl
theorem upd_self {H : Hp} {p : Addr} {o : HO} (h : H p = some o) : upd H p o = H := by
  funext b
  unfold upd
  split
  · rename_i e
    subst e
    exact h.symm
  · rfl
theorem ini_run {K : PySem.W.Frag} {C p dx : Addr} (hc : Cls K C) {D : Ends} {σ : L2.St} (h0 : σ[0]? = some (some (.ref p))) : ∀ (fs : List Str) (rest : List V) (i : Nat) (done : List (Str × V)) (H : Hp), H p = some (.ins C dx done) → rest.length = fs.length → (∀ j v, rest[j]? = some v → σ[i + j]? = some (some v)) →
    (∀ f ∈ fs, NoAttr K C f) → fs.Nodup → (∀ q ∈ done, q.1 ∉ fs) → done.length + fs.length < 1000 → D.nx σ (upd H p (.ins C dx (done ++ fs.zip rest))) → tIni K i fs D σ H
  | [], rest, i, done, H, hp, _, _, _, _, _, _, k => by
    simp only [List.zip_nil_left, List.append_nil] at k
    rw [upd_self hp] at k
    exact k
  | f :: fs, [], _, _, _, _, hl, _, _, _, _, _, _ => by cases hl
  | f :: fs, v :: rest, i, done, H, hp, hl, hv, hn, nd, hd, sz, k => by
    have e : putF f v done = done ++ [(f, v)] := put_new fun q hq e => hd q hq (e ▸ List.mem_cons_self ..)
    refine ⟨v, by simpa using hv 0 v rfl, .ref p, h0, p, C, dx, done, rfl, hp, hc, hn f (List.mem_cons_self ..), by simp at sz; omega, ?_⟩
    rw [e]
    refine ini_run hc h0 fs rest (i + 1) (done ++ [(f, v)]) _ upd_same (by simpa using hl) (fun j u hj => ?_) (fun g hg => hn g (List.mem_cons_of_mem _ hg)) (List.nodup_cons.mp nd).2 (fun q hq => ?_) (by simp at sz ⊢; omega) ?_
    · have := hv (j + 1) u (by simpa using hj)
      rwa [show i + 1 + j = i + (j + 1) by omega]
    · rcases List.mem_append.mp hq with h | h
      · exact fun z => hd q h (List.mem_cons_of_mem _ z)
      · rw [List.mem_singleton.mp h]
        exact (List.nodup_cons.mp nd).1
    · rw [upd_upd]
      simpa using k
section
variable {P : Program} {w : World} {K : PySem.W.Frag} {mg : Str → Option Value} {base : Heap} {cl : Str → Addr}
theorem ini_ok {qual : Str} {st : Stmt} {f C : Addr} {fd : FuncData} {ns : List Str} (Fd : Fun K "__init__" qual st f fd) (Sc : FnScope ("self" :: ns) ("self" :: ns) (defScope st)) (hc : Cls K C) (hn : ∀ n ∈ ns, NoAttr K C n) (nd : ns.Nodup) (sz : ns.length < 1000)
    (hb : ∀ (f : Addr) (cdv : Value) (A : Around) (outer : List PySem.Env) (s : Shared) (H : Hp) (E : XK), PSs (cxOf (L2.CX P w) P w K mg base ("self" :: ns) qual (defScope st) f cdv A outer s H E) (defBody st) (tIni K 1 ns)) :
    FnOk P w K mg base (L2.CX P w) 1 f fd ("self" :: ns) (spIni C ns) := by
  refine Fd.okX Sc (fun vs H Q E h => ?_) fun cdv A outer s H vs Q E hr h => ⟨tIni K 1 ns, hb f cdv A outer s H E, ?_⟩
  · obtain ⟨p, dx, xs, rfl, hl, _⟩ := h
    simp [hl]
  · obtain ⟨p, dx, xs, rfl, hl, hp, k⟩ := h
    have es : L2.start ("self" :: ns) (.ref p :: xs) = some (.ref p) :: xs.map some := by
      unfold L2.start
      simp [hl]
    rw [es]
    refine ini_run hc rfl ns xs 1 [] H hp hl (fun j v hj => ?_) hn nd (fun q hq => by cases hq) (by simpa using sz) (by simpa using k)
    rw [show 1 + j = j + 1 by omega]
    simp [hj]
/-- C(k = v, ..) with all the fields as keywords, in their order -/
theorem mk_kw {c : Str} {k : Nat} {ns : List Str} {f : Addr} {fd : FuncData} (M : Mk K (cl c) f) (F : FnOk P w K mg base (L2.CX P w) k f fd ("self" :: ns) (spIni (cl c) ns)) (hm : mg c = some (.ref (cl c)))
    (hb : ∀ (s : Shared) (u : Value) (ws : List Value), ws.length = ns.length → BindsTo s fd ⟨[u], ns.zip ws⟩ (List.zip (("self" : Str) :: ns) (u :: ws))) : MkOk P w K mg base cl c k 0 ns ns (fun _ zs => zs) := by
  refine ⟨f, fd, ("self" : Str) :: ns, fun us ws => us ++ ws, fun us ws => us ++ ws, M, F, hm, ⟨fun s us ws _ l1 l2 => ?_, fun r1 r2 => r1.append r2⟩, fun x vs zs l1 l2 => ?_⟩
  · match us, l1 with
    | [u], _ => exact hb s u ws l2
  · match vs, l1 with
    | [], _ => exact ⟨zs, rfl, l2, fun B ds es _ h => h⟩
end
end Av
end
set_option Elab.async false
set_option linter.all false
set_option maxRecDepth 100000
set_option maxHeartbeats 2000000
/-! == with an own instance on the right alone: its __eq__ is asked behind the built-in one. -/
noncomputable section
namespace Av
open PySem L2 PySem.Spec PyProof.Rows PySem.SeqAt
open AutoSeq1 (wpAny_loadPart')
open MeetsSeq
/-- an instance of class C stands at x; C is no T -/
def NoSub (K : PySem.W.Frag) (x C : Addr) (T : String) (s : Shared) : Prop := K.In s.heap ∧ (∃ ox od, PySem.W.InstAt s.heap x ox C od) ∧ PySem.W.subIn K (.ref C) (.type T) = some false
section
variable {prog : Program} {w : World} {A : Around} {E : Value → Shared → Prop} {s : Shared} {K : PySem.W.Frag} {x C f : Addr} {ox : Obj} {od : Option Obj}
theorem not_inst {M : Model} {T : String} {Q : Bool → Shared → Prop} (n : NoSub K x C T s) (q : Q false s) : wpAny M A (isInstance (.ref x) (.type T)) Q E s := by
  obtain ⟨X, ⟨ox, od, I⟩, e⟩ := n
  unfold isInstance
  exact wpAny_bind (I.type.here ((PySem.W.looks_subIn X e).here q))
theorem list_declines_own (K : PySem.W.Frag) (x C : Addr) (l : Addr) (items : Array Value) (n : Nat) (dd : Option Addr) (sl : Array (Option Value)) :
    Meets (Builtin.«list.__eq__» ⟨[.ref l, .ref x], []⟩) (fun _ R s => (s.heap.get? l = some { cls := .type "list", dict := dd, data := .seq items n, slots := sl } ∧ NoSub K x C "list" s) ∧ R (.ok (.ret .notImplemented)) s) :=
  .of_wp fun prog w A R s h => by
    obtain ⟨⟨hl, X, ⟨ox, od, I⟩, e⟩, h⟩ := h
    obtain ⟨hp, g, d, tk, os⟩ := s
    have hx := I.at_
    wp_walk using wpAny_loadPart' hl, wpAny_loadPart' hx
    rw [I.cls]
    refine (PySem.W.looks_subIn X e).here ?_
    wp_walk
    exact ⟨_, rfl, h⟩
theorem tuple_declines_own (K : PySem.W.Frag) (x C : Addr) (l : Addr) (items : Array Value) (n : Nat) (dd : Option Addr) (sl : Array (Option Value)) :
    Meets (Builtin.«tuple.__eq__» ⟨[.ref l, .ref x], []⟩) (fun _ R s => (s.heap.get? l = some { cls := .type "tuple", dict := dd, data := .seq items n, slots := sl } ∧ NoSub K x C "tuple" s) ∧ R (.ok (.ret .notImplemented)) s) :=
  .of_wp fun prog w A R s h => by
    obtain ⟨⟨hl, X, ⟨ox, od, I⟩, e⟩, h⟩ := h
    obtain ⟨hp, g, d, tk, os⟩ := s
    have hx := I.at_
    wp_walk using wpAny_loadPart' hl, wpAny_loadPart' hx
    rw [I.cls]
    refine (PySem.W.looks_subIn X e).here ?_
    wp_walk
    exact ⟨_, rfl, h⟩
theorem int_declines_own (b : Int) (u : Tok) (x C dx : Addr) :
    Meets (Builtin.«int.__eq__» ⟨[.int b u, .ref x], []⟩) (fun _ R s => s.heap.get? x = some (PySem.W.instObj C dx) ∧ R (.ok (.ret .notImplemented)) s) :=
  .of_wp fun prog w A R s h => by
    obtain ⟨hl, h⟩ := h
    obtain ⟨hp, g, d, tk, os⟩ := s
    unfold PySem.W.instObj at hl
    wp_walk using wpAny_loadPart' hl, wpAny_load hl
    exact ⟨_, rfl, h⟩
theorem str_declines_own (b : Str) (u : Tok) (x C dx : Addr) :
    Meets (Builtin.«str.__eq__» ⟨[.str b u, .ref x], []⟩) (fun _ R s => s.heap.get? x = some (PySem.W.instObj C dx) ∧ R (.ok (.ret .notImplemented)) s) :=
  .of_wp fun prog w A R s h => by
    obtain ⟨hl, h⟩ := h
    obtain ⟨hp, g, d, tk, os⟩ := s
    unfold PySem.W.instObj at hl
    wp_walk using wpAny_loadPart' hl, wpAny_load hl
    exact ⟨_, rfl, h⟩
theorem rc_refl {a : Value} {T id : String} {Q : Value → Shared → Prop} (hu : A.units < cLine) (X : K.In s.heap) (I : PySem.W.InstAt s.heap x ox C od) (ha : s.TypeIs a T) (hsub : PySem.W.subIn K (.ref C) (.type T) = some false) (h1 : Slot T (cmpInfo .Eq).2.1 id)
    (hc1 : ∀ Q' : Value → Shared → Prop, Q' .notImplemented s → wpAny (model prog w) A (call (.builtin id) [a, .ref x]) Q' E s)
    (hs : PySem.W.findIn K (.ref C) "__eq__" = some (some (.ref f))) (hf : PySem.W.isFn K (.ref f) = true)
    (h : wpAny (model prog w) A (call (.ref f) [.ref x, a]) (fun v s' => ∃ b, v = .bool b ∧ Q (.bool b) s') E s) : wpAny (model prog w) A (richCompare .Eq a (.ref x)) Q E s := by
  have one : wpAny (model prog w) A (tryCompare (.ref x) "__eq__" a) (fun r s' => ∃ v, r = some v ∧ Q v s') E s := by
    unfold tryCompare
    refine wpAny_bind (PySem.W.ifBound_K X I hs hf (wpAny_mono h (fun v s' hv => ?_) fun _ _ e => e))
    obtain ⟨b, rfl, hq⟩ := hv
    exact wpAny_pure ⟨_, rfl, hq⟩
  rcases hi : cmpInfo CmpOp.Eq with ⟨sym, g, r⟩
  rw [hi] at h1
  have hg : g = "__eq__" := congrArg (fun p => p.2.1) hi.symm
  have hr' : r = "__eq__" := congrArg (fun p => p.2.2) hi.symm
  subst hg hr'
  simp only [richCompare, hi, ha.oneThing_none]
  refine wpAny_holding ?_
  refine wpAny_bind (wpAny_cRoomFor hu ?_)
  refine wpAny_bind (wpAny_typeOf ha (wpAny_bind (I.type.here ?_)))
  have hne : (Value.type T != Value.ref C) = true := rfl
  simp only [hne, if_true]
  refine wpAny_bind ((PySem.W.looks_subIn X hsub).here ?_)
  simp only [Bool.false_eq_true, if_false, Bool.not_false, if_true]
  refine wpAny_bind (wpAny_tryCompare_declines ha h1 (hc1 _ ⟨rfl, ?_⟩))
  dsimp only
  refine wpAny_bind (wpAny_mono one (fun r s' z => ?_) fun _ _ e => e)
  obtain ⟨v, rfl, hq⟩ := z
  exact wpAny_pure hq
end
end Av
end
set_option Elab.async false
set_option linter.all false
set_option maxRecDepth 100000
set_option maxHeartbeats 2000000
/-! x in [..], x an own instance, the items of any kind. -/
noncomputable section
namespace Av
open PySem L2 PySem.Spec PyProof.Rows PySem.SeqAt
open MeetsSeq
theorem eqBool_gen {prog : Program} {w : World} {A : Around} {E : Value → Shared → Prop} {s : Shared} {a : Value} {b : Addr} {Q : Bool → Shared → Prop} (hne : a ≠ .ref b) (h : wpAny (model prog w) A (richCompare .Eq a (.ref b)) (fun v s' => ∃ r, v = .bool r ∧ Q r s') E s) : wpAny (model prog w) A (eqBool a (.ref b)) Q E s := by
  unfold eqBool
  refine wpAny_holding ?_
  refine wpAny_ite_split (fun hab => absurd (eq_of_beq hab) hne) (fun _ => ?_)
  have fin : wpAny (model prog w) A (richCompare .Eq a (.ref b) >>= fun v => truthOfDropped v) Q E s := wpAny_bind (wpAny_mono h (fun v s' hv => by
    obtain ⟨r, rfl, q⟩ := hv
    exact wpAny_truthy_bool q) fun _ _ x => x)
  cases a <;> exact fin
def plainD : D → Bool
  | .non | .int _ | .str _ | .lst _ | .tup _ => true
  | _ => false
/-- what item d = b gives: d's own __eq__, or b's where d is no instance -/
def eqMix (c : Str) (ns : List Str) (F : Fn) (b d : D) : Option Bool := if cleanIns c ns d = true then ownEq c ns F d b else if plainD d = true then ownEq c ns F b d else none
def eqMixAll (c : Str) (ns : List Str) (F : Fn) (b : D) : List D → Option (List Bool)
  | [] => some []
  | d :: ds => match eqMix c ns F b d, eqMixAll c ns F b ds with
    | some r, some rs => some (r :: rs)
    | _, _ => none
theorem eqMix_get {c : Str} {ns : List Str} {F : Fn} {b : D} : ∀ {ds : List D} {rs : List Bool}, eqMixAll c ns F b ds = some rs → rs.length = ds.length ∧ ∀ (i : Nat) d, ds[i]? = some d → ∃ r, rs[i]? = some r ∧ eqMix c ns F b d = some r
  | [], rs, h => by cases h; exact ⟨rfl, fun i d h => by simp at h⟩
  | x :: ds, rs, h => by
    unfold eqMixAll at h
    cases q : eqMix c ns F b x with
    | none => rw [q] at h; cases h
    | some r =>
      cases q2 : eqMixAll c ns F b ds with
      | none => rw [q, q2] at h; cases h
      | some rs' =>
        rw [q, q2] at h
        cases h
        obtain ⟨g1, g2⟩ := eqMix_get q2
        refine ⟨by simp [g1], fun i d hi => ?_⟩
        cases i with
        | zero => cases hi; exact ⟨r, rfl, q⟩
        | succ i => exact g2 i d (by simpa using hi)
/-- the class is no subclass of these -/
def NoSubs (K : PySem.W.Frag) (C : Addr) : Prop := ∀ T ∈ ["NoneType", "int", "str", "list", "tuple"], PySem.W.subIn K (.ref C) (.type T) = some false
section
variable {X : Cx} {cl : Str → Addr} {c : Str} {ns : List Str} {F : Fn} {n : Nat}
theorem refl_step (k : EqK X cl c ns F n) (nsb : NoSubs X.K (cl c)) (hr : Room (n + 1) X.A) {pins : List (Addr × Obj)} {σ : L2.St} {B H B1 H1 : Hp} {s : Shared} {p : Addr} {v : V} {u : Value} {d b : D} {r : Bool} (I : Inv X pins σ H1 s) (nw : New B H B1 H1 (fun _ => False))
    (hd : DV (gx X cl) B1 v d) (hb : DV (gx X cl) B1 (.ref p) b) (ru : L2.RelV v u) (hp : plainD d = true) (q : ownEq c ns F b d = some r) : wpAny (model X.prog X.w) X.A.in1 (eqBool u (.ref p)) (fun r' s' => r' = r ∧ KeptI X pins σ B H s') X.xe s := by
  obtain ⟨ds', fin, e0, r2, hF⟩ := ownEq_inv q
  subst e0
  obtain ⟨f, fd, ps, F0, g1, g2, g3⟩ := k.eq
  have hb0 := hb
  obtain ⟨p', dy, ws, ep, hp', hlen2, hws⟩ := hb
  cases ep
  have hpH := nw.sub _ _ hp'
  obtain ⟨mA, J, _⟩ := ins_get I.hok hpH
  obtain ⟨od, J, _⟩ := J.look
  have hx := J.at_
  have XK : X.K.In s.heap := I.kIn
  have main : ∀ (hne : u ≠ .ref p) {T id : String} (ha : s.TypeIs u T) (hT : T ∈ ["NoneType", "int", "str", "list", "tuple"]) (h1 : Slot T (cmpInfo .Eq).2.1 id)
      (hc1 : ∀ Q' : Value → Shared → Prop, Q' .notImplemented s → wpAny (model X.prog X.w) X.A.in1 (call (.builtin id) [u, .ref p]) Q' X.xe s), wpAny (model X.prog X.w) X.A.in1 (eqBool u (.ref p)) (fun r' s' => r' = r ∧ KeptI X pins σ B H s') X.xe s := by
    intro hne T id ha hT h1 hc1
    refine eqBool_gen hne (rc_refl hr.in1.units0 XK J ha (nsb T hT) h1 hc1 g1 g2 ?_)
    refine wpAny_mono (call_own F0 g3 passes0 hr.in1 rfl I ru (Q := fun w H' => w = .bl r ∧ ∃ B', New B1 H1 B' H' (fun _ => False)) (own_sp hb0 hd nw.sub hF fun B' H' n2 => ⟨⟨r, rfl⟩, rfl, B', n2⟩)) (fun w s' z => ?_) fun _ _ x => x
    obtain ⟨b', H', rfl, I', e1, B', n2⟩ := z
    cases e1
    exact ⟨r, rfl, r, rfl, rfl, B', H', I', nw.two n2⟩
  cases d with
  | non =>
    cases hd
    cases ru
    exact main nofun (T := "NoneType") rfl (by simp) PySem.F.slot_NoneType_eq fun _ hq => call_gives PySem.F.slot_NoneType_eq rfl PySem.F.entry_NoneType_eq (PySem.F.args_NoneType_eq_2 _ _) (NoneType___eq___none_ref_0 p) hq
  | int i =>
    cases hd
    obtain ⟨t, rfl⟩ := ru
    exact main nofun (T := "int") rfl (by simp) PySem.F.slot_int_eq fun _ hq => call_meets PySem.F.slot_int_eq rfl PySem.F.entry_int_eq (PySem.F.args_int_eq_2 _ _) (int_declines_own i t p (cl c) dy) ⟨hx, hq⟩
  | str x =>
    cases hd
    obtain ⟨t, rfl⟩ := ru
    exact main nofun (T := "str") rfl (by simp) PySem.F.slot_str_eq fun _ hq => call_meets PySem.F.slot_str_eq rfl PySem.F.entry_str_eq (PySem.F.args_str_eq_2 _ _) (str_declines_own x t p (cl c) dy) ⟨hx, hq⟩
  | lst ds =>
    obtain ⟨l, vs, rfl, h1, h2⟩ := hd
    cases ru
    obtain ⟨its, rv, ⟨⟨cls, dd, data, sl⟩, m, ho, hc, hdn, hdt⟩, hlen⟩ := I.list (Or.inl (Or.inl (nw.sub _ _ h1)) : SqL X.K H1 l vs)
    simp only at hc hdt
    subst hc hdt
    have hlp : l ≠ p := fun e => by
      subst e
      rw [h1] at hp'
      cases hp'
    exact main (fun e => hlp (by injection e)) (T := "list") ⟨_, ho, rfl⟩ (by simp) PySem.F.slot_list_eq fun _ hq => call_meets PySem.F.slot_list_eq ⟨_, ho, rfl⟩ PySem.F.entry_list_eq (PySem.F.args_list_eq_2 _ _) (list_declines_own X.K p (cl c) l its.toArray m dd sl) ⟨⟨ho, XK, ⟨_, _, J⟩, nsb "list" (by simp)⟩, hq⟩
  | tup ds =>
    obtain ⟨l, vs, rfl, h1, h2⟩ := hd
    cases ru
    obtain ⟨its, rv, ⟨⟨cls, dd, data, sl⟩, ho, hc, m, hdt⟩, hlen⟩ := I.tuple (ex_t nw.sub h1)
    simp only at hc hdt
    subst hc hdt
    have hlp : l ≠ p := fun e => by
      subst e
      rw [ho] at hx
      cases hx
    exact main (fun e => hlp (by injection e)) (T := "tuple") ⟨_, ho, rfl⟩ (by simp) PySem.F.slot_tuple_eq fun _ hq => call_meets PySem.F.slot_tuple_eq ⟨_, ho, rfl⟩ PySem.F.entry_tuple_eq (PySem.F.args_tuple_eq_2 _ _) (tuple_declines_own X.K p (cl c) l its.toArray m dd sl) ⟨⟨ho, XK, ⟨_, _, J⟩, nsb "tuple" (by simp)⟩, hq⟩
  | _ => cases hp
theorem mix_turns (k : EqK X cl c ns F n) (nsb : NoSubs X.K (cl c)) (hrefl : ∀ ds r, ownEq c ns F (.ins c ns ds) (.ins c ns ds) = some r → r = true) (hr : Room (n + 1) X.A) {pins : List (Addr × Obj)} {σ : L2.St} {B H : Hp} {l p : Addr} {vs : List V} {ds : List D} {b : D} {rs : List Bool}
    (e : Ex B H) (hl : H l = some (.lst vs)) (hd : DVs (gx X cl) B vs ds) (hb : DV (gx X cl) B (.ref p) b) (cb : cleanIns c ns b = true) (q : eqMixAll c ns F b ds = some rs) :
    Turns X.prog X.w X.A X.xe l (.ref p) vs.length (fun i => rs.getD i false) (fun _ => KeptI X pins σ B H) := by
  intro i s ⟨B1, H1, I, nw⟩
  obtain ⟨z, its, m, hv, hg⟩ := (show ObjOk X.prog X.w H1 s.heap l (.lst vs) from I.hok l _ (nw.kp _ _ hl))
  have hz : its.toArray.size = vs.length := by
    rw [List.size_toArray]
    exact hv.length.symm
  refine ⟨its.toArray, m, hg, hz, fun h1 => ?_⟩
  have hi : i < vs.length := by rw [← hz]; exact h1
  have hdi : i < ds.length := by rw [← hd.length]; exact hi
  obtain ⟨v, hvi, hD⟩ := hd.get (List.getElem?_eq_getElem hdi)
  obtain ⟨d, hdd⟩ : ∃ d, d = ds[i] := ⟨_, rfl⟩
  rw [← hdd] at hD
  have hds : ds[i]? = some d := by rw [hdd]; exact List.getElem?_eq_getElem hdi
  obtain ⟨r, hri, hown⟩ := (eqMix_get q).2 i d hds
  have her : rs.getD i false = r := by simp [List.getD, hri]
  obtain ⟨u, hu, ru⟩ := hv.get hvi
  have hit : its.toArray[i] = u := by
    have g1 : its[i]? = some its.toArray[i] := by
      have h1' : i < its.length := by simpa using h1
      rw [List.getElem?_eq_getElem h1'] <;> simp
    rw [g1] at hu
    exact Option.some.inj hu
  rw [hit]
  dsimp only
  rw [her]
  have hD1 := hD.mono nw.ex
  have hb1 := hb.mono nw.ex
  unfold eqMix at hown
  split at hown
  · rename_i ci
    have q1 : eqAll c ns F b [d] = some [r] := by simp [eqAll, hown]
    obtain ⟨es, rfl, ce⟩ := cleanIns_inv ci
    obtain ⟨bs, rfl, cbs⟩ := cleanIns_inv cb
    have hD0 := hD1
    have hb0 := hb1
    obtain ⟨a, dx, us, rfl, ha, hlen, hus⟩ := hD1
    obtain ⟨p', dy, ws, ep, hp, hlen2, hws⟩ := hb1
    cases ep
    cases ru
    by_cases hab : a = p
    · subst hab
      have : us = ws := by
        rw [ha] at hp
        have h5 : ns.zip us = ns.zip ws := by injection hp with h; injection h
        have h6 := congrArg (List.map Prod.snd) h5
        rwa [List.map_snd_zip (by omega), List.map_snd_zip (by omega)] at h6
      subst this
      have : es = bs := DVs.inj I nw.sub hus hws ce cbs
      subst this
      have := hrefl _ _ hown
      subst this
      exact SeqAt.EqAt.same (A := X.A.in1) (s := s) (.ref a) X.prog X.w X.xe _ ⟨rfl, B1, H1, I, nw⟩
    · obtain ⟨ds', fin, _, r2, hF⟩ := ownEq_inv hown
      obtain ⟨f, fd, ps, F0, g1, g2, g3⟩ := k.eq
      obtain ⟨tb, ty, nf⟩ := right_ty k hb0 nw.sub r2
      refine GQ.eqBool_refG hab ?_
      obtain ⟨mA, J, _⟩ := ins_get I.hok (nw.sub _ _ ha)
      obtain ⟨od, J, _⟩ := J.look
      obtain ⟨m', hFr⟩ := I.fr
      obtain ⟨Pk, kx, hk, _⟩ := kit_of I (show L2.RelV (V.ref p) (Value.ref p) from rfl) ty
      refine PySem.W.cmp_K (op := .Eq) (tb := tb) hr.in1.units0 hFr I.ok.mod.kin J (kx.ty _ _ I.kIn hk) nf g1 g2 ?_
      refine wpAny_mono (call_own F0 g3 passes0 hr.in1 rfl I (show L2.RelV (V.ref p) (Value.ref p) from rfl) (Q := fun w H' => w = .bl r ∧ ∃ B', New B1 H1 B' H' (fun _ => False)) (own_sp hD0 hb0 nw.sub hF fun B' H' n2 => ⟨⟨r, rfl⟩, rfl, B', n2⟩)) (fun w s' z => ?_) fun _ _ x => x
      obtain ⟨b', H', rfl, I', e1, B', n2⟩ := z
      cases e1
      exact ⟨r, rfl, rfl, B', H', I', nw.two n2⟩
  · split at hown
    · rename_i hp
      exact refl_step k nsb hr I nw hD1 hb1 ru hp hown
    · cases hown
def seekMix (c : Str) (ns : List Str) (F : Fn) (b : D) (s : S) : Option (List Bool) := (elems s).bind fun ds => if cleanIns c ns b = true then eqMixAll c ns F b ds else none
def bInMix (c : Str) (ns : List Str) (F : Fn) : List S → Option S
  | [.im b, s] => (seekMix c ns F b s).map fun rs => .im (.bl (rs.any id))
  | _ => none
def rMix (X : Cx) (cl : Str → Addr) (c : Str) (ns : List Str) (F : Fn) : R2 := fun x y H Q => ∃ (B : Hp) (p l : Addr) (b : D) (vs : List V) (ds : List D) (rs : List Bool), x = .ref p ∧ y = .ref l ∧ Ex B H ∧ H l = some (.lst vs) ∧ DVs (gx X cl) B vs ds ∧ DV (gx X cl) B (.ref p) b ∧
  cleanIns c ns b = true ∧ eqMixAll c ns F b ds = some rs ∧ ∀ B' H', New B H B' H' (fun _ => False) → Q (.bl (rs.any id)) H'
theorem op_inMix (k : EqK X cl c ns F n) (nsb : NoSubs X.K (cl c)) (hrefl : ∀ ds r, ownEq c ns F (.ins c ns ds) (.ins c ns ds) = some r → r = true) (hr : Room (n + 1) X.A) : OpR X (compareOp .In) (rMix X cl c ns F) := by
  rintro pins s σ H x y v u Q I rx ry ⟨B, p, l, b, vs, ds, rs, rfl, rfl, e, hl, hd, hb, cb, q, kq⟩
  cases rx
  cases ry
  have hlen : vs.length = rs.length := hd.length.trans (eqMix_get q).1.symm
  refine in_own _ (mix_turns k nsb hrefl hr (pins := pins) (σ := σ) e hl hd hb cb q) (fun i s' _ h => ?_) ⟨B, H, I, New.refl e⟩
  obtain ⟨B', H', I', nw⟩ := h
  rw [hlen, anyTo_from _ 0 (by omega), List.drop_zero]
  exact ⟨.bl _, H', I', rfl, kq B' H' nw⟩
theorem opn_inMix (k : EqK X cl c ns F n) (nsb : NoSubs X.K (cl c)) (hrefl : ∀ ds r, ownEq c ns F (.ins c ns ds) (.ins c ns ds) = some r → r = true) (hr : Room (n + 1) X.A) : OpN X cl (relCmp X .In) (bInMix c ns F) := fun B H vs ss z e hl hs hg Q kq => by
  unfold bInMix at hg
  split at hg
  · rename_i b s
    cases q : seekMix c ns F b s with
    | none => rw [q] at hg; cases hg
    | some rs =>
      rw [q] at hg
      cases hg
      obtain ⟨v, u, rfl, ⟨_, hv, _⟩, hu⟩ := hs2 hl hs
      unfold seekMix at q
      cases h1 : elems s with
      | none => rw [h1] at q; cases q
      | some ds =>
        rw [h1] at q
        simp only [Option.bind_some] at q
        split at q
        · rename_i cb
          obtain ⟨f, hu⟩ := hu
          obtain ⟨l, us, rfl, hL, hD⟩ := elems_ok hu e h1
          have cb0 := cb
          obtain ⟨bs, rfl, _⟩ := cleanIns_inv cb0
          have hv0 := hv
          obtain ⟨p, dx, ws, rfl, _, _, _⟩ := hv0
          exact ⟨_, l2_cmp (op_inMix k nsb hrefl hr), _, _, rfl, B, p, l, _, us, ds, rs, rfl, rfl, e, hL, hD, hv, cb, q, fun B' H' nw => kq _ B' H' _ nw ⟨rfl, fun _ z => z⟩⟩
        · cases q
  · cases hg
end
end Av
end
set_option Elab.async false
set_option linter.all false
set_option maxRecDepth 100000
set_option maxHeartbeats 2000000
/-! Promises that hold where no repr is under way (what repr of a list asks). -/
noncomputable section
namespace Av
open PySem L2 PySem.Spec PyProof.Rows
/-- a promise of a def, kept wherever no guard stands -/
structure FnG (P : Program) (w : World) (K : PySem.W.Frag) (mg : Str → Option Value) (base : Heap) (CX : CXT) (k : Nat) (f : Addr) (fd : FuncData) (ps : List Str) (sp : Sp) : Prop where
  len : ∀ vs H Q E, sp vs H Q E → vs.length = ps.length
  run : ∀ (A : Around) (out : List PySem.Env) (s : Shared) (H : Hp) (ar : Args) (us : List Value) (vs : List V) (Q : VK) (E : XK), Room k A → A.guards = some [] →
    Env0 P w K mg base A out s H → BindsTo s fd ar (ps.zip us) → Vals vs us → sp vs H Q E → codeAny (model P w) A (.call (.ref f) ar) (CR CX out P w H s Q E) s
section
variable {P : Program} {w : World} {K : PySem.W.Frag} {mg : Str → Option Value} {base : Heap} {cl : Str → Addr}
theorem fnG_of {CX : CXT} {x qual : Str} {st : Stmt} {f : Addr} {fd : FuncData} {N ps : List Str} {k : Nat} {sp : Sp} (Fd : Fun K x qual st f fd) (Sc : FnScope N ps (defScope st)) (len : ∀ vs H Q E, sp vs H Q E → vs.length = ps.length)
    (hb : ∀ (cdv : Value) (A : Around) (out : List PySem.Env) (s : Shared) (H : Hp) (vs : List V) (Q : VK) (E : XK), Room k (A.deeper (envOfC qual (defScope st) s.heap.objs.size f cdv)) → A.guards = some [] → sp vs H Q E →
      ∃ t, PSs (cxOf CX P w K mg base N qual (defScope st) f cdv A out s H E) (defBody st) t ∧ t { nx := fun _ H' => Q .non H', rt := Q } (L2.start N vs) H) : FnG P w K mg base CX (k + 1) f fd ps sp := by
  obtain ⟨oc, od, kV, doc, pm, an, cdv, ct, osl, rfl, hlook, hcode⟩ := Fd.ex
  refine ⟨len, ?_⟩
  intro A out s H ar us vs Q E hr hgd env0 hbind rvals hsp
  have lvs := len _ _ _ _ hsp
  have old : ∀ b o, base.get? b = some o → s.heap.get? b = some o := fun b o e => (env0.bs b o e).1
  have inK : K.In s.heap := env0.mod.kin.keeps old
  have noLim : s.heap.NoLimit := env0.mod.nolimit.keeps old
  have places : ∀ y ∈ ps.zip us, (defScope st).names.lookup y.1 = some .local ∨ ((defScope st).names.lookup y.1 = some .cell ∧ ((cellsFrom (s.heap.objs.size + 1) (defScope st).names []).lookup y.1).isSome = true) := by
    rintro ⟨n, v⟩ hy
    exact (Sc.par n (List.of_mem_zip hy).1).imp id fun q => ⟨q, PySem.W.cellsFrom_some _ _ _ (.inl q)⟩
  refine codeAny_call_function hr.depth (inK _ _ hlook) rfl Sc.co Sc.gen rfl
    (PySem.W.codeRec_of inK hcode) (hbind _ _ _ _ (wpAny_newFunctionEnv_cells Sc.kind places ?_))
  rintro env rfl s1 made
  refine ⟨noLim.keeps made.toInCall.keep, codeAny_func ?_⟩
  obtain ⟨t, ht, hq⟩ := hb cdv A out s H vs Q E (hr.deeper _) hgd hsp
  have I := inv_start (CX := CX) (E := E) (H := H) Sc hr.hd env0 lvs rvals made
  refine wpAny_mono (ht.run [] s1 _ H _ I hq) ?_ fun _ _ z => z
  intro fl s' hs
  have done : ∀ {σ' : L2.St} {H' : Hp} {v : V} {u : Value}, Inv (cxOf CX P w K mg base N qual (defScope st) f cdv A out s H E) [] σ' H' s' → RelV v u → Q v H' → CE out P w H s Q u s' := by
    intro σ' H' v u J rv q
    exact ⟨v, H', J.os, J.bare, J.base, J.hok, rv, q⟩
  match fl, hs with
  | .ret u, ⟨v, σ', H', J, rv, q⟩ => exact done J rv q
  | .next, ⟨σ', H', J, q⟩ => exact done (v := V.non) (u := Value.none) J rfl q
  | .brk, ⟨_, _, _, q⟩ => exact False.elim q
  | .cont, ⟨_, _, _, q⟩ => exact False.elim q
theorem fn_okG {x qual : Str} {st : Stmt} {f : Addr} {fd : FuncData} {N ps : List Str} {k : Nat} {Rs : List Nat} {g : MS} (Fd : Fun K x qual st f fd) (Sc : FnScope N ps (defScope st)) (hR : ∀ i ∈ Rs, i < ps.length)
    (hb : ∀ (cdv : Value) (A : Around) (outer : List PySem.Env) (s : Shared) (H : Hp) (E : XK), Room k (A.deeper (PyProof.Rows.envOfC qual (defScope st) s.heap.objs.size f cdv)) → A.guards = some [] →
      GSs (cxOf (L2.CX P w) P w K mg base N qual (defScope st) f cdv A outer s H E) cl (fun c d _ H => E c d H) Rs (defBody st) g) :
    FnG P w K mg base (L2.CX P w) (k + 1) f fd ps (spF ⟨K, cl⟩ ps.length (fnM ps.length N.length Rs g)) := by
  refine fnG_of Fd Sc (fun vs H Q E h => h.1) fun cdv A outer s H vs Q E hr hgd h => ?_
  obtain ⟨hl, B, args, fp, out, fin, ex, sv, hF, k0⟩ := h
  refine ⟨_, pss_U, ?_⟩
  obtain ⟨Z, E0, hz⟩ := EV.start ex sv
  have E1 := E0.pad (N.length - ps.length)
  unfold fnM at hF
  split at hF
  · have hst : L2.start N vs = vs.map some ++ List.replicate (N.length - ps.length) none := by
      unfold L2.start
      rw [hl]
    rw [hst]
    -- what a normal end and an exception give
    have done : ∀ (fl : Fl) (ρ' : Env), g (args.map some ++ List.replicate (N.length - ps.length) none) = some (fl, ρ') →
        (∀ s, fl = .rt s → out = .ret s ∧ fin = finsAt Rs ρ' 0 ps.length) → (fl = .nx → out = .ret (.im .non) ∧ fin = finsAt Rs ρ' 0 ps.length) →
        (∀ c ns xs, fl = .er c ns xs → out = .er c ns xs ∧ fin = finsAt Rs ρ' 0 ps.length) → fl ≠ .bk → fl ≠ .ct →
        tUSs (cxOf (L2.CX P w) P w K mg base N qual (defScope st) f cdv A outer s H E) (defBody st) { nx := fun _ H' => Q .non H', rt := Q } (vs.map some ++ List.replicate (N.length - ps.length) none) H := by
      intro fl ρ' hg h1 h2 h3 h4 h5
      refine (hb cdv A outer s H E hr hgd).run _ B H _ Z fl ρ' E1 hg _ fun σ' B' H' Z' kp E' => ?_
      obtain ⟨fa, g1, g2⟩ := E'.fins (Rs := Rs) vs 0 fun j v hj hv => by
        rw [Nat.zero_add] at hj ⊢
        rw [kp j hj]
        have hj2 : j < (vs.map some).length := by
          rw [List.length_map]
          exact (List.getElem?_eq_some_iff.mp hv).1
        rw [List.getElem?_append_left hj2, List.getElem?_map, hv]
        rfl
      have lift : ∀ {Z2 : Set'}, Nx B H Z B' H' Z2 → Nx B H fp B' H' Z2 := fun {Z2} n => ⟨n.ex, fun a o ho nz => n.fr a o ho fun z => nz ((hz a).mp z), fun a z => (n.gr a z).elim (fun q => .inl ((hz a).mp q)) .inr⟩
      rw [hl] at g1
      cases fl with
      | nx =>
        obtain ⟨rfl, rfl⟩ := h2 rfl
        intro n
        exact (k0 B' H' fa E'.sub g1).1 _ rfl .non (fun _ => False) (lift (n.sub fun a z => z.elim False.elim (g2 a))) ⟨rfl, fun _ z => z⟩ fun _ z => z.elim
      | rt sv =>
        obtain ⟨rfl, rfl⟩ := h1 sv rfl
        intro v f2 n hv ap
        exact (k0 B' H' fa E'.sub g1).1 _ rfl v f2 (lift (n.sub fun a z => z.elim .inl fun y => .inr (g2 a y))) hv fun a ha z => ap a ha (g2 a z)
      | er c ns xs =>
        obtain ⟨rfl, rfl⟩ := h3 c ns xs rfl
        intro n d hd
        exact (k0 B' H' fa E'.sub g1).2 c ns xs rfl (lift (n.sub fun a z => g2 a z)) d hd
      | bk => exact (h4 rfl).elim
      | ct => exact (h5 rfl).elim
    split at hF
    · rename_i s' ρ' hg
      cases hF
      exact done _ _ hg (fun s h => by cases h; exact ⟨rfl, rfl⟩) (fun h => nomatch h) (fun _ _ _ h => nomatch h) (fun h => nomatch h) (fun h => nomatch h)
    · rename_i ρ' hg
      cases hF
      exact done _ _ hg (fun s h => nomatch h) (fun h => ⟨rfl, rfl⟩) (fun _ _ _ h => nomatch h) (fun h => nomatch h) (fun h => nomatch h)
    · rename_i c ns xs ρ' hg
      cases hF
      exact done _ _ hg (fun s h => nomatch h) (fun h => nomatch h) (fun _ _ _ h => by cases h; exact ⟨rfl, rfl⟩) (fun h => nomatch h) (fun h => nomatch h)
    · cases hF
  · cases hF
/-- a def keeps the promise of its function where no guard stands -/
def CalG (P : Program) (w : World) (K : PySem.W.Frag) (mg : Str → Option Value) (base : Heap) (cl : Str → Addr) (x : Str) (k n : Nat) (F : Fn) : Prop :=
  ∃ fa fd ps, FnG P w K mg base (L2.CX P w) k fa fd ps (spF ⟨K, cl⟩ n F) ∧ mg x = some (.ref fa) ∧ PySem.W.keepIn K (.ref fa) = true ∧ Binds K fd ps []
theorem cal_ofG {x : Str} {st : Stmt} {N ps : List Str} {k : Nat} {Rs : List Nat} {g : MS} (Df : DefIn K mg x st ps) (Sc : FnScope N ps (defScope st)) (hR : ∀ i ∈ Rs, i < ps.length)
    (hb : ∀ (f : Addr) (cdv : Value) (A : Around) (outer : List PySem.Env) (s : Shared) (H : Hp) (E : XK), Room k (A.deeper (PyProof.Rows.envOfC x (defScope st) s.heap.objs.size f cdv)) → A.guards = some [] →
      GSs (cxOf (L2.CX P w) P w K mg base N x (defScope st) f cdv A outer s H E) cl (fun c d _ H => E c d H) Rs (defBody st) g) :
    CalG P w K mg base cl x (k + 1) ps.length (fnM ps.length N.length Rs g) := by
  obtain ⟨f, fd, Fd, hm, b⟩ := Df
  exact ⟨f, fd, ps, fn_okG Fd Sc hR fun cdv A outer s H E hr hgd => hb f cdv A outer s H E hr hgd, hm, Fd.kp, b⟩
end
section
variable {X : Cx} {cl : Str → Addr} {W : WX} {e : Expr} {es : List Expr} {f : M (List R)} {pos p : Pos} {F : Fn} {n k : Nat} {x : Str}
theorem pe_callG {CX : CXT} {fa : Addr} {fd : FuncData} {ps : List Str} {sp : Sp} {E : L2.St → XK} {t : TA} (hF : FnG X.prog X.w X.K X.mg X.base CX k fa fd ps sp) (hr : Room k X.A) (hgd : X.A.guards = some []) (hg : Gl X x) (hm : X.mg x = some (.ref fa)) (hk : PySem.W.keepIn X.K (.ref fa) = true)
    (hb : Binds X.K fd ps []) (hx : ∀ σ, PassesAt CX X σ (E σ)) (ha : PA X (e :: es) t) (hdb : (x == ("__debug__" : Str)) = false) (he : starEach (e :: es) X.env = (false, eval e X.env) :: starEach es X.env) (hpl : (backTo pos (starEach es X.env)).any (·.1) = false) :
    PE X (.Call (.Name x p) (e :: es) [] pos) (tCallS sp E t) := by
  refine ⟨fun pins s σ H Q I h => wpAny_Call_Name_kw (ld_glob I hg hm ?_ hdb)⟩
  refine PySem.W.callWith_K (h₀ := X.base) I.ok.mod.kin hk (thn (ha.run pos pins s σ H _ I h) ?_) he hpl
  rintro us s1 ⟨vs, H1, I1, rv, hsp⟩
  refine ⟨I1.kIn, ?_⟩
  have hl : us.length = ps.length := rv.length.symm.trans (hF.len _ _ _ _ hsp)
  have hbd : BindsTo s1 fd ⟨us, []⟩ (ps.zip us) := by
    have q := hb s1 us I1.kIn (by simpa using hl)
    simpa using q
  refine wpAny_call (codeAny_mono (hF.run X.A X.stack s1 H1 ⟨us, []⟩ us vs Q (E σ) hr hgd I1.env0 hbd rv hsp) ?_)
  intro r s' hq
  match r, hq with
  | .error ex, hq => exact hx σ pins H1 s1 ex s' I1 hq
  | .ok (.ret u), hq => exact I1.after hq
  | .ok .next, hq => exact False.elim hq
  | .ok .brk, hq => exact False.elim hq
  | .ok .cont, hq => exact False.elim hq
theorem ge_callG (c : CalG X.prog X.w X.K X.mg X.base cl x k n F) (hr : Room k X.A) (hgd : X.A.guards = some []) (tk : Takes X W) (h : GA X cl W (e :: es) f) (hgl : ∀ ρ rs ρ', f ρ = some (.ok rs, ρ') → rs.length = n) (hg : Gl X x := by rfl) (hlen : (e :: es).length = n := by rfl)
    (hdb : (x == ("__debug__" : Str)) = false := by decide) (he : starEach (e :: es) X.env = (false, eval e X.env) :: starEach es X.env := by rfl) (hpl : (backTo pos (starEach es X.env)).any (·.1) = false := by rfl) :
    GE X cl W (.Call (.Name x p) (e :: es) [] pos) (xCall F f) := ⟨fun σ B H ρ Z res ρ' E e1 Q k0 ke => by
  obtain ⟨fa, fd, ps, h1, h2, h3, h4⟩ := c
  refine ⟨_, pe_callG h1 hr hgd hg h2 h3 h4 (fun σ => passAt tk σ) pa_U hdb he hpl, ?_⟩
  rcases bind_ok e1 with ⟨rs, ρ1, e2, e3⟩ | ⟨c, ns, xs, e2, e3⟩
  · refine h.run σ B H ρ Z _ _ E e2 _ (fun rs' er vs B1 H1 Z1 fp n1 E1 rvs ap => ?_) (fun _ _ _ q => by cases q)
    cases er
    exact call_ready E n1 E1 rvs ap (rvs.len.trans (hgl _ _ _ e2)) e3 k0 ke
  · subst e3
    exact h.run σ B H ρ Z _ _ E e2 _ (fun _ q => by cases q) fun _ _ _ q => by cases q; exact ke _ _ _ rfl⟩
end
end Av
end
set_option Elab.async false
set_option linter.all false
set_option maxRecDepth 100000
set_option maxHeartbeats 2000000
/-! The law's def called from the row, its promise one of no guards. -/
noncomputable section
namespace Av
open PySem L2 PySem.Spec PyProof.Rows
section
variable {P : Program} {w : World} {K : PySem.W.Frag} {mg mb : Str → Option Value} {CX : CXT} {k : Nat} {fa a : Addr} {fd : FuncData} {x : Str} {sp : Sp} {s1 : Shared} {us : List Value} {ns : List Int}
/-- what is told at the end of the law -/
def Told (s1 : Shared) (r : Result) (s' : Shared) : Prop := r = .ok (.ret (.bool true)) ∧ OldK s1.heap s'.heap ∧ s'.os = s1.os ∧ AllBare s'.gens
theorem rowG_core (KX : K.In s1.heap) (hns : s1.heap.Ns mainGlobals mg) (hb : s1.heap.Ns builtinsNs mb) (hbb : ∀ x : Str, x ≠ "__name__" → mb x = bootBuiltins x) (hlim : s1.heap.NoLimit) (hg : s1.gens = #[])
    (ha : s1.heap.get? a = some { cls := .type "list", data := .seq us.toArray }) (hr : Room k callerA)
    (F : ∀ base : Heap, K.In base → base.Ns mainGlobals mg → FnG P w K mg base CX k fa fd [x] sp) (hbind : ∀ (s : Shared) (u : Value), BindsTo s fd ⟨[u], []⟩ [(x, u)])
    (hsp : ∀ H : Hp, Only H → SqL K H a (ns.map V.int) → sp [.ref a] H (fun v _ => v = .bl true) fun _ _ _ => False) (hCX : ∀ H e s', CX [] H s1 (fun _ _ _ => False) e s' → False)
    {H : Hp} (only : Only H) (script : SqL K H a (ns.map V.int)) (ok : HOk P w H s1.heap) (alone : ∀ b, H b ≠ none → b = a) (notK : H a ≠ none → K.lookup a = none) : codeAny (model P w) callerA (.call (.ref fa) ⟨[.ref a], []⟩) (Told s1) s1 := by
  have out : ∀ b, b ≠ a → H b = none := fun b n => by
    cases q : H b with
    | none => rfl
    | some u => exact (n (alone b (by rw [q]; exact nofun))).elim
  have hid : ∀ {b : Addr} {o : Obj}, s1.heap.get? b = some o → H b = none → (hidT s1.heap H).get? b = some o := fun e n => hidT_get e n
  have dictN : ∀ {b : Addr} {o : Obj} {es : Array DictEntry} {ep : Nat}, s1.heap.get? b = some o → o.data = .dict es ep → H b = none := by
    intro b o es ep e d
    refine out b fun q => ?_
    rw [q, ha] at e
    cases e
    cases (show Data.seq us.toArray _ = Data.dict es ep from d)
  have nsT : ∀ {b : Addr} {m : Str → Option Value}, s1.heap.Ns b m → (hidT s1.heap H).Ns b m := by
    rintro b m ⟨o, es, ep, e, d, r⟩
    exact ⟨o, es, ep, hid e (dictN e d), d, r⟩
  have inT : K.In (hidT s1.heap H) := by
    intro b o e
    refine hid (KX b o e) ?_
    cases q : H b with
    | none => rfl
    | some u =>
      have hu : H b ≠ none := by rw [q]; exact nofun
      have e' := alone b hu
      rw [e'] at e hu
      rw [notK hu] at e
      cases e
  obtain ⟨mc, l1, l2⟩ := hlim
  have md : Mod K mg (hidT s1.heap H) := ⟨inT, nsT hns, ⟨mb, nsT hb, hbb⟩, ⟨mc, nsT l1, l2⟩⟩
  have env0 : Env0 P w K mg (hidT s1.heap H) callerA [] s1 H :=
    ⟨rfl, md, fun b o e => of_hidT e, Nat.le_of_eq (hidT_size _ _), trivial, fun b hb => (List.not_mem_nil hb).elim, ok, .of_eq hg⟩
  refine codeAny_mono ((F _ inT (nsT hns)).run callerA [] s1 H ⟨[.ref a], []⟩ [.ref a] [.ref a] _ _ hr rfl env0 (hbind s1 (.ref a)) (.cons rfl .nil) (hsp H only script)) ?_
  intro r s' h
  match r, h with
  | .error e, h => exact (hCX H e s' h).elim
  | .ok .next, h => exact False.elim h
  | .ok .brk, h => exact False.elim h
  | .ok .cont, h => exact False.elim h
  | .ok (.ret u), ⟨v, H', os, bare, un, ok', rv, q⟩ =>
    subst q
    cases rv
    refine ⟨rfl, OldK.of_keep ?_, os, bare⟩
    intro b o e
    cases q : H b with
    | none => exact un.keep b o e q (fun z => (List.not_mem_nil z).elim) (by simp)
    | some u =>
      obtain z | ⟨ob, xs, z⟩ := only b
      · rw [q] at z
        cases z
      · obtain ⟨e1, _⟩ := ok b _ z
        obtain ⟨e2, _⟩ := ok' b _ (un.frzs b ob _ z)
        rw [e] at e1
        cases e1
        exact e2
theorem rowG (KX : K.In s1.heap) (hns : s1.heap.Ns mainGlobals mg) (hb : s1.heap.Ns builtinsNs mb) (hbb : ∀ x : Str, x ≠ "__name__" → mb x = bootBuiltins x) (hlim : s1.heap.NoLimit) (hg : s1.gens = #[])
    (ha : s1.heap.get? a = some { cls := .type "list", data := .seq us.toArray }) (hi : IntsAre us ns) (hl : ns.length ≤ sizeLine) (hr : Room k callerA)
    (F : ∀ base : Heap, K.In base → base.Ns mainGlobals mg → FnG P w K mg base CX k fa fd [x] sp) (hbind : ∀ (s : Shared) (u : Value), BindsTo s fd ⟨[u], []⟩ [(x, u)])
    (hsp : ∀ H : Hp, Only H → SqL K H a (ns.map V.int) → sp [.ref a] H (fun v _ => v = .bl true) fun _ _ _ => False) (hCX : ∀ H e s', CX [] H s1 (fun _ _ _ => False) e s' → False) :
    codeAny (model P w) callerA (.call (.ref fa) ⟨[.ref a], []⟩) (Told s1) s1 := by
  have rv := vals_ints hi
  have core := fun H => rowG_core (H := H) KX hns hb hbb hlim hg ha hr F hbind hsp hCX
  cases hk : K.lookup a with
  | some o =>
    have e := (KX a o hk).symm.trans ha
    cases e
    exact core (fun _ => none) (fun _ => .inl rfl) (.inr ⟨_, us.toArray, _, hk, rfl, rfl, rfl, by rw [List.size_toArray, hi.length]; exact hl, by simpa using rv⟩) (fun b u z => by cases z) (fun b z => (z rfl).elim) fun z => (z rfl).elim
  | none =>
    let o1 : Obj := { cls := .type "list", data := .seq us.toArray }
    have at1 : ∀ b, b ≠ a → (if b = a then some (HO.frz o1 (.lst (ns.map V.int))) else none) = none := fun b n => if_neg n
    refine core (fun b => if b = a then some (.frz o1 (.lst (ns.map V.int))) else none) (fun b => ?_) (.inl (.inr ⟨o1, if_pos rfl⟩)) (fun b u z => ?_) (fun b z => ?_) fun _ => hk
    · by_cases q : b = a
      · exact .inr ⟨o1, _, if_pos q⟩
      · exact .inl (at1 b q)
    · by_cases q : b = a
      · subst q
        have z' := (if_pos rfl).symm.trans z
        cases z'
        exact ⟨ha, by rw [List.length_map]; exact hl, us, _, rv, ha⟩
      · cases (at1 b q).symm.trans z
    · exact Decidable.byContradiction fun q => z (at1 b q)
end
theorem walk_ofG {l : PySem.W.OpenLaw} {n k : Nat} {q : Program} {loose : List Str} {XP : (Str → Option Value) → Heap → Prop} {YP : World → Heap → Prop} {d : DefRec} {K : Params → PySem.W.Frag} {CX : World → CXT} {sp : World → Sp} {x : Str}
    (hn : l.most = some n) (hn2 : n ≤ sizeLine) (hdf : d.params.defaults = []) (hr : Room k callerA) (hY : ∀ (w : World) (h : Heap), YP w h → (K w.params).In h)
    (F : ∀ (w : World) (mg : Str → Option Value) (fa : Addr) (h : Heap), (K w.params).In h → h.Ns mainGlobals mg → mg d.name = some (.ref fa) →
      ∃ fd : FuncData, (∀ (s : Shared) (u : Value), BindsTo s fd ⟨[u], []⟩ [(x, u)]) ∧ ∀ base : Heap, (K w.params).In base → base.Ns mainGlobals mg → FnG l.prog w (K w.params) mg base (CX w) k fa fd [x] (sp w))
    (hsp : ∀ (w : World) (H : Hp) (a : Addr) (ns : List Int), ns.length ≤ n → (∀ z ∈ ns, Builtin.Int.intBits z ≤ 1048576) → Only H → SqL (K w.params) H a (ns.map V.int) → sp w [.ref a] H (fun v _ => v = .bl true) fun _ _ _ => False)
    (hCX : ∀ (w : World) (H : Hp) (s : Shared) (e : Value) (s' : Shared), CX w [] H s (fun _ _ _ => False) e s' → False) : PySem.W.WalkO q loose XP YP l.row.toRowW d [] (fun f vs => PySem.call f vs) := by
  refine Att.attach_callB hn hdf ?_
  intro w s0 s1 mg mb fa o pm cd doc a us ns G Y ho hd hcd hmg hobj hints hlen hbits hg
  obtain ⟨fd, hb, hF⟩ := F w mg fa _ (hY w _ Y) G.T.g hmg
  exact rowG (hY w _ Y) G.T.g G.T.b G.T.builtins G.T.nolimit hg hobj hints (Nat.le_trans hlen hn2) hr hF hb (fun H hO hS => hsp w H a ns hlen hbits hO hS) fun H e s' => hCX w H s1 e s'
theorem FnG.imp {P : Program} {w : World} {K : PySem.W.Frag} {mg : Str → Option Value} {base : Heap} {CX : CXT} {k : Nat} {f : Addr} {fd : FuncData} {ps : List Str} {sp sp' : Sp} (F : FnG P w K mg base CX k f fd ps sp) (h : ∀ vs H Q E, sp' vs H Q E → sp vs H Q E) : FnG P w K mg base CX k f fd ps sp' :=
  ⟨fun vs H Q E q => F.len vs H Q E (h _ _ _ _ q), fun A out s H ar us vs Q E hr hgd e0 hb hv hs => F.run A out s H ar us vs Q E hr hgd e0 hb hv (h _ _ _ _ hs)⟩
theorem law_ofG {P : Program} {w : World} {K : PySem.W.Frag} {mg : Str → Option Value} {base : Heap} {cl : Str → Addr} {k : Nat} {fa : Addr} {fd : FuncData} {ps : List Str} {F : Fn} (h : FnG P w K mg base (L2.CX P w) k fa fd ps (spF ⟨K, cl⟩ 1 F))
    (q : ∀ ns : List Int, ns.length ≤ 63 → (∀ z ∈ ns, Builtin.Int.intBits z ≤ 1048576) → ∃ fin, F [.im (.slst (ns.map .int))] = some (.ret (.im (.bl true)), fin) ∧ (fin = [] ∨ fin = [none])) : FnG P w K mg base (L2.CX P w) k fa fd ps (spT K) := by
  refine h.imp (fun vs H Q E r => ?_)
  obtain ⟨a, ns, rfl, hS, h63, hb, k0⟩ := r
  obtain ⟨fin, hF, hfin⟩ := q ns h63 hb
  have sv : SVs ⟨K, cl⟩ H H [.ref a] [.im (.slst (ns.map .int))] (fun _ => False) := ⟨_, _, fun _ => False, fun _ => False, rfl, ⟨⟨a, _, rfl, hS, dvs_ints ns⟩, fun _ z => z⟩, ⟨rfl, fun _ z => z⟩, fun _ z => z.elim, fun _ => ⟨False.elim, fun z => z.elim id id⟩⟩
  refine ⟨rfl, H, _, fun _ => False, _, fin, Ex.refl H, sv, hF, fun B' H' fb e so => ⟨fun s es v f nx sv ap => ?_, fun c ns xs er => nomatch er⟩⟩
  cases es
  rw [show v = .bl true from sv.1]
  exact k0 H'
end Av
end
set_option Elab.async false
set_option linter.all false
set_option maxRecDepth 100000
set_option maxHeartbeats 2000000
/-! is True, is False; repr of data and of own instances; f-strings. -/
noncomputable section
namespace Av
open PySem L2 PySem.Spec PyProof.Rows
/-! ### is, of truths -/
def bIsB : List S → Option S
  | [.im (.bl a), .im (.bl b)] => some (.im (.bl (decide (a = b))))
  | _ => none
def bIsNotB : List S → Option S
  | [.im (.bl a), .im (.bl b)] => some (.im (.bl (!decide (a = b))))
  | _ => none
section
variable {X : Cx} {cl : Str → Addr}
theorem op_isB : OpR X (compareOp .Is) (fun x y H Q => ∃ a b, x = .bl a ∧ y = .bl b ∧ Q (.bl (decide (a = b))) H) := by
  rintro pins s σ H x y v u Q I rx ry ⟨a, b, rfl, rfl, q⟩
  cases rx
  cases ry
  have e : compareOp .Is (.bool a) (.bool b) = pure (.bool (decide (a = b))) := by cases a <;> cases b <;> rfl
  rw [e]
  exact wpAny_pure ⟨.bl _, H, I, rfl, q⟩
theorem op_isNotB : OpR X (compareOp .IsNot) (fun x y H Q => ∃ a b, x = .bl a ∧ y = .bl b ∧ Q (.bl (!decide (a = b))) H) := by
  rintro pins s σ H x y v u Q I rx ry ⟨a, b, rfl, rfl, q⟩
  cases rx
  cases ry
  have e : compareOp .IsNot (.bool a) (.bool b) = pure (.bool (!decide (a = b))) := by cases a <;> cases b <;> rfl
  rw [e]
  exact wpAny_pure ⟨.bl _, H, I, rfl, q⟩
theorem opn_isB : OpN X cl (relCmp X .Is) bIsB := fun B H vs ss z e hl hs hg Q k => by
  unfold bIsB at hg
  split at hg
  · cases hg
    obtain ⟨v, u, rfl, ⟨_, h1, _⟩, ⟨_, h2, _⟩⟩ := hs2 hl hs
    cases h1; cases h2
    exact ⟨_, l2_cmp op_isB, _, _, rfl, _, _, rfl, rfl, k _ B H _ (New.refl e) ⟨rfl, fun _ z => z⟩⟩
  · cases hg
theorem opn_isNotB : OpN X cl (relCmp X .IsNot) bIsNotB := fun B H vs ss z e hl hs hg Q k => by
  unfold bIsNotB at hg
  split at hg
  · cases hg
    obtain ⟨v, u, rfl, ⟨_, h1, _⟩, ⟨_, h2, _⟩⟩ := hs2 hl hs
    cases h1; cases h2
    exact ⟨_, l2_cmp op_isNotB, _, _, rfl, _, _, rfl, rfl, k _ B H _ (New.refl e) ⟨rfl, fun _ z => z⟩⟩
  · cases hg
end
/-! ### repr of a list of data -/
def bReprD : List S → Option S
  | [s] => match elems s with
    | some ds => if SeqAt.shaped (.list (pys ds)) = true ∧ PyData.showable (.list (pys ds)) = true ∧ (PyData.shown (.list (pys ds))).length ≤ 100000 then some (.im (.str (PyData.shown (.list (pys ds))))) else none
    | none => none
  | _ => none
section
variable {X : Cx} {cl : Str → Addr}
theorem call_reprD (hgd : X.A.guards = some []) (hu : X.A.units + 66 < cLine) : CallR X (.builtin "repr") (fun xs H Q => ∃ (a : Addr) (ds : List PyData), xs = [V.ref a] ∧ Dp X.K H (V.ref a) (.list ds) ∧ SeqAt.shaped (.list ds) = true ∧ PyData.showable (.list ds) = true ∧ (PyData.shown (.list ds)).length ≤ sizeLine ∧ Q (.str (PyData.shown (.list ds))) H) := by
  rintro pins s σ H xs us Q I r ⟨a, ds, rfl, hd, hs, hsh, hlen, q⟩
  obtain ⟨u, rfl, ru⟩ := vals1 r
  cases ru
  obtain ⟨as, rd⟩ := Dp.reads I _ _ _ hd (show L2.RelV (V.ref a) (Value.ref a) from rfl)
  have hdep := SeqAt.depth_of_shaped hs
  refine repr_of_reads' (h₀ := s.heap) rd hsh (PyData.noDict_hsm (PyData.hasDict_of_canLay _ (SeqAt.canLay_of_shaped hs))) hgd (by omega) (fun b o e => e) (fun h' u tk hk => ?_) hlen
  exact ⟨.str _, H, I.kept hk, ⟨_, rfl⟩, q⟩
theorem opn_reprD (hgd : X.A.guards = some []) (hu : X.A.units + 66 < cLine) : OpN X cl (relCall X (.builtin "repr")) bReprD := fun B H vs ss z e hl hs hg Q k => by
  unfold bReprD at hg
  split at hg
  · rename_i s
    cases q : elems s with
    | none => rw [q] at hg; cases hg
    | some ds =>
      rw [q] at hg
      dsimp only at hg
      split at hg
      · rename_i hc
        cases hg
        obtain ⟨v, rfl, f, h1⟩ := hs1 hl hs
        obtain ⟨p, ws, rfl, hL, hD⟩ := elems_ok h1 e q
        exact ⟨_, call_reprD hgd hu, p, pys ds, rfl, .lst (sq_of hL) (DVs.dp e hD (SeqAt.canLay_of_shaped hc.1)), hc.1, hc.2.1, sz_of hc.2.2, k _ B H _ (New.refl e) ⟨rfl, fun _ z => z⟩⟩
      · cases hg
  · cases hg
end
/-! ### a method called in place -/
section
variable {X : Cx} {f : Addr} {fd : FuncData} {ps : List Str} {sp : Sp} {E : XK} {n : Nat} {CX : CXT}
theorem call_me (F : FnOk X.prog X.w X.K X.mg X.base CX n f fd ps sp) (hb : Binds X.K fd ps []) (hx : Passes CX X E) {A : Around} (hr : Room n A) (hfr : A.frames = X.A.frames) {pins : List (Addr × Obj)} {σ : L2.St} {H : Hp} {s : Shared} (I : Inv X pins σ H s)
    {vs : List V} {us : List Value} (rv : Vals vs us) {Q : VK} (hsp : sp vs H Q E) : wpAny (model X.prog X.w) A (call (.ref f) us) (fun u s' => ∃ z H', Inv X pins σ H' s' ∧ L2.RelV z u ∧ Q z H') X.xe s := by
  have hl : us.length = ps.length := rv.length.symm.trans (F.len _ _ _ _ hsp)
  have e0 : Env0 X.prog X.w X.K X.mg X.base A X.stack s H := by
    have e := I.env0
    exact ⟨by rw [hfr]; exact e.frames, e.mod, e.bs, e.bsz, e.funs, e.frf, e.hok, e.bare⟩
  have hbd : BindsTo s fd ⟨us, []⟩ (ps.zip us) := by
    have q := hb s us I.kIn (by simpa using hl)
    simpa using q
  refine wpAny_call (codeAny_mono (F.run A X.stack s H ⟨us, []⟩ us vs Q E hr e0 hbd rv hsp) fun r s' hq => ?_)
  match r, hq with
  | .error ex, hq => exact hx pins σ H s ex s' I hq
  | .ok (.ret u), hq =>
    obtain ⟨z, H', I', rz, q⟩ := I.after hq
    exact ⟨z, H', I', rz, q⟩
  | .ok .next, hq => exact False.elim hq
  | .ok .brk, hq => exact False.elim hq
  | .ok .cont, hq => exact False.elim hq
end
/-! ### repr of an own instance -/
/-- an own class whose __repr__ is the def of function F -/
structure ReK (X : Cx) (cl : Str → Addr) (c : Str) (ns : List Str) (F : Fn) (n : Nat) : Prop where
  re : ∃ f fd ps, FnOk X.prog X.w X.K X.mg X.base (L2.CX X.prog X.w) n f fd ps (spF (gx X cl) 1 F) ∧ PySem.W.findIn X.K (.ref (cl c)) "__repr__" = some (some (.ref f)) ∧ PySem.W.isFn X.K (.ref f) = true ∧ Binds X.K fd ps []
theorem rek_of {X : Cx} {cl : Str → Addr} {c : Str} {ns : List Str} {F : Fn} {n : Nat} (m : CalMe X.prog X.w X.K X.mg X.base cl c "__repr__" n 1 F) : ReK X cl c ns F n := by
  obtain ⟨f, fd, ps, h1, h2, h3, h4⟩ := m
  exact ⟨f, fd, ps, h1, h2, h3, h4⟩
def ownRepr (c : Str) (ns : List Str) (F : Fn) (d : D) : Option Str := match d with
  | .ins c' ns' _ => if c' = c ∧ ns' = ns then (match F [.im d] with
    | some (.ret (.im (.str x)), _) => some x
    | _ => none) else none
  | _ => none
def bReprOwn (c : Str) (ns : List Str) (F : Fn) : List S → Option S
  | [.im d] => (ownRepr c ns F d).map fun x => .im (.str x)
  | _ => none
section
variable {X : Cx} {cl : Str → Addr} {c : Str} {ns : List Str} {F : Fn} {n : Nat}
theorem opn_reprOwn (k : ReK X cl c ns F n) (hr : Room (n + 1) X.A) : OpN X cl (relCall X (.builtin "repr")) (bReprOwn c ns F) := fun B H vs ss z e hl hs hg Q kq => by
  unfold bReprOwn at hg
  split at hg
  · rename_i d
    cases q : ownRepr c ns F d with
    | none => rw [q] at hg; cases hg
    | some x =>
      rw [q] at hg
      cases hg
      unfold ownRepr at q
      split at q
      · rename_i c' ns' ds
        split at q
        · rename_i hc
          obtain ⟨rfl, rfl⟩ := hc
          split at q
          · rename_i x' fin hF
            cases q
            obtain ⟨v, rfl, _, h1, _⟩ := hs1 hl hs
            obtain ⟨f, fd, ps, F0, g1, g2, g3⟩ := k.re
            refine ⟨fun xs H1 Q1 => xs = [v] ∧ H1 = H ∧ ∀ B' H', New B H B' H' (fun _ => False) → Q1 (.str x) H', ?_, rfl, rfl, fun B' H' nw => kq _ B' H' _ nw ⟨rfl, fun _ z => z⟩⟩
            rintro pins s σ H1 xs us Q1 I r ⟨rfl, rfl, kq1⟩
            obtain ⟨u, rfl, ru⟩ := vals1 r
            have h0 := h1
            obtain ⟨p, dx, ws, rfl, hp, _, _⟩ := h1
            cases ru
            obtain ⟨mA, J, _⟩ := ins_get I.hok (e _ _ hp)
            obtain ⟨od, J, _⟩ := J.look
            obtain ⟨m', hFr⟩ := I.fr
            have hsp : spF (gx X cl) 1 F [.ref p] H1 (fun w H' => w = .str x ∧ ∃ B', New B H1 B' H' (fun _ => False)) (fun _ _ _ => False) := by
              refine ⟨rfl, B, [.im (.ins c' ns' ds)], fun _ => False, _, fin, e, ⟨_, _, fun _ => False, fun _ => False, rfl, ⟨h0, fun _ z => z⟩, ⟨rfl, fun _ z => z⟩, fun _ z => z.elim, fun _ => ⟨False.elim, fun z => z.elim id id⟩⟩, hF, fun B' H' fa hs so => ⟨fun s es w g nx sv ap => ?_, fun _ _ _ er => nomatch er⟩⟩
              cases es
              exact ⟨sv.1, B', nx.ex, hs, fun a o h => (nx.fr a o h id).1, fun a o h => (nx.fr a o h id).2, fun _ z => z.elim⟩
            refine PySem.W.repr_K hr.in1.units0 hFr I.ok.mod.kin J g1 g2 (wpAny_mono (call_me F0 g3 passes0 hr.in1 rfl I (.cons (show L2.RelV (V.ref p) (Value.ref p) from rfl) .nil) hsp) (fun w s' z => ?_) fun _ _ e => e)
            obtain ⟨z, H', I', rz, ⟨rfl, B', nw⟩⟩ := z
            obtain ⟨t, rfl⟩ := rz
            exact ⟨.str x, H', I', ⟨t, rfl⟩, kq1 B' H' nw⟩
          · cases q
        · cases q
      · cases q
  · cases hg
end
/-! ### f-strings -/
/-- what {x} shows -/
def txtOf : S → Option Str
  | .im (.str y) => if y.length ≤ 100000 then some y else none
  | .im (.int i) => if i.natAbs.log2 < 1920 then some (toString i) else none
  | _ => none
def xFmt (f : M R) : M R := f.bind fun r ρ => match (rd ρ r).bind txtOf with
  | some x => some (.ok (.t (.im (.str x))), ρ)
  | none => none
def joinX : List (M R) → Str → M R
  | [], acc => M.ret (.t (.im (.str acc)))
  | f :: fs, acc => f.bind fun r ρ => match rd ρ r with
    | some (.im (.str y)) => if (acc ++ y).length ≤ 100000 then joinX fs (acc ++ y) ρ else none
    | _ => none
section
variable {X : Cx} {cl : Str → Addr} {W : WX} {e : Expr} {f : M R} {pos : Pos}
theorem ge_fmt (h : GE X cl W e f) : GE X cl W (.FormattedValue e (-1) none pos) (xFmt f) := ge_t (pe_fmt pe_U) ⟨fun σ B H ρ Z res ρ' E e1 Q k ke => by
  show tU X e σ H fun x H1 => _
  rcases bind_ok e1 with ⟨r, ρ1, e2, e3⟩ | ⟨c, ns, xs, e2, e3⟩
  · refine h.run σ B H ρ Z _ _ E e2 _ (fun r' er v B1 H1 Z1 fp n1 E1 rv ap => ?_) (fun _ _ _ q => by cases q)
    cases er
    cases q : rd ρ1 r with
    | none => rw [q] at e3; cases e3
    | some s =>
      rw [q] at e3
      dsimp only [Option.bind_some] at e3
      cases q2 : txtOf s with
      | none => rw [q2] at e3; cases e3
      | some x =>
        rw [q2] at e3
        cases e3
        obtain ⟨g, hv⟩ := rv.read E1 q
        have fin : Q (.str x) H1 := k _ rfl (.str x) B1 H1 Z1 (fun _ => False) (n1.sub fun x z => z.elim False.elim .inr) E1 ⟨rfl, fun _ z => z⟩ fun _ z => z.elim
        unfold txtOf at q2
        split at q2
        · split at q2
          · rename_i y hy
            cases q2
            cases hv.1
            exact .inl ⟨_, rfl, sz_of hy, fin⟩
          · cases q2
        · split at q2
          · rename_i i hi
            cases q2
            cases hv.1
            exact .inr ⟨_, rfl, hi, fin⟩
          · cases q2
        · cases q2
  · subst e3
    exact h.run σ B H ρ Z _ _ E e2 _ (fun _ q => by cases q) fun _ _ _ q => by cases q; exact ke _ _ _ rfl⟩
inductive GJ (X : Cx) (cl : Str → Addr) (W : WX) : List Expr → List (M R) → Prop where
  | nil : GJ X cl W [] []
  | cons {e : Expr} {f : M R} {es : List Expr} {fs : List (M R)} (h : GE X cl W e f) (r : GJ X cl W es fs) : GJ X cl W (e :: es) (f :: fs)
theorem gj_run {es : List Expr} {fs : List (M R)} (h : GJ X cl W es fs) : ∀ (acc : Str) (σ : L2.St) (B H : Hp) (ρ : Env) (Z : Set') (res : Res R) (ρ' : Env), EV (gx X cl) B H σ ρ Z → joinX fs acc ρ = some (res, ρ') → ∀ Q : VK,
    (∀ r, res = .ok r → ∀ v B' H' Z' fp, Nx B H Z B' H' (Or' fp Z') → EV (gx X cl) B' H' σ ρ' Z' → RV (gx X cl) B' H' σ v r fp → Apart fp Z' → Q v H') →
    (∀ c ns xs, res = .er c ns xs → ∀ B' H' Z', Nx B H Z B' H' Z' → EV (gx X cl) B' H' σ ρ' Z' → ∀ d, ErV (gx X cl) B' ns xs d → W (.ref (cl c)) d σ H') → tJs (es.map (tU X)) acc σ H fun out H1 => Q (.str out) H1 := by
  induction h with
  | nil =>
    intro acc σ B H ρ Z res ρ' E e1 Q k ke
    cases e1
    exact k _ rfl (.str acc) B H Z (fun _ => False) (Nx.refl.sub fun x z => z.elim False.elim id) E ⟨rfl, fun _ z => z⟩ fun _ z => z.elim
  | @cons e f es fs h r ih =>
    intro acc σ B H ρ Z res ρ' E e1 Q k ke
    show tU X e σ H fun x H1 => ∃ y : Str, x = .str y ∧ (acc ++ y).length ≤ sizeLine ∧ tJs (es.map (tU X)) (acc ++ y) σ H1 fun out H1 => Q (.str out) H1
    rcases bind_ok e1 with ⟨r', ρ1, e2, e3⟩ | ⟨c, ns, xs, e2, e3⟩
    · refine h.run σ B H ρ Z _ _ E e2 _ (fun r2 er v B1 H1 Z1 fp n1 E1 rv ap => ?_) (fun _ _ _ q => by cases q)
      cases er
      split at e3
      · rename_i y q
        split at e3
        · rename_i hl
          obtain ⟨g, hv, _⟩ := rv.read E1 q
          cases hv
          refine ⟨y, rfl, sz_of hl, ih (acc ++ y) σ B1 H1 ρ1 Z1 res ρ' E1 e3 Q (fun r3 er v B2 H2 Z2 fq n2 E2 rv2 ap2 => ?_) fun c ns xs er B2 H2 Z2 n2 E2 d hd => ke c ns xs er B2 H2 Z2 (n1.drop.then n2 E) E2 d hd⟩
          exact k r3 er v B2 H2 Z2 fq (n1.drop.then n2 E) E2 rv2 ap2
        · cases e3
      · cases e3
    · subst e3
      exact h.run σ B H ρ Z _ _ E e2 _ (fun _ q => by cases q) fun _ _ _ q => by cases q; exact ke _ _ _ rfl
theorem pj_U : ∀ es : List Expr, PJ X es (es.map (tU X))
  | [] => .nil
  | e :: es => .cons pe_U (pj_U es)
theorem ge_join {v1 v2 : Expr} {rest : List Expr} {fs : List (M R)} (h : GJ X cl W (v1 :: v2 :: rest) fs) : GE X cl W (.JoinedStr (v1 :: v2 :: rest) pos) (joinX fs Str.empty) := ⟨fun σ B H ρ Z res ρ' E e1 Q k ke => ⟨_, pe_joined (pj_U _), gj_run h Str.empty σ B H ρ Z res ρ' E e1 Q k ke⟩⟩
@[simp] theorem wp_fmt {ρ : Env} {Q : Res R → Env → Prop} : Wp (xFmt f ρ) Q ↔ Wp (f ρ) fun x ρ1 => onOk x ρ1 Q fun r => ofO (rd ρ1 r) fun s => ofO (txtOf s) fun x => Q (.ok (.t (.im (.str x)))) ρ1 := by
  unfold xFmt
  rw [wp_bind]
  refine Wp.iff fun r ρ1 => ?_
  cases e : rd ρ1 r with
  | none => simp
  | some s => cases e2 : txtOf s <;> simp [e2]
def strS (s : S) : Option Str := match s with
  | .im (.str y) => some y
  | _ => none
@[simp] theorem strS_str {y : Str} : strS (.im (.str y)) = some y := rfl
@[simp] theorem wp_joinNil {acc : Str} {ρ : Env} {Q : Res R → Env → Prop} : Wp (joinX [] acc ρ) Q ↔ Q (.ok (.t (.im (.str acc)))) ρ := wp_ret
@[simp] theorem wp_joinCons {fs : List (M R)} {acc : Str} {ρ : Env} {Q : Res R → Env → Prop} : Wp (joinX (f :: fs) acc ρ) Q ↔ Wp (f ρ) fun x ρ1 => onOk x ρ1 Q fun r => ofO (rd ρ1 r) fun s => ofO (strS s) fun y => (acc ++ y).length ≤ 100000 ∧ Wp (joinX fs (acc ++ y) ρ1) Q := by
  rw [joinX, wp_bind]
  refine Wp.iff fun r ρ1 => ?_
  cases e : rd ρ1 r with
  | none => simp
  | some s =>
    cases s with
    | im d =>
      cases d with
      | str y => by_cases c : (acc ++ y).length ≤ 100000 <;> simp [c]
      | _ => simp [strS]
    | lst _ => simp [strS]
    | dct _ _ => simp [strS]
    | obj _ _ _ => simp [strS]
end
end Av
end
set_option Elab.async false
set_option linter.all false
set_option maxRecDepth 100000
set_option maxHeartbeats 2000000
/-! C(e, .., k = v, ..): own instances by values and keywords, defaults among them. -/
noncomputable section
namespace Av
open PySem L2 PySem.Spec PyProof.Rows
/-- some of a list's items, by their places -/
def pick {α : Type} (idx : List Nat) (l : List α) : List α := idx.filterMap fun i => l[i]?
theorem pick_vals {vs : List V} {us : List Value} (r : Vals vs us) : ∀ idx : List Nat, Vals (pick idx vs) (pick idx us)
  | [] => .nil
  | i :: idx => by
    have ih := pick_vals r idx
    unfold pick at ih ⊢
    rw [List.filterMap_cons, List.filterMap_cons]
    cases q : vs[i]? with
    | none =>
      have : us[i]? = none := by
        rw [List.getElem?_eq_none_iff] at q ⊢
        rw [← r.length]
        exact q
      rw [this]
      exact ih
    | some v =>
      obtain ⟨u, hu, ru⟩ := r.get q
      rw [hu]
      exact .cons ru ih
theorem pick_dvs {G : Gx} {B : Hp} {vs : List V} {ds : List D} (h : DVs G B vs ds) : ∀ idx : List Nat, DVs G B (pick idx vs) (pick idx ds)
  | [] => rfl
  | i :: idx => by
    have ih := pick_dvs h idx
    unfold pick at ih ⊢
    rw [List.filterMap_cons, List.filterMap_cons]
    cases q : ds[i]? with
    | none =>
      have : vs[i]? = none := by
        rw [List.getElem?_eq_none_iff] at q ⊢
        rw [h.length]
        exact q
      rw [this]
      exact ih
    | some d =>
      obtain ⟨v, hv, hd⟩ := h.get q
      rw [hv]
      exact ⟨v, _, rfl, hd, ih⟩
theorem pick_len {α : Type} {l : List α} : ∀ {idx : List Nat}, (∀ i ∈ idx, i < l.length) → (pick idx l).length = idx.length
  | [], _ => rfl
  | i :: idx, h => by
    have ih := pick_len (l := l) fun j hj => h j (List.mem_cons_of_mem _ hj)
    unfold pick at ih ⊢
    rw [List.filterMap_cons, List.getElem?_eq_getElem (h i (List.mem_cons_self ..))]
    simp [ih]
theorem pick_cons {α : Type} (x : α) (l : List α) (idx : List Nat) : pick (0 :: idx.map (· + 1)) (x :: l) = x :: pick idx l := by
  unfold pick
  rw [List.filterMap_cons, List.filterMap_map]
  rfl
theorem DVs.parts {G : Gx} {B : Hp} : ∀ {ds es : List D} {vs us : List V}, vs.length = ds.length → DVs G B (vs ++ us) (ds ++ es) → DVs G B vs ds ∧ DVs G B us es
  | [], es, [], us, _, h => ⟨rfl, h⟩
  | d :: ds, es, v :: vs, us, hl, h => by
    obtain ⟨w, r, e, h1, h2⟩ := h
    cases e
    obtain ⟨g1, g2⟩ := DVs.parts (by simpa using hl) h2
    exact ⟨⟨v, vs, rfl, h1, g1⟩, g2⟩
  | [], _, _ :: _, _, hl, _ => by cases hl
  | _ :: _, _, [], _, hl, _ => by cases hl
section
variable {G : Gx} {B H B1 H1 B2 H2 : Hp} {Z1 Z2 : Set'} {σ : L2.St}
theorem RVs.pass (n : Nx B1 H1 Z1 B2 H2 Z2) : ∀ {rs : List R} {vs : List V} {fp : Set'}, RVs G B1 H1 σ vs rs fp → Apart fp Z1 → RVs G B2 H2 σ vs rs fp
  | [], _, _, h, _ => h
  | r :: rs, vs, fp, h, ap => by
    obtain ⟨v, w, f1, f2, rfl, h1, h2, h3, h4⟩ := h
    exact ⟨v, w, f1, f2, rfl, h1.pass n fun a ha => ap a ((h4 a).mpr (.inl ha)), RVs.pass n h2 fun a ha => ap a ((h4 a).mpr (.inr ha)), h3, h4⟩
theorem RVs.append : ∀ {rs qs : List R} {vs us : List V} {fp fq : Set'}, RVs G B H σ vs rs fp → RVs G B H σ us qs fq → (∀ a, fp a → ¬ fq a) → RVs G B H σ (vs ++ us) (rs ++ qs) (Or' fp fq)
  | [], qs, vs, us, fp, fq, h, h', _ => by
    obtain ⟨rfl, hf⟩ := h
    have : Or' fp fq = fq := funext fun a => propext ⟨fun z => z.elim (fun z => (hf a z).elim) id, .inr⟩
    rw [this]
    exact h'
  | r :: rs, qs, vs, us, fp, fq, h, h', d => by
    obtain ⟨v, w, f1, f2, rfl, h1, h2, h3, h4⟩ := h
    refine ⟨v, w ++ us, f1, Or' f2 fq, rfl, h1, RVs.append h2 h' fun a ha => d a ((h4 a).mpr (.inr ha)), fun a ha z => z.elim (h3 a ha) (d a ((h4 a).mpr (.inl ha))), fun a => ?_⟩
    constructor
    · rintro (z | z)
      · exact ((h4 a).mp z).imp id .inl
      · exact .inr (.inr z)
    · rintro (z | z | z)
      · exact .inl ((h4 a).mpr (.inl z))
      · exact .inl ((h4 a).mpr (.inr z))
      · exact .inr z
end
theorem trees_app : ∀ {rs qs : List R} {ts us : List S}, trees rs = some ts → trees qs = some us → trees (rs ++ qs) = some (ts ++ us)
  | [], qs, ts, us, h, h' => by cases h; exact h'
  | r :: rs, qs, ts, us, h, h' => by
    show trees (r :: (rs ++ qs)) = _
    rw [trees] at h ⊢
    cases q : tree r with
    | none => rw [q] at h; cases h
    | some t =>
      cases q2 : trees rs with
      | none => rw [q, q2] at h; cases h
      | some ts' =>
        rw [q, q2] at h
        cases h
        rw [trees_app q2 h']
        rfl
theorem trees_len : ∀ {rs : List R} {ts : List S}, trees rs = some ts → ts.length = rs.length
  | [], ts, h => by cases h; rfl
  | r :: rs, ts, h => by
    rw [trees] at h
    cases q : tree r with
    | none => rw [q] at h; cases h
    | some t =>
      cases q2 : trees rs with
      | none => rw [q, q2] at h; cases h
      | some ts' =>
        rw [q, q2] at h
        cases h
        simp [trees_len q2]
def xMakeN (c : Str) (ns : List Str) (gD : List D → List D → List D) (fa fk : M (List R)) : M R := fa.bind fun rs => fk.bind fun ks ρ => match trees rs with
  | some ts => match trees ks with
    | some us => some (.ok (.t (.im (.ins c ns (gD (fzs ts) (fzs us))))), ρ)
    | none => none
  | none => none
section
variable {X : Cx} {cl : Str → Addr} {W : WX} {e : Expr} {es : List Expr} {kws : List Keyword} {fa fk : M (List R)} {pos kpos p : Pos}
theorem ge_makeN {c : Str} {k n : Nat} {ks ns : List Str} {gD : List D → List D → List D} (mk : MkOk X.prog X.w X.K X.mg X.base cl c k n ks ns gD) (hr : Room (k + 1) X.A) (h : GA X cl W (e :: es) fa) (h' : GK X cl W kws fk) (hn : ∀ ρ rs ρ', fa ρ = some (.ok rs, ρ') → rs.length = n)
    (hlen : ∀ ρ rs ρ', fk ρ = some (.ok rs, ρ') → rs.length = ks.length) (hg : Gl X c := by rfl) (hall : (backToKw pos (keywordEach kws X.env)).all (·.1.isSome) = true := by rfl) (hks : (backToKw pos (keywordEach kws X.env)).filterMap (·.1) = ks := by rfl) (hdb : (c == ("__debug__" : Str)) = false := by decide)
    (he : starEach (e :: es) X.env = (false, eval e X.env) :: starEach es X.env := by rfl) (hpl : ((backTo pos (starEach (e :: es) X.env)).any (·.1) || (backToKw pos (keywordEach kws X.env)).any (·.1.isNone)) = false := by rfl) : GE X cl W (.Call (.Name c p) (e :: es) kws pos) (xMakeN c ns gD fa fk) := ⟨fun σ B H ρ Z res ρ' E e1 Q k0 ke => by
  obtain ⟨f, fd, ps, g, gV, M, F, hm, hb, ha⟩ := mk
  refine ⟨_, pe_makeN M F hr hg hm hb passes0 pa_U pk_U hall hks hdb he hpl, ?_⟩
  show tUA X (e :: es) σ H fun vs H1 => tUK X kws σ H1 fun zs H2 => _
  rcases bind_ok e1 with ⟨rs, ρ1, e2, e3⟩ | ⟨c', ns', xs, e2, e3⟩
  · refine h.run σ B H ρ Z _ _ E e2 _ (fun rs' er vs B1 H1 Z1 fp n1 E1 rvs ap => ?_) (fun _ _ _ q => by cases q)
    cases er
    rcases bind_ok e3 with ⟨qs, ρ2, e4, e5⟩ | ⟨c', ns', xs, e4, e5⟩
    · refine h'.run σ B1 H1 ρ1 Z1 _ _ E1 e4 _ (fun qs' er zs B2 H2 Z2 fq n2 E2 rzs ap2 => ?_) (fun _ _ _ q => by cases q)
      cases er
      cases q : trees rs with
      | none => rw [q] at e5; cases e5
      | some ts =>
        cases q2 : trees qs with
        | none => rw [q, q2] at e5; cases e5
        | some us =>
          rw [q, q2] at e5
          cases e5
          have hv : vs.length = n := rvs.len.trans (hn _ _ _ e2)
          have hz : zs.length = ks.length := rzs.len.trans (hlen _ _ _ e4)
          obtain ⟨nn, a12, a1z⟩ := n1.two n2 E.there ap fun a ha => (rvs.own a ha).2
          have all := (RVs.pass n2 rvs ap).append rzs a12
          have apA : Apart (Or' fp fq) Z2 := fun a ha z => ha.elim (fun q => a1z a q z) fun q => ap2 a q z
          obtain ⟨B3, x1, x2, hd, x4⟩ := (all.trees (trees_app q q2)).freeze E2.sub
          rw [fzs_app] at hd
          obtain ⟨d1, d2⟩ := DVs.parts (by rw [fzs_len, trees_len q]; exact rvs.len) hd
          refine ⟨hv, hz, ?_⟩
          intro x dx hx hdx ne
          obtain ⟨tl, ht, tll, hD⟩ := ha (.ref x) vs zs hv hz
          rw [ht]
          exact make_core E.there (nn.froze x1 x4) (E2.froze apA x1 x2 x4) (hD B3 _ _ d1 d2) tll (k0 _ rfl) x dx hx hdx ne
    · subst e5
      exact h'.run σ B1 H1 ρ1 Z1 _ _ E1 e4 _ (fun _ q => by cases q) fun c2 ns2 xs2 q B2 H2 Z2 n2 E2 d hd => by
        cases q
        exact ke _ _ _ rfl B2 H2 Z2 (n1.drop.then n2 E) E2 d hd
  · subst e3
    exact h.run σ B H ρ Z _ _ E e2 _ (fun _ q => by cases q) fun _ _ _ q => by cases q; exact ke _ _ _ rfl⟩
@[simp] theorem wp_makeN {c ns gD} {ρ : Env} {Q : Res R → Env → Prop} : Wp (xMakeN c ns gD fa fk ρ) Q ↔ Wp (fa ρ) fun x ρ1 => onOk x ρ1 Q fun rs => Wp (fk ρ1) fun x ρ2 => onOk x ρ2 Q fun ks => treesP rs fun ts => treesP ks fun us => Q (.ok (.t (.im (.ins c ns (gD (fzs ts) (fzs us)))))) ρ2 := by
  unfold xMakeN treesP
  rw [wp_bind]
  refine Wp.iff fun rs ρ1 => ?_
  rw [wp_bind]
  refine Wp.iff fun ks ρ2 => ?_
  cases e : trees rs with
  | none => simp
  | some ts => cases e2 : trees ks <;> simp
end
/-! ### how an own class with defaults is made -/
section
variable {P : Program} {w : World} {K : PySem.W.Frag} {mg : Str → Option Value} {base : Heap} {cl : Str → Addr}
theorem ini_okD {qual : Str} {st : Stmt} {f C : Addr} {fd : FuncData} {ns : List Str} {dvs : List V} (Fd : FunD K "__init__" qual (defArgs st) (defBody st) (defScope st) dvs [] f fd) (Sc : FnScope ("self" :: ns) ("self" :: ns) (defScope st)) (hc : Cls K C) (hn : ∀ n ∈ ns, NoAttr K C n) (nd : ns.Nodup) (sz : ns.length < 1000)
    (hb : ∀ (f : Addr) (cdv : Value) (A : Around) (outer : List PySem.Env) (s : Shared) (H : Hp) (E : XK), PSs (cxOf (L2.CX P w) P w K mg base ("self" :: ns) qual (defScope st) f cdv A outer s H E) (defBody st) (tIni K 1 ns)) :
    FnOk P w K mg base (L2.CX P w) 1 f fd ("self" :: ns) (spIni C ns) := by
  refine Fd.ok Sc (fun vs H Q E h => ?_) fun cdv A outer s H vs Q E hr h => ⟨tIni K 1 ns, hb f cdv A outer s H E, ?_⟩
  · obtain ⟨p, dx, xs, rfl, hl, _⟩ := h
    simp [hl]
  · obtain ⟨p, dx, xs, rfl, hl, hp, k⟩ := h
    have es : L2.start ("self" :: ns) (.ref p :: xs) = some (.ref p) :: xs.map some := by
      unfold L2.start
      simp [hl]
    rw [es]
    refine ini_run hc rfl ns xs 1 [] H hp hl (fun j v hj => ?_) hn nd (fun q hq => by cases hq) (by simpa using sz) (by simpa using k)
    rw [show 1 + j = j + 1 by omega]
    simp [hj]
/-- n values and the keywords ks, the defaults behind: the places of the fields' values among values, defaults, keywords -/
theorem mk_pick {c qual : Str} {st : Stmt} {k : Nat} {ns ks : List Str} {f : Addr} {fd : FuncData} {dvs : List V} {dds : List D} (n : Nat) (idx : List Nat) (M : Mk K (cl c) f) (Fd : FunD K "__init__" qual (defArgs st) (defBody st) (defScope st) dvs [] f fd) (F : FnOk P w K mg base (L2.CX P w) k f fd ("self" :: ns) (spIni (cl c) ns)) (hm : mg c = some (.ref (cl c)))
    (hd : dvs ≠ []) (hdd : ∀ B, DVs ⟨K, cl⟩ B dvs dds) (hidx : idx.length = ns.length) (hall : ∀ i ∈ idx, i < n + dvs.length + ks.length)
    (h : ∀ (T : Addr) (kV doc pm : Value) (an : Option Addr) (cdv ct : Value) (us its ws : List Value), us.length = n + 1 → its.length = dvs.length → ws.length = ks.length →
      ∃ kk, bindArgs (PySem.W.fnOf "__init__" qual (defArgs st) (defBody st) (defScope st) (.ref T) kV doc pm an cdv ct) ⟨us, ks.zip ws⟩ = seqItems? (.ref T) >>= kk ∧ kk (some its.toArray) = pure (List.zip (("self" : Str) :: ns) (pick (0 :: idx.map (· + 1)) (us ++ its ++ ws)))) :
    MkOk P w K mg base cl c k n ks ns (fun ds es => pick idx (ds ++ dds ++ es)) := by
  obtain ⟨its, kb⟩ := Fd.kbindsD (n + 1) ks (fun {α} us its ws => pick (0 :: idx.map (· + 1)) (us ++ its ++ ws)) hd (fun r1 r2 r3 => pick_vals ((r1.append r2).append r3) _) h
  refine ⟨f, fd, ("self" : Str) :: ns, _, _, M, F, hm, kb, fun x vs zs l1 l2 => ⟨pick idx (vs ++ dvs ++ zs), ?_, ?_, fun B ds es h1 h2 => pick_dvs ((h1.append (hdd B)).append h2) idx⟩⟩
  · exact pick_cons x (vs ++ dvs ++ zs) idx
  · rw [pick_len, hidx]
    intro i hi
    have := hall i hi
    simp only [List.length_append]
    omega
end
end Av
end
set_option Elab.async false
set_option linter.all false
set_option maxRecDepth 100000
set_option maxHeartbeats 2000000
/-! a, b = a list. -/
noncomputable section
namespace Av
open PySem L2 PySem.Spec PyProof.Rows
/-- (a, b, ..) = a list of that length -/
def gTupLst (K : PySem.W.Frag) (n : Nat) (t : TGs) : TG := fun v σ H Q => ∃ a xs, v = .ref a ∧ SqL K H a xs ∧ xs.length = n ∧ t xs σ H Q
theorem pg_lst {X : Cx} {es : List Expr} {k : Nat} {t : TGs} {n : Nat} {pos : Pos} (calm : X.calm = true) (h : PGs X es t) (hn : (assignEach es X.env).length = n) (hst : (assignEach es X.env).findIdx? (·.1) = none) : PG X (.Tuple es k pos) (gTupLst X.K n t) := by
  refine ⟨?_⟩
  rintro pins s σ H v u Q I r ⟨a, xs, rfl, hq, hl, hw⟩
  cases r
  obtain ⟨its, rv, ⟨o, m, ho, hc, _, hdt⟩, _⟩ := I.list hq
  have isl : s.heap.IsList a its.toArray := ⟨o, ho, hc, m, hdt⟩
  have size : (assignEach es X.env).length = its.toArray.size := by simp [hn, ← hl, rv.length]
  rw [assign_Tuple]
  refine wpAny_bind (wpAny_standAt ?_)
  unfold unpack
  rw [size, hst]
  refine wpAny_bind (wpAny_holding (PySem.W.kun_itemsOf (I.ok.hd calm) isl ?_))
  intro h' hx
  have I1 : Inv X pins σ H { s with heap := h' } := I.kept (t' := s.toks) fun b o e => hx b o (Nat.ne_of_lt (Heap.lt_size e)) e
  exact h.run pins _ σ H xs _ Q I1 (by simpa using rv) hw
def gTupL (n : Nat) (ms : MGs) : MG := fun s ρ => match elems s with
  | some ds => if ds.length = n then ms ds ρ else none
  | none => gTuple n ms s ρ
theorem gg_tupL {X : Cx} {cl : Str → Addr} {Rs : List Nat} {tgs : List Expr} {k : Nat} {ms : MGs} {n : Nat} {pos : Pos} (hc : X.calm = true) (h : GGs X cl Rs tgs ms) (hn : (assignEach tgs X.env).length = n := by rfl) (hst : (assignEach tgs X.env).findIdx? (·.1) = none := by rfl) : GG X cl Rs (.Tuple tgs k pos) (gTupL n ms) :=
  ⟨fun σ B H ρ Z v s fp ρ' E hv ap q Q kq => by
    unfold gTupL at q
    cases q1 : elems s with
    | none =>
      rw [q1] at q
      exact (gg_tup hc h hn hst).run σ B H ρ Z v s fp ρ' E hv ap q Q kq
    | some ds =>
      rw [q1] at q
      dsimp only at q
      split at q
      · rename_i hl
        obtain ⟨a, vs, rfl, h3, h4⟩ := elems_ok hv E.sub q1
        obtain ⟨t, ht, hq⟩ := h.run σ B H ρ Z vs ds ρ' E h4 q Q fun σ' Z' k1 E1 z1 => kq σ' Z' k1 E1 fun a z => .inr (z1 a z)
        exact ⟨_, pg_lst hc ht hn hst, a, vs, rfl, sq_of h3, h4.length.trans hl, hq⟩
      · cases q⟩
theorem ofO_gTupL {n : Nat} {ms : MGs} {s : S} {ds : List D} {ρ : Env} {k : Env → Prop} (h : elems s = some ds) : ofO (gTupL n ms s ρ) k ↔ ds.length = n ∧ ofO (ms ds ρ) k := by
  unfold gTupL
  rw [h]
  by_cases c : ds.length = n <;> simp [c]
end Av
end
set_option Elab.async false
set_option linter.all false
set_option maxRecDepth 100000
set_option maxHeartbeats 2000000
/-! Dicts: get with a default, displays, copies, ==. -/
noncomputable section
namespace Av
open PySem L2 PySem.Spec PyProof.Rows
/-! ### d.get(k, x) -/
def bGet2 : List S → Option S
  | [s, .im k, .im d0] => (keyOf k).bind fun key => (dget s key).bind fun o => match o with
    | some (.im d) => some (.im d)
    | some _ => none
    | none => some (.im d0)
  | _ => none
section
variable {X : Cx} {cl : Str → Addr}
theorem mt_get2 (hu : X.A.units + 1 < cLine) : relM X "dict.get" (fun xs H Q => ∃ a y z o, xs = [V.ref a, y, z] ∧ DGet H a y o ∧ Q (o.getD z) H) := by
  rintro pins s σ H x xs v us Q I rx rs ⟨a, y, z, o, e, g, q⟩
  cases e
  cases rx
  cases rs with
  | cons ry rt =>
    cases rt with
    | cons rz rn =>
      cases rn
      exact d_get2 hu I g ry rz fun w' s' I' rw' => ⟨_, H, I', rw', q⟩
theorem opn_get2 (hu : X.A.units + 1 < cLine) : OpN X cl (relM X "dict.get") bGet2 := fun B H vs ss z e hl hs hg Q k => by
  unfold bGet2 at hg
  split at hg
  · rename_i s kd d0
    cases q1 : keyOf kd with
    | none => rw [q1] at hg; cases hg
    | some key =>
      rw [q1] at hg
      cases q2 : dget s key with
      | none => simp [q2] at hg
      | some o =>
        simp only [q2, Option.bind_some] at hg
        match vs, hl with
        | [v0, v1, v2], _ =>
          obtain ⟨_, h0⟩ := hs 0 v0 _ rfl rfl
          obtain ⟨_, h1, _⟩ := hs 1 v1 _ rfl rfl
          obtain ⟨_, h2, _⟩ := hs 2 v2 _ rfl rfl
          obtain ⟨p, kvs, rfl, hp, ho⟩ := dget_ok h0 e q2
          have ek := keyOf_ok h1 q1
          subst ek
          cases o with
          | none =>
            cases hg
            exact ⟨_, mt_get2 hu, p, _, _, none, rfl, .inl ⟨kvs, key, .inl hp, rfl, ho.symm⟩, k _ B H _ (New.refl e) ⟨h2, fun _ z => z⟩⟩
          | some t =>
            obtain ⟨u, g, g1, g2⟩ := ho
            cases t with
            | im d =>
              cases hg
              exact ⟨_, mt_get2 hu, p, _, _, some u, rfl, .inl ⟨kvs, key, .inl hp, rfl, g1.symm⟩, k _ B H _ (New.refl e) ⟨g2.1, fun _ z => z⟩⟩
            | lst _ => cases hg
            | dct _ _ => cases hg
            | obj _ _ _ => cases hg
  · cases hg
end
/-! ### dict(d) -/
def bDictD : List S → Option S
  | [.im (.dct ks ds)] => some (.dct ks (ds.map .im))
  | [.dct ks ss] => (allIm ss).map fun ds => .dct ks (ds.map .im)
  | _ => none
theorem SVs.ims {G : Gx} {B H : Hp} : ∀ {ds : List D} {vs : List V}, DVs G B vs ds → SVs G B H vs (ds.map .im) (fun _ => False)
  | [], vs, h => ⟨h, fun _ z => z⟩
  | d :: ds, vs, h => by
    obtain ⟨v, r, rfl, h1, h2⟩ := h
    exact ⟨v, r, fun _ => False, fun _ => False, rfl, ⟨h1, fun _ z => z⟩, SVs.ims h2, fun _ z => z.elim, fun _ => ⟨False.elim, fun z => z.elim id id⟩⟩
theorem allIm_inv : ∀ {ss : List S} {ds : List D}, allIm ss = some ds → ss = ds.map .im
  | [], ds, h => by cases h; rfl
  | s :: ss, ds, h => by
    cases s with
    | im d =>
      rw [allIm_cons] at h
      cases q : allIm ss with
      | none => rw [q] at h; cases h
      | some es =>
        rw [q] at h
        cases h
        rw [allIm_inv q]
        rfl
    | lst _ => cases h
    | dct _ _ => cases h
    | obj _ _ _ => cases h
section
variable {X : Cx} {cl : Str → Addr}
theorem dict_new {B H : Hp} {a : Addr} {ks : List Key} {vs : List V} {ds : List D} {Q : VK} (e : Ex B H) (ha : H a = some (.dK (ks.zip vs))) (hl : ks.length = vs.length) (hd : DVs (gx X cl) B vs ds)
    (k : ∀ w B' H' f, New B H B' H' f → SV (gx X cl) B' H' w (.dct ks (ds.map .im)) f → Q w H') : (fun (xs : List V) (H : Hp) (Q : VK) => ∃ (a : Addr) (kvs : List (Key × V)), xs = [.ref a] ∧ Rd H a (.dK kvs) ∧ ∀ p, H p = none → Q (.ref p) (upd H p (.dK kvs))) [.ref a] H Q := by
  refine ⟨a, _, rfl, .inl ha, fun p hp => ?_⟩
  have bp : B p = none := fresh_back e hp
  have nw : New B H B (upd H p (.dK (ks.zip vs))) (fun b => b = p) := ⟨Ex.refl B, fun b o h => Ex.new hp b o (e b o h), Ex.new hp, fun _ _ _ => rfl, fun b z => z ▸ hp⟩
  exact k (.ref p) B _ _ nw ⟨p, vs, fun _ => False, rfl, upd_same, hl, bp, SVs.ims hd, fun z => z, fun b => ⟨.inl, fun z => z.elim id False.elim⟩⟩
theorem opn_dictD : OpN X cl (relCall X (.type "dict")) bDictD := fun B H vs ss z e hl hs hg Q k => by
  unfold bDictD at hg
  split at hg
  · rename_i ks ds
    cases hg
    obtain ⟨v, rfl, f, h1, _⟩ := hs1 hl hs
    obtain ⟨a, us, rfl, h3, h4, h5⟩ := h1
    exact ⟨_, call_dictD, dict_new e (e _ _ h3) h4 h5 k⟩
  · rename_i ks xs
    cases q : allIm xs with
    | none => rw [q] at hg; cases hg
    | some ds =>
      rw [q] at hg
      cases hg
      obtain ⟨v, rfl, f, h1⟩ := hs1 hl hs
      rw [allIm_inv q] at h1
      obtain ⟨a, us, fq, rfl, h3, h4, _, h5, _, _⟩ := h1
      exact ⟨_, call_dictD, dict_new e h3 h4 h5.ofIm.1 k⟩
  · cases hg
/-! ### == of dicts of the same content -/
def flatS : D → Bool
  | .bl _ | .int _ | .str _ | .non => true
  | _ => false
def dctOf : S → Option (List Key × List D)
  | .im (.dct ks ds) => some (ks, ds)
  | .dct ks ss => (allIm ss).map fun ds => (ks, ds)
  | _ => none
open Classical in
/-- true where both hold the same, else none -/
def bEqDct : List S → Option S
  | [s, t] => (dctOf s).bind fun p => (dctOf t).bind fun q => if p.1 = q.1 ∧ p.2.all flatS = true ∧ q.2 = p.2 ∧ p.1.Nodup then some (.im (.bl true)) else none
  | _ => none
theorem flat_v {G : Gx} {B : Hp} : ∀ {ds : List D} {vs us : List V}, ds.all flatS = true → DVs G B vs ds → DVs G B us ds → vs = us ∧ ∀ v ∈ vs, flatB v = true
  | [], vs, us, _, h, h' => by rw [show vs = [] from h, show us = [] from h']; exact ⟨rfl, fun _ z => by cases z⟩
  | d :: ds, vs, us, hf, h, h' => by
    rw [List.all_cons, Bool.and_eq_true] at hf
    obtain ⟨v, r, rfl, h1, h2⟩ := h
    obtain ⟨u, r', rfl, h1', h2'⟩ := h'
    obtain ⟨e, f⟩ := flat_v hf.2 h2 h2'
    subst e
    have hv : v = u ∧ flatB v = true := by
      cases d <;> first
        | (cases h1; cases h1'; exact ⟨rfl, rfl⟩)
        | cases hf.1
    obtain ⟨rfl, hb⟩ := hv
    exact ⟨rfl, fun w hw => by
      rcases List.mem_cons.mp hw with e | e
      · exact e ▸ hb
      · exact f w e⟩
theorem dctOf_ok {B H : Hp} {v : V} {s : S} {f : Set'} {ks : List Key} {ds : List D} (h : SV (gx X cl) B H v s f) (e : Ex B H) (q : dctOf s = some (ks, ds)) : ∃ a vs, v = .ref a ∧ H a = some (.dK (ks.zip vs)) ∧ ks.length = vs.length ∧ DVs (gx X cl) B vs ds := by
  unfold dctOf at q
  split at q
  · cases q
    obtain ⟨⟨a, vs, rfl, h3, h4, h5⟩, _⟩ := h
    exact ⟨a, vs, rfl, e _ _ h3, h4, h5⟩
  · rename_i ks' xs
    cases q2 : allIm xs with
    | none => rw [q2] at q; cases q
    | some es =>
      rw [q2] at q
      cases q
      rw [allIm_inv q2] at h
      obtain ⟨a, vs, fq, rfl, h3, h4, _, h5, _, _⟩ := h
      exact ⟨a, vs, rfl, h3, h4, h5.ofIm.1⟩
  · cases q
theorem opn_eqDct (hu : X.A.units < cLine) : OpN X cl (relCmp X .Eq) bEqDct := fun B H vs ss z e hl hs hg Q k => by
  unfold bEqDct at hg
  split at hg
  · rename_i s t
    cases q1 : dctOf s with
    | none => rw [q1] at hg; cases hg
    | some p =>
      cases q2 : dctOf t with
      | none => simp [q1, q2] at hg
      | some q =>
        simp only [q1, q2, Option.bind_some] at hg
        split at hg
        · rename_i hc
          cases hg
          obtain ⟨ks, ds⟩ := p
          obtain ⟨ks', ds'⟩ := q
          obtain ⟨c1, c2, c3, c4⟩ := hc
          dsimp only at c1 c2 c3 c4
          subst c1 c3
          obtain ⟨v, u, rfl, ⟨_, h1⟩, ⟨_, h2⟩⟩ := hs2 hl hs
          obtain ⟨a, xs, rfl, a1, a2, a3⟩ := dctOf_ok h1 e q1
          obtain ⟨b, ys, rfl, b1, b2, b3⟩ := dctOf_ok h2 e q2
          obtain ⟨rfl, hf⟩ := flat_v c2 a3 b3
          refine ⟨_, l2_cmp (op_eq_dict hu), _, _, rfl, a, b, _, rfl, rfl, a1, b1, ?_, fun pr hp => hf _ (List.of_mem_zip hp).2, k _ B H _ (New.refl e) ⟨rfl, fun _ z => z⟩⟩
          rw [List.map_fst_zip (by omega)]
          exact c4
        · cases hg
  · cases hg
end
end Av
end
set_option Elab.async false
set_option linter.all false
set_option maxRecDepth 100000
set_option maxHeartbeats 2000000
/-! {'k': e, ..} -/
noncomputable section
namespace Av
open PySem L2 PySem.Spec PyProof.Rows
theorem put_new' {kvs : List (Key × V)} {k : Key} {v : V} (h : k ∉ kvs.map (·.1)) : putK kvs k v = kvs ++ [(k, v)] := by
  unfold putK
  rw [if_neg]
  intro z
  obtain ⟨p, hp, e⟩ := List.any_eq_true.mp z
  exact h (List.mem_map.mpr ⟨p, hp, of_decide_eq_true e⟩)
theorem merge_new : ∀ {more acc : List (Key × V)}, ((acc ++ more).map (·.1)).Nodup → mergeK acc more = acc ++ more
  | [], acc, _ => (List.append_nil acc).symm
  | (k, v) :: more, acc, h => by
    show mergeK (putK acc k v) more = _
    have hk : k ∉ acc.map (·.1) := by
      rw [List.map_append, List.map_cons] at h
      exact fun z => (List.nodup_append.mp h).2.2 k z k (List.mem_cons_self ..) rfl
    rw [put_new' hk, merge_new (by simpa using h)]
    simp
theorem nd_keys : ∀ {ks : List Str}, ks.Nodup → (ks.map (Sum.inr : Str → Key)).Nodup
  | [], _ => List.Pairwise.nil
  | k :: ks, h => by
    obtain ⟨h1, h2⟩ := List.nodup_cons.mp h
    exact List.nodup_cons.mpr ⟨fun z => by
      obtain ⟨w, hw, e⟩ := List.mem_map.mp z
      cases e
      exact h1 hw, nd_keys h2⟩
structure GP (X : Cx) (cl : Str → Addr) (W : WX) (pos : Pos) (keys : List (Option Expr)) (values : List Expr) (ks : List Str) (f : M (List R)) : Prop where
  ex : ∃ trs, PPs X pos keys values trs ∧ ∀ (σ : L2.St) (B H : Hp) (ρ : Env) (Z : Set') (res : Res (List R)) (ρ' : Env), EV (gx X cl) B H σ ρ Z → f ρ = some (res, ρ') → ∀ Q : List (V × V) → Hp → Prop,
    (∀ rs, res = .ok rs → ∀ vs B' H' Z' fp, Nx B H Z B' H' (Or' fp Z') → EV (gx X cl) B' H' σ ρ' Z' → RVs (gx X cl) B' H' σ vs rs fp → Apart fp Z' → vs.length = ks.length → Q (((ks.map Sum.inr).zip vs).map fun kv : Key × V => (kV kv.1, kv.2)) H') →
    (∀ c ns xs, res = .er c ns xs → ∀ B' H' Z', Nx B H Z B' H' Z' → EV (gx X cl) B' H' σ ρ' Z' → ∀ d, ErV (gx X cl) B' ns xs d → W (.ref (cl c)) d σ H') →
    tPairs trs σ H Q
section
variable {X : Cx} {cl : Str → Addr} {W : WX} {e : Expr} {f : M R} {g : M (List R)} {pos p2 : Pos} {keys : List (Option Expr)} {values : List Expr} {ks : List Str} {k : Str} {j : Nat}
theorem gp_nil : GP X cl W pos [] [] [] aNil := ⟨_, pps_nil, fun σ B H ρ Z res ρ' E e1 Q k _ => by
  cases e1
  exact k _ rfl [] B H Z (fun _ => False) (Nx.refl.sub fun x z => z.elim False.elim id) E ⟨rfl, fun _ z => z⟩ (fun _ z => z.elim) rfl⟩
theorem gp_cons (h : GE X cl W e f) (hs : GP X cl W pos keys values ks g) : GP X cl W pos (some (.Constant (.str k) j p2) :: keys) (e :: values) (k :: ks) (aCons f g) := by
  obtain ⟨trs, pp, run⟩ := hs
  refine ⟨(tC (.str k), tU X e) :: trs, pps_cons pe_str pe_U pp, fun σ B H ρ Z res ρ' E e1 Q kq ke => ?_⟩
  show tU X e σ H fun y H2 => tPairs trs σ H2 fun ps H3 => Q ((V.str k, y) :: ps) H3
  rcases bind_ok e1 with ⟨r, ρ1, e2, e3⟩ | ⟨c, ns, xs, e2, e3⟩
  · refine h.run σ B H ρ Z _ _ E e2 _ (fun r' er v B1 H1 Z1 fp n1 E1 rv ap => ?_) (fun _ _ _ q => by cases q)
    cases er
    rcases bind_ok e3 with ⟨rs, ρ2, e4, e5⟩ | ⟨c, ns, xs, e4, e5⟩
    · cases e5
      exact run σ B1 H1 ρ1 Z1 _ _ E1 e4 (fun ps H' => Q ((V.str k, v) :: ps) H') (fun rs' er vs B2 H2 Z2 fq n2 E2 rvs ap2 hl => by
        cases er
        obtain ⟨n, a12, a1z⟩ := n1.two n2 E.there ap fun a ha => (rv.own a ha).2
        exact kq _ rfl (v :: vs) B2 H2 Z2 (Or' fp fq) n E2 ⟨v, vs, fp, fq, rfl, rv.pass n2 ap, rvs, a12, fun _ => Iff.rfl⟩ (fun a ha z => ha.elim (fun q => a1z a q z) fun q => ap2 a q z) (by simp [hl])) (fun _ _ _ q => by cases q)
    · subst e5
      exact run σ B1 H1 ρ1 Z1 _ _ E1 e4 (fun ps H' => Q ((V.str k, v) :: ps) H') (fun _ q => by cases q) fun c' ns' xs' q B2 H2 Z2 n2 E2 d hd => by
        cases q
        exact ke _ _ _ rfl B2 H2 Z2 (n1.drop.then n2 E) E2 d hd
  · subst e3
    exact h.run σ B H ρ Z _ _ E e2 _ (fun _ q => by cases q) fun c' ns' xs' q B2 H2 Z2 n2 E2 d hd => by
      cases q
      exact ke _ _ _ rfl B2 H2 Z2 n2 E2 d hd
def xDisp (ks : List Str) (f : M (List R)) : M R := f.bind fun rs ρ => match trees rs with
  | some ts => some (.ok (.t (.dct (ks.map .inr) ts)), ρ)
  | none => none
theorem ge_disp (h : GP X cl W pos keys values ks g) (nd : ks.Nodup) (h15 : ks.length ≤ 15) (hk : keys.length ≤ 15 := by decide) (hall : keys.all (·.isSome) = true := by rfl) (hl : keys.length = values.length := by rfl) (h0 : keys ≠ [] := by exact nofun) : GE X cl W (.Dict keys values pos) (xDisp ks g) := ⟨fun σ B H ρ Z res ρ' E e1 Q kq ke => by
  obtain ⟨trs, pp, run⟩ := h
  refine ⟨_, pe_disp pp hall hl h0 hk, ?_⟩
  intro p hp
  have bp : B p = none := fresh_back E.sub hp
  have nw : New B H B (upd H p (.dK [])) (fun b => b = p) := ⟨Ex.refl B, fun a o h => Ex.new hp a o (E.sub a o h), Ex.new hp, fun _ _ _ => rfl, fun a z => z ▸ hp⟩
  have pz : ¬ Z p := fun z => by
    obtain ⟨o, ho⟩ := E.there p z
    rw [hp] at ho
    cases ho
  rcases bind_ok e1 with ⟨rs, ρ1, e2, e3⟩ | ⟨c, ns, xs, e2, e3⟩
  · cases q : trees rs with
    | none => rw [q] at e3; cases e3
    | some ts =>
      rw [q] at e3
      cases e3
      refine run σ B (upd H p (.dK [])) ρ Z _ _ (E.new nw) e2 _ (fun rs' er vs B1 H1 Z1 fp n1 E1 rvs ap hlen => ?_) (fun _ _ _ q => by cases q)
      · cases er
        obtain ⟨h1p, h1b⟩ := n1.fr p _ upd_same pz
        have b1p : B1 p = none := h1b.trans bp
        have nz1 : ¬ Z1 p := fun z => by
          rcases n1.gr p (.inr z) with w | w
          · exact pz w
          · rw [upd_same] at w; cases w
        have nfp : ¬ fp p := fun z => by
          rcases n1.gr p (.inl z) with w | w
          · exact pz w
          · rw [upd_same] at w; cases w
        have sub2 : Ex B1 (upd H1 p (.dK ((ks.map Sum.inr).zip vs))) := fun a o h => by
          by_cases c : a = p
          · subst c; rw [b1p] at h; cases h
          · rw [upd_ne c]; exact E1.sub a o h
        refine ⟨h1p, (ks.map Sum.inr).zip vs, rfl, by simp; omega, ?_⟩
        rw [merge_new (by rw [List.nil_append, List.map_fst_zip (by simp; omega)]; exact nd_keys nd), List.nil_append]
        refine kq _ rfl (.ref p) B1 _ Z1 (fun b => b = p ∨ fp b) ?_ (E1.mono (Ex.refl B1) sub2 fun a ha => ⟨upd_ne fun c => nz1 (c ▸ ha), (E1.own a ha).1⟩) ?_ ?_
        · refine ⟨n1.ex, fun a o h nz => ?_, fun a z => ?_⟩
          · have c : a ≠ p := fun c => by subst c; rw [hp] at h; cases h
            obtain ⟨g1, g2⟩ := n1.fr a o (by rw [upd_ne c]; exact h) nz
            exact ⟨by rw [upd_ne c]; exact g1, g2⟩
          · rcases z with (z | z) | z
            · exact .inr (z ▸ hp)
            · exact (n1.gr a (.inl z)).imp id fun w => by
                by_cases c : a = p
                · exact c ▸ hp
                · rwa [upd_ne c] at w
            · exact (n1.gr a (.inr z)).imp id fun w => by
                by_cases c : a = p
                · exact c ▸ hp
                · rwa [upd_ne c] at w
        · have sv := (rvs.trees q).mono (Ex.refl B1) (H' := upd H1 p (.dK ((ks.map Sum.inr).zip vs))) fun a ha => ⟨upd_ne fun c => nfp (c ▸ ha), (rvs.own a ha).1⟩
          exact ⟨p, vs, fp, rfl, upd_same, by rw [List.length_map, hlen], b1p, sv, nfp, fun b => Iff.rfl⟩
        · intro a ha z
          rcases ha with c | c
          · exact nz1 (c ▸ z)
          · exact ap a c z
  · subst e3
    exact run σ B (upd H p (.dK [])) ρ Z _ _ (E.new nw) e2 _ (fun _ q => by cases q) fun c' ns' xs' q B1 H1 Z1 n1 E1 d hd => by
      cases q
      refine ke _ _ _ rfl B1 H1 Z1 ?_ E1 d hd
      refine ⟨n1.ex, fun a o h nz => ?_, fun a z => ?_⟩
      · have c : a ≠ p := fun c => by subst c; rw [hp] at h; cases h
        exact n1.fr a o (by rw [upd_ne c]; exact h) nz
      · exact (n1.gr a z).imp id fun w => by
          by_cases c : a = p
          · exact c ▸ hp
          · rwa [upd_ne c] at w⟩
@[simp] theorem wp_disp {ρ : Env} {Q : Res R → Env → Prop} : Wp (xDisp ks g ρ) Q ↔ Wp (g ρ) fun x ρ1 => onOk x ρ1 Q fun rs => treesP rs fun ts => Q (.ok (.t (.dct (ks.map .inr) ts))) ρ1 := by
  unfold xDisp treesP
  rw [wp_bind]
  refine Wp.iff fun rs ρ1 => ?_
  cases e : trees rs <;> simp
end
end Av
end
set_option Elab.async false
set_option linter.all false
set_option maxRecDepth 100000
set_option maxHeartbeats 2000000
/-! Defs that call themselves; while, read backwards. -/
noncomputable section
namespace Av
open PySem L2
/-- no promise at all: a def before its first call -/
theorem cal_none {P : Program} {w : World} {K : PySem.W.Frag} {mg : Str → Option Value} {base : Heap} {cl : Str → Addr} {x : Str} {st : Stmt} {ps : List Str} {k n : Nat} (Df : DefIn K mg x st ps) : CalF P w K mg base cl x k n (fun _ => none) := by
  obtain ⟨f, fd, Fd, hm, b⟩ := Df
  have no : ∀ vs H Q E, ¬ spF ⟨K, cl⟩ n (fun _ => none) vs H Q E := fun vs H Q E h => by
    obtain ⟨_, _, _, _, _, _, _, _, q, _⟩ := h
    cases q
  exact ⟨f, fd, ps, ⟨fun vs H Q E h => (no _ _ _ _ h).elim, fun _ _ _ _ _ _ _ _ _ _ _ _ _ h => (no _ _ _ _ h).elim⟩, hm, Fd.kp, b⟩
/-- what a test gives, ahead of a turn -/
def onB (x : Res Bool) (ρ : Env) (Q : Fl → Env → Prop) (k : Prop) : Prop := match x with
  | .ok true => k
  | .ok false => Q .nx ρ
  | .er c ns xs => Q (.er c ns xs) ρ
@[simp] theorem onB_t {ρ Q k} : onB (.ok true) ρ Q k ↔ k := Iff.rfl
@[simp] theorem onB_f {ρ Q k} : onB (.ok false) ρ Q k ↔ Q .nx ρ := Iff.rfl
@[simp] theorem onB_er {c ns xs ρ Q k} : onB (.er c ns xs) ρ Q k ↔ Q (.er c ns xs) ρ := Iff.rfl
theorem onB_dec {b : Bool} {ρ Q} {k : Prop} : onB (.ok b) ρ Q k ↔ (b = true → k) ∧ (b = false → Q .nx ρ) := by cases b <;> simp
/-- a while by an invariant that falls -/
theorem while_inv {c : M Bool} {b : MS} {Q : Fl → Env → Prop} (I : Nat → Env → Prop) (hs : ∀ n ρ, I n ρ → Wp (c ρ) fun x ρ1 => onB x ρ1 Q (Wp (b ρ1) fun fl ρ2 => turn fl ρ2 Q (∃ m, m < n ∧ I m ρ2))) : ∀ n ρ, I n ρ → Wp (sWhile c b ρ) Q := by
  have main : ∀ n ρ, I n ρ → ∃ k r, whileN c b k ρ = some r ∧ Q r.1 r.2 := by
    intro n
    induction n using Nat.strongRecOn with
    | ind n ih =>
      intro ρ h
      obtain ⟨x, ρ1, e1, q⟩ := hs n ρ h
      rcases x with ⟨_ | _⟩ | ⟨k, ns, xs⟩
      · exact ⟨1, (.nx, ρ1), by simp only [whileN, e1], q⟩
      · obtain ⟨fl, ρ2, e2, q2⟩ := q
        cases fl with
        | nx =>
          obtain ⟨m, hm, hI⟩ := q2
          obtain ⟨k, r, e3, q3⟩ := ih m hm ρ2 hI
          exact ⟨k + 1, r, by simp only [whileN, e1, e2]; exact e3, q3⟩
        | ct =>
          obtain ⟨m, hm, hI⟩ := q2
          obtain ⟨k, r, e3, q3⟩ := ih m hm ρ2 hI
          exact ⟨k + 1, r, by simp only [whileN, e1, e2]; exact e3, q3⟩
        | bk => exact ⟨1, (.nx, ρ2), by simp only [whileN, e1, e2], q2⟩
        | rt s => exact ⟨1, (.rt s, ρ2), by simp only [whileN, e1, e2], q2⟩
        | er k ns xs => exact ⟨1, (.er k ns xs, ρ2), by simp only [whileN, e1, e2], q2⟩
      · exact ⟨1, (.er k ns xs, ρ1), by simp only [whileN, e1], q⟩
  intro n ρ h
  obtain ⟨k, r, e, q⟩ := main n ρ h
  exact ⟨r.1, r.2, sWhile_eq e, q⟩
end Av
end
set_option Elab.async false
set_option linter.all false
set_option maxRecDepth 100000
set_option maxHeartbeats 4000000
/-! set(texts), and sorted of it. -/
noncomputable section
namespace Av
open PySem PySem.Spec PyProof.Rows PySem.Froz
/-- the texts, each once, in the order of a set's filling -/
def once : List Str → List Str → List Str
  | acc, [] => acc
  | acc, x :: xs => once (if x ∈ acc then acc else x :: acc) xs
theorem once_mem : ∀ {xs acc : List Str} {k : Str}, k ∈ once acc xs ↔ k ∈ acc ∨ k ∈ xs
  | [], acc, k => by simp [once]
  | x :: xs, acc, k => by
    rw [once, once_mem]
    by_cases h : x ∈ acc
    · rw [if_pos h, List.mem_cons]
      exact ⟨fun z => z.imp id .inr, fun z => z.elim .inl fun z => z.elim (fun e => .inl (e ▸ h)) .inr⟩
    · rw [if_neg h, List.mem_cons, List.mem_cons, or_assoc]
      exact ⟨fun z => z.elim (fun e => .inr (.inl e)) fun z => z.imp id .inr, fun z => z.elim (fun e => .inr (.inl e)) fun z => z.elim .inl fun e => .inr (.inr e)⟩
theorem once_nodup : ∀ {xs acc : List Str}, acc.Nodup → (once acc xs).Nodup
  | [], acc, h => h
  | x :: xs, acc, h => by
    rw [once]
    apply once_nodup
    by_cases c : x ∈ acc
    · rw [if_pos c]; exact h
    · rw [if_neg c]; exact List.nodup_cons.mpr ⟨c, h⟩
theorem once_len : ∀ {xs acc : List Str}, (once acc xs).length ≤ acc.length + xs.length
  | [], acc => Nat.le_refl _
  | x :: xs, acc => by
    rw [once]
    refine Nat.le_trans once_len ?_
    by_cases c : x ∈ acc
    · rw [if_pos c, List.length_cons]; omega
    · rw [if_neg c, List.length_cons, List.length_cons]; omega
/-- at a stands the set of the texts l -/
def TxtSet (P : Program) (w : World) (h : Heap) (a : Addr) (l : List Str) : Prop :=
  ∃ D : SD, h.get? a = some (sObj "set" D) ∧ TxOk P w D l ∧ L2.Ris D.2.2.place.toList ∧ (w.params.followText "set-order" = true ∨ D.2.2.led = true)
theorem add_place {h : Int} {v : Value} {D : SD} (r : L2.Ris D.2.2.place.toList) : L2.Ris (addTx h v D).2.2.place.toList ∧ (addTx h v D).2.2.led = D.2.2.led := by
  have r1 := L2.layNew_ris D.2.2 D.1 h v r
  have l1 := L2.layNew_led D.2.2 D.1 h v
  have r2 : L2.Ris (if (layNew D.2.2 D.1 h v).2.1.plain = true then { (layNew D.2.2 D.1 h v).2.1 with plain := false } else (layNew D.2.2 D.1 h v).2.1).place.toList ∧ (if (layNew D.2.2 D.1 h v).2.1.plain = true then { (layNew D.2.2 D.1 h v).2.1 with plain := false } else (layNew D.2.2 D.1 h v).2.1).led = D.2.2.led := by
    by_cases c : (layNew D.2.2 D.1 h v).2.1.plain = true
    · rw [if_pos c]; exact ⟨r1, l1⟩
    · rw [if_neg c]; exact ⟨r1, l1⟩
  unfold addTx tailTx
  generalize (if (layNew D.2.2 D.1 h v).2.1.plain = true then { (layNew D.2.2 D.1 h v).2.1 with plain := false } else (layNew D.2.2 D.1 h v).2.1) = T at r2 ⊢
  split
  · exact ⟨L2.relayAll_ris _ _ _, (L2.relayAll_led _ _ _).trans r2.2⟩
  · exact r2
section
variable {P : Program} {w : World} {A : Around} {E : Value → Shared → Prop} {s : Shared} {a : Addr} {l : List Str} {k : Str} {u : Tok}
/-- a text goes in -/
theorem txt_in {Q : Bool → Shared → Prop} (T : TxtSet P w s.heap a l) (room : l.length + 1 < scanBound)
    (q : ∀ h' b, (∀ c o, c ≠ a → s.heap.get? c = some o → h'.get? c = some o) → TxtSet P w h' a (if k ∈ l then l else k :: l) → Q b { s with heap := h' }) : wpAny (model P w) A (setAddHashed a (.str k u) (hashStr w k)) Q E s := by
  obtain ⟨D, hD, ok, ri, le⟩ := T
  by_cases c : k ∈ l
  · rw [if_pos c] at q
    have done := q s.heap false (fun _ _ _ e => e) ⟨D, hD, ok, ri, le⟩
    obtain ⟨es, ep, t⟩ := D
    have k1 : (strKind P w).is k (.str k u) = true := is_str k u
    have z : es.size < scanBound := by have := ok.sz; dsimp only at this; omega
    unfold setAddHashed setAddHashedIn
    refine wpAny_holding (wpAny_bind (wpAny_setState_of hD rfl ok.fit ?_))
    dsimp only
    rw [byScan_of rfl z ok.el]
    simp only [↓reduceIte]
    unfold setAddByScan
    refine wpAny_bind (wpAny_bind (wpAny_rule (wpAny_bind (wpAny_setScan_of (knd := strKind P w) (k := k) k1 hD rfl ok.fit ok.el ?_))))
    obtain ⟨e, he, hq⟩ := (ok.mem k).mp c
    cases f : List.findIdx? (fun e => (strKind P w).is k e.2) es.toList with
    | none =>
      have no := List.findIdx?_eq_none_iff.mp f e he
      rw [hq] at no
      cases no
    | some j => exact wpAny_pure (wpAny_pure done)
  · rw [if_neg c] at q
    refine add_x hD ok c room (q _ true (fun b o ne e => PySem.Heap.get?_update_of_ne _ (Ne.symm ne) e) ⟨_, get_upd _ hD rfl, add_ok u ok, (add_place ri).1, ?_⟩)
    rw [(add_place ri).2]
    exact le
/-- the loop over a list of texts -/
theorem fill {R : Result → Shared → Prop} {I : Addr} {fp wr : List Addr} {G : Array GenState → Array GenState → Prop} {n : Nat} {St : Nat → Shared → Prop} {xs : List Str} {Pv : Nat → Value → Prop}
    (W : WalksS P w A.in1 I fp wr G n Pv St) (hz : xs.length = n) (hv : ∀ i v, Pv i v → ∃ x t, xs[i]? = some x ∧ v = .str x t) {S : Addr} (out : S ∉ fp) :
    ∀ (rest : List Str) (i : Nat) (s : Shared) (acc : List Str), i + rest.length = n → xs.drop i = rest → St i s → TxtSet P w s.heap S acc → acc.length + rest.length < scanBound →
      (∀ s', Moved (S :: wr) G s s' → TxtSet P w s'.heap S (once acc rest) → R (.ok (.ret .none)) s') → codeAny (model P w) A (.builtin "set.update.loop" ⟨[.ref S, .ref I], []⟩) R s := by
  have w1 : S ∉ wr := fun h => out (W.sub _ h)
  have w2 : ∀ b ∈ wr, b ∈ S :: wr := fun b hb => List.mem_cons_of_mem _ hb
  have pass : ∀ {h h' : Heap} {l : List Str}, TxtSet P w h S l → (∀ o, h.get? S = some o → h'.get? S = some o) → TxtSet P w h' S l := fun ⟨D, d1, d2⟩ k => ⟨D, k _ d1, d2⟩
  intro rest
  induction rest with
  | nil =>
    intro i s acc hn hd st T room fin
    have hi : i = n := hn
    subst hi
    refine codeAny_builtin PyProof.Rows.F.entry_set_update_loop ?_
    rw [Around.under_plainId PyProof.Rows.F.plain_set_update_loop _]
    show wpAny _ A.in1 (pyNext (.ref I) >>= _) _ _ s
    refine wpAny_bind (W.done s _ _ st fun s' mv => ?_)
    show wpAny _ A.in1 (ret Value.none) _ _ s'
    exact wpAny_pure (fin s' (mv.mono w2) (pass T fun o e => mv.heap S o w1 e))
  | cons x rest ih =>
    intro i s acc hn hd st T room fin
    have hn' : i + (rest.length + 1) = n := hn
    have r' : acc.length + (rest.length + 1) < scanBound := room
    refine codeAny_builtin PyProof.Rows.F.entry_set_update_loop ?_
    rw [Around.under_plainId PyProof.Rows.F.plain_set_update_loop _]
    show wpAny _ A.in1 (pyNext (.ref I) >>= _) _ _ s
    refine wpAny_bind (W.item i s _ _ (by omega) st fun v s1 hp st1 mv => ?_)
    obtain ⟨y, t, e1, rfl⟩ := hv i v hp
    have e2 : xs.drop i = y :: xs.drop (i + 1) := by
      obtain ⟨hl, e⟩ := List.getElem?_eq_some_iff.mp e1
      rw [List.drop_eq_getElem_cons hl, e]
    rw [hd] at e2
    cases e2
    show wpAny _ A.in1 (holding [Value.str x t] (setAdd S (.str x t)) >>= _) _ _ s1
    refine wpAny_bind (wpAny_holding ?_)
    unfold setAdd
    refine wpAny_holding (wpAny_bind ((strKind P w).pyHash (k := x) (is_str _ _) ?_))
    refine txt_in (s := { s1 with toks := s1.toks + 1 }) (pass T fun o e => mv.heap S o w1 e) (by omega) fun h' b oth T' => ?_
    refine wpAny_pure ⟨plainId_quiet PyProof.Rows.F.plain_set_update_loop _, ih (i + 1) _ _ (by omega) rfl (W.frame _ s1 _ _ st1 (Nat.le_succ _) fun c hc o e => oth c o (fun z => out (z ▸ hc)) e) T' ?_ fun s2 mv2 T2 => ?_⟩
    · by_cases c : x ∈ acc
      · rw [if_pos c]; omega
      · rw [if_neg c, List.length_cons]; omega
    · refine fin s2 (Moved.trans W.gtrans ((mv.mono w2).then_heap (Nat.le_succ _) fun c o hc e => oth c o (fun z => hc (z ▸ List.mem_cons_self)) e) mv2) T2
/-- set(xs) of a list of texts -/
theorem set_of_texts {l : Addr} {items : Array Value} {xs : List Str} {Q : Value → Shared → Prop} (calm : A.handled = none) (hl : s.heap.IsList l items) (hi : StrsAre items.toList xs) (few : xs.length < 64)
    (q : ∀ h' tk, TxtSet P w h' s.heap.objs.size (once [] xs) → (∀ b o, b < s.heap.objs.size → s.heap.get? b = some o → h'.get? b = some o) → Q (.ref s.heap.objs.size) { s with heap := h', toks := tk }) :
    wpAny (model P w) A (call (.type "set") [.ref l]) Q E s := by
  obtain ⟨c0, tl0, mro⟩ := PySem.F.called_set.mro
  have f1 := PySem.F.called_set.made
  have f2 := PySem.F.called_set.sub
  have f3 := PySem.F.called_set.notType
  have f4 := PySem.F.called_set.canCreate
  have f5 := PySem.F.typeCall_set_1 (.ref l)
  generalize eO : ({ cls := .type "set", dict := none, data := .set #[] 0 (.fresh 0 0 (!w.params.followText "set-order")) } : Obj) = O
  refine wpAny_call (codeAny_of_tree ?_)
  show wpAny _ _ (callAny (.type "set") _) _ _ _
  refine wpAny_pure ⟨Code.quiet_builtin _ (by decide +kernel), codeAny_builtin PySem.F.entry_type_call ?_⟩
  rw [Around.under_plain (weight_type_call_type "set" [.ref l] []) rfl]
  repeat (any_goals (first | assumption | wp_step))
  refine codeAny_mono (L2.code_set_led1 (.ref l) (E := E) (Q₁ := fun obj s1 => obj = .ref s.heap.objs.size ∧ s1 = { s with heap := s.heap.push O }) ⟨rfl, by rw [eO]⟩) fun r s1 hr => ?_
  rcases r with er | fl
  · exact hr
  cases fl with
  | ret obj =>
    obtain ⟨rfl, rfl⟩ := hr
    have g0 : (s.heap.push O).get? s.heap.objs.size = some O := Heap.get?_push_size _ (by rw [← eO]; rfl)
    have ty : Shared.TypeIs { s with heap := s.heap.push O } (.ref s.heap.objs.size) "set" := ⟨_, g0, by rw [← eO]⟩
    have f6 := PySem.F.called_set.init.lookup
    have f7 := PySem.F.called_set.init.bind (.ref s.heap.objs.size)
    repeat (any_goals (first | assumption | wp_step))
    refine codeAny_mono (codeAny_call_builtin (R := wants (fun r s2 => r = .none ∧ ∃ h' tk, s2 = { s with heap := h', toks := tk } ∧ TxtSet P w h' s.heap.objs.size (once [] xs) ∧ ∀ b o, b < s.heap.objs.size → s.heap.get? b = some o → h'.get? b = some o) E)
      PySem.F.called_set.init.plain PySem.F.entry_set_init (check_set_init_1 ty ?_)) fun r2 s2 hr2 => ?_
    · obtain ⟨ol, hol, hcl, nl, hdl⟩ := hl
      obtain ⟨ocls, odict, odata, oslots⟩ := ol
      dsimp only at hcl hdl
      subst hcl hdl
      have there : (s.heap.push O).get? l = some { cls := .type "list", dict := odict, data := .seq items nl, slots := oslots } := Heap.get?_push_of_some _ hol
      have g1 := PySem.F.sub_list_set
      have g2 := PySem.F.sub_list_frozenset
      have g3 : (Value.type "list" == Value.type "dict") = false := by decide
      have il : (s.heap.push O).IsList l items := ⟨_, there, rfl, nl, rfl⟩
      subst eO
      unfold Builtin.«set.__init__» noKeywords Builtin.Frozenset.updateFrom
      generalize ePI : pyIter = PI
      wp_walk
      subst ePI
      refine wpAny_pyIter_list il ?_
      refine wpAny_bind (wpAny_runValue ?_)
      have lt : l < s.heap.objs.size := Heap.lt_size hol
      have ne0 : l ≠ s.heap.objs.size + 1 := Nat.ne_of_lt (Nat.lt_succ_of_lt lt)
      have sz : ∀ O : Obj, (s.heap.push O).objs.size = s.heap.objs.size + 1 := fun O => Heap.size_push s.heap O
      have ne := (sz { cls := .type "set", dict := none, data := .set #[] 0 (.fresh 0 0 (!w.params.followText "set-order")) }) ▸ ne0
      have calm3 : A.in1.in1.in1.handled = none := by simp [calm]
      have hout0 : ∀ m, m = s.heap.objs.size + 1 → s.heap.objs.size ∉ [m, l] := fun m hm => by
        simp only [List.mem_cons, List.not_mem_nil, or_false, not_or]
        exact ⟨hm ▸ Nat.ne_of_lt (Nat.lt_succ_self _), Nat.ne_of_gt lt⟩
      have len : xs.length = items.size := by rw [← StrsAre.len_eq hi, Array.length_toList]
      refine fill ((Walks.list calm3 _ l ne items).toS) len (fun i v hv => ?_) (hout0 _ (sz _)) xs 0 _ [] (by omega) rfl ⟨⟨_, Heap.get?_push_size _ rfl, rfl, rfl⟩, il.push _⟩ ⟨(#[], 0, .fresh 0 0 (!w.params.followText "set-order")), ?_, TxOk.nil rfl, List.Pairwise.nil, ?_⟩ (by show 0 + xs.length < scanBound; unfold scanBound; omega) fun s3 mv T => ?_
      · obtain ⟨t, rfl⟩ := SS.strs_at hi i v (by rw [Array.getElem?_toList]; exact hv)
        have hlt : i < xs.length := by
          rw [len]
          exact (Array.getElem?_eq_some_iff.mp hv).1
        exact ⟨_, t, by rw [List.getElem?_eq_getElem hlt], by rw [List.getD_eq_getElem?_getD, List.getElem?_eq_getElem hlt]; rfl⟩
      · have g9 := Heap.get?_push_of_some { cls := .type "list_iterator", data := .fields #[.ref l, .int 0 0] } g0
        exact g9
      · show _ ∨ (!w.params.followText "set-order") = true
        cases w.params.followText "set-order" <;> simp
      · obtain ⟨h3, gs3, dr3, tk3, os3⟩ := s3
        cases mv.drawn
        cases mv.os
        have eg : gs3 = s.gens := mv.gens
        cases eg
        refine wpAny_pure ?_
        refine wpAny_pure ⟨rfl, h3, tk3, rfl, T, fun b o hb e => ?_⟩
        refine mv.heap b o ?_ (Heap.get?_push_of_some _ (Heap.get?_push_of_some _ e))
        rw [sz]
        simp only [List.mem_cons, List.not_mem_nil, or_false, not_or]
        exact ⟨Nat.ne_of_lt hb, Nat.ne_of_lt (Nat.lt_succ_of_lt hb)⟩
    · rcases r2 with er | fl2
      · exact hr2
      cases fl2 with
      | ret r =>
        obtain ⟨rfl, h', tk, rfl, T, kp⟩ := hr2
        repeat (any_goals (first | assumption | wp_step))
        exact q _ _ T kp
      | _ => exact hr2.elim
  | _ => exact hr.elim
end
end Av
end
set_option Elab.async false
set_option linter.all false
set_option maxRecDepth 100000
set_option maxHeartbeats 4000000
/-! sorted of texts; sorted(set(texts)). -/
noncomputable section
namespace Av
open PySem PySem.Spec PyProof.Rows PySem.Froz
/-! ### the one rising order -/
theorem le_of_nlt {a b : Str} (h : ltCps b.cps.toList a.cps.toList = false) : a.cps.toList ≤ b.cps.toList := by
  rw [ltCps_eq] at h
  exact List.not_lt.mp (of_decide_eq_false h)
theorem rise_pw : ∀ {l : List Str} {p : Str}, risingS p l = true → (p :: l).Pairwise (fun a b => a.cps.toList ≤ b.cps.toList)
  | [], p, _ => List.pairwise_singleton _ _
  | x :: l, p, h => by
    have h' : (!ltCps x.cps.toList p.cps.toList && risingS x l) = true := h
    rw [Bool.and_eq_true, Bool.not_eq_true'] at h'
    have r := rise_pw h'.2
    have e := le_of_nlt h'.1
    refine List.pairwise_cons.mpr ⟨fun y hy => ?_, r⟩
    rcases List.mem_cons.mp hy with z | z
    · exact z ▸ e
    · exact List.le_trans e ((List.pairwise_cons.mp r).1 y z)
theorem sort_pw : ∀ {l : List Str}, sortedS l = true → l.Pairwise (fun a b => a.cps.toList ≤ b.cps.toList)
  | [], _ => List.Pairwise.nil
  | x :: l, h => rise_pw h
theorem str_ext' {a b : Str} (h : a.cps.toList = b.cps.toList) : a = b := by
  obtain ⟨⟨x⟩⟩ := a
  obtain ⟨⟨y⟩⟩ := b
  cases h
  rfl
theorem sort_one {l m : List Str} (p : l.Perm m) (h : sortedS l = true) (h' : sortedS m = true) : l = m :=
  List.Perm.eq_of_pairwise (fun a b _ _ z z' => str_ext' (List.le_antisymm z z')) (sort_pw h) (sort_pw h') p
open Classical in
/-- the texts, rising -/
def rised (xs : List Str) : List Str := if h : ∃ ys : List Str, ys.Perm xs ∧ sortedS ys = true then Classical.choose h else []
theorem rised_eq {xs ys : List Str} (p : ys.Perm xs) (h : sortedS ys = true) : rised xs = ys := by
  have ex : ∃ ys : List Str, ys.Perm xs ∧ sortedS ys = true := ⟨ys, p, h⟩
  unfold rised
  rw [dif_pos ex]
  obtain ⟨p', h'⟩ := Classical.choose_spec ex
  exact sort_one (p'.trans p.symm) h' h
/-! ### a set's texts, in a row -/
theorem perm_of_sub {α : Type} [DecidableEq α] : ∀ {l m : List α}, l.Nodup → (∀ x ∈ l, x ∈ m) → m.length ≤ l.length → l.Perm m
  | [], m, _, _, h => by rw [List.length_eq_zero_iff.mp (Nat.le_zero.mp h)]
  | x :: l, m, nd, h, hl => by
    obtain ⟨n1, n2⟩ := List.nodup_cons.mp nd
    have hx := h x (List.mem_cons_self ..)
    have p := List.perm_cons_erase hx
    have hlen := p.length_eq
    rw [List.length_cons] at hlen hl
    exact (List.Perm.cons x (perm_of_sub n2 (fun y hy => by
      rcases List.mem_cons.mp (p.mem_iff.mp (h y (List.mem_cons_of_mem _ hy))) with z | z
      · exact (n1 (z ▸ hy)).elim
      · exact z) (by omega))).trans p.symm
section
variable {P : Program} {w : World} {A : Around} {E : Value → Shared → Prop} {s : Shared} {a : Addr} {l : List Str}
theorem txt_row {D : SD} (ok : TxOk P w D l) (nd : l.Nodup) : ∀ e ∈ D.1.toList.map (·.2), ∃ x t, e = Value.str x t := fun v hv => by
  obtain ⟨e, he, rfl⟩ := List.mem_map.mp hv
  obtain ⟨⟨k, hk, _⟩, _⟩ := ok.el e he
  obtain ⟨t, ht⟩ := Value.isStrOf_shape hk
  exact ⟨k, t, ht⟩
theorem txt_perm {D : SD} (ok : TxOk P w D l) (nd : l.Nodup) {vs : List Value} (p : vs.Perm (D.1.toList.map (·.2))) : l.Perm (vs.map strOf) := by
  refine perm_of_sub nd (fun x hx => ?_) ?_
  · obtain ⟨e, he, hk⟩ := (ok.mem x).mp hx
    obtain ⟨t, ht⟩ := Value.isStrOf_shape hk
    exact List.mem_map.mpr ⟨e.2, p.mem_iff.mpr (List.mem_map.mpr ⟨e, he, rfl⟩), by rw [ht]; rfl⟩
  · rw [List.length_map, p.length_eq, List.length_map, Array.length_toList, ok.sz]
    exact Nat.le_refl _
theorem sorted_txt {Q : Value → Shared → Prop} (T : TxtSet P w s.heap a l) (nd : l.Nodup) (few : l.length < 64) (calm : A.handled = none)
    (q : ∀ s' p (out : Array Value) (c : Nat), (∀ b o, s.heap.get? b = some o → s'.heap.get? b = some o) → s'.gens = s.gens → s'.os = s.os → s.heap.objs.size ≤ p → s'.heap.get? p = some (seqObj "list" out c) → StrsAre out.toList (rised l) → (rised l).length = l.length → Q (.ref p) s') :
    wpAny (model P w) A (call (.builtin "sorted") [.ref a]) Q E s := by
  obtain ⟨⟨es, ep, t⟩, hD, ok, ri, le⟩ := T
  have hz : es.size < scanBound := by
    have e := ok.sz
    dsimp only at e
    unfold scanBound
    omega
  refine Calls.call_function_entry kind_sorted plain_sorted entry_sorted (args_sorted1 _) ?_
  unfold Builtin.«sorted»
  refine wpAny_bind (m := checkCount "sorted" 1 1 _) (wpAny_pure ?_)
  refine wpAny_bind (L2.collect_set (A := A.in1) calm ⟨_, hD, rfl, rfl⟩ ok.fit hz ri le fun s1 vs k1 z1 g1 o1 pm => ?_)
  have pl := txt_perm ok nd pm
  have len : vs.length = l.length := by rw [← List.length_map (f := strOf), pl.length_eq]
  have all : StrsAre vs (vs.map strOf) := strsAre_map vs fun v hv => txt_row ok nd v (pm.mem_iff.mp hv)
  refine wpAny_bind (wpAny_newList ?_ (by rw [len, sizeLine_eq]; omega))
  have hL : (s1.heap.push (seqObj "list" vs.toArray 0)).get? s1.heap.objs.size = some (seqObj "list" vs.toArray 0) := Heap.get?_push_size _ rfl
  refine wpAny_bind (wpAny_holding (wpAny_call_entry slot_list_sort ⟨_, hL, rfl⟩ entry_list_sort
    (list_sort_treeK strKind_oneLt hL all.keysOf (fun v₁ v₂ rest e => keyKind_strs (by rw [← e]; exact all)) (by rw [len]; exact few) fun st hp hs => ⟨_, rfl, ?_⟩) (args_list_sort _)))
  obtain ⟨ys, y1, y2, y3⟩ := sorted_out_str all hp hs
  have er : rised l = ys := rised_eq (y2.trans pl.symm) y3
  obtain ⟨c, hc⟩ := sortedHeap_at (vs := vs) (out := (arrOf st).map (·.2)) hL
  refine wpAny_pure ⟨_, rfl, q _ s1.heap.objs.size _ c (fun b u e => ?_) g1 o1 z1 hc (er ▸ y1) (by rw [er, y2.length_eq, List.length_map, len])⟩
  have e1 := k1 b u e
  have lt := Heap.lt_size e1
  show (sortedHeap (s1.heap.push (seqObj "list" vs.toArray 0)) s1.heap.objs.size vs _).get? b = some u
  rw [sortedHeap_old (Nat.ne_of_lt lt) (by rw [size_push']; exact Nat.lt_succ_of_lt lt)]
  exact Heap.get?_push_of_some _ e1
end
end Av
namespace Av
open PySem L2 PySem.Spec PyProof.Rows
section
variable {X : Cx} {cl : Str → Addr} {W : WX}
def setO (P : Program) (w : World) (a : Addr) (l : List Str) : HO := .ext fun h => TxtSet P w h a l
theorem setO_ok {P : Program} {w : World} {H : Hp} {h : Heap} {a : Addr} {l : List Str} (T : TxtSet P w h a l) : ObjOk P w H h a (setO P w a l) := by
  obtain ⟨D, hD, r⟩ := T
  exact ⟨⟨D, hD, r⟩, ⟨_, hD⟩, fun h1 h2 p k => by obtain ⟨D', d1, d2⟩ := p; exact ⟨D', k _ d1, d2⟩⟩
def rSetTx (K : PySem.W.Frag) (P : Program) (w : World) : List V → Hp → VK → Prop := fun xs H Q => ∃ a zs, xs = [.ref a] ∧ SqL K H a (zs.map V.str) ∧ zs.length < 64 ∧ ∀ p, H p = none → Q (.ref p) (upd H p (setO P w p (once [] zs)))
theorem call_setTx (hc : X.calm = true) : CallR X (.type "set") (rSetTx X.K X.prog X.w) := by
  rintro pins s σ H xs us Q I r ⟨a, zs, rfl, hs, few, q⟩
  rw [Vals.ref1 r]
  obtain ⟨its, rv, pl, hz⟩ := I.list hs
  have no : H s.heap.objs.size = none := I.hok.fresh (Nat.le_refl _)
  refine set_of_texts (P := X.prog) (w := X.w) (I.ok.hd hc) pl.isList (by simpa using rv.strs) few fun h' tk T kp => ?_
  exact ⟨.ref _, _, I.laid (t' := tk) (fun b o e => kp b o (Heap.lt_size e) e) (Nat.le_refl _) (setO_ok T), rfl, q _ no⟩
def rSortTx (P : Program) (w : World) : List V → Hp → VK → Prop := fun vs H Q => ∃ a l, vs = [V.ref a] ∧ H a = some (setO P w a l) ∧ l.Nodup ∧ l.length < 64 ∧ ∀ p, H p = none → Q (.ref p) (upd H p (.lst ((rised l).map V.str)))
theorem call_sortTx (hc : X.calm = true) : CallR X (.builtin "sorted") (rSortTx X.prog X.w) := by
  rintro pins s σ H xs us Q I r ⟨a, l, rfl, ha, nd, few, q⟩
  have T : TxtSet X.prog X.w s.heap a l := (I.hok a _ ha).1
  rw [Vals.ref1 r]
  refine sorted_txt T nd few (I.ok.hd hc) fun s' p out c kp hg ho lp hp st len => ?_
  have no : H p = none := I.hok.fresh lp
  have fits : ((rised l).map V.str).length ≤ sizeLine := by rw [List.length_map, len, sizeLine_eq]; omega
  have J : Inv X pins σ (upd H p (.lst ((rised l).map V.str))) { s with heap := s'.heap, gens := s'.gens, drawn := s'.drawn, toks := s'.toks } :=
    I.call (ch := []) (Un.laid kp lp no) (I.hok.laid kp lp ⟨fits, out.toList, c, vals_of_strs st, hp⟩) (by rw [hg]; exact I.bare) (fun _ z => nomatch z)
  have e : s' = { s with heap := s'.heap, gens := s'.gens, drawn := s'.drawn, toks := s'.toks } := by
    obtain ⟨_, _, _, _, _⟩ := s'
    cases ho
    rfl
  rw [e]
  exact ⟨.ref p, _, J, rfl, q p no⟩
/-- sorted(set(x)) in one: what the set's call leaves goes into sorted -/
def relSS (X : Cx) (r : List V → Hp → VK → Prop) : Prop := ∀ (pins : List (Addr × Obj)) (s : Shared) (σ : L2.St) (H : Hp) (xs : List V) (us : List Value) (Q : VK), Inv X pins σ H s → Vals xs us → r xs H Q →
  wpAny (model X.prog X.w) X.A (call (.type "set") us) (fun v s1 => wpAny (model X.prog X.w) X.A (call (.builtin "sorted") [v]) (EP X pins σ Q) X.xe s1) X.xe s
theorem rel_ss : Rel (relSS X) := fun pins s σ H xs us Q I r ⟨_, hr, q⟩ => hr pins s σ H xs us Q I r q
theorem ss_of {r1 r2 : List V → Hp → VK → Prop} (h1 : CallR X (.type "set") r1) (h2 : CallR X (.builtin "sorted") r2) : relSS X fun vs H Q => r1 vs H fun v H1 => r2 [v] H1 Q := fun pins s σ H xs us Q I r q =>
  thn (h1 pins s σ H xs us _ I r q) fun v s1 ⟨x, H1, I1, r1, q1⟩ => h2 pins s1 σ H1 [x] [v] Q I1 (.cons r1 .nil) q1
def bSortSet : List S → Option S
  | [s] => ((elems s).bind strsD).bind fun xs => if xs.length < 64 then some (.lst (((rised (once [] xs)).map D.str).map .im)) else none
  | _ => none
theorem svs_strs {G : Gx} {B H : Hp} : ∀ xs : List Str, SVs G B H (xs.map V.str) ((xs.map D.str).map .im) (fun _ => False)
  | [] => ⟨rfl, fun _ z => z⟩
  | x :: xs => ⟨_, _, fun _ => False, fun _ => False, rfl, ⟨rfl, fun _ z => z⟩, svs_strs xs, fun _ z => z.elim, fun _ => ⟨False.elim, fun z => z.elim id id⟩⟩
theorem opn_sortSet (hc : X.calm = true) : OpN X cl (relSS X) bSortSet := fun B H vs ss z e hl hs hg Q k => by
  unfold bSortSet at hg
  split at hg
  · rename_i s
    cases q1 : elems s with
    | none => rw [q1] at hg; cases hg
    | some ds =>
      cases q2 : strsD ds with
      | none => simp [q1, q2] at hg
      | some xs =>
        simp only [q1, q2, Option.bind_some] at hg
        split at hg
        · rename_i few
          cases hg
          obtain ⟨v, rfl, f, h1⟩ := hs1 hl hs
          obtain ⟨a, us, rfl, h2, h3⟩ := elems_ok h1 e q1
          have h4 := strsD_ok h3 q2
          subst h4
          refine ⟨_, ss_of (call_setTx hc) (call_sortTx hc), a, xs, rfl, sq_of h2, few, fun p hp => ⟨p, _, rfl, upd_same, once_nodup List.Pairwise.nil, ?_, fun p2 hp2 => ?_⟩⟩
          · have := once_len (xs := xs) (acc := [])
            simp only [List.length_nil] at this
            omega
          · have ne : p2 ≠ p := fun z => by subst z; rw [upd_same] at hp2; cases hp2
            have hp2' : H p2 = none := by rwa [upd_ne ne] at hp2
            refine k _ B _ (fun b => b = p2) ⟨Ex.refl B, fun b o h => ?_, fun b o h => ?_, fun _ _ _ => rfl, fun b z => z ▸ hp2'⟩ ⟨p2, _, fun _ => False, rfl, upd_same, fresh_back e hp2', svs_strs _, fun z => z, fun b => ⟨.inl, fun z => z.elim id False.elim⟩⟩
            · exact Ex.new hp2 b o (Ex.new hp b o (e b o h))
            · exact Ex.new hp2 b o (Ex.new hp b o h)
        · cases hg
  · cases hg
theorem pe_ss {e : Expr} {t : TA} {r : List V → Hp → VK → Prop} {p p2 q pos : Pos} (hr : relSS X r) (hg : Gl X "sorted") (hm : X.mg "sorted" = none) (hg2 : Gl X "set") (hm2 : X.mg "set" = none) (ha : PA X [e] t)
    (na : starEach [e] X.env = (false, eval e X.env) :: starEach [] X.env := by rfl) : PE X (.Call (.Name "sorted" p) [.Call (.Name "set" p2) [e] [] q] [] pos) (fun σ H Q => t σ H fun xs H1 => r xs H1 Q) := by
  refine ⟨fun pins s σ H Q I h => ?_⟩
  refine wpAny_Call_Name_kw (ld_blt I hg hm boot_sorted ?_)
  refine PyProof.Rows.callWith_builtin1 (PyProof.Rows.args_cons ?_ rfl) rfl rfl
  refine wpAny_Call_Name_kw (ld_blt I hg2 hm2 boot_set ?_)
  refine PyProof.Rows.callWith_type1 (thn (ha.run q pins s σ H _ I h) fun us s1 ⟨vs, H1, I1, r1, q1⟩ => ?_) na rfl
  exact thn (hr pins s1 σ H1 vs us Q I1 r1 q1) fun v s2 h2 => PyProof.Rows.args_nil h2
theorem ge_sortSet {e : Expr} {f : M (List R)} {p p2 q pos : Pos} (hc : X.calm = true) (hg : Gl X "sorted") (hm : X.mg "sorted" = none) (hg2 : Gl X "set") (hm2 : X.mg "set" = none) (h : GA X cl W [e] f)
    (na : starEach [e] X.env = (false, eval e X.env) :: starEach [] X.env := by rfl) : GE X cl W (.Call (.Name "sorted" p) [.Call (.Name "set" p2) [e] [] q] [] pos) (mN bSortSet f) :=
  ge_opN h (opn_sortSet hc) rel_ss fun r hr => pe_ss hr hg hm hg2 hm2 pa_U na
end
end Av
end
set_option Elab.async false
set_option linter.all false
set_option maxRecDepth 100000
set_option maxHeartbeats 2000000
/-! More wishes read backwards: methods that change, texts compared, dicts asked. -/
noncomputable section
namespace Av
open PySem L2
section
variable {ρ : Env} {Q : Res R → Env → Prop} {f : M (List R)}
@[simp] theorem wp_mutS {i : Nat} {T : String} {g : S → List S → Option (S × S)} : Wp (xMut i T g f ρ) Q ↔ ofO (ρ[i]?).join fun s0 => kindS T s0 = true ∧ Wp (f ρ) fun x ρ1 => onOk x ρ1 Q fun rs => treesP rs fun as => ofO ((ρ1[i]?).join) fun s => ofO (g s as) fun p => Q (.ok (.t p.1)) (ρ1.set i (some p.2)) := by
  rcases e : ρ[i]? with _ | _ | s0
  · simp [xMut, e]
  · simp [xMut, e]
  · rw [wp_mut e]
    simp
end
theorem ok_sh {x : Str} (h : PyData.strOk x = true) : SeqAt.shaped (.str x) = true := by
  unfold SeqAt.shaped
  show (PyData.strOk x && _) = true
  rw [h]
  rfl
theorem eq_ss {x y : Str} {Q : S → Prop} (hx : PyData.strOk x = true) (hy : PyData.strOk y = true) : opv bEq [.im (.str x), .im (.str y)] Q ↔ Q (.im (.bl (decide (x = y)))) := by
  show ofO _ Q ↔ _
  have e : PyData.eqv (.str x) (.str y) = decide (x = y) := by
    show (x == y) = _
    by_cases h : x = y <;> simp [h]
  simp [bEq, py, ok_sh hx, ok_sh hy, e]
theorem ne_ss {x y : Str} {Q : S → Prop} (hx : PyData.strOk x = true) (hy : PyData.strOk y = true) : opv bNe [.im (.str x), .im (.str y)] Q ↔ Q (.im (.bl (!decide (x = y)))) := by
  show ofO _ Q ↔ _
  have e : PyData.eqv (.str x) (.str y) = decide (x = y) := by
    show (x == y) = _
    by_cases h : x = y <;> simp [h]
  simp [bNe, py, ok_sh hx, ok_sh hy, e]
theorem look_map {α β : Type} (f : α → β) : ∀ (ks : List Key) (xs : List α) (k : Key), look ks (xs.map f) k = (look ks xs k).map f
  | [], _, _ => rfl
  | k :: ks, [], j => rfl
  | k :: ks, x :: xs, j => by
    show (if k = j then some (f x) else look ks (xs.map f) j) = (if k = j then some x else look ks xs j).map f
    by_cases c : k = j
    · rw [if_pos c, if_pos c]; rfl
    · rw [if_neg c, if_neg c, look_map]
theorem look_mem {α : Type} : ∀ {ks : List Key} {xs : List α} {k : Key} {x : α}, look ks xs k = some x → x ∈ xs
  | k :: ks, y :: xs, j, x, h => by
    unfold look at h
    split at h
    · cases h; exact List.mem_cons_self ..
    · exact List.mem_cons_of_mem _ (look_mem h)
  | [], _, _, _, h => by cases h
  | _ :: _, [], _, _, h => by cases h
theorem io_b {b : Bool} {Q : S → Prop} : opv bIntOf [.im (.bl b)] Q ↔ Q (.im (.int (if b = true then 1 else 0))) := by simp [opv, bIntOf]
/-- the last item of an owned list, taken off -/
theorem pop_last {α : Type} (h : α → S) (xs : List α) (x : α) : lPop (.lst ((xs ++ [x]).map h)) [] = some (h x, .lst (xs.map h)) := by
  simp [lPop]
theorem pys_map {α : Type} (h : α → D) : ∀ xs : List α, pys (xs.map h) = xs.map fun x => py (h x)
  | [] => rfl
  | x :: xs => by
    show py (h x) :: pys (xs.map h) = _
    rw [pys_map]
    rfl
theorem shp_strs {xs : List Str} (h : xs.all PyData.strOk = true) : SeqAt.shaped (.list (xs.map PyData.str)) = true := by
  have c : ∀ xs : List Str, xs.all PyData.strOk = true → PyData.canLayAll0 (xs.map PyData.str) = true := by
    intro xs
    induction xs with
    | nil => intro _; rfl
    | cons x xs ih =>
      intro h
      rw [List.all_cons, Bool.and_eq_true] at h
      show (PyData.strOk x && PyData.canLayAll0 (xs.map PyData.str)) = true
      rw [h.1, ih h.2]
      rfl
  have e : ∀ xs : List Str, PyData.depthAll (xs.map PyData.str) = 0 := by
    intro xs
    induction xs with
    | nil => rfl
    | cons x xs ih =>
      show max 0 (PyData.depthAll (xs.map PyData.str)) = 0
      rw [ih]
      rfl
  unfold SeqAt.shaped
  show (PyData.canLayAll0 _ && decide (PyData.depthAll _ + 1 ≤ 64)) = true
  rw [c xs h, e xs]
  rfl
theorem fzs_strs : ∀ xs : List Str, fzs (xs.map fun x => S.im (.str x)) = xs.map D.str
  | [] => rfl
  | x :: xs => by
    show D.str x :: fzs (xs.map fun x => S.im (.str x)) = _
    rw [fzs_strs]
    rfl
theorem ne_strs {xs : List Str} {Q : S → Prop} (h : xs.all PyData.strOk = true) : opv bNe [.lst (xs.map fun x => .im (.str x)), .lst (xs.map fun x => .im (.str x))] Q ↔ Q (.im (.bl false)) := by
  show ofO _ Q ↔ _
  have e : py (fz (.lst (xs.map fun x => .im (.str x)))) = .list (xs.map PyData.str) := by
    show PyData.list (pys (fzs _)) = _
    rw [fzs_strs, pys_map]
    rfl
  simp only [bNe, e, shp_strs h, SeqAt.eqv_refl _ (SeqAt.canLay_of_shaped (shp_strs h))]
  simp
end Av
end
set_option Elab.async false
set_option linter.all false
set_option maxRecDepth 100000
set_option maxHeartbeats 4000000
noncomputable section
namespace Lk03
open PySem L2 Av PyProof.Rows PySem.F
def top (i : Nat) : Stmt := PySem.Challenge.pw_dimfits_k03_terms.main.body.getD i (.Pass ⟨0, 0, 0, 0⟩)
abbrev s__law_draw : Stmt := top 9
abbrev N__law_draw : List Str := ["_law_flow_here", "_law_many", "_law_digit", "_law_number"]
abbrev P__law_draw : List Str := ["_law_flow_here", "_law_many"]
abbrev s__law_deep_term : Stmt := top 12
abbrev N__law_deep_term : List Str := ["_law_flow_here", "_law_names_here", "_law_room", "_law_down", "_law_number", "_law_one", "_law_sign", "_law_first"]
abbrev P__law_deep_term : List Str := ["_law_flow_here", "_law_names_here", "_law_room", "_law_down"]
abbrev s__law_cell : Stmt := top 7
abbrev N__law_cell : List Str := ["_law_script", "_law_k", "_law_number"]
abbrev P__law_cell : List Str := ["_law_script", "_law_k"]
abbrev s__law_flow : Stmt := top 8
abbrev N__law_flow : List Str := ["_law_script", "_law_k", "_law_cell_here", "_law_own"]
abbrev P__law_flow : List Str := ["_law_script", "_law_k"]
abbrev s__law_names : Stmt := top 10
abbrev N__law_names : List Str := ["_law_flow_here", "_law_many", "_law_some", "_law_word", "_law_j", "_law_at", "_law_first", "_law_kept", "_law_found", "_law_k", "_law_name"]
abbrev P__law_names : List Str := ["_law_flow_here", "_law_many"]
abbrev s__law_gone : Stmt := top 13
abbrev N__law_gone : List Str := ["_law_term", "_law_many", "_law_names_here", "_law_left", "_law_one"]
abbrev P__law_gone : List Str := ["_law_term"]
abbrev s__law_whole : Stmt := top 14
abbrev N__law_whole : List Str := ["_law_found", "_law_due"]
abbrev P__law_whole : List Str := ["_law_found", "_law_due"]
abbrev s__law_worth : Stmt := top 11
abbrev N__law_worth : List Str := ["_law_term", "_law_cells", "_law_one", "_law_other", "_law_some"]
abbrev P__law_worth : List Str := ["_law_term", "_law_cells"]
abbrev s_cells_of : Stmt := top 5
abbrev N_cells_of : List Str := ["term", "found", "left", "one"]
abbrev P_cells_of : List Str := ["term"]
abbrev s_parts_of : Stmt := top 2
abbrev N_parts_of : List Str := ["term"]
abbrev P_parts_of : List Str := ["term"]
abbrev s_of_two : Stmt := top 3
abbrev N_of_two : List Str := ["sign", "one", "other"]
abbrev P_of_two : List Str := ["sign", "one", "other"]
abbrev s_worth : Stmt := top 4
abbrev N_worth : List Str := ["term", "cells"]
abbrev P_worth : List Str := ["term", "cells"]
abbrev s__law_right : Stmt := top 16
abbrev N__law_right : List Str := ["_law_term", "_law_cells", "_law_many", "_law_names_here", "_law_found", "_law_kept"]
abbrev P__law_right : List Str := ["_law_term", "_law_cells"]
abbrev s__law_values : Stmt := top 15
abbrev N__law_values : List Str := ["_law_flow_here", "_law_names_here", "_law_found", "_law_name"]
abbrev P__law_values : List Str := ["_law_flow_here", "_law_names_here"]
abbrev s_law : Stmt := top 17
abbrev N_law : List Str := ["_law_script", "_law_k", "_law_flow_here", "_law_names_here", "_law_at", "_law_name", "_law_down", "_law_terms", "_law_turn", "_law_dicts", "_law_cells", "_law_term"]
abbrev P_law : List Str := ["_law_script"]
def d_WIDE : D := (.int 1000000)
def m__law_draw : MS := (sSeq (sIf (xTest (m2 (bInt gGt) (m2 bIx (xVar 0) (xC (.int 0))) (xC (.int 0)))) (sSeq (sAsg (m2 (bInt gMod) (m2 bIx (xVar 0) (xC (.int 0))) (xVar 1)) (gSlot 2)) (sSeq (sAsg (m2 (bInt gDiv) (m2 bIx (xVar 0) (xC (.int 0))) (xVar 1)) (gStore 0 (xC (.int 0)))) (sRet (xMove 2)))) sNil) (sSeq (sAsg (m2 bAdd (m2 bIx (xVar 0) (xC (.int 1))) (xC (.int 1))) (gStore 0 (xC (.int 1)))) (sSeq (sAsg (m2 (bInt gMod) (m2 bAdd (m2 bAdd (m2 bMul (m2 bIx (xVar 0) (xC (.int 2))) (m2 bAdd (xC (.int 48271)) (m2 bMul (xC (.int 2)) (m2 bIx (xVar 0) (xC (.int 1)))))) (m2 bMul (xC (.int 7919)) (m2 bIx (xVar 0) (xC (.int 1))))) (xC (.int 1))) (xC (.int 2147483629))) (gSlot 3)) (sSeq (sAsg (m2 (bInt gMod) (m2 bMul (xVar 3) (xVar 3)) (xC (.int 2147483587))) (gSlot 3)) (sRet (m2 (bInt gMod) (m2 (bInt gDiv) (m2 (bInt gMod) (m2 bMul (m2 bAdd (xVar 3) (xC (.int 5))) (m2 bAdd (xVar 3) (xC (.int 40692)))) (xC (.int 2147483579))) (xC (.int 31))) (xVar 1)))))))
def F__law_draw : Fn := fnM 2 4 [0] m__law_draw
def m__law_deep_term (FX : Fn) : MS := (sSeq (sIf (xOr (xTest (m2 (bInt gLt) (xVar 2) (xC (.int 3)))) (xOr (xTest (m2 bEq (xVar 3) (xC (.int 0)))) (xTest (m2 bEq (xCall F__law_draw (aCons (xVar 0) (aCons (xC (.int 4)) aNil))) (xC (.int 0)))))) (sSeq (sAsg (m2 bIx (xLst (aCons (xCall F__law_draw (aCons (xVar 0) (aCons (xC (.int 3)) aNil))) (aCons (xCall F__law_draw (aCons (xVar 0) (aCons (xC (.int 1000000)) aNil))) (aCons (m2 (bInt fun i j => some (.int (i - j))) (xC (.int 999999)) (xCall F__law_draw (aCons (xVar 0) (aCons (xC (.int 3)) aNil)))) aNil)))) (xCall F__law_draw (aCons (xVar 0) (aCons (xC (.int 3)) aNil)))) (gSlot 4)) (sRet (m2 bIx (xLst (aCons (xTup (aCons (xC (.str "cell")) (aCons (m2 bIx (xVar 1) (xCall F__law_draw (aCons (xVar 0) (aCons (mN bLen (aCons (xVar 1) aNil)) aNil)))) aNil))) (aCons (xTup (aCons (xC (.str "num")) (aCons (xTake 4) aNil))) aNil))) (xCall F__law_draw (aCons (xVar 0) (aCons (xC (.int 2)) aNil)))))) sNil) (sSeq (sAsg (m2 bAdd (xC (.int 1)) (xCall F__law_draw (aCons (xVar 0) (aCons (m2 (bInt fun i j => some (.int (i - j))) (xVar 2) (xC (.int 2))) aNil)))) (gSlot 5)) (sSeq (sAsg (m2 bIx (xC (.str "+-*<=")) (xCall F__law_draw (aCons (xVar 0) (aCons (xC (.int 5)) aNil)))) (gSlot 6)) (sSeq (sAsg (xCall FX (aCons (xVar 0) (aCons (xTake 1) (aCons (xTake 5) (aCons (m2 (bInt fun i j => some (.int (i - j))) (xVar 3) (xC (.int 1))) aNil))))) (gSlot 7)) (sRet (xTup (aCons (xC (.str "op")) (aCons (xTake 6) (aCons (xTake 7) (aCons (xCall FX (aCons (xVar 0) (aCons (xTake 1) (aCons (m2 (bInt fun i j => some (.int (i - j))) (m2 (bInt fun i j => some (.int (i - j))) (xVar 2) (xC (.int 1))) (xVar 5)) (aCons (m2 (bInt fun i j => some (.int (i - j))) (xVar 3) (xC (.int 1))) aNil))))) aNil))))))))))
def F__law_deep_term : Nat → Fn
  | 0 => fun _ => none
  | n + 1 => fnM 4 8 [0] (m__law_deep_term (F__law_deep_term n))
def m__law_cell : MS := (sSeq (sIf (xTest (m2 (bInt gLt) (xVar 1) (mN bLen (aCons (xVar 0) aNil)))) (sRet (m2 bIx (xVar 0) (xVar 1))) sNil) (sSeq (sAsg (m2 bAdd (m2 bMul (xVar 1) (xC (.int 7919))) (xC (.int 5))) (gSlot 2)) (sSeq (sIf (xTest (m2 (bInt gGt) (mN bLen (aCons (xVar 0) aNil)) (xC (.int 0)))) (sAsg (m2 bAdd (m2 bMul (m2 (bInt gMod) (m2 bIx (xVar 0) (m2 (bInt gMod) (m2 bMul (xVar 1) (xC (.int 7))) (mN bLen (aCons (xVar 0) aNil)))) (xC (.int 2147483629))) (xC (.int 48271))) (m2 bMul (xVar 1) (xC (.int 7919)))) (gSlot 2)) sNil) (sRet (m2 bMul (m2 (bInt gMod) (xVar 2) (xC (.int 2147483647))) (xC (.int 31)))))))
def F__law_cell : Fn := fnM 2 3 [] m__law_cell
def m__law_flow : MS := (sSeq (sAsg (xCall F__law_cell (aCons (xTake 0) (aCons (xTake 1) aNil))) (gSlot 2)) (sSeq (sAsg (xC (.int 0)) (gSlot 3)) (sSeq (sIf (xTest (m2 (bInt gGe) (xVar 2) (m2 (bInt gPow) (xC (.int 10)) (xC (.int 18))))) (sAsg (xTake 2) (gSlot 3)) sNil) (sRet (xLst (aCons (xTake 3) (aCons (xC (.int 0)) (aCons (m2 bAdd (m2 (bInt gMod) (xVar 2) (xC (.int 2147483629))) (m2 bMul (xC (.int 40692)) (xVar 1))) aNil))))))))
def F__law_flow : Fn := fnM 2 4 [] m__law_flow
def m__law_names_1 : MS := (sIf (xAnd (xTest (m2 bNotIn (xVar 10) (xVar 7))) (xTest (m2 (bInt gLt) (mN bLen (aCons (xVar 8) aNil)) (xVar 1)))) (sExpr (xMut 8 "list" lAppend (aCons (xTake 10) aNil))) sNil)
def m__law_names_2 : MS := (sSeq (sAsg (m2 bAdd (m2 bAdd (xSlice (xVar 3) oNone (oSome (xVar 5))) (m2 bIx (xVar 2) (m2 (bInt gMod) (m2 bAdd (xVar 6) (m2 bMul (xC (.int 7)) (xVar 9))) (xC (.int 26))))) (xSlice (xVar 3) (oSome (xVar 5)) oNone)) (gSlot 10)) m__law_names_1)
def m__law_names_3 : MS := (sRet (xMove 8))
def m__law_names_4 : MS := (sSeq (sFor (iRange (aCons (xC (.int 26)) aNil)) (gSlot 9) m__law_names_2) m__law_names_3)
def m__law_names_5 : MS := (sSeq (sAsg (xLst aNil) (gSlot 8)) m__law_names_4)
def m__law_names_6 : MS := (sSeq (sAsg (xMeth "str" bSplit (xC (.str "set read from tell sure if else while times call end within helper gauges")) (aCons (xC (.str " ")) aNil)) (gSlot 7)) m__law_names_5)
def m__law_names_7 : MS := (sSeq (sPar [5, 6] (aCons (xCall F__law_draw (aCons (xVar 0) (aCons (m2 bAdd (mN bLen (aCons (xVar 3) aNil)) (xC (.int 1))) aNil))) (aCons (xCall F__law_draw (aCons (xVar 0) (aCons (xC (.int 26)) aNil))) aNil))) m__law_names_6)
def m__law_names_8 : MS := (sSeq (sAsg (xMeth "str" bJoin (xC (.str "")) (aCons (xComp 11 (iRange (aCons (xCall F__law_draw (aCons (xVar 0) (aCons (xC (.int 6)) aNil))) aNil)) (gSlot 4) tTrue (m2 bIx (xVar 2) (xCall F__law_draw (aCons (xVar 0) (aCons (xC (.int 26)) aNil)))) [4]) aNil)) (gSlot 3)) m__law_names_7)
def m__law_names : MS := (sSeq (sAsg (xC (.str "abcdefghijklmnopqrstuvwxyz")) (gSlot 2)) m__law_names_8)
def F__law_names : Fn := fnM 2 11 [0] m__law_names
def m__law_gone_1 : MS := (sIf (xTest (m2 bEq (m2 bIx (xVar 4) (xC (.int 0))) (xC (.str "op")))) (sExpr (xMut 3 "list" lExtend (aCons (xLst (aCons (m2 bIx (xVar 4) (xC (.int 2))) (aCons (m2 bIx (xVar 4) (xC (.int 3))) aNil))) aNil))) sNil)
def m__law_gone_2 : MS := (sSeq (sIf (xTest (m2 bEq (m2 bIx (xVar 4) (xC (.int 0))) (xC (.str "cell")))) (sExpr (xMut 2 "list" lAppend (aCons (m2 bIx (xVar 4) (xC (.int 1))) aNil))) sNil) m__law_gone_1)
def m__law_gone_3 : MS := (sSeq (sAsg (m2 bAdd (xVar 1) (xC (.int 1))) (gSlot 1)) m__law_gone_2)
def m__law_gone_4 : MS := (sSeq (sAsg (xMut 3 "list" lPop aNil) (gSlot 4)) m__law_gone_3)
def m__law_gone_5 : MS := (sRet (xTup (aCons (xTake 1) (aCons (xTake 2) aNil))))
def m__law_gone_6 : MS := (sSeq (sWhile (xTest (m2 (bInt gGt) (mN bLen (aCons (xVar 3) aNil)) (xC (.int 0)))) m__law_gone_4) m__law_gone_5)
def m__law_gone : MS := (sSeq (sPar [1, 2, 3] (aCons (xC (.int 0)) (aCons (xLst aNil) (aCons (xLst (aCons (xTake 0) aNil)) aNil)))) m__law_gone_6)
def F__law_gone : Fn := fnM 1 5 [] m__law_gone
def m__law_whole : MS := (sRet (xAndV (m1 (bIsi "int") (xVar 0)) (xAndV (xNotV (m1 (bIsi "bool") (xVar 0))) (m2 bEq (xVar 0) (xVar 1)))))
def F__law_whole : Fn := fnM 2 2 [] m__law_whole
def m__law_worth (FX : Fn) : MS := (sSeq (sIf (xTest (m2 bEq (m2 bIx (xVar 0) (xC (.int 0))) (xC (.str "num")))) (sRet (m2 bIx (xVar 0) (xC (.int 1)))) sNil) (sSeq (sIf (xTest (m2 bEq (m2 bIx (xVar 0) (xC (.int 0))) (xC (.str "cell")))) (sRet (xMeth "dict" bGet2 (xVar 1) (aCons (m2 bIx (xVar 0) (xC (.int 1))) (aCons (xC (.int 0)) aNil)))) sNil) (sSeq (sPar [2, 3] (aCons (xCall FX (aCons (m2 bIx (xVar 0) (xC (.int 2))) (aCons (xTake 1) aNil))) (aCons (xCall FX (aCons (m2 bIx (xVar 0) (xC (.int 3))) (aCons (xTake 1) aNil))) aNil))) (sSeq (sAsg (xDisp ["+", "-", "*", "<", "="] (aCons (m2 bAdd (xVar 2) (xVar 3)) (aCons (m2 (bInt fun i j => some (.int (i - j))) (xVar 2) (xVar 3)) (aCons (m2 bMul (xVar 2) (xVar 3)) (aCons (mN bIntOf (aCons (m2 (bInt gLt) (xVar 2) (xVar 3)) aNil)) (aCons (mN bIntOf (aCons (m2 bEq (xVar 2) (xVar 3)) aNil)) aNil)))))) (gSlot 4)) (sRet (m2 (bInt gMod) (m2 bIx (xVar 4) (m2 bIx (xVar 0) (xC (.int 1)))) (xC (.int 1000000))))))))
def F__law_worth : Nat → Fn
  | 0 => fun _ => none
  | n + 1 => fnM 2 5 [] (m__law_worth (F__law_worth n))
def m_cells_of_1 : MS := (sIf (xTest (m2 bEq (m2 bIx (xVar 3) (xC (.int 0))) (xC (.str "cell")))) (sExpr (xMut 1 "list" lAppend (aCons (m2 bIx (xVar 3) (xC (.int 1))) aNil))) (sIf (xTest (m2 bEq (m2 bIx (xVar 3) (xC (.int 0))) (xC (.str "op")))) (sExpr (xMut 2 "list" lExtend (aCons (xLst (aCons (m2 bIx (xVar 3) (xC (.int 2))) (aCons (m2 bIx (xVar 3) (xC (.int 3))) aNil))) aNil))) sNil))
def m_cells_of_2 : MS := (sSeq (sAsg (xMut 2 "list" lPop aNil) (gSlot 3)) m_cells_of_1)
def m_cells_of_3 : MS := (sRet (mN bTuple (aCons (mN bSortSet (aCons (xVar 1) aNil)) aNil)))
def m_cells_of_4 : MS := (sSeq (sWhile (xTest (m2 (bInt gGt) (mN bLen (aCons (xVar 2) aNil)) (xC (.int 0)))) m_cells_of_2) m_cells_of_3)
def m_cells_of_5 : MS := (sSeq (sAsg (xLst (aCons (xTake 0) aNil)) (gSlot 2)) m_cells_of_4)
def m_cells_of : MS := (sSeq (sAsg (xLst aNil) (gSlot 1)) m_cells_of_5)
def F_cells_of : Fn := fnM 1 4 [] m_cells_of
def m_parts_of (FX : Fn) : MS := (sSeq (sIf (xTest (m2 bNe (m2 bIx (xVar 0) (xC (.int 0))) (xC (.str "op")))) (sRet (xC (.int 1))) sNil) (sRet (m2 bAdd (m2 bAdd (xC (.int 1)) (xCall FX (aCons (m2 bIx (xVar 0) (xC (.int 2))) aNil))) (xCall FX (aCons (m2 bIx (xVar 0) (xC (.int 3))) aNil)))))
def F_parts_of : Nat → Fn
  | 0 => fun _ => none
  | n + 1 => fnM 1 1 [] (m_parts_of (F_parts_of n))
def m_of_two : MS := (sSeq (sIf (xTest (m2 bEq (xVar 0) (xC (.str "+")))) (sRet (m2 (bInt gMod) (m2 bAdd (xVar 1) (xVar 2)) (xC d_WIDE))) sNil) (sSeq (sIf (xTest (m2 bEq (xVar 0) (xC (.str "-")))) (sRet (m2 (bInt gMod) (m2 (bInt fun i j => some (.int (i - j))) (xVar 1) (xVar 2)) (xC d_WIDE))) sNil) (sSeq (sIf (xTest (m2 bEq (xVar 0) (xC (.str "*")))) (sRet (m2 (bInt gMod) (m2 bMul (xVar 1) (xVar 2)) (xC d_WIDE))) sNil) (sSeq (sIf (xTest (m2 bEq (xVar 0) (xC (.str "<")))) (sRet (mN bIntOf (aCons (m2 (bInt gLt) (xVar 1) (xVar 2)) aNil))) sNil) (sRet (mN bIntOf (aCons (m2 bEq (xVar 1) (xVar 2)) aNil)))))))
def F_of_two : Fn := fnM 3 3 [] m_of_two
def m_worth (FX : Fn) : MS := (sSeq (sIf (xTest (m2 bEq (m2 bIx (xVar 0) (xC (.int 0))) (xC (.str "num")))) (sRet (m2 bIx (xVar 0) (xC (.int 1)))) sNil) (sSeq (sIf (xTest (m2 bEq (m2 bIx (xVar 0) (xC (.int 0))) (xC (.str "cell")))) (sRet (xMeth "dict" bGet2 (xVar 1) (aCons (m2 bIx (xVar 0) (xC (.int 1))) (aCons (xC (.int 0)) aNil)))) sNil) (sRet (xCall F_of_two (aCons (m2 bIx (xVar 0) (xC (.int 1))) (aCons (xCall FX (aCons (m2 bIx (xVar 0) (xC (.int 2))) (aCons (xTake 1) aNil))) (aCons (xCall FX (aCons (m2 bIx (xVar 0) (xC (.int 3))) (aCons (xTake 1) aNil))) aNil)))))))
def F_worth : Nat → Fn
  | 0 => fun _ => none
  | n + 1 => fnM 2 2 [] (m_worth (F_worth n))
def m__law_right : MS := (sSeq (sAsg (xCall F__law_gone (aCons (xTake 0) aNil)) (gTuple 2 (gsCons (gSlot 2) (gsCons (gSlot 3) gsNil)))) (sSeq (sAsg (xCall F_cells_of (aCons (xTake 0) aNil)) (gSlot 4)) (sSeq (sIf (xOr (xNotT (xTest (m1 (bIsi "tuple") (xVar 4)))) (xOr (xTest (m2 bNe (mN bList (aCons (xVar 4) aNil)) (mN bSortSet (aCons (xVar 3) aNil)))) (xNotT (xTest (xCall F__law_whole (aCons (xCall (F_parts_of 9) (aCons (xTake 0) aNil)) (aCons (xTake 2) aNil))))))) (sRet (xC (.bl false))) sNil) (sSeq (sAsg (mN bDictD (aCons (xVar 1) aNil)) (gSlot 5)) (sRet (xAndV (xCall F__law_whole (aCons (xCall (F_worth 9) (aCons (xTake 0) (aCons (xTake 1) aNil))) (aCons (xCall (F__law_worth 9) (aCons (xTake 0) (aCons (xTake 1) aNil))) aNil))) (m2 (orG bEqDct bEq) (xVar 1) (xVar 5))))))))
def F__law_right : Fn := fnM 2 6 [] m__law_right
def m__law_values_1 : MS := (sIf (xTest (m2 (bInt gGt) (xCall F__law_draw (aCons (xVar 0) (aCons (xC (.int 3)) aNil))) (xC (.int 0)))) (sAsg (m2 bIx (xLst (aCons (xCall F__law_draw (aCons (xVar 0) (aCons (xC (.int 3)) aNil))) (aCons (xCall F__law_draw (aCons (xVar 0) (aCons (xC (.int 1000000)) aNil))) (aCons (xC (.int 999999)) aNil)))) (xCall F__law_draw (aCons (xVar 0) (aCons (xC (.int 3)) aNil)))) (gStore 2 (xVar 3))) sNil)
def m__law_values_2 : MS := (sRet (xMove 2))
def m__law_values_3 : MS := (sSeq (sFor (iSeq (xVar 1)) (gSlot 3) m__law_values_1) m__law_values_2)
def m__law_values : MS := (sSeq (sAsg xDct0 (gSlot 2)) m__law_values_3)
def F__law_values : Fn := fnM 2 4 [0] m__law_values
def m_law_1 : MS := (sIf (xNotT (xTest (mN bAll (aCons (xComp 12 (iSeq (xVar 7)) (gSlot 11) tTrue (xCall F__law_right (aCons (xTake 11) (aCons (xTake 10) aNil))) [11]) aNil)))) (sRet (xC (.bl false))) sNil)
def m_law_2 : MS := (sFor (iSeq (m2 bAdd (xTake 9) (xSlice (xTake 9) oNone (oSome (xC (.int 1)))))) (gSlot 10) m_law_1)
def m_law_3 : MS := (sSeq (sAsg (xLst (aCons (xCall F__law_values (aCons (xVar 2) (aCons (xTake 3) aNil))) (aCons (xCall F__law_values (aCons (xVar 2) (aCons (xTake 3) aNil))) (aCons xDct0 aNil)))) (gSlot 9)) m_law_2)
def m_law_4 : MS := (sSeq (sAsg (xComp 12 (iRange (aCons (xC (.int 2)) aNil)) (gSlot 8) tTrue (xCall (F__law_deep_term 9) (aCons (xVar 2) (aCons (xTake 3) (aCons (m2 bAdd (xC (.int 1)) (xCall F__law_draw (aCons (xVar 2) (aCons (xC (.int 12)) aNil)))) (aCons (xTake 6) aNil))))) [8]) (gSlot 7)) m_law_3)
def m_law_5 : MS := (sSeq (sAsg (m2 bIx (xLst (aCons (xC (.int 4)) (aCons (xC (.int 4)) (aCons (xC (.int 5)) (aCons (xC (.int 6)) aNil))))) (xCall F__law_draw (aCons (xVar 2) (aCons (xC (.int 4)) aNil)))) (gSlot 6)) m_law_4)
def m_law_6 : MS := (sSeq (sAsg (xComp 12 (iEnumM (xVar 3)) (gTuple 2 (gsCons (gSlot 4) (gsCons (gSlot 5) gsNil))) tTrue (m2 bAdd (xVar 5) (m2 bMulS (xC (.str "z")) (mN bIntOf (aCons (xAndV (m2 bEq (m2 (bInt gMod) (xVar 4) (xC (.int 2))) (xC (.int 1))) (m2 (bInt gLt) (mN bLen (aCons (xVar 5) aNil)) (xC (.int 6)))) aNil)))) [4, 5]) (gSlot 3)) m_law_5)
def m_law_7 : MS := (sSeq (sAsg (xCall F__law_names (aCons (xVar 2) (aCons (m2 bAdd (xC (.int 1)) (xCall F__law_draw (aCons (xVar 2) (aCons (xC (.int 5)) aNil)))) aNil))) (gSlot 3)) m_law_6)
def m_law_8 : MS := (sSeq (sAsg (xCall F__law_flow (aCons (xTake 0) (aCons (xTake 1) aNil))) (gSlot 2)) m_law_7)
def m_law_9 : MS := (sRet (xC (.bl true)))
def m_law : MS := (sSeq (sFor (iRange (aCons (mN (bInt gMax) (aCons (xC (.int 1)) (aCons (mN bLen (aCons (xSlice (xVar 0) oNone (oSome (xC (.int 6)))) aNil)) aNil))) aNil)) (gSlot 1) m_law_8) m_law_9)
def F_law : Fn := fnM 1 12 [] m_law
structure Gs (K : PySem.W.Frag) (mg : Str → Option Value) : Prop where
  n_all : mg "all" = none
  n_bool : mg "bool" = none
  n_dict : mg "dict" = none
  n_enumerate : mg "enumerate" = none
  n_int : mg "int" = none
  n_isinstance : mg "isinstance" = none
  n_len : mg "len" = none
  n_list : mg "list" = none
  n_max : mg "max" = none
  n_range : mg "range" = none
  n_set : mg "set" = none
  n_sorted : mg "sorted" = none
  n_tuple : mg "tuple" = none
  g_WIDE : GD K mg "WIDE" d_WIDE
section
variable {P : Program} {w : World} {K : PySem.W.Frag} {mg : Str → Option Value} {base : Heap} {cl : Str → Addr}
theorem sc__law_draw : FnScope N__law_draw P__law_draw (defScope s__law_draw) := ⟨rfl, rfl, rfl, by decide +kernel, rfl, by decide +kernel, by decide +kernel⟩
theorem ok__law_draw (G : Gs K mg) (D : DefIn K mg "_law_draw" s__law_draw P__law_draw) : CalF P w K mg base cl "_law_draw" 1 2 F__law_draw :=
  cal_of D sc__law_draw (by decide) fun f cdv A outer s H E hr => by
    have hu1 := units1 hr
    have hu64 := hr.units
    have hu65 := units65 hr
    have sc := sc__law_draw
    exact (gss_cons (gs_if (gt_cmp opn_gt (ge_ix hu1 (ge_var 0) ge_int) ge_int) (gss_cons (gs_asg (ge_bin opn_mod (ge_ix hu1 (ge_var 0) ge_int) (ge_var 1)) (gg_name 2 sc.nd))
    (gss_cons (gs_asg' (ge_bin opn_div (ge_ix hu1 (ge_var 0) ge_int) (ge_var 1)) (gh_store (W := W0) hu1 (.inr trivial) (pe_var (i := 0) rfl (by first | exact Or.inl rfl | exact Or.inr (Or.inl rfl) | exact Or.inr (Or.inr rfl)) (by decide) (by decide)) ge_int))
    (gss_one (gs_ret (ge_move 2))))) gss_nil)
    (gss_cons (gs_asg' (ge_bin opn_add (ge_ix hu1 (ge_var 0) ge_int) ge_int) (gh_store (W := W0) hu1 (.inr trivial) (pe_var (i := 0) rfl (by first | exact Or.inl rfl | exact Or.inr (Or.inl rfl) | exact Or.inr (Or.inr rfl)) (by decide) (by decide)) ge_int))
    (gss_cons (gs_asg (ge_bin opn_mod (ge_bin opn_add (ge_bin opn_add (ge_bin opn_mul (ge_ix hu1 (ge_var 0) ge_int) (ge_bin opn_add ge_int (ge_bin opn_mul ge_int (ge_ix hu1 (ge_var 0) ge_int)))) (ge_bin opn_mul ge_int (ge_ix hu1 (ge_var 0) ge_int))) ge_int) ge_int) (gg_name 3 sc.nd))
    (gss_cons (gs_asg (ge_bin opn_mod (ge_bin opn_mul (ge_var 3) (ge_var 3)) ge_int) (gg_name 3 sc.nd))
    (gss_one (gs_ret (ge_bin opn_mod (ge_bin opn_div (ge_bin opn_mod (ge_bin opn_mul (ge_bin opn_add (ge_var 3) ge_int) (ge_bin opn_add (ge_var 3) ge_int)) ge_int) ge_int) (ge_var 1))))))))
theorem sc__law_deep_term : FnScope N__law_deep_term P__law_deep_term (defScope s__law_deep_term) := ⟨rfl, rfl, rfl, by decide +kernel, rfl, by decide +kernel, by decide +kernel⟩
theorem ok__law_deep_term (G : Gs K mg) (D : DefIn K mg "_law_deep_term" s__law_deep_term P__law_deep_term) (c__law_draw : CalF P w K mg base cl "_law_draw" 1 2 F__law_draw) : ∀ n, CalF P w K mg base cl "_law_deep_term" (2 + n) 4 (F__law_deep_term n)
  | 0 => cal_none D
  | n + 1 => cal_of D sc__law_deep_term (by decide) fun f cdv A outer s H E hr => by
    have hr : Room (2 + n) _ := hr
    have c__law_deep_term := ok__law_deep_term G D c__law_draw n
    have hu1 := units1 hr
    have hu64 := hr.units
    have hu65 := units65 hr
    have sc := sc__law_deep_term
    exact (gss_cons (gs_if (gt_w (gw_or (gt_cmp opn_lt (ge_var 2) ge_int) (gw_or (gt_cmp (opn_eq hu64) (ge_var 3) ge_int) (gw_or1 (gt_cmp (opn_eq hu64) (ge_callF c__law_draw (hr.mono (by omega)) (takes_of rfl rfl rfl rfl) (ga_cons (ge_var 0) (ga_cons ge_int ga_nil)) (len_cons (len_cons len0))) ge_int))))) (gss_cons (gs_asg (ge_ix hu1 (ge_lst (ga_cons (ge_callF c__law_draw (hr.mono (by omega)) (takes_of rfl rfl rfl rfl) (ga_cons (ge_var 0) (ga_cons ge_int ga_nil)) (len_cons (len_cons len0))) (ga_cons (ge_callF c__law_draw (hr.mono (by omega)) (takes_of rfl rfl rfl rfl) (ga_cons (ge_var 0) (ga_cons ge_int ga_nil)) (len_cons (len_cons len0))) (ga_cons (ge_bin opn_sub ge_int (ge_callF c__law_draw (hr.mono (by omega)) (takes_of rfl rfl rfl rfl) (ga_cons (ge_var 0) (ga_cons ge_int ga_nil)) (len_cons (len_cons len0)))) ga_nil)))) (ge_callF c__law_draw (hr.mono (by omega)) (takes_of rfl rfl rfl rfl) (ga_cons (ge_var 0) (ga_cons ge_int ga_nil)) (len_cons (len_cons len0)))) (gg_name 4 sc.nd))
    (gss_one (gs_ret (ge_ix hu1 (ge_lst (ga_cons (ge_tup (ga_cons ge_str (ga_cons (ge_ix hu1 (ge_var 1) (ge_callF c__law_draw (hr.mono (by omega)) (takes_of rfl rfl rfl rfl) (ga_cons (ge_var 0) (ga_cons (ge_callB opn_len rfl G.n_len boot_len (ga_cons (ge_var 1) ga_nil)) ga_nil)) (len_cons (len_cons len0)))) ga_nil))) (ga_cons (ge_tup (ga_cons ge_str (ga_cons (ge_take 4) ga_nil))) ga_nil))) (ge_callF c__law_draw (hr.mono (by omega)) (takes_of rfl rfl rfl rfl) (ga_cons (ge_var 0) (ga_cons ge_int ga_nil)) (len_cons (len_cons len0))))))) gss_nil)
    (gss_cons (gs_asg (ge_bin opn_add ge_int (ge_callF c__law_draw (hr.mono (by omega)) (takes_of rfl rfl rfl rfl) (ga_cons (ge_var 0) (ga_cons (ge_bin opn_sub (ge_var 2) ge_int) ga_nil)) (len_cons (len_cons len0)))) (gg_name 5 sc.nd))
    (gss_cons (gs_asg (ge_ix hu1 ge_str (ge_callF c__law_draw (hr.mono (by omega)) (takes_of rfl rfl rfl rfl) (ga_cons (ge_var 0) (ga_cons ge_int ga_nil)) (len_cons (len_cons len0)))) (gg_name 6 sc.nd))
    (gss_cons (gs_asg (ge_callF c__law_deep_term (hr.mono (by omega)) (takes_of rfl rfl rfl rfl) (ga_cons (ge_var 0) (ga_cons (ge_take 1) (ga_cons (ge_take 5) (ga_cons (ge_bin opn_sub (ge_var 3) ge_int) ga_nil)))) (len_cons (len_cons (len_cons (len_cons len0))))) (gg_name 7 sc.nd))
    (gss_one (gs_ret (ge_tup (ga_cons ge_str (ga_cons (ge_take 6) (ga_cons (ge_take 7) (ga_cons (ge_callF c__law_deep_term (hr.mono (by omega)) (takes_of rfl rfl rfl rfl) (ga_cons (ge_var 0) (ga_cons (ge_take 1) (ga_cons (ge_bin opn_sub (ge_bin opn_sub (ge_var 2) ge_int) (ge_var 5)) (ga_cons (ge_bin opn_sub (ge_var 3) ge_int) ga_nil)))) (len_cons (len_cons (len_cons (len_cons len0))))) ga_nil)))))))))))
theorem sc__law_cell : FnScope N__law_cell P__law_cell (defScope s__law_cell) := ⟨rfl, rfl, rfl, by decide +kernel, rfl, by decide +kernel, by decide +kernel⟩
theorem ok__law_cell (G : Gs K mg) (D : DefIn K mg "_law_cell" s__law_cell P__law_cell) : CalF P w K mg base cl "_law_cell" 1 2 F__law_cell :=
  cal_of D sc__law_cell (by decide) fun f cdv A outer s H E hr => by
    have hu1 := units1 hr
    have hu64 := hr.units
    have hu65 := units65 hr
    have sc := sc__law_cell
    exact (gss_cons (gs_if (gt_cmp opn_lt (ge_var 1) (ge_callB opn_len rfl G.n_len boot_len (ga_cons (ge_var 0) ga_nil))) (gss_one (gs_ret (ge_ix hu1 (ge_var 0) (ge_var 1)))) gss_nil)
    (gss_cons (gs_asg (ge_bin opn_add (ge_bin opn_mul (ge_var 1) ge_int) ge_int) (gg_name 2 sc.nd))
    (gss_cons (gs_if (gt_cmp opn_gt (ge_callB opn_len rfl G.n_len boot_len (ga_cons (ge_var 0) ga_nil)) ge_int) (gss_one (gs_asg (ge_bin opn_add (ge_bin opn_mul (ge_bin opn_mod (ge_ix hu1 (ge_var 0) (ge_bin opn_mod (ge_bin opn_mul (ge_var 1) ge_int) (ge_callB opn_len rfl G.n_len boot_len (ga_cons (ge_var 0) ga_nil)))) ge_int) ge_int) (ge_bin opn_mul (ge_var 1) ge_int)) (gg_name 2 sc.nd))) gss_nil)
    (gss_one (gs_ret (ge_bin opn_mul (ge_bin opn_mod (ge_var 2) ge_int) ge_int))))))
theorem sc__law_flow : FnScope N__law_flow P__law_flow (defScope s__law_flow) := ⟨rfl, rfl, rfl, by decide +kernel, rfl, by decide +kernel, by decide +kernel⟩
theorem ok__law_flow (G : Gs K mg) (D : DefIn K mg "_law_flow" s__law_flow P__law_flow) (c__law_cell : CalF P w K mg base cl "_law_cell" 1 2 F__law_cell) : CalF P w K mg base cl "_law_flow" 2 2 F__law_flow :=
  cal_of D sc__law_flow (by decide) fun f cdv A outer s H E hr => by
    have hu1 := units1 hr
    have hu64 := hr.units
    have hu65 := units65 hr
    have sc := sc__law_flow
    exact (gss_cons (gs_asg (ge_callF c__law_cell (hr.mono (by decide)) (takes_of rfl rfl rfl rfl) (ga_cons (ge_take 0) (ga_cons (ge_take 1) ga_nil)) (len_cons (len_cons len0))) (gg_name 2 sc.nd))
    (gss_cons (gs_asg ge_int (gg_name 3 sc.nd))
    (gss_cons (gs_if (gt_cmp opn_ge (ge_var 2) (ge_bin opn_pow ge_int ge_int)) (gss_one (gs_asg (ge_take 2) (gg_name 3 sc.nd))) gss_nil)
    (gss_one (gs_ret (ge_lst (ga_cons (ge_take 3) (ga_cons ge_int (ga_cons (ge_bin opn_add (ge_bin opn_mod (ge_var 2) ge_int) (ge_bin opn_mul ge_int (ge_var 1))) ga_nil)))))))))
theorem sc__law_names : FnScope N__law_names P__law_names (defScope s__law_names) := ⟨rfl, rfl, rfl, by decide +kernel, rfl, by decide +kernel, by decide +kernel⟩
theorem ok__law_names (G : Gs K mg) (D : DefIn K mg "_law_names" s__law_names P__law_names) (c__law_draw : CalF P w K mg base cl "_law_draw" 1 2 F__law_draw) : CalF P w K mg base cl "_law_names" 2 2 F__law_names :=
  cal_of D sc__law_names (by decide) fun f cdv A outer s H E hr => by
    have hu1 := units1 hr
    have hu64 := hr.units
    have hu65 := units65 hr
    have sc := sc__law_names
    exact (gss_cons (gs_asg ge_str (gg_name 2 sc.nd))
    (gss_cons (gs_asg (ge_meth opn_join plainAttrs_str slot_str_join type_str_join ge_str (ga_cons (ge_comp (n := 11) (own := [("_law_j", 4)]) rfl sc.nd (blkOk_by (N := N__law_names) (sc := defScope s__law_names) (own := [("_law_j", 4)]) (by decide +kernel)) (by decide) (gi_range1 rfl G.n_range (ga_cons (ge_callF c__law_draw (hr.mono (by decide)) (takes_of rfl rfl rfl rfl) (ga_cons (ge_var 0) (ga_cons ge_int ga_nil)) (len_cons (len_cons len0))) ga_nil) (len_cons len0)) (fun _ _ _ _ _ => (gg_name 4 sc.nd)) (fun _ _ _ _ _ => gts_nil) (fun _ _ _ _ _ => (ge_ix hu1 (ge_var 2) (ge_callF c__law_draw (hr.mono (by decide)) Av.takes0 (ga_cons (ge_var 0) (ga_cons ge_int ga_nil)) (len_cons (len_cons len0)))))) ga_nil)) (gg_name 3 sc.nd))
    (gss_cons (gs_par2 rfl sc.nd (by decide) (by decide)  (ga_cons (ge_callF c__law_draw (hr.mono (by decide)) (takes_of rfl rfl rfl rfl) (ga_cons (ge_var 0) (ga_cons (ge_bin opn_add (ge_callB opn_len rfl G.n_len boot_len (ga_cons (ge_var 3) ga_nil)) ge_int) ga_nil)) (len_cons (len_cons len0))) (ga_cons (ge_callF c__law_draw (hr.mono (by decide)) (takes_of rfl rfl rfl rfl) (ga_cons (ge_var 0) (ga_cons ge_int ga_nil)) (len_cons (len_cons len0))) ga_nil)))
    (gss_cons (gs_asg (ge_meth opn_split plainAttrs_str slot_str_split type_str_split ge_str (ga_cons ge_str ga_nil)) (gg_name 7 sc.nd))
    (gss_cons (gs_asg (ge_lst ga_nil) (gg_name 8 sc.nd))
    (gss_cons (gs_for (fun h1 h2 h3 => ps_for (passes_of rfl) rfl h1 h2 h3) (gi_range1 rfl G.n_range (ga_cons ge_int ga_nil) (len_cons len0)) (gg_name 9 sc.nd) (gss_cons (gs_asg (ge_bin opn_add (ge_bin opn_add (ge_slice (ge_var 3) go_none (go_some (ge_var 5))) (ge_ix hu1 (ge_var 2) (ge_bin opn_mod (ge_bin opn_add (ge_var 6) (ge_bin opn_mul ge_int (ge_var 9))) ge_int))) (ge_slice (ge_var 3) (go_some (ge_var 5)) go_none)) (gg_name 10 sc.nd))
    (gss_one (gs_if (gt_w (gw_and (gt_cmp (opn_notin hu65) (ge_var 10) (ge_var 7)) (gw_and1 (gt_cmp opn_lt (ge_callB opn_len rfl G.n_len boot_len (ga_cons (ge_var 8) ga_nil)) (ge_var 1))))) (gss_one (gs_expr (ge_mut mut_append plainAttrs_list PySem.F.slot_list_append PySem.F.type_list_append (pe_var (i := 8) rfl (by first | exact Or.inl rfl | exact Or.inr (Or.inl rfl) | exact Or.inr (Or.inr rfl)) (by decide) (by decide)) (ga_cons (ge_take 10) ga_nil)))) gss_nil))))
    (gss_one (gs_ret (ge_move 8)))))))))
theorem sc__law_gone : FnScope N__law_gone P__law_gone (defScope s__law_gone) := ⟨rfl, rfl, rfl, by decide +kernel, rfl, by decide +kernel, by decide +kernel⟩
theorem ok__law_gone (G : Gs K mg) (D : DefIn K mg "_law_gone" s__law_gone P__law_gone) : CalF P w K mg base cl "_law_gone" 1 1 F__law_gone :=
  cal_of D sc__law_gone (by decide) fun f cdv A outer s H E hr => by
    have hu1 := units1 hr
    have hu64 := hr.units
    have hu65 := units65 hr
    have sc := sc__law_gone
    exact (gss_cons (gs_par3 rfl sc.nd (by decide) (by decide) (by decide) (by decide)  (ga_cons ge_int (ga_cons (ge_lst ga_nil) (ga_cons (ge_lst (ga_cons (ge_take 0) ga_nil)) ga_nil))))
    (gss_cons (gs_while (gt_cmp opn_gt (ge_callB opn_len rfl G.n_len boot_len (ga_cons (ge_var 3) ga_nil)) ge_int) (gss_cons (gs_asg (ge_mut0 mut_pop plainAttrs_list slot_list_pop type_list_pop (pe_var (i := 3) rfl (by first | exact Or.inl rfl | exact Or.inr (Or.inl rfl) | exact Or.inr (Or.inr rfl)) (by decide) (by decide))) (gg_name 4 sc.nd))
    (gss_cons (gs_asg (ge_bin opn_add (ge_var 1) ge_int) (gg_name 1 sc.nd))
    (gss_cons (gs_if (gt_cmp (opn_eq hu64) (ge_ix hu1 (ge_var 4) ge_int) ge_str) (gss_one (gs_expr (ge_mut mut_append plainAttrs_list PySem.F.slot_list_append PySem.F.type_list_append (pe_var (i := 2) rfl (by first | exact Or.inl rfl | exact Or.inr (Or.inl rfl) | exact Or.inr (Or.inr rfl)) (by decide) (by decide)) (ga_cons (ge_ix hu1 (ge_var 4) ge_int) ga_nil)))) gss_nil)
    (gss_one (gs_if (gt_cmp (opn_eq hu64) (ge_ix hu1 (ge_var 4) ge_int) ge_str) (gss_one (gs_expr (ge_mut mut_extend plainAttrs_list slot_list_extend type_list_extend (pe_var (i := 3) rfl (by first | exact Or.inl rfl | exact Or.inr (Or.inl rfl) | exact Or.inr (Or.inr rfl)) (by decide) (by decide)) (ga_cons (ge_lst (ga_cons (ge_ix hu1 (ge_var 4) ge_int) (ga_cons (ge_ix hu1 (ge_var 4) ge_int) ga_nil))) ga_nil)))) gss_nil))))) fun h1 h2 => ps_while (passes_of rfl) h1 h2)
    (gss_one (gs_ret (ge_tup (ga_cons (ge_take 1) (ga_cons (ge_take 2) ga_nil)))))))
theorem sc__law_whole : FnScope N__law_whole P__law_whole (defScope s__law_whole) := ⟨rfl, rfl, rfl, by decide +kernel, rfl, by decide +kernel, by decide +kernel⟩
theorem ok__law_whole (G : Gs K mg) (D : DefIn K mg "_law_whole" s__law_whole P__law_whole) : CalF P w K mg base cl "_law_whole" 1 2 F__law_whole :=
  cal_of D sc__law_whole (by decide) fun f cdv A outer s H E hr => by
    have hu1 := units1 hr
    have hu64 := hr.units
    have hu65 := units65 hr
    have sc := sc__law_whole
    exact (gss_one (gs_ret (ge_and (ge_isi (T := "int") (by decide) rfl G.n_isinstance rfl G.n_int boot_int (ge_var 0)) (ge_and (ge_not (ge_isi (T := "bool") (by decide) rfl G.n_isinstance rfl G.n_bool boot_bool (ge_var 0))) (ge_one (ge_cmp (opn_eq hu64) (ge_var 0) (ge_var 1)))))))
theorem sc__law_worth : FnScope N__law_worth P__law_worth (defScope s__law_worth) := ⟨rfl, rfl, rfl, by decide +kernel, rfl, by decide +kernel, by decide +kernel⟩
theorem ok__law_worth (G : Gs K mg) (D : DefIn K mg "_law_worth" s__law_worth P__law_worth) : ∀ n, CalF P w K mg base cl "_law_worth" (1 + n) 2 (F__law_worth n)
  | 0 => cal_none D
  | n + 1 => cal_of D sc__law_worth (by decide) fun f cdv A outer s H E hr => by
    have hr : Room (1 + n) _ := hr
    have c__law_worth := ok__law_worth G D n
    have hu1 := units1 hr
    have hu64 := hr.units
    have hu65 := units65 hr
    have sc := sc__law_worth
    exact (gss_cons (gs_if (gt_cmp (opn_eq hu64) (ge_ix hu1 (ge_var 0) ge_int) ge_str) (gss_one (gs_ret (ge_ix hu1 (ge_var 0) ge_int))) gss_nil)
    (gss_cons (gs_if (gt_cmp (opn_eq hu64) (ge_ix hu1 (ge_var 0) ge_int) ge_str) (gss_one (gs_ret (ge_meth (opn_get2 hu1) plainAttrs_dict slot_dict_get type_dict_get (ge_var 1) (ga_cons (ge_ix hu1 (ge_var 0) ge_int) (ga_cons ge_int ga_nil))))) gss_nil)
    (gss_cons (gs_par2 rfl sc.nd (by decide) (by decide)  (ga_cons (ge_callF c__law_worth (hr.mono (by omega)) (takes_of rfl rfl rfl rfl) (ga_cons (ge_ix hu1 (ge_var 0) ge_int) (ga_cons (ge_take 1) ga_nil)) (len_cons (len_cons len0))) (ga_cons (ge_callF c__law_worth (hr.mono (by omega)) (takes_of rfl rfl rfl rfl) (ga_cons (ge_ix hu1 (ge_var 0) ge_int) (ga_cons (ge_take 1) ga_nil)) (len_cons (len_cons len0))) ga_nil)))
    (gss_cons (gs_asg (ge_disp (gp_cons (ge_bin opn_add (ge_var 2) (ge_var 3)) (gp_cons (ge_bin opn_sub (ge_var 2) (ge_var 3)) (gp_cons (ge_bin opn_mul (ge_var 2) (ge_var 3)) (gp_cons (ge_callTy opn_intOf rfl G.n_int boot_int (ga_cons (ge_cmp opn_lt (ge_var 2) (ge_var 3)) ga_nil)) (gp_cons (ge_callTy opn_intOf rfl G.n_int boot_int (ga_cons (ge_cmp (opn_eq hu64) (ge_var 2) (ge_var 3)) ga_nil)) gp_nil))))) (by decide) (by decide)) (gg_name 4 sc.nd))
    (gss_one (gs_ret (ge_bin opn_mod (ge_ix hu1 (ge_var 4) (ge_ix hu1 (ge_var 0) ge_int)) ge_int)))))))
theorem sc_cells_of : FnScope N_cells_of P_cells_of (defScope s_cells_of) := ⟨rfl, rfl, rfl, by decide +kernel, rfl, by decide +kernel, by decide +kernel⟩
theorem ok_cells_of (G : Gs K mg) (D : DefIn K mg "cells_of" s_cells_of P_cells_of) : CalF P w K mg base cl "cells_of" 1 1 F_cells_of :=
  cal_of D sc_cells_of (by decide) fun f cdv A outer s H E hr => by
    have hu1 := units1 hr
    have hu64 := hr.units
    have hu65 := units65 hr
    have sc := sc_cells_of
    exact (gss_cons (gs_asg (ge_lst ga_nil) (gg_name 1 sc.nd))
    (gss_cons (gs_asg (ge_lst (ga_cons (ge_take 0) ga_nil)) (gg_name 2 sc.nd))
    (gss_cons (gs_while (gt_cmp opn_gt (ge_callB opn_len rfl G.n_len boot_len (ga_cons (ge_var 2) ga_nil)) ge_int) (gss_cons (gs_asg (ge_mut0 mut_pop plainAttrs_list slot_list_pop type_list_pop (pe_var (i := 2) rfl (by first | exact Or.inl rfl | exact Or.inr (Or.inl rfl) | exact Or.inr (Or.inr rfl)) (by decide) (by decide))) (gg_name 3 sc.nd))
    (gss_one (gs_if (gt_cmp (opn_eq hu64) (ge_ix hu1 (ge_var 3) ge_int) ge_str) (gss_one (gs_expr (ge_mut mut_append plainAttrs_list PySem.F.slot_list_append PySem.F.type_list_append (pe_var (i := 1) rfl (by first | exact Or.inl rfl | exact Or.inr (Or.inl rfl) | exact Or.inr (Or.inr rfl)) (by decide) (by decide)) (ga_cons (ge_ix hu1 (ge_var 3) ge_int) ga_nil)))) (gss_one (gs_if (gt_cmp (opn_eq hu64) (ge_ix hu1 (ge_var 3) ge_int) ge_str) (gss_one (gs_expr (ge_mut mut_extend plainAttrs_list slot_list_extend type_list_extend (pe_var (i := 2) rfl (by first | exact Or.inl rfl | exact Or.inr (Or.inl rfl) | exact Or.inr (Or.inr rfl)) (by decide) (by decide)) (ga_cons (ge_lst (ga_cons (ge_ix hu1 (ge_var 3) ge_int) (ga_cons (ge_ix hu1 (ge_var 3) ge_int) ga_nil))) ga_nil)))) gss_nil))))) fun h1 h2 => ps_while (passes_of rfl) h1 h2)
    (gss_one (gs_ret (ge_callTy opn_tuple rfl G.n_tuple boot_tuple (ga_cons (ge_sortSet rfl rfl G.n_sorted rfl G.n_set (ga_cons (ge_var 1) ga_nil)) ga_nil)))))))
theorem sc_parts_of : FnScope N_parts_of P_parts_of (defScope s_parts_of) := ⟨rfl, rfl, rfl, by decide +kernel, rfl, by decide +kernel, by decide +kernel⟩
theorem ok_parts_of (G : Gs K mg) (D : DefIn K mg "parts_of" s_parts_of P_parts_of) : ∀ n, CalF P w K mg base cl "parts_of" (1 + n) 1 (F_parts_of n)
  | 0 => cal_none D
  | n + 1 => cal_of D sc_parts_of (by decide) fun f cdv A outer s H E hr => by
    have hr : Room (1 + n) _ := hr
    have c_parts_of := ok_parts_of G D n
    have hu1 := units1 hr
    have hu64 := hr.units
    have hu65 := units65 hr
    have sc := sc_parts_of
    exact (gss_cons (gs_if (gt_cmp (opn_ne hu64) (ge_ix hu1 (ge_var 0) ge_int) ge_str) (gss_one (gs_ret ge_int)) gss_nil)
    (gss_one (gs_ret (ge_bin opn_add (ge_bin opn_add ge_int (ge_callF c_parts_of (hr.mono (by omega)) (takes_of rfl rfl rfl rfl) (ga_cons (ge_ix hu1 (ge_var 0) ge_int) ga_nil) (len_cons len0))) (ge_callF c_parts_of (hr.mono (by omega)) (takes_of rfl rfl rfl rfl) (ga_cons (ge_ix hu1 (ge_var 0) ge_int) ga_nil) (len_cons len0))))))
theorem sc_of_two : FnScope N_of_two P_of_two (defScope s_of_two) := ⟨rfl, rfl, rfl, by decide +kernel, rfl, by decide +kernel, by decide +kernel⟩
theorem ok_of_two (G : Gs K mg) (D : DefIn K mg "of_two" s_of_two P_of_two) : CalF P w K mg base cl "of_two" 1 3 F_of_two :=
  cal_of D sc_of_two (by decide) fun f cdv A outer s H E hr => by
    have hu1 := units1 hr
    have hu64 := hr.units
    have hu65 := units65 hr
    have sc := sc_of_two
    exact (gss_cons (gs_if (gt_cmp (opn_eq hu64) (ge_var 0) ge_str) (gss_one (gs_ret (ge_bin opn_mod (ge_bin opn_add (ge_var 1) (ge_var 2)) (ge_globD G.g_WIDE)))) gss_nil)
    (gss_cons (gs_if (gt_cmp (opn_eq hu64) (ge_var 0) ge_str) (gss_one (gs_ret (ge_bin opn_mod (ge_bin opn_sub (ge_var 1) (ge_var 2)) (ge_globD G.g_WIDE)))) gss_nil)
    (gss_cons (gs_if (gt_cmp (opn_eq hu64) (ge_var 0) ge_str) (gss_one (gs_ret (ge_bin opn_mod (ge_bin opn_mul (ge_var 1) (ge_var 2)) (ge_globD G.g_WIDE)))) gss_nil)
    (gss_cons (gs_if (gt_cmp (opn_eq hu64) (ge_var 0) ge_str) (gss_one (gs_ret (ge_callTy opn_intOf rfl G.n_int boot_int (ga_cons (ge_cmp opn_lt (ge_var 1) (ge_var 2)) ga_nil)))) gss_nil)
    (gss_one (gs_ret (ge_callTy opn_intOf rfl G.n_int boot_int (ga_cons (ge_cmp (opn_eq hu64) (ge_var 1) (ge_var 2)) ga_nil))))))))
theorem sc_worth : FnScope N_worth P_worth (defScope s_worth) := ⟨rfl, rfl, rfl, by decide +kernel, rfl, by decide +kernel, by decide +kernel⟩
theorem ok_worth (G : Gs K mg) (D : DefIn K mg "worth" s_worth P_worth) (c_of_two : CalF P w K mg base cl "of_two" 1 3 F_of_two) : ∀ n, CalF P w K mg base cl "worth" (2 + n) 2 (F_worth n)
  | 0 => cal_none D
  | n + 1 => cal_of D sc_worth (by decide) fun f cdv A outer s H E hr => by
    have hr : Room (2 + n) _ := hr
    have c_worth := ok_worth G D c_of_two n
    have hu1 := units1 hr
    have hu64 := hr.units
    have hu65 := units65 hr
    have sc := sc_worth
    exact (gss_cons (gs_if (gt_cmp (opn_eq hu64) (ge_ix hu1 (ge_var 0) ge_int) ge_str) (gss_one (gs_ret (ge_ix hu1 (ge_var 0) ge_int))) gss_nil)
    (gss_cons (gs_if (gt_cmp (opn_eq hu64) (ge_ix hu1 (ge_var 0) ge_int) ge_str) (gss_one (gs_ret (ge_meth (opn_get2 hu1) plainAttrs_dict slot_dict_get type_dict_get (ge_var 1) (ga_cons (ge_ix hu1 (ge_var 0) ge_int) (ga_cons ge_int ga_nil))))) gss_nil)
    (gss_one (gs_ret (ge_callF c_of_two (hr.mono (by omega)) (takes_of rfl rfl rfl rfl) (ga_cons (ge_ix hu1 (ge_var 0) ge_int) (ga_cons (ge_callF c_worth (hr.mono (by omega)) (takes_of rfl rfl rfl rfl) (ga_cons (ge_ix hu1 (ge_var 0) ge_int) (ga_cons (ge_take 1) ga_nil)) (len_cons (len_cons len0))) (ga_cons (ge_callF c_worth (hr.mono (by omega)) (takes_of rfl rfl rfl rfl) (ga_cons (ge_ix hu1 (ge_var 0) ge_int) (ga_cons (ge_take 1) ga_nil)) (len_cons (len_cons len0))) ga_nil))) (len_cons (len_cons (len_cons len0))))))))
theorem sc__law_right : FnScope N__law_right P__law_right (defScope s__law_right) := ⟨rfl, rfl, rfl, by decide +kernel, rfl, by decide +kernel, by decide +kernel⟩
theorem ok__law_right (G : Gs K mg) (D : DefIn K mg "_law_right" s__law_right P__law_right) (c__law_gone : CalF P w K mg base cl "_law_gone" 1 1 F__law_gone) (c__law_whole : CalF P w K mg base cl "_law_whole" 1 2 F__law_whole) (c__law_worth : CalF P w K mg base cl "_law_worth" 10 2 (F__law_worth 9)) (c_cells_of : CalF P w K mg base cl "cells_of" 1 1 F_cells_of) (c_parts_of : CalF P w K mg base cl "parts_of" 10 1 (F_parts_of 9)) (c_worth : CalF P w K mg base cl "worth" 11 2 (F_worth 9)) : CalF P w K mg base cl "_law_right" 12 2 F__law_right :=
  cal_of D sc__law_right (by decide) fun f cdv A outer s H E hr => by
    have hu1 := units1 hr
    have hu64 := hr.units
    have hu65 := units65 hr
    have sc := sc__law_right
    exact (gss_cons (gs_asg (ge_callF c__law_gone (hr.mono (by decide)) (takes_of rfl rfl rfl rfl) (ga_cons (ge_take 0) ga_nil) (len_cons len0)) (gg_tup rfl (ggs_cons (gg_name 2 sc.nd) (ggs_cons (gg_name 3 sc.nd) ggs_nil))))
    (gss_cons (gs_asg (ge_callF c_cells_of (hr.mono (by decide)) (takes_of rfl rfl rfl rfl) (ga_cons (ge_take 0) ga_nil) (len_cons len0)) (gg_name 4 sc.nd))
    (gss_cons (gs_if (gt_w (gw_or (gt_not (gt_val (ge_isi (T := "tuple") (by decide) rfl G.n_isinstance rfl G.n_tuple boot_tuple (ge_var 4)))) (gw_or (gt_cmp (opn_ne hu64) (ge_callTy opn_list rfl G.n_list boot_list (ga_cons (ge_var 4) ga_nil)) (ge_sortSet rfl rfl G.n_sorted rfl G.n_set (ga_cons (ge_var 3) ga_nil))) (gw_or1 (gt_not (gt_val (ge_callF c__law_whole (hr.mono (by decide)) (takes_of rfl rfl rfl rfl) (ga_cons (ge_callF c_parts_of (hr.mono (by decide)) (takes_of rfl rfl rfl rfl) (ga_cons (ge_take 0) ga_nil) (len_cons len0)) (ga_cons (ge_take 2) ga_nil)) (len_cons (len_cons len0))))))))) (gss_one (gs_ret ge_bl)) gss_nil)
    (gss_cons (gs_asg (ge_callTy opn_dictD rfl G.n_dict boot_dict (ga_cons (ge_var 1) ga_nil)) (gg_name 5 sc.nd))
    (gss_one (gs_ret (ge_and (ge_callF c__law_whole (hr.mono (by decide)) (takes_of rfl rfl rfl rfl) (ga_cons (ge_callF c_worth (hr.mono (by decide)) (takes_of rfl rfl rfl rfl) (ga_cons (ge_take 0) (ga_cons (ge_take 1) ga_nil)) (len_cons (len_cons len0))) (ga_cons (ge_callF c__law_worth (hr.mono (by decide)) (takes_of rfl rfl rfl rfl) (ga_cons (ge_take 0) (ga_cons (ge_take 1) ga_nil)) (len_cons (len_cons len0))) ga_nil)) (len_cons (len_cons len0))) (ge_one (ge_cmp (OpN.or (opn_eqDct (Nat.lt_of_succ_lt hu1)) (opn_eq hu64)) (ge_var 1) (ge_var 5))))))))))
theorem sc__law_values : FnScope N__law_values P__law_values (defScope s__law_values) := ⟨rfl, rfl, rfl, by decide +kernel, rfl, by decide +kernel, by decide +kernel⟩
theorem ok__law_values (G : Gs K mg) (D : DefIn K mg "_law_values" s__law_values P__law_values) (c__law_draw : CalF P w K mg base cl "_law_draw" 1 2 F__law_draw) : CalF P w K mg base cl "_law_values" 2 2 F__law_values :=
  cal_of D sc__law_values (by decide) fun f cdv A outer s H E hr => by
    have hu1 := units1 hr
    have hu64 := hr.units
    have hu65 := units65 hr
    have sc := sc__law_values
    exact (gss_cons (gs_asg ge_dct0 (gg_name 2 sc.nd))
    (gss_cons (gs_for (fun h1 h2 h3 => ps_for (passes_of rfl) rfl h1 h2 h3) (gi_seq (ge_var 1)) (gg_name 3 sc.nd) (gss_one (gs_if (gt_cmp opn_gt (ge_callF c__law_draw (hr.mono (by decide)) (takes_of rfl rfl rfl rfl) (ga_cons (ge_var 0) (ga_cons ge_int ga_nil)) (len_cons (len_cons len0))) ge_int) (gss_one (gs_asg' (ge_ix hu1 (ge_lst (ga_cons (ge_callF c__law_draw (hr.mono (by decide)) (takes_of rfl rfl rfl rfl) (ga_cons (ge_var 0) (ga_cons ge_int ga_nil)) (len_cons (len_cons len0))) (ga_cons (ge_callF c__law_draw (hr.mono (by decide)) (takes_of rfl rfl rfl rfl) (ga_cons (ge_var 0) (ga_cons ge_int ga_nil)) (len_cons (len_cons len0))) (ga_cons ge_int ga_nil)))) (ge_callF c__law_draw (hr.mono (by decide)) (takes_of rfl rfl rfl rfl) (ga_cons (ge_var 0) (ga_cons ge_int ga_nil)) (len_cons (len_cons len0)))) (gh_store (W := W0) hu1 (.inr trivial) (pe_var (i := 2) rfl (by first | exact Or.inl rfl | exact Or.inr (Or.inl rfl) | exact Or.inr (Or.inr rfl)) (by decide) (by decide)) (ge_var 3)))) gss_nil)))
    (gss_one (gs_ret (ge_move 2)))))
theorem sc_law : FnScope N_law P_law (defScope s_law) := ⟨rfl, rfl, rfl, by decide +kernel, rfl, by decide +kernel, by decide +kernel⟩
theorem ok_law (G : Gs K mg) {f : Addr} {fd : FuncData} (D : Fun K "law" "law" s_law f fd) (c__law_deep_term : CalF P w K mg base cl "_law_deep_term" 11 4 (F__law_deep_term 9)) (c__law_draw : CalF P w K mg base cl "_law_draw" 1 2 F__law_draw) (c__law_flow : CalF P w K mg base cl "_law_flow" 2 2 F__law_flow) (c__law_names : CalF P w K mg base cl "_law_names" 2 2 F__law_names) (c__law_right : CalF P w K mg base cl "_law_right" 12 2 F__law_right) (c__law_values : CalF P w K mg base cl "_law_values" 2 2 F__law_values) : FnOk P w K mg base (L2.CX P w) 13 f fd P_law (spF ⟨K, cl⟩ 1 F_law) :=
  fn_ok D sc_law (by decide) fun cdv A outer s H E hr => by
    have hu1 := units1 hr
    have hu64 := hr.units
    have hu65 := units65 hr
    have sc := sc_law
    exact (gss_cons (gs_for (fun h1 h2 h3 => ps_for (passes_of rfl) rfl h1 h2 h3) (gi_range1 rfl G.n_range (ga_cons (ge_callB (opn_max2 rfl) rfl G.n_max boot_max (ga_cons ge_int (ga_cons (ge_callB opn_len rfl G.n_len boot_len (ga_cons (ge_slice (ge_var 0) go_none (go_some ge_int)) ga_nil)) ga_nil))) ga_nil) (len_cons len0)) (gg_name 1 sc.nd) (gss_cons (gs_asg (ge_callF c__law_flow (hr.mono (by decide)) (takes_of rfl rfl rfl rfl) (ga_cons (ge_take 0) (ga_cons (ge_take 1) ga_nil)) (len_cons (len_cons len0))) (gg_name 2 sc.nd))
    (gss_cons (gs_asg (ge_callF c__law_names (hr.mono (by decide)) (takes_of rfl rfl rfl rfl) (ga_cons (ge_var 2) (ga_cons (ge_bin opn_add ge_int (ge_callF c__law_draw (hr.mono (by decide)) (takes_of rfl rfl rfl rfl) (ga_cons (ge_var 2) (ga_cons ge_int ga_nil)) (len_cons (len_cons len0)))) ga_nil)) (len_cons (len_cons len0))) (gg_name 3 sc.nd))
    (gss_cons (gs_asg (ge_comp (n := 12) (own := [("_law_at", 4), ("_law_name", 5)]) rfl sc.nd (blkOk_by (N := N_law) (sc := defScope s_law) (own := [("_law_at", 4), ("_law_name", 5)]) (by decide +kernel)) (by decide) (gi_enum rfl G.n_enumerate (ge_var 3)) (fun _ _ _ _ _ => (gg_tup rfl (ggs_cons (gg_name 4 sc.nd) (ggs_cons (gg_name 5 sc.nd) ggs_nil)))) (fun _ _ _ _ _ => gts_nil) (fun _ _ _ _ _ => (ge_bin opn_add (ge_var 5) (ge_bin opn_mulS ge_str (ge_callTy opn_intOf rfl G.n_int boot_int (ga_cons (ge_and (ge_cmp (opn_eq hu64) (ge_bin opn_mod (ge_var 4) ge_int) ge_int) (ge_one (ge_cmp opn_lt (ge_callB opn_len rfl G.n_len boot_len (ga_cons (ge_var 5) ga_nil)) ge_int))) ga_nil)))))) (gg_name 3 sc.nd))
    (gss_cons (gs_asg (ge_ix hu1 (ge_lst (ga_cons ge_int (ga_cons ge_int (ga_cons ge_int (ga_cons ge_int ga_nil))))) (ge_callF c__law_draw (hr.mono (by decide)) (takes_of rfl rfl rfl rfl) (ga_cons (ge_var 2) (ga_cons ge_int ga_nil)) (len_cons (len_cons len0)))) (gg_name 6 sc.nd))
    (gss_cons (gs_comp (n := 12) (i := 7) (own := [("_law_turn", 8)]) rfl sc.nd rfl rfl (by decide) (sw_true rfl rfl rfl (by decide +kernel)) (blkOk_by (N := N_law) (sc := defScope s_law) (own := [("_law_turn", 8)]) (by decide +kernel)) (by decide) (gi_range1 rfl G.n_range (ga_cons ge_int ga_nil) (len_cons len0)) (fun _ _ _ _ _ => (gg_name 8 sc.nd)) (fun _ _ _ _ _ => gts_nil) (fun _ _ _ _ _ => (ge_callF c__law_deep_term (hr.mono (by decide)) Av.takes0 (ga_cons (ge_var 2) (ga_cons (ge_take 3) (ga_cons (ge_bin opn_add ge_int (ge_callF c__law_draw (hr.mono (by decide)) Av.takes0 (ga_cons (ge_var 2) (ga_cons ge_int ga_nil)) (len_cons (len_cons len0)))) (ga_cons (ge_take 6) ga_nil)))) (len_cons (len_cons (len_cons (len_cons len0)))))))
    (gss_cons (gs_asg (ge_lst (ga_cons (ge_callF c__law_values (hr.mono (by decide)) (takes_of rfl rfl rfl rfl) (ga_cons (ge_var 2) (ga_cons (ge_take 3) ga_nil)) (len_cons (len_cons len0))) (ga_cons (ge_callF c__law_values (hr.mono (by decide)) (takes_of rfl rfl rfl rfl) (ga_cons (ge_var 2) (ga_cons (ge_take 3) ga_nil)) (len_cons (len_cons len0))) (ga_cons ge_dct0 ga_nil)))) (gg_name 9 sc.nd))
    (gss_one (gs_for (fun h1 h2 h3 => ps_for (passes_of rfl) rfl h1 h2 h3) (gi_seq (ge_bin opn_add (ge_take 9) (ge_slice (ge_take 9) go_none (go_some ge_int)))) (gg_name 10 sc.nd) (gss_one (gs_if (gt_not (gt_val (ge_callB (opn_all rfl) rfl G.n_all boot_all (ga_cons (ge_comp (n := 12) (own := [("_law_term", 11)]) rfl sc.nd (blkOk_by (N := N_law) (sc := defScope s_law) (own := [("_law_term", 11)]) (by decide +kernel)) (by decide) (gi_seq (ge_var 7)) (fun _ _ _ _ _ => (gg_name 11 sc.nd)) (fun _ _ _ _ _ => gts_nil) (fun _ _ _ _ _ => (ge_callF c__law_right (hr.mono (by decide)) Av.takes0 (ga_cons (ge_take 11) (ga_cons (ge_take 10) ga_nil)) (len_cons (len_cons len0))))) ga_nil)))) (gss_one (gs_ret ge_bl)) gss_nil)))))))))))
    (gss_one (gs_ret ge_bl)))
end
end Lk03
end
set_option Elab.async false
set_option linter.all false
set_option maxRecDepth 100000
set_option maxHeartbeats 2000000
noncomputable section
namespace Lk03
open PySem L2 Av
inductive Tm where
  | num (i : Int) | cell (x : Str) | op (s : Str) (a b : Tm)
namespace Tm
def d : Tm → D
  | num i => .tup [.str "num", .int i]
  | cell x => .tup [.str "cell", .str x]
  | op s a b => .tup [.str "op", .str s, a.d, b.d]
def n : Tm → Nat
  | num _ => 1
  | cell _ => 1
  | op _ a b => 1 + a.n + b.n
def hi : Tm → Nat
  | num _ => 1
  | cell _ => 1
  | op _ a b => 1 + max a.hi b.hi
def names : Tm → List Str
  | num _ => []
  | cell x => [x]
  | op _ a b => b.names ++ a.names
def ok : Tm → Prop
  | num i => 0 ≤ i ∧ i < 1000000
  | cell _ => True
  | op s a b => (s = "+" ∨ s = "-" ∨ s = "*" ∨ s = "<" ∨ s = "=") ∧ a.ok ∧ b.ok
theorem pos (t : Tm) : 1 ≤ t.n := by cases t <;> simp [n] <;> omega
end Tm
theorem at_strs {ws : List Str} {z : Int} {Q : D → Prop} (h0 : 0 ≤ z) (h : z < ws.length) (q : ∀ w ∈ ws, Q (.str w)) : ofO (atI (ws.map D.str) z) Q := by
  obtain ⟨w, hw, e⟩ := at_ex h0 h
  have e2 : atI (ws.map D.str) z = some (.str w) := by
    unfold atI at e ⊢
    rw [ixN_at h0 h] at e
    rw [ixN_at h0 (by rw [List.length_map]; exact h)]
    simp at e ⊢
    exact e
  rw [e2]
  exact ofO_some.mpr (q w hw)
theorem ix_im {ds : List D} {z : Int} {Q : S → Prop} (h0 : 0 ≤ z) (h : z < ds.length) (q : ∀ d ∈ ds, Q (.im d)) : opv bIx [.lst (ds.map .im), .im (.int z)] Q := by
  obtain ⟨d, hd, e⟩ := at_ex h0 h
  rw [ix_lst (allIm_map ds), e]
  exact ofO_some.mpr (q d hd)
theorem sgn {z : Int} {Q : Nat → Prop} (h0 : 0 ≤ z) (h : z < 5) (q : ∀ c : Nat, ((⟨#[c]⟩ : Str) = "+" ∨ (⟨#[c]⟩ : Str) = "-" ∨ (⟨#[c]⟩ : Str) = "*" ∨ (⟨#[c]⟩ : Str) = "<" ∨ (⟨#[c]⟩ : Str) = "=") → Q c) : ofO (atI ("+-*<=" : Str).cps.toList z) Q := by
  have h5 : z = 0 ∨ z = 1 ∨ z = 2 ∨ z = 3 ∨ z = 4 := by omega
  rcases h5 with rfl | rfl | rfl | rfl | rfl
  · exact ⟨43, by decide +kernel, q _ (by decide +kernel)⟩
  · exact ⟨45, by decide +kernel, q _ (by decide +kernel)⟩
  · exact ⟨42, by decide +kernel, q _ (by decide +kernel)⟩
  · exact ⟨60, by decide +kernel, q _ (by decide +kernel)⟩
  · exact ⟨61, by decide +kernel, q _ (by decide +kernel)⟩
def mLeaf : MS := (sSeq (sAsg (m2 bIx (xLst (aCons (xCall F__law_draw (aCons (xVar 0) (aCons (xC (.int 3)) aNil))) (aCons (xCall F__law_draw (aCons (xVar 0) (aCons (xC (.int 1000000)) aNil))) (aCons (m2 (bInt fun i j => some (.int (i - j))) (xC (.int 999999)) (xCall F__law_draw (aCons (xVar 0) (aCons (xC (.int 3)) aNil)))) aNil)))) (xCall F__law_draw (aCons (xVar 0) (aCons (xC (.int 3)) aNil)))) (gSlot 4)) (sRet (m2 bIx (xLst (aCons (xTup (aCons (xC (.str "cell")) (aCons (m2 bIx (xVar 1) (xCall F__law_draw (aCons (xVar 0) (aCons (mN bLen (aCons (xVar 1) aNil)) aNil)))) aNil))) (aCons (xTup (aCons (xC (.str "num")) (aCons (xTake 4) aNil))) aNil))) (xCall F__law_draw (aCons (xVar 0) (aCons (xC (.int 2)) aNil))))))
def mRest (FX : Fn) : MS := (sSeq (sAsg (m2 bAdd (xC (.int 1)) (xCall F__law_draw (aCons (xVar 0) (aCons (m2 (bInt fun i j => some (.int (i - j))) (xVar 2) (xC (.int 2))) aNil)))) (gSlot 5)) (sSeq (sAsg (m2 bIx (xC (.str "+-*<=")) (xCall F__law_draw (aCons (xVar 0) (aCons (xC (.int 5)) aNil)))) (gSlot 6)) (sSeq (sAsg (xCall FX (aCons (xVar 0) (aCons (xTake 1) (aCons (xTake 5) (aCons (m2 (bInt fun i j => some (.int (i - j))) (xVar 3) (xC (.int 1))) aNil))))) (gSlot 7)) (sRet (xTup (aCons (xC (.str "op")) (aCons (xTake 6) (aCons (xTake 7) (aCons (xCall FX (aCons (xVar 0) (aCons (xTake 1) (aCons (m2 (bInt fun i j => some (.int (i - j))) (m2 (bInt fun i j => some (.int (i - j))) (xVar 2) (xC (.int 1))) (xVar 5)) (aCons (m2 (bInt fun i j => some (.int (i - j))) (xVar 3) (xC (.int 1))) aNil))))) aNil)))))))))
theorem deep_eq (FX : Fn) : m__law_deep_term FX = sSeq (sIf (xOr (xTest (m2 (bInt gLt) (xVar 2) (xC (.int 3)))) (xOr (xTest (m2 bEq (xVar 3) (xC (.int 0)))) (xTest (m2 bEq (xCall F__law_draw (aCons (xVar 0) (aCons (xC (.int 4)) aNil))) (xC (.int 0)))))) mLeaf sNil) (mRest FX) := rfl
theorem draw_eq : F__law_draw = Av.F_law_draw := rfl
theorem leaf {b c room down a1 b1 : Int} {ws : List Str} {x : Option S} {Q : Fl → Av.Env → Prop} (hb : 0 ≤ b) (hb2 : b + 10 * room < 2 ^ 59) (hc : 0 ≤ c) (hc2 : c < 2 ^ 60) (hd : 0 ≤ down) (hr : 1 ≤ room) (wl : 0 < ws.length) (hw2 : ws.length ≤ 100)
    (q : ∀ t a' b' r, Tm.ok t → (t.n : Int) ≤ room → (t.hi : Int) ≤ down + 1 → 0 ≤ a' → b ≤ b' → b' ≤ b + 10 * room → (∀ x ∈ t.names, x ∈ ws) → Q (.rt (.im t.d)) (some (Av.Flow a' b' c) :: r)) (h1 : 0 ≤ a1) (h2 : b ≤ b1) (h3 : b1 ≤ b + 1) :
    Wp (mLeaf [some (Av.Flow a1 b1 c), some (.im (.lst (ws.map D.str))), some (.im (.int room)), some (.im (.int down)), x, none, none, none]) Q := by
  unfold mLeaf
  simp [outs, Av.Flow]
  refine draw_fw h1 (by omega) (by omega) hc hc2 (by decide) (by decide) fun r1 a2 b2 r10 r11 g1 g2 g3 => ?_
  simp [backs, Av.Flow, outs]
  refine draw_fw g1 (by omega) (by omega) hc hc2 (by decide) (by decide) fun r2 a3 b3 r20 r21 g4 g5 g6 => ?_
  simp [backs, Av.Flow, outs]
  refine draw_fw g4 (by omega) (by omega) hc hc2 (by decide) (by decide) fun r3 a4 b4 r30 r31 g7 g8 g9 => ?_
  simp [backs, Av.Flow, outs]
  refine draw_fw g7 (by omega) (by omega) hc hc2 (by decide) (by decide) fun r4 a5 b5 r40 r41 g10 g11 g12 => ?_
  simp [backs, Av.Flow, outs]
  refine ix_im (ds := [.int r1, .int r2, .int (999999 - r3)]) r40 (by simpa using r41) fun dd hdd => ?_
  have hn : ∃ i : Int, dd = .int i ∧ 0 ≤ i ∧ i < 1000000 := by
    simp only [List.mem_cons, List.not_mem_nil, or_false] at hdd
    rcases hdd with rfl | rfl | rfl
    · exact ⟨_, rfl, r10, by omega⟩
    · exact ⟨_, rfl, r20, r21⟩
    · exact ⟨_, rfl, by omega, by omega⟩
  obtain ⟨i, rfl, i0, i1⟩ := hn
  refine draw_fw g10 (by omega) (by omega) hc hc2 (by omega) (by omega) fun r5 a6 b6 r50 r51 g13 g14 g15 => ?_
  simp [backs, Av.Flow, outs]
  refine at_strs r50 r51 fun x hx => ?_
  simp [outs, fzs]
  refine draw_fw g13 (by omega) (by omega) hc hc2 (by decide) (by decide) fun r6 a7 b7 r60 r61 g16 g17 g18 => ?_
  simp [backs, Av.Flow, outs]
  refine ix_im (ds := [.tup [.str "cell", .str x], .tup [.str "num", .int i]]) r60 (by simpa using r61) fun dd hdd => ?_
  simp only [List.mem_cons, List.not_mem_nil, or_false] at hdd
  rcases hdd with rfl | rfl
  · exact q (.cell x) a7 b7 _ trivial (by simp [Tm.n]; omega) (by simp [Tm.hi]; omega) g16 (by omega) (by omega) (fun y hy => by simp [Tm.names] at hy; exact hy ▸ hx)
  · exact q (.num i) a7 b7 _ ⟨i0, i1⟩ (by simp [Tm.n]; omega) (by simp [Tm.hi]; omega) g16 (by omega) (by omega) (fun y hy => by simp [Tm.names] at hy)
theorem rest {b c room down a1 b1 : Int} {f : Nat} {ws : List Str} {Q : Fl → Av.Env → Prop} (hb : 0 ≤ b) (hb2 : b + 10 * room < 2 ^ 59) (hc : 0 ≤ c) (hc2 : c < 2 ^ 60) (hr2 : room ≤ 12)
    (deep : ∀ {a b room down : Int} {Q : Out → List (Option S) → Prop}, 0 ≤ a → 0 ≤ b → b + 10 * room < 2 ^ 59 → 0 ≤ down → down < f → 1 ≤ room → room ≤ 12 →
      (∀ t a' b', Tm.ok t → (t.n : Int) ≤ room → (t.hi : Int) ≤ down + 1 → 0 ≤ a' → b ≤ b' → b' ≤ b + 10 * room → (∀ x ∈ t.names, x ∈ ws) → Q (.ret (.im t.d)) [some (Av.Flow a' b' c), none, none, none]) →
      FW (F__law_deep_term f) [Av.Flow a b c, .im (.lst (ws.map D.str)), .im (.int room), .im (.int down)] Q)
    (q : ∀ t a' b' r, Tm.ok t → (t.n : Int) ≤ room → (t.hi : Int) ≤ down + 1 → 0 ≤ a' → b ≤ b' → b' ≤ b + 10 * room → (∀ x ∈ t.names, x ∈ ws) → Q (.rt (.im t.d)) (some (Av.Flow a' b' c) :: r)) (h1 : 0 ≤ a1) (h2 : b ≤ b1) (h3 : b1 ≤ b + 1) (r3 : 3 ≤ room) (h4 : 1 ≤ down) (hd2 : down < f + 1) :
    Wp (mRest (F__law_deep_term f) [some (Av.Flow a1 b1 c), some (.im (.lst (ws.map D.str))), some (.im (.int room)), some (.im (.int down)), none, none, none, none]) Q := by
  unfold mRest
  simp [outs, Av.Flow]
  refine draw_fw h1 (by omega) (by omega) hc hc2 (by omega) (by omega) fun r1 a2 b2 r10 r11 g1 g2 g3 => ?_
  simp [backs, Av.Flow, outs]
  refine draw_fw g1 (by omega) (by omega) hc hc2 (by decide) (by decide) fun r2 a3 b3 r20 r21 g4 g5 g6 => ?_
  simp [backs, Av.Flow, outs]
  refine ⟨by decide +kernel, sgn r20 r21 fun ch hch => ?_⟩
  refine deep g4 (by omega) (by omega) (by omega) (by omega) (by omega) (by omega) fun t1 a4 b4 t1o t1n t1h g7 g8 g9 w1 => ?_
  simp [backs, Av.Flow, outs]
  refine deep g7 (by omega) (by omega) (by omega) (by omega) (by omega) (by omega) fun t2 a5 b5 t2o t2n t2h g10 g11 g12 w2 => ?_
  simp [backs, Av.Flow, fzs]
  exact q (.op ⟨#[ch]⟩ t1 t2) a5 b5 _ ⟨hch, t1o, t2o⟩ (by simp [Tm.n]; omega) (by simp [Tm.hi]; omega) g10 (by omega) (by omega) (fun x hx => (List.mem_append.mp hx).elim (w2 x) (w1 x))
/-- a term drawn -/
theorem deep_fw {c : Int} {ws : List Str} (hc : 0 ≤ c) (hc2 : c < 2 ^ 60) (hw : ws ≠ []) (hw2 : ws.length ≤ 100) : ∀ (f : Nat) {a b room down : Int} {Q : Out → List (Option S) → Prop}, 0 ≤ a → 0 ≤ b → b + 10 * room < 2 ^ 59 → 0 ≤ down → down < f → 1 ≤ room → room ≤ 12 →
    (∀ t a' b', Tm.ok t → (t.n : Int) ≤ room → (t.hi : Int) ≤ down + 1 → 0 ≤ a' → b ≤ b' → b' ≤ b + 10 * room → (∀ x ∈ t.names, x ∈ ws) → Q (.ret (.im t.d)) [some (Av.Flow a' b' c), none, none, none]) →
    FW (F__law_deep_term f) [Av.Flow a b c, .im (.lst (ws.map D.str)), .im (.int room), .im (.int down)] Q
  | 0, _, _, _, _, _, _, _, _, h1, h2, _, _, _ => by omega
  | f + 1, a, b, room, down, Q, ha, hb, hb2, hd, hd2, hr, hr2, q => by
    have wl : 0 < ws.length := List.length_pos_iff.mpr hw
    show FW (fnM _ _ _ _) _ _
    rw [fw_fn (by rfl), deep_eq]
    have q' : ∀ t a' b' r, Tm.ok t → (t.n : Int) ≤ room → (t.hi : Int) ≤ down + 1 → 0 ≤ a' → b ≤ b' → b' ≤ b + 10 * room → (∀ x ∈ t.names, x ∈ ws) → endF (.rt (.im t.d)) (finsAt [0] (some (Av.Flow a' b' c) :: r) 0 4) Q := fun t a' b' r h1 h2 h3 h4 h5 h6 h7 => by simpa [finsAt] using q t a' b' h1 h2 h3 h4 h5 h6 h7
    simp [eq_int, Av.Flow]
    by_cases c1 : room < 3
    · simp [c1]
      exact leaf (b := b) hb hb2 hc hc2 hd hr wl hw2 (fun t a' b' r h1 h2 h3 h4 h5 h6 h7 => q' t a' b' r h1 h2 h3 h4 h5 h6 h7) ha (Int.le_refl b) (by omega)
    · by_cases c2 : down = 0
      · subst c2
        simp [c1]
        exact leaf (b := b) hb hb2 hc hc2 (Int.le_refl 0) hr wl hw2 (fun t a' b' r h1 h2 h3 h4 h5 h6 h7 => q' t a' b' r h1 h2 h3 h4 h5 h6 h7) ha (Int.le_refl b) (by omega)
      · simp [c1, c2, outs]
        refine draw_fw ha (by omega) (by omega) hc hc2 (by decide) (by decide) fun r1 a2 b2 r10 r11 g1 g2 g3 => ?_
        simp [backs, Av.Flow, eq_int]
        by_cases c3 : r1 = 0
        · simp [c3]
          exact leaf (b := b) hb hb2 hc hc2 hd hr wl hw2 (fun t a' b' r h1 h2 h3 h4 h5 h6 h7 => q' t a' b' r h1 h2 h3 h4 h5 h6 h7) g1 g2 g3
        · simp [c3]
          exact rest (b := b) hb hb2 hc hc2 hr2 (fun h1 h2 h3 h4 h5 h6 h7 q => deep_fw hc hc2 hw hw2 f h1 h2 h3 h4 h5 h6 h7 q) (fun t a' b' r h1 h2 h3 h4 h5 h6 h7 => q' t a' b' r h1 h2 h3 h4 h5 h6 h7) g1 g2 g3 (by omega) (by omega) (by omega)
end Lk03
end
set_option Elab.async false
set_option linter.all false
set_option maxRecDepth 100000
set_option maxHeartbeats 2000000
noncomputable section
namespace Lk03
open PySem L2 Av
theorem k1 : PyData.strOk "num" = true := by decide +kernel
theorem k2 : PyData.strOk "cell" = true := by decide +kernel
theorem k3 : PyData.strOk "op" = true := by decide +kernel
theorem k4 : PyData.strOk "+" = true := by decide +kernel
theorem k5 : PyData.strOk "-" = true := by decide +kernel
theorem k6 : PyData.strOk "*" = true := by decide +kernel
theorem k7 : PyData.strOk "<" = true := by decide +kernel
theorem k8 : PyData.strOk "=" = true := by decide +kernel
theorem n1 : ¬ (("num" : Str) = "cell") := by decide +kernel
theorem n2 : ¬ (("cell" : Str) = "num") := by decide +kernel
theorem n3 : ¬ (("op" : Str) = "num") := by decide +kernel
theorem n4 : ¬ (("op" : Str) = "cell") := by decide +kernel
theorem n5 : ¬ (("num" : Str) = "op") := by decide +kernel
theorem n6 : ¬ (("cell" : Str) = "op") := by decide +kernel
theorem m1 : ¬ (("-" : Str) = "+") := by decide +kernel
theorem m2 : ¬ (("*" : Str) = "+") := by decide +kernel
theorem m3 : ¬ (("<" : Str) = "+") := by decide +kernel
theorem m4 : ¬ (("=" : Str) = "+") := by decide +kernel
theorem m5 : ¬ (("*" : Str) = "-") := by decide +kernel
theorem m6 : ¬ (("<" : Str) = "-") := by decide +kernel
theorem m7 : ¬ (("=" : Str) = "-") := by decide +kernel
theorem m8 : ¬ (("<" : Str) = "*") := by decide +kernel
theorem m9 : ¬ (("=" : Str) = "*") := by decide +kernel
theorem m10 : ¬ (("=" : Str) = "<") := by decide +kernel
theorem ne_sym {α : Type} {a b : α} (h : ¬ a = b) : ¬ b = a := fun z => h z.symm
def two (s : Str) (i j : Int) : Int := if s = "+" then (i + j) % 1000000 else if s = "-" then (i - j) % 1000000 else if s = "*" then i * j % 1000000 else if s = "<" then (if i < j then 1 else 0) else if i = j then 1 else 0
theorem two_in {s : Str} {i j : Int} : 0 ≤ two s i j ∧ two s i j < 1000000 := by
  have q : ∀ x : Int, 0 ≤ x % 1000000 ∧ x % 1000000 < 1000000 := fun x => ⟨Int.emod_nonneg _ (by decide), Int.emod_lt_of_pos _ (by decide)⟩
  unfold two
  split
  · exact q _
  split
  · exact q _
  split
  · exact q _
  split
  · split <;> decide
  · split <;> decide
def Tm.W (e : Str → Int) : Tm → Int
  | .num i => i
  | .cell x => e x
  | .op s a b => two s (a.W e) (b.W e)
def val (ks : List Key) (is : List Int) (x : Str) : Int := (look ks is (.inr x)).getD 0
theorem val_in {ks : List Key} {is : List Int} (h : ∀ i ∈ is, 0 ≤ i ∧ i < 1000000) (x : Str) : 0 ≤ val ks is x ∧ val ks is x < 1000000 := by
  unfold val
  cases e : look ks is (.inr x) with
  | none => exact ⟨by decide, by decide⟩
  | some i => exact h i (look_mem e)
theorem W_in {e : Str → Int} (h : ∀ x, 0 ≤ e x ∧ e x < 1000000) : ∀ t : Tm, t.ok → 0 ≤ t.W e ∧ t.W e < 1000000
  | .num i, h => h
  | .cell x, _ => h x
  | .op s a b, _ => two_in
theorem get_op {ks : List Key} {is : List Int} {x : Str} {Q : S → Prop} : opv bGet2 [.im (.dct ks (is.map .int)), .im (.str x), .im (.int 0)] Q ↔ Q (.im (.int (val ks is x))) := by
  show ofO _ Q ↔ _
  simp only [bGet2, Av.keyOf, dget, Option.bind_some, look_map, val]
  cases look ks is (.inr x) <;> simp
theorem tw_fw {s : Str} {i j : Int} {Q : Out → List (Option S) → Prop} (hs : s = "+" ∨ s = "-" ∨ s = "*" ∨ s = "<" ∨ s = "=") (hi : 0 ≤ i ∧ i < 1000000) (hj : 0 ≤ j ∧ j < 1000000) (q : Q (.ret (.im (.int (two s i j)))) [none, none, none]) : FW F_of_two [.im (.str s), .im (.int i), .im (.int j)] Q := by
  unfold F_of_two
  rw [fw_fn (by rfl)]
  unfold m_of_two
  have s1 : Sml i := sml_of (by omega) (by omega)
  have s2 : Sml j := sml_of (by omega) (by omega)
  unfold two at q
  rcases hs with rfl | rfl | rfl | rfl | rfl
  · simpa [finsAt, eq_ss, k4, d_WIDE] using q
  · simpa [finsAt, eq_ss, k4, k5, d_WIDE, m1] using q
  · simpa [finsAt, eq_ss, k4, k5, k6, d_WIDE, m2, m5, s1, s2] using q
  · simpa [finsAt, eq_ss, k4, k5, k6, k7, m3, m6, m8, io_b] using q
  · simpa [finsAt, eq_ss, k4, k5, k6, k7, k8, m4, m7, m9, m10, eq_int, io_b] using q
theorem worth_fw {ks : List Key} {is : List Int} (h : ∀ i ∈ is, 0 ≤ i ∧ i < 1000000) : ∀ (f : Nat) (t : Tm) {Q : Out → List (Option S) → Prop}, t.hi ≤ f → t.ok → t.names.all PyData.strOk = true → Q (.ret (.im (.int (t.W (val ks is))))) [none, none] → FW (F_worth f) [.im t.d, .im (.dct ks (is.map .int))] Q
  | 0, t, Q, h1, _, _, _ => by cases t <;> simp [Tm.hi] at h1 <;> omega
  | f + 1, t, Q, h1, h2, h3, q => by
    show FW (fnM _ _ _ _) _ _
    rw [fw_fn (by rfl)]
    unfold m_worth
    cases t with
    | num i => simpa [finsAt, Tm.d, eq_ss, k1, Tm.W] using q
    | cell x => simpa [finsAt, Tm.d, eq_ss, k1, k2, n2, kindS, get_op, Tm.W] using q
    | op s a b =>
      obtain ⟨o1, o2, o3⟩ := h2
      simp only [Tm.hi] at h1
      simp only [Tm.names, List.all_append, Bool.and_eq_true] at h3
      simp [finsAt, Tm.d, eq_ss, k1, k2, k3, n3, n4, outs]
      refine worth_fw h f a (by omega) o2 h3.2 ?_
      simp [backs, outs]
      refine worth_fw h f b (by omega) o3 h3.1 ?_
      simp [backs, outs]
      refine tw_fw o1 (W_in (val_in h) a o2) (W_in (val_in h) b o3) ?_
      simpa [backs, Tm.W] using q
theorem disp_op {s : Str} {i j : Int} {Q : S → Prop} (hs : s = "+" ∨ s = "-" ∨ s = "*" ∨ s = "<" ∨ s = "=") (q : ∀ z, z % 1000000 = two s i j → Q (.im (.int z))) :
    opv bIx [.dct [.inr "+", .inr "-", .inr "*", .inr "<", .inr "="] [.im (.int (i + j)), .im (.int (i - j)), .im (.int (i * j)), .im (.int (if i < j then 1 else 0)), .im (.int (if i = j then 1 else 0))], .im (.str s)] Q := by
  show ofO _ Q
  unfold two at q
  rcases hs with rfl | rfl | rfl | rfl | rfl
  · exact ⟨_, rfl, q _ (by simp)⟩
  · exact ⟨.im (.int (i - j)), by simp [bIx, items, dget, look, ne_sym m1], q _ (by simp [m1])⟩
  · exact ⟨.im (.int (i * j)), by simp [bIx, items, dget, look, ne_sym m2, ne_sym m5], q _ (by simp [m2, m5])⟩
  · exact ⟨.im (.int (if i < j then 1 else 0)), by simp [bIx, items, dget, look, ne_sym m3, ne_sym m6, ne_sym m8], q _ (by simp only [m3, m6, m8, if_false, if_true]; split <;> rfl)⟩
  · exact ⟨.im (.int (if i = j then 1 else 0)), by simp [bIx, items, dget, look, ne_sym m4, ne_sym m7, ne_sym m9, ne_sym m10], q _ (by simp only [m4, m7, m9, m10, if_false]; split <;> rfl)⟩
theorem lworth_fw {ks : List Key} {is : List Int} (h : ∀ i ∈ is, 0 ≤ i ∧ i < 1000000) : ∀ (f : Nat) (t : Tm) {Q : Out → List (Option S) → Prop}, t.hi ≤ f → t.ok → t.names.all PyData.strOk = true → Q (.ret (.im (.int (t.W (val ks is))))) [none, none] → FW (F__law_worth f) [.im t.d, .im (.dct ks (is.map .int))] Q
  | 0, t, Q, h1, _, _, _ => by cases t <;> simp [Tm.hi] at h1 <;> omega
  | f + 1, t, Q, h1, h2, h3, q => by
    show FW (fnM _ _ _ _) _ _
    rw [fw_fn (by rfl)]
    unfold m__law_worth
    cases t with
    | num i => simpa [finsAt, Tm.d, eq_ss, k1, Tm.W] using q
    | cell x => simpa [finsAt, Tm.d, eq_ss, k1, k2, n2, kindS, get_op, Tm.W] using q
    | op s a b =>
      obtain ⟨o1, o2, o3⟩ := h2
      simp only [Tm.hi] at h1
      simp only [Tm.names, List.all_append, Bool.and_eq_true] at h3
      have wa := W_in (val_in (ks := ks) h) a o2
      have wb := W_in (val_in (ks := ks) h) b o3
      simp [finsAt, Tm.d, eq_ss, k1, k2, k3, n3, n4, outs]
      refine lworth_fw h f a (by omega) o2 h3.2 ?_
      simp [backs, outs]
      refine lworth_fw h f b (by omega) o3 h3.1 ?_
      simp only [Tm.W] at q
      generalize Tm.W (val ks is) a = u at wa q ⊢
      generalize Tm.W (val ks is) b = v at wb q ⊢
      simp [backs, stores, io_b, eq_int]
      refine ⟨sml_of (by omega) (by omega), sml_of (by omega) (by omega), ?_⟩
      refine disp_op o1 fun z hz => ?_
      simpa [hz] using q
theorem parts_fw : ∀ (f : Nat) (t : Tm) {Q : Out → List (Option S) → Prop}, t.hi ≤ f → Q (.ret (.im (.int t.n))) [none] → FW (F_parts_of f) [.im t.d] Q
  | 0, t, Q, h1, _ => by cases t <;> simp [Tm.hi] at h1 <;> omega
  | f + 1, t, Q, h1, q => by
    show FW (fnM _ _ _ _) _ _
    rw [fw_fn (by rfl)]
    unfold m_parts_of
    cases t with
    | num i => simpa [finsAt, Tm.d, ne_ss, k1, k3, n5, Tm.n] using q
    | cell x => simpa [finsAt, Tm.d, ne_ss, k2, k3, n6, Tm.n] using q
    | op s a b =>
      simp only [Tm.hi] at h1
      simp [finsAt, Tm.d, ne_ss, k3, outs]
      refine parts_fw f a (by omega) ?_
      simp [backs, outs]
      refine parts_fw f b (by omega) ?_
      simpa [backs, Tm.n] using q
end Lk03
end
set_option Elab.async false
set_option linter.all false
set_option maxRecDepth 100000
set_option maxHeartbeats 2000000
noncomputable section
namespace Lk03
open PySem L2 Av
/-- a stack of terms: its parts, its names -/
def nn (ts : List Tm) : Nat := (ts.map Tm.n).sum
def ff (ts : List Tm) : List Str := (ts.reverse.map Tm.names).flatten
theorem nn_app (ts us : List Tm) : nn (ts ++ us) = nn ts + nn us := by simp [nn]
theorem ff_app (ts us : List Tm) : ff (ts ++ us) = ff us ++ ff ts := by simp [ff]
theorem ff_one (t : Tm) : ff [t] = t.names := by simp [ff]
theorem names_len : ∀ t : Tm, t.names.length ≤ t.n
  | .num _ => by simp [Tm.names, Tm.n]
  | .cell _ => by simp [Tm.names, Tm.n]
  | .op _ a b => by
    have := names_len a
    have := names_len b
    simp [Tm.names, Tm.n]
    omega
theorem cons_or {ts : List Tm} (h : ts ≠ []) : ∃ us t, ts = us ++ [t] := ⟨ts.dropLast, ts.getLast h, (List.dropLast_concat_getLast h).symm⟩
abbrev LS (xs : List Str) : S := .lst (xs.map fun x => .im (.str x))
abbrev LT (ts : List Tm) : S := .lst (ts.map fun t => .im t.d)
theorem app_S {xs : List Str} {x : Str} (h : xs.length < 100000) : lAppend (.lst (xs.map fun x => .im (.str x))) [.im (.str x)] = some (.im .non, .lst ((xs ++ [x]).map fun x => .im (.str x))) := by simp [lAppend, h]
theorem ext_T {ts : List Tm} {a b : Tm} (h : ts.length + 2 ≤ 100000) : lExtend (.lst (ts.map fun t => .im t.d)) [.lst [.im a.d, .im b.d]] = some (.im .non, .lst ((ts ++ [a, b]).map fun t => .im t.d)) := by simp [lExtend, h]
theorem nn_len : ∀ ts : List Tm, ts.length ≤ nn ts
  | [] => Nat.le_refl _
  | t :: ts => by
    have h1 := nn_len ts
    have h2 := t.pos
    have e : nn (t :: ts) = t.n + nn ts := by simp [nn]
    rw [e, List.length_cons]
    omega
theorem nn_one (us : List Tm) (u : Tm) : nn (us ++ [u]) = nn us + u.n := by rw [nn_app]; simp [nn]
theorem nn_two (us : List Tm) (a b : Tm) : nn (us ++ [a, b]) = nn us + (a.n + b.n) := by rw [nn_app]; simp [nn]
theorem set_op {xs : List Str} {Q : S → Prop} (h : xs.length < 64) : opv bSortSet [LS xs] Q ↔ Q (LS (rised (once [] xs))) := by
  show ofO _ Q ↔ _
  simp [bSortSet, elems, allIm_map2 (fun x => D.str x) xs, show (xs.map fun x => D.str x) = xs.map D.str from rfl, strsD_map, h, Function.comp_def]
theorem tup_op {xs : List Str} {Q : S → Prop} : opv bTuple [LS xs] Q ↔ Q (.im (.tup (xs.map .str))) := by
  show ofO _ Q ↔ _
  simp [bTuple, elems, items, allIm_map2 (fun x => D.str x) xs]
theorem cells_fw {t : Tm} {Q : Out → List (Option S) → Prop} (hn : t.n ≤ 50) (q : Q (.ret (.im (.tup ((rised (once [] t.names)).map .str)))) [none]) : FW F_cells_of [.im t.d] Q := by
  unfold F_cells_of
  rw [fw_fn (by rfl)]
  unfold m_cells_of m_cells_of_5
  simp
  unfold m_cells_of_4
  simp
  refine (while_inv (fun n ρ => ∃ ts xs o, n = nn ts ∧ n ≤ 50 ∧ ρ = [some (.im t.d), some (LS xs), some (LT ts), o] ∧ xs ++ ff ts = t.names) ?_ (nn [t]) _ ⟨[t], [], none, rfl, by simpa [nn] using hn, rfl, by simp [ff_one]⟩ : Wp (sWhile _ _ _) _)
  rintro n ρ ⟨ts, xs, o, rfl, hle, rfl, hns⟩
  simp
  refine onB_dec.mpr ⟨fun hp => ?_, fun hz => ?_⟩
  · have hne : ts ≠ [] := by
      intro z
      subst z
      simp at hp
    obtain ⟨us, u, rfl⟩ := cons_or hne
    have l1 : (us ++ [u]).length ≤ nn (us ++ [u]) := nn_len _
    have l2 : nn (us ++ [u]) = nn us + u.n := nn_one us u
    have l3 := names_len t
    have l4 : xs.length ≤ t.names.length := by rw [← hns, List.length_append]; omega
    rw [List.length_append, List.length_singleton] at l1
    rw [ff_app, ff_one] at hns
    unfold m_cells_of_2
    simp [kindS, pop_last]
    unfold m_cells_of_1
    cases u with
    | num i =>
      simp [Tm.d, eq_ss, k1, k2, k3, n1, n5]
      simp only [Tm.n] at l2
      exact ⟨nn us, by omega, us, rfl, by omega, xs, by simp, by simpa [Tm.names] using hns⟩
    | cell x =>
      simp [Tm.d, eq_ss, k2, kindS, app_S (show xs.length < 100000 by omega)]
      simp only [Tm.n] at l2
      exact ⟨nn us, by omega, us, rfl, by omega, xs ++ [x], by simp, by simpa [Tm.names] using hns⟩
    | op s a b =>
      simp only [Tm.n] at l2
      simp [Tm.d, eq_ss, k2, k3, n4, kindS, ext_T (show us.length + 2 ≤ 100000 by omega)]
      have l5 := nn_two us a b
      exact ⟨nn (us ++ [a, b]), by omega, us ++ [a, b], rfl, by omega, xs, by simp, by rw [ff_app]; simpa [Tm.names, ff] using hns⟩
  · have hnil : ts = [] := by
      cases ts with
      | nil => rfl
      | cons x ts => simp at hz
    subst hnil
    have e : xs = t.names := by simpa [ff] using hns
    subst e
    have l3 := names_len t
    simp
    unfold m_cells_of_3
    simp [finsAt, set_op (show t.names.length < 64 by omega), tup_op]
    exact q
theorem gone_fw {t : Tm} {Q : Out → List (Option S) → Prop} (hn : t.n ≤ 50) (q : Q (.ret (.im (.tup [.int t.n, .lst (t.names.map .str)]))) [none]) : FW F__law_gone [.im t.d] Q := by
  unfold F__law_gone
  rw [fw_fn (by rfl)]
  unfold m__law_gone m__law_gone_6
  simp [stores]
  refine (while_inv (fun n ρ => ∃ ts xs o, n = nn ts ∧ n ≤ 50 ∧ ρ = [some (.im t.d), some (.im (.int (t.n - nn ts : Int))), some (LS xs), some (LT ts), o] ∧ xs ++ ff ts = t.names) ?_ (nn [t]) _ ?_ : Wp (sWhile _ _ _) _)
  rotate_left
  · exact ⟨[t], [], none, rfl, by simpa [nn] using hn, by simp [nn], by simp [ff_one]⟩
  rintro n ρ ⟨ts, xs, o, rfl, hle, rfl, hns⟩
  simp
  refine onB_dec.mpr ⟨fun hp => ?_, fun hz => ?_⟩
  · have hne : ts ≠ [] := by
      intro z
      subst z
      simp at hp
    obtain ⟨us, u, rfl⟩ := cons_or hne
    have l1 : (us ++ [u]).length ≤ nn (us ++ [u]) := nn_len _
    have l2 : nn (us ++ [u]) = nn us + u.n := nn_one us u
    have l3 := names_len t
    have l4 : xs.length ≤ t.names.length := by rw [← hns, List.length_append]; omega
    rw [List.length_append, List.length_singleton] at l1
    rw [ff_app, ff_one] at hns
    unfold m__law_gone_4
    simp [kindS, pop_last]
    unfold m__law_gone_3
    simp
    unfold m__law_gone_2
    cases u with
    | num i =>
      simp only [Tm.n] at l2
      simp [Tm.d, eq_ss, k1, k2, n1]
      unfold m__law_gone_1
      simp [eq_ss, k1, k3, n5]
      exact ⟨nn us, by omega, us, rfl, by omega, xs, ⟨by rw [l2]; omega, by simp⟩, by simpa [Tm.names] using hns⟩
    | cell x =>
      simp only [Tm.n] at l2
      simp [Tm.d, eq_ss, k2, kindS, app_S (show xs.length < 100000 by omega)]
      unfold m__law_gone_1
      simp [eq_ss, k2, k3, n6]
      exact ⟨nn us, by omega, us, rfl, by omega, xs ++ [x], ⟨by rw [l2]; omega, by simp⟩, by simpa [Tm.names] using hns⟩
    | op s a b =>
      simp only [Tm.n] at l2
      simp [Tm.d, eq_ss, k2, k3, n4]
      unfold m__law_gone_1
      have l5 := nn_two us a b
      simp [eq_ss, k3, kindS, ext_T (show us.length + 2 ≤ 100000 by omega)]
      exact ⟨nn (us ++ [a, b]), by omega, us ++ [a, b], rfl, by omega, xs, ⟨by rw [l2, l5]; omega, by simp⟩, by rw [ff_app]; simpa [Tm.names, ff] using hns⟩
  · have hnil : ts = [] := by
      cases ts with
      | nil => rfl
      | cons x ts => simp at hz
    subst hnil
    have e : xs = t.names := by simpa [ff] using hns
    subst e
    simp
    unfold m__law_gone_5
    simp [finsAt]
    simpa [nn, fz, fzs, fzs_strs] using q
end Lk03
end
set_option Elab.async false
set_option linter.all false
set_option maxRecDepth 100000
set_option maxHeartbeats 4000000
noncomputable section
namespace Lk03
open PySem L2 Av
/-- a name: its signs are signs, it is short -/
def Wd (n : Nat) (w : Str) : Prop := PyData.strOk w = true ∧ w.length ≤ n
theorem ok_app {x y : Str} (hx : PyData.strOk x = true) (hy : PyData.strOk y = true) : PyData.strOk (x ++ y) = true := by
  unfold PyData.strOk at hx hy ⊢
  rw [Str.cps_append, Array.all_append, hx, hy]
  rfl
theorem ok_join : ∀ {xs : List Str}, (∀ x ∈ xs, PyData.strOk x = true) → PyData.strOk (Str.join "" xs) = true
  | [], _ => by decide +kernel
  | [x], h => h x (List.mem_cons_self ..)
  | x :: y :: r, h => by
    have e : Str.join "" (x :: y :: r) = x ++ "" ++ Str.join "" (y :: r) := rfl
    rw [e]
    exact ok_app (ok_app (h x (List.mem_cons_self ..)) (by decide +kernel)) (ok_join fun z hz => h z (List.mem_cons_of_mem _ hz))
theorem ok_cut {x : Str} {lo hi : Option Int} (h : PyData.strOk x = true) : PyData.strOk (cutS x lo hi) = true := by
  unfold PyData.strOk at h ⊢
  rw [← Array.all_toList] at h ⊢
  unfold cutS
  rw [List.all_eq_true] at h ⊢
  intro c hc
  apply h
  simp at hc
  exact List.mem_of_mem_drop (List.mem_of_mem_take hc)
abbrev alph : Str := "abcdefghijklmnopqrstuvwxyz"
theorem alph_all : ∀ j : Fin 26, alph.cps.toList[j.val]? = some (97 + j.val) := by decide +kernel
theorem alph_at {i : Int} (h0 : 0 ≤ i) (h : i < 26) : atI alph.cps.toList i = some (97 + i.toNat) := by
  have hl : alph.cps.toList.length = 26 := by decide +kernel
  unfold atI
  rw [ixN_at h0 (by rw [hl]; exact h)]
  exact alph_all ⟨i.toNat, by omega⟩
theorem ok_one {n : Nat} (h : n < 26) : PyData.strOk ⟨#[97 + n]⟩ = true := by
  unfold PyData.strOk
  simp
  omega
def ks : List Str := ["set", "read", "from", "tell", "sure", "if", "else", "while", "times", "call", "end", "within", "helper", "gauges"]
def mk (w : Str) (p : Int) (c : Nat) : Str := cutS w none (some p) ++ (⟨#[c]⟩ : Str) ++ cutS w (some p) none
theorem far : ∀ x ∈ ks, ∀ y ∈ ks, ∀ i ∈ List.range 7, x.cps.toList.take i = y.cps.toList.take i → x.cps.toList.drop (i + 1) = y.cps.toList.drop (i + 1) → x = y := by decide +kernel
theorem short : ∀ x ∈ ks, x.cps.toList.length ≤ 6 := by decide +kernel
theorem two_kept {w : Str} {p : Int} {c c' : Nat} (h : c ≠ c') (h1 : mk w p c ∈ ks) (h2 : mk w p c' ∈ ks) : False := by
  have e : ∀ c, (mk w p c).cps.toList = (cutS w none (some p)).cps.toList ++ c :: (cutS w (some p) none).cps.toList := fun c => by
    simp [mk, Str.cps_append]
  have l := short _ h1
  rw [e, List.length_append, List.length_cons] at l
  have z := far _ h1 _ h2 (cutS w none (some p)).cps.toList.length (List.mem_range.mpr (by omega)) (by rw [e, e]; simp) (by rw [e, e, List.drop_append, List.drop_append]; simp)
  have z2 := congrArg (fun x : Str => x.cps.toList) z
  have z2 : (mk w p c).cps.toList = (mk w p c').cps.toList := z2
  rw [e, e] at z2
  exact h (List.cons.inj (List.append_cancel_left z2)).1
theorem notin_op {us : List Str} {w : Str} {Q : S → Prop} : opv bNotIn [.im (.str w), .lst (us.map fun x => .im (.str x))] Q ↔ Q (.im (.bl (!decide (w ∈ us)))) := by
  show ofO _ Q ↔ _
  have h : (us.map D.str).all flatD = true := by simp [flatD]
  have e : ∀ x y : Str, PyData.eqv (.str x) (.str y) = decide (x = y) := fun x y => by
    show (x == y) = _
    by_cases h : x = y <;> simp [h]
  have e2 : (us.any fun x => decide (x = w)) = decide (w ∈ us) := by
    rw [Bool.eq_iff_iff]
    simp
  simp [bNotIn, isIn, items, allIm_map2 (fun x => D.str x) us, h, flatD, py, Function.comp_def, e, e2]
theorem turn1 {fl : S} {many p first k : Int} {w : Str} {x4 x9 : Option S} {us : List Str} (hw : Wd 7 w) (hp : 0 ≤ p) (hf : 0 ≤ first) (hk : 0 ≤ k) (hk2 : k < 26) (hf2 : first < 26) (hu : us.length ≤ 30) :
    Wp (m__law_names_2 [some fl, some (.im (.int many)), some (.im (.str alph)), some (.im (.str w)), x4, some (.im (.int p)), some (.im (.int first)), some (LS ks), some (LS us), some (.im (.int k)), x9])
      fun f ρ => f = .nx ∧ ∃ v, ρ = [some fl, some (.im (.int many)), some (.im (.str alph)), some (.im (.str w)), x4, some (.im (.int p)), some (.im (.int first)), some (LS ks), some (LS (if mk w p (97 + ((first + 7 * k) % 26).toNat) ∉ ks ∧ (us.length : Int) < many then us ++ [mk w p (97 + ((first + 7 * k) % 26).toNat)] else us)), some (.im (.int k)), v] := by
  have l1 := cut_len (x := w) (lo := none) (hi := some p)
  have l2 := cut_len (x := w) (lo := some p) (hi := none)
  have hw2 := hw.2
  have b : 0 ≤ (first + 7 * k) % 26 ∧ (first + 7 * k) % 26 < 26 := ⟨Int.emod_nonneg _ (by decide), Int.emod_lt_of_pos _ (by decide)⟩
  unfold m__law_names_2
  simp
  refine ⟨by omega, sml_of (by omega) (by omega), sml_of (by omega) (by omega), by decide +kernel, ?_⟩
  rw [alph_at b.1 b.2, ofO_some]
  have lo : (⟨#[97 + ((first + 7 * k) % 26).toNat]⟩ : Str).length = 1 := rfl
  have hm : cutS w none (some p) ++ (⟨#[97 + ((first + 7 * k) % 26).toNat]⟩ : Str) ++ cutS w (some p) none = mk w p (97 + ((first + 7 * k) % 26).toNat) := rfl
  rw [hm]
  generalize mk w p (97 + ((first + 7 * k) % 26).toNat) = nm
  refine ⟨by rw [lo]; omega, by omega, by rw [app_len, lo]; omega, ?_⟩
  unfold m__law_names_1
  simp [notin_op]
  by_cases c1 : nm ∈ ks
  · simp [c1]
  · by_cases c2 : (us.length : Int) < many
    · simp [c1, c2, kindS, app_S (show us.length < 100000 by omega)]
    · simp [c1, c2]
end Lk03
end
set_option Elab.async false
set_option linter.all false
set_option maxRecDepth 100000
set_option maxHeartbeats 4000000
noncomputable section
namespace Lk03
open PySem L2 Av
theorem rng26 : rangeD 0 26 = .int 0 :: .int 1 :: rangeD 2 24 := rfl
theorem split_ks : Txt.split "set read from tell sure if else while times call end within helper gauges" " " = ks := by decide +kernel
theorem names_fw {a b c many : Int} {Q : Out → List (Option S) → Prop} (ha : 0 ≤ a) (hb : 0 ≤ b) (hb2 : b < 2 ^ 59) (hc : 0 ≤ c) (hc2 : c < 2 ^ 60) (hm : 1 ≤ many) (hm2 : many ≤ 5)
    (q : ∀ ws a' b', ws ≠ [] → ws.length ≤ 5 → (∀ w ∈ ws, Wd 20 w) → 0 ≤ a' → b ≤ b' → b' ≤ b + 20 → Q (.ret (LS ws)) [some (Av.Flow a' b' c), none]) : FW F__law_names [Av.Flow a b c, .im (.int many)] Q := by
  unfold F__law_names
  rw [fw_fn (by rfl)]
  unfold m__law_names m__law_names_8
  simp [Av.Flow, outs]
  refine draw_fw ha hb (by omega) hc hc2 (by decide) (by decide) fun n a2 b2 n0 n1 a2h b2h b2l => ?_
  simp [backs, Av.Flow, outs]
  refine ⟨smallI_of (by omega) (by omega), ?_⟩
  have h26 : alph.cps.toList.length = 26 := by decide +kernel
  refine (comp_inv (Q := fun acc ρ => ∃ (cs : List Str) (a3 b3 : Int), acc = cs.map (fun c => S.im (.str c)) ∧ cs.length ≤ 5 ∧ (∀ c ∈ cs, Wd 1 c) ∧ 0 ≤ a3 ∧ b ≤ b3 ∧ b3 ≤ b + 10 ∧ ρ = [some (Av.Flow a3 b3 c), some (.im (.int many)), some (.im (.str alph)), none, none, none, none, none, none, none, none])
    (fun don rest acc ρ => don.length + rest.length ≤ 5 ∧ ∃ (cs : List Str) (a3 b3 : Int), acc = cs.map (fun c => S.im (.str c)) ∧ cs.length = don.length ∧ (∀ c ∈ cs, Wd 1 c) ∧ 0 ≤ a3 ∧ b2 ≤ b3 ∧ b3 ≤ b2 + don.length ∧ ρ = [some (Av.Flow a3 b3 c), some (.im (.int many)), some (.im (.str alph)), none, none, none, none, none, none, none, none]) ?_ ?_ ?_).imp ?_
  · exact ⟨by simp; omega, [], a2, b2, rfl, rfl, by simp, a2h, by omega, by simp, rfl⟩
  · rintro don d rest acc ρ ⟨hl, cs, a3, b3, rfl, h1, hcs, h2, h3, h4, rfl⟩
    simp only [List.length_cons] at hl
    simp [Av.Flow, outs]
    refine draw_fw h2 (by omega) (by omega) hc hc2 (by decide) (by decide) fun z a4 b4 z0 z1 a4h b4h b4l => ?_
    simp [backs, Av.Flow]
    refine ⟨by decide +kernel, ?_⟩
    rw [alph_at z0 z1, ofO_some]
    refine ⟨by omega, by omega, cs ++ [⟨#[97 + z.toNat]⟩], by simp, by simp [h1], ?_, a4, a4h, b4, by omega, by omega, rfl, rfl⟩
    intro x hx
    rcases List.mem_append.mp hx with hx | hx
    · exact hcs x hx
    · rw [List.mem_singleton.mp hx]
      exact ⟨ok_one (by omega), Nat.le_refl _⟩
  · rintro acc ρ ⟨hl, cs, a3, b3, rfl, h1, hcs, h2, h3, h4, rfl⟩
    simp only [List.length_nil] at hl
    exact ⟨cs, a3, b3, rfl, by omega, hcs, h2, by omega, by omega, rfl⟩
  rintro acc ρ ⟨cs, a3, b3, rfl, h1, hcs, h2, h3, h4, rfl⟩
  simp [restore, Av.Flow]
  have hj : ∃ w : Str, Wd 7 w ∧ ∀ Q : S → Prop, Q (.im (.str w)) → opv bJoin [S.im (D.str ""), LS cs] Q := by
    have l1 : (cs.map (·.length)).sum ≤ cs.length := by
      clear h1
      induction cs with
      | nil => exact Nat.le_refl _
      | cons x xs ih =>
        have := ih fun c hc => hcs c (List.mem_cons_of_mem _ hc)
        have := (hcs x (List.mem_cons_self ..)).2
        simp
        omega
    refine ⟨Txt.join "" cs, ⟨by rw [TL.join_eq]; exact ok_join fun x hx => (hcs x hx).1, by rw [TL.join_eq, join_len]; omega⟩, fun Q q => ?_⟩
    show ofO _ Q
    have z : ("" : Str).length = 0 := rfl
    simp only [bJoin, items, allIm_map2 (fun c => D.str c) cs, Option.bind_some, show (cs.map fun c => D.str c) = cs.map D.str from rfl, strsD_map, z]
    rw [if_pos (by omega)]
    exact ofO_some.mpr q
  obtain ⟨w, hw, hj⟩ := hj
  refine hj _ ?_
  have hw2 := hw.2
  unfold m__law_names_7
  simp [outs]
  refine ⟨by omega, ?_⟩
  refine draw_fw h2 (by omega) (by omega) hc hc2 (by omega) (by omega) fun p a4 b4 t0 t1 a4h b4h b4l => ?_
  simp [backs, Av.Flow, outs]
  refine draw_fw a4h (by omega) (by omega) hc hc2 (by omega) (by omega) fun fi a5 b5 u0 u1 a5h b5h b5l => ?_
  simp [backs, Av.Flow, stores]
  unfold m__law_names_6
  simp [kindS]
  refine split_op split_ks (by decide +kernel) ?_
  unfold m__law_names_5
  simp
  unfold m__law_names_4
  simp
  refine ⟨smallI_of (by decide) (by decide), ?_⟩
  rw [rng26, wp_forCons]
  simp
  refine (turn1 (fl := Av.Flow a5 b5 c) (us := []) (x4 := none) (x9 := none) hw t0 u0 (by decide) (by decide) u1 (by decide)).imp ?_
  rintro _ _ ⟨rfl, v1, rfl⟩
  have d0 : 97 + ((fi + 7 * 0) % 26).toNat ≠ 97 + ((fi + 7 * 1) % 26).toNat := by omega
  have d1 := fun h1 h2 => two_kept (w := w) (p := p) d0 h1 h2
  have wd : ∀ n, n < 26 → Wd 20 (mk w p (97 + n)) := fun n hn => by
    have l1 := cut_len (x := w) (lo := none) (hi := some p)
    have l2 := cut_len (x := w) (lo := some p) (hi := none)
    have lo : (⟨#[97 + n]⟩ : Str).length = 1 := rfl
    refine ⟨ok_app (ok_app (ok_cut hw.1) (ok_one hn)) (ok_cut hw.1), ?_⟩
    unfold mk
    rw [app_len, app_len, lo]
    omega
  have en : ∀ k : Int, ((fi + 7 * k) % 26).toNat < 26 := fun k => by omega
  have w0 := wd _ (en 0)
  have w1 := wd _ (en 1)
  generalize mk w p (97 + ((fi + 7 * 0) % 26).toNat) = n0 at d1 w0 ⊢
  rw [turn_nx, wp_forCons]
  simp only [ofO_slot]
  have grow : ∀ (us : List Str) (nm : Str), us.length ≤ 5 → (∀ w ∈ us, Wd 20 w) → Wd 20 nm → (if nm ∉ ks ∧ (us.length : Int) < many then us ++ [nm] else us).length ≤ 5 ∧ (∀ w ∈ (if nm ∉ ks ∧ (us.length : Int) < many then us ++ [nm] else us), Wd 20 w) ∧ (us ≠ [] → (if nm ∉ ks ∧ (us.length : Int) < many then us ++ [nm] else us) ≠ []) := by
    intro us nm h1 h2 h3
    by_cases c1 : nm ∉ ks ∧ (us.length : Int) < many
    · rw [if_pos c1]
      refine ⟨by rw [List.length_append, List.length_singleton]; omega, fun w hw => ?_, fun _ => by simp⟩
      rcases List.mem_append.mp hw with z | z
      · exact h2 w z
      · rw [List.mem_singleton.mp z]; exact h3
    · rw [if_neg c1]
      exact ⟨h1, h2, id⟩
  have g1 := grow [] n0 (by simp) (by simp) w0
  have e1 : n0 ∉ ks → (if n0 ∉ ks ∧ (([] : List Str).length : Int) < many then ([] : List Str) ++ [n0] else []) ≠ [] := fun h => by
    rw [if_pos ⟨h, by simp; omega⟩]
    simp
  generalize (if n0 ∉ ks ∧ (([] : List Str).length : Int) < many then ([] : List Str) ++ [n0] else []) = us1 at g1 e1 ⊢
  refine ⟨by simp, ?_⟩
  refine (turn1 (fl := Av.Flow a5 b5 c) (us := us1) (x4 := none) (x9 := v1) hw t0 u0 (by decide) (by decide) u1 (by omega)).imp ?_
  rintro _ _ ⟨rfl, v2, rfl⟩
  generalize mk w p (97 + ((fi + 7 * 1) % 26).toNat) = n1 at d1 w1 ⊢
  have g2 := grow us1 n1 g1.1 g1.2.1 w1
  have e2 : (if n1 ∉ ks ∧ (us1.length : Int) < many then us1 ++ [n1] else us1) ≠ [] := by
    by_cases z : us1 = []
    · subst z
      have h0 : n0 ∈ ks := Classical.byContradiction fun h => e1 h rfl
      rw [if_pos ⟨fun h => d1 h0 h, by simp; omega⟩]
      simp
    · exact g2.2.2 z
  generalize (if n1 ∉ ks ∧ (us1.length : Int) < many then us1 ++ [n1] else us1) = us2 at g2 e2 ⊢
  rw [turn_nx]
  refine for_all (fun ρ => ∃ us x y, us ≠ [] ∧ us.length ≤ 5 ∧ (∀ w ∈ us, Wd 20 w) ∧ ρ = [some (Av.Flow a5 b5 c), some (.im (.int many)), some (.im (.str alph)), some (.im (.str w)), none, some (.im (.int p)), some (.im (.int fi)), some (LS ks), some (LS us), x, y]) ⟨us2, _, _, e2, g2.1, g2.2.1, rfl⟩ ?_ ?_
  · rintro d hd _ ⟨us, x, y, h1, h2, h3, rfl⟩
    obtain ⟨k, rfl, k0, k1⟩ := rangeD_mem hd
    simp only [ofO_slot]
    refine ⟨by simp, ?_⟩
    refine (turn1 (fl := Av.Flow a5 b5 c) (us := us) (x4 := none) (x9 := y) hw t0 u0 (by omega) (by omega) u1 (by omega)).imp ?_
    rintro _ _ ⟨rfl, v, rfl⟩
    have g := grow us _ h2 h3 (wd _ (en k))
    exact ⟨_, _, _, g.2.2 h1, g.1, g.2.1, rfl⟩
  · rintro _ ⟨us, x, y, h1, h2, h3, rfl⟩
    unfold m__law_names_3
    simp [finsAt]
    exact q us a5 b5 h1 h2 h3 a5h (by omega) (by omega)
end Lk03
end
set_option Elab.async false
set_option linter.all false
set_option maxRecDepth 100000
set_option maxHeartbeats 4000000
noncomputable section
namespace Lk03
open PySem L2 Av
theorem put_ints {k : Key} {i : Int} : ∀ {ks : List Key} {is : List Int}, ks.Nodup → ks.length = is.length → ∃ (ks' : List Key) (is' : List Int), putD ks (is.map fun i => S.im (.int i)) k (.im (.int i)) = (ks', is'.map fun i => S.im (.int i)) ∧ ks'.Nodup ∧ ks'.length = is'.length ∧ ks'.length ≤ ks.length + 1 ∧ (∀ x ∈ ks', x ∈ ks ∨ x = k) ∧ ∀ j ∈ is', j ∈ is ∨ j = i
  | [], [], _, _ => ⟨[k], [i], rfl, List.nodup_cons.mpr ⟨by simp, List.Pairwise.nil⟩, rfl, Nat.le_refl _, fun x hx => .inr (List.mem_singleton.mp hx), fun x hx => .inr (List.mem_singleton.mp hx)⟩
  | k0 :: ks, i0 :: is, nd, hl => by
    obtain ⟨n1, n2⟩ := List.nodup_cons.mp nd
    obtain ⟨ks', is', e, h1, h2, h3, h4, h5⟩ := put_ints (k := k) (i := i) n2 (by simpa using hl)
    by_cases c : k0 = k
    · refine ⟨k0 :: ks, i :: is, ?_, nd, hl, by simp, fun x hx => .inl hx, fun x hx => ?_⟩
      · simp only [List.map_cons, putD]
        rw [if_pos c]
      · rcases List.mem_cons.mp hx with z | z
        · exact .inr z
        · exact .inl (List.mem_cons_of_mem _ z)
    · refine ⟨k0 :: ks', i0 :: is', ?_, List.nodup_cons.mpr ⟨fun z => ?_, h1⟩, by simp [h2], by simp; omega, fun x hx => ?_, fun x hx => ?_⟩
      · simp only [List.map_cons, putD]
        rw [if_neg c, e]
      · rcases h4 _ z with w | w
        · exact n1 w
        · exact c w
      · rcases List.mem_cons.mp hx with z | z
        · exact .inl (z ▸ List.mem_cons_self ..)
        · exact (h4 x z).imp (List.mem_cons_of_mem _) id
      · rcases List.mem_cons.mp hx with z | z
        · exact .inl (z ▸ List.mem_cons_self ..)
        · exact (h5 x z).imp (List.mem_cons_of_mem _) id
/-- a dict of values -/
structure Vl (ks : List Key) (is : List Int) : Prop where
  nd : ks.Nodup
  len : ks.length = is.length
  fit : ∀ i ∈ is, 0 ≤ i ∧ i < 1000000
abbrev DC (ks : List Key) (is : List Int) : S := .dct ks (is.map fun i => .im (.int i))
theorem values_fw {a b c : Int} {ws : List Str} {Q : Out → List (Option S) → Prop} (ha : 0 ≤ a) (hb : 0 ≤ b) (hb2 : b < 2 ^ 58) (hc : 0 ≤ c) (hc2 : c < 2 ^ 60) (hw : ws.length ≤ 5)
    (q : ∀ ks is a' b', Vl ks is → 0 ≤ a' → b ≤ b' → b' ≤ b + 30 → Q (.ret (DC ks is)) [some (Av.Flow a' b' c), none]) : FW F__law_values [Av.Flow a b c, .im (.lst (ws.map D.str))] Q := by
  unfold F__law_values
  rw [fw_fn (by rfl)]
  unfold m__law_values m__law_values_3
  simp
  refine for_inv (fun don rest ρ => don.length + rest.length ≤ 5 ∧ (∀ d ∈ rest, ∃ w, d = .str w) ∧ ∃ a1 b1 ks is x, Vl ks is ∧ ks.length ≤ don.length ∧ 0 ≤ a1 ∧ b ≤ b1 ∧ b1 ≤ b + 6 * don.length ∧ ρ = [some (Av.Flow a1 b1 c), some (.im (.lst (ws.map D.str))), some (DC ks is), x]) ⟨by simp; exact hw, fun d hd => ?_, a, b, [], [], none, ⟨List.Pairwise.nil, rfl, by simp⟩, Nat.le_refl _, ha, Int.le_refl _, by simp, rfl⟩ ?_ ?_
  · obtain ⟨w, _, rfl⟩ := List.mem_map.mp hd
    exact ⟨w, rfl⟩
  · rintro don d rest _ ⟨hl, hst, a1, b1, ks, is, x, hv, hk, h1, h2, h3, rfl⟩
    obtain ⟨w, rfl⟩ := hst d (List.mem_cons_self ..)
    simp only [List.length_cons] at hl
    have hst' := fun d hd => hst d (List.mem_cons_of_mem _ hd)
    simp
    unfold m__law_values_1
    simp [outs, Av.Flow]
    refine draw_fw h1 (by omega) (by omega) hc hc2 (by decide) (by decide) fun r1 a2 b2 r10 r11 g1 g2 g3 => ?_
    simp [backs, Av.Flow, outs]
    by_cases c0 : 0 < r1
    · simp [c0]
      refine draw_fw g1 (by omega) (by omega) hc hc2 (by decide) (by decide) fun r2 a3 b3 r20 r21 g4 g5 g6 => ?_
      simp [backs, Av.Flow, outs]
      refine draw_fw g4 (by omega) (by omega) hc hc2 (by decide) (by decide) fun r3 a4 b4 r30 r31 g7 g8 g9 => ?_
      simp [backs, Av.Flow, outs]
      refine draw_fw g7 (by omega) (by omega) hc hc2 (by decide) (by decide) fun r4 a5 b5 r40 r41 g10 g11 g12 => ?_
      simp [backs, Av.Flow]
      refine ix_im (ds := [.int r2, .int r3, .int 999999]) r40 (by simpa using r41) fun dd hdd => ?_
      have hn : ∃ i : Int, dd = .int i ∧ 0 ≤ i ∧ i < 1000000 := by
        simp only [List.mem_cons, List.not_mem_nil, or_false] at hdd
        rcases hdd with rfl | rfl | rfl
        · exact ⟨_, rfl, r20, by omega⟩
        · exact ⟨_, rfl, r30, r31⟩
        · exact ⟨_, rfl, by omega, by omega⟩
      obtain ⟨i, rfl, i0, i1⟩ := hn
      obtain ⟨ks', is', e, p1, p2, p3, p4, p5⟩ := put_ints (k := .inr w) (i := i) hv.nd hv.len
      have ep : putS (DC ks is) (.str w) (.im (.int i)) = some (DC ks' is') := by
        show (if ks.length < 100000 ∧ ks.Nodup then some (S.dct _ _) else none) = _
        rw [if_pos ⟨by omega, hv.nd⟩, e]
      simp [ep]
      refine ⟨by omega, hst', a5, b5, ks', is', ⟨p1, p2, fun j hj => (p5 j hj).elim (hv.fit j) fun z => z ▸ ⟨i0, i1⟩⟩, by omega, g10, by omega, by omega, ?_⟩
      simp
    · simp [c0]
      exact ⟨by omega, hst', a2, b2, ks, is, hv, by omega, g1, by omega, by omega, by simp⟩
  · rintro _ ⟨hl, _, a1, b1, ks, is, x, hv, hk, h1, h2, h3, rfl⟩
    unfold m__law_values_2
    simp only [List.length_nil] at hl
    simp [finsAt]
    exact q ks is a1 b1 hv h1 h2 (by omega)
theorem whole_fw {i : Int} {Q : Out → List (Option S) → Prop} (q : Q (.ret (.im (.bl true))) [none, none]) : FW F__law_whole [.im (.int i), .im (.int i)] Q := by
  unfold F__law_whole
  rw [fw_fn (by rfl)]
  unfold m__law_whole
  have e1 : ∀ Q, opv (bIsi "int") [.im (.int i)] Q ↔ Q (.im (.bl true)) := fun Q => by
    show ofO _ Q ↔ _
    simp [bIsi, tyName, isSub]
  have e2 : ∀ Q, opv (bIsi "bool") [.im (.int i)] Q ↔ Q (.im (.bl false)) := fun Q => by
    show ofO _ Q ↔ _
    simp [bIsi, tyName, isSub]
  simpa [finsAt, e1, e2, eq_int] using q
theorem rised_mem {xs : List Str} {x : Str} (h : x ∈ rised xs) : x ∈ xs := by
  unfold rised at h
  split at h
  · rename_i e
    exact (Classical.choose_spec e).1.mem_iff.mp h
  · cases h
theorem right_fw {t : Tm} {ks : List Key} {is : List Int} {Q : Out → List (Option S) → Prop} (h1 : t.hi ≤ 9) (h2 : t.ok) (h3 : t.names.all PyData.strOk = true) (h4 : t.n ≤ 50) (hv : Vl ks is) (q : Q (.ret (.im (.bl true))) [none, none]) : FW F__law_right [.im t.d, .im (.dct ks (is.map .int))] Q := by
  unfold F__law_right
  rw [fw_fn (by rfl)]
  unfold m__law_right
  have hr : (rised (once [] t.names)).all PyData.strOk = true := by
    rw [List.all_eq_true] at h3 ⊢
    intro x hx
    rcases once_mem.mp (rised_mem hx) with z | z
    · cases z
    · exact h3 x z
  have l3 := names_len t
  have e1 : ∀ ds Q, opv (bIsi "tuple") [.im (.tup ds)] Q ↔ Q (.im (.bl true)) := fun ds Q => by
    show ofO _ Q ↔ _
    simp [bIsi, tyName, isSub]
  have e2 : ∀ xs : List Str, ∀ Q, opv bList [.im (.tup (xs.map .str))] Q ↔ Q (LS xs) := fun xs Q => by
    show ofO _ Q ↔ _
    simp [bList, items, Function.comp_def]
  have e3 : ∀ Q, opv bSortSet [.im (.lst (t.names.map .str))] Q ↔ Q (LS (rised (once [] t.names))) := fun Q => by
    show ofO _ Q ↔ _
    simp [bSortSet, elems, strsD_map, show t.names.length < 64 by omega, Function.comp_def]
  have e4 : ∀ Q, opv bDictD [.im (.dct ks (is.map .int))] Q ↔ Q (DC ks is) := fun Q => by
    show ofO _ Q ↔ _
    simp [bDictD, Function.comp_def]
  have e5 : ∀ Q, opv (orG bEqDct bEq) [.im (.dct ks (is.map .int)), DC ks is] Q ↔ Q (.im (.bl true)) := fun Q => by
    show ofO _ Q ↔ _
    rw [orG_left (z := .im (.bl true))]
    · simp
    · simp [bEqDct, dctOf, allIm_map2 (fun i => D.int i) is, hv.nd, flatS]
  simp [finsAt, outs]
  refine gone_fw h4 ?_
  simp [backs, outs]
  refine cells_fw h4 ?_
  simp [backs, outs, e1, e2, e3, ne_strs hr]
  refine parts_fw 9 t h1 ?_
  simp [backs, outs]
  refine whole_fw ?_
  simp [backs, outs, e4]
  refine worth_fw hv.fit 9 t h1 h2 h3 ?_
  simp [backs, outs]
  refine lworth_fw hv.fit 9 t h1 h2 h3 ?_
  simp [backs, outs]
  refine whole_fw ?_
  simp [backs, e5]
  exact q
end Lk03
end
set_option Elab.async false
set_option linter.all false
set_option maxRecDepth 100000
set_option maxHeartbeats 4000000
noncomputable section
namespace Lk03
open PySem L2 Av
theorem enum_str : ∀ {ws : List Str} {i : Nat} {d : D}, d ∈ enumD i (ws.map D.str) → ∃ (j : Nat) (w : Str), d = .tup [.int j, .str w] ∧ w ∈ ws ∧ j < i + ws.length
  | [], _, _, h => by cases h
  | w :: ws, i, d, h => by
    rcases List.mem_cons.mp (show d ∈ D.tup [.int i, .str w] :: enumD (i + 1) (ws.map D.str) from h) with z | z
    · exact ⟨i, w, z, List.mem_cons_self .., by simp⟩
    · obtain ⟨j, v, e, h1, h2⟩ := enum_str z
      exact ⟨j, v, e, List.mem_cons_of_mem _ h1, by simp; omega⟩
theorem mul_z {b : Bool} {Q : S → Prop} (q : ∀ v : Str, PyData.strOk v = true → v.length ≤ 1 → Q (.im (.str v))) : opv bMulS [.im (.str "z"), .im (.int (if b = true then 1 else 0))] Q := by
  have l : ("z" : Str).length = 1 := rfl
  have ok : MulOk "z" (if b = true then 1 else 0) := by
    cases b
    · exact ⟨by decide, fun h => by simp at h, fun h => by simp at h⟩
    · exact ⟨by decide, fun _ h => by simp at h, fun _ h => by simp at h⟩
  show ofO _ Q
  simp only [bMulS]
  rw [if_pos ok]
  refine ofO_some.mpr ?_
  cases b
  · exact q _ (by decide +kernel) (by decide +kernel)
  · exact q _ (by decide +kernel) (by decide +kernel)
theorem restore2 {ρ0 ρ r : Av.Env} {v u : Nat} (h : restore ρ0 ρ [v, u] = r) (ne : v ≠ u) (h1 : ρ[v]? = some none) (h2 : ρ[u]? = some none) : ∃ o p, r = (ρ.set u p).set v o := by
  subst h
  obtain ⟨p, e⟩ := restore_of (ρ0 := ρ0) (ρ := ρ) (v := u) rfl h2
  have q : (ρ.set u p)[v]? = some none := by
    rw [List.getElem?_set_ne (Ne.symm ne)]
    exact h1
  rw [show restore ρ0 ρ [v, u] = (match ρ0[v]? with
    | some (some (.im d)) => (restore ρ0 ρ [u]).set v (some (.im d))
    | _ => restore ρ0 ρ [u]) from rfl, e]
  split
  · exact ⟨_, p, rfl⟩
  · exact ⟨none, p, (set_self q).symm⟩
theorem law_fw {ns : List Int} {Q : Out → List (Option S) → Prop} (hn : ns.length ≤ 63) (q : Q (.ret (.im (.bl true))) [none]) : FW F_law [.im (.slst (ns.map .int))] Q := by
  unfold F_law
  rw [fw_fn (by rfl)]
  unfold m_law
  simp [finsAt]
  have hc : (cutG (ns.map D.int) none (some 6)).length ≤ 63 := Nat.le_trans cut_le (by simpa using hn)
  generalize (cutG (ns.map D.int) none (some 6)).length = len at hc
  refine ⟨smallI_of (by split <;> omega) (by split <;> omega), ?_⟩
  refine for_all (fun ρ => ∃ a b c d e f g h i j k, ρ = [some (.im (.slst (ns.map .int))), a, b, c, d, e, f, g, h, i, j, k]) ⟨_, _, _, _, _, _, _, _, _, _, _, rfl⟩ ?_ ?_
  · rintro d hd _ ⟨x1, x2, x3, x4, x5, x6, x7, x8, x9, x10, x11, rfl⟩
    obtain ⟨i, rfl, hi0, hi1⟩ := rangeD_mem hd
    simp
    unfold m_law_8
    simp [outs]
    refine flow_fw hi0 (by split at hi1 <;> omega) fun fa fc ha hc0 hc1 => ?_
    simp [backs]
    unfold m_law_7
    simp [outs, Av.Flow]
    refine draw_fw ha (by decide) (by decide) hc0 hc1 (by decide) (by decide) fun r1 a1 b1 r10 r11 a1h b1h b1l => ?_
    simp [backs, Av.Flow, outs]
    refine names_fw a1h (by omega) (by omega) hc0 hc1 (by omega) (by omega) fun ws a2 b2 w1 w2 w3 a2h b2h b2l => ?_
    simp [backs, Av.Flow]
    unfold m_law_6
    simp [still, fz, fzs_strs, lstD]
    refine (comp_inv (Q := fun acc ρ => ∃ us : List Str, acc = us.map (fun w => S.im (.str w)) ∧ us.length = ws.length ∧ (∀ w ∈ us, Wd 30 w) ∧ ρ = [some (.im (.slst (ns.map .int))), some (.im (.int i)), some (Av.Flow a2 b2 fc), some (.im (.lst (ws.map D.str))), none, none, x6, x7, x8, x9, x10, x11])
      (fun don rest acc ρ => don.length + rest.length = ws.length ∧ (∀ d ∈ rest, d ∈ enumD 0 (ws.map D.str)) ∧ ∃ us : List Str, acc = us.map (fun w => S.im (.str w)) ∧ us.length = don.length ∧ (∀ w ∈ us, Wd 30 w) ∧ ρ = [some (.im (.slst (ns.map .int))), some (.im (.int i)), some (Av.Flow a2 b2 fc), some (.im (.lst (ws.map D.str))), none, none, x6, x7, x8, x9, x10, x11]) ?_ ?_ ?_).imp ?_
    · exact ⟨by simp [enumD_len], fun d h => h, [], rfl, rfl, by simp, rfl⟩
    · rintro don d rest acc _ ⟨hl, hm, us, rfl, h1, h2, rfl⟩
      obtain ⟨j, w, rfl, hw, hj⟩ := enum_str (hm d (List.mem_cons_self ..))
      have hww := w3 w hw
      simp only [List.length_cons] at hl
      simp [eq_int]
      have z2 : ∀ b : Bool, opv bMulS [.im (.str "z"), .im (.int (if b = true then 1 else 0))] fun z => opv bAdd [.im (.str w), z] fun z => us.length < 100000 ∧ don.length + 1 + rest.length = ws.length ∧ (∀ d ∈ rest, d ∈ enumD 0 (ws.map D.str)) ∧ ∃ vs : List Str, us.map (fun w => S.im (.str w)) ++ [z] = vs.map (fun w => S.im (.str w)) ∧ vs.length = don.length + 1 ∧ ∀ w ∈ vs, Wd 30 w := fun b => mul_z fun v g1 g2 => by
        have l := hww.2
        simp
        refine ⟨by omega, by omega, by omega, fun d hd => hm d (List.mem_cons_of_mem _ hd), us ++ [w ++ v], by simp, by simp [h1], fun x hx => ?_⟩
        rcases List.mem_append.mp hx with z | z
        · exact h2 x z
        · rw [List.mem_singleton.mp z]
          exact ⟨ok_app hww.1 g1, by rw [app_len]; omega⟩
      split
      · refine ⟨by have := hww.2; omega, ?_⟩
        rw [io_b]
        exact z2 _
      · rw [io_b]
        exact z2 _
    · rintro acc _ ⟨hl, hm, us, rfl, h1, h2, rfl⟩
      simp only [List.length_nil] at hl
      exact ⟨us, rfl, by omega, h2, rfl⟩
    rintro acc _ ⟨us, rfl, h1, h2, rfl⟩
    generalize hr : restore _ _ _ = r
    obtain ⟨o4, o5, rfl⟩ := restore2 hr (by decide) rfl rfl
    clear hr
    simp
    unfold m_law_5
    simp [outs, Av.Flow]
    refine draw_fw a2h (by omega) (by omega) hc0 hc1 (by decide) (by decide) fun r2 a3 b3 r20 r21 a3h b3h b3l => ?_
    simp [backs, Av.Flow]
    refine ix_im (ds := [.int 4, .int 4, .int 5, .int 6]) r20 (by simpa using r21) fun dd hdd => ?_
    have hn : ∃ i : Int, dd = .int i ∧ 0 ≤ i ∧ i < 7 := by
      simp only [List.mem_cons, List.not_mem_nil, or_false] at hdd
      rcases hdd with rfl | rfl | rfl | rfl <;> exact ⟨_, rfl, by decide, by decide⟩
    obtain ⟨dn, rfl, dn0, dn1⟩ := hn
    unfold m_law_4
    simp
    refine ⟨smallI_of (by decide) (by decide), ?_⟩
    have une : us ≠ [] := fun z => by
      subst z
      exact w1 (List.length_eq_zero_iff.mp h1.symm)
    refine (comp_inv (Q := fun acc ρ => ∃ (ts : List Tm) (s3 : S) (a4 b4 : Int), acc = ts.map (fun t => S.im t.d) ∧ fz s3 = .lst (us.map D.str) ∧ (∀ t ∈ ts, t.ok ∧ t.n ≤ 12 ∧ t.hi ≤ 9 ∧ ∀ x ∈ t.names, x ∈ us) ∧ ts.length ≤ 2 ∧ 0 ≤ a4 ∧ 0 ≤ b4 ∧ b4 ≤ 1000 ∧ ρ = [some (.im (.slst (ns.map .int))), some (.im (.int i)), some (Av.Flow a4 b4 fc), some s3, o4, o5, some (.im (.int dn)), x7, none, x9, x10, x11])
      (fun don rest acc ρ => don.length + rest.length = 2 ∧ ∃ (ts : List Tm) (s3 : S) (a4 b4 : Int), acc = ts.map (fun t => S.im t.d) ∧ fz s3 = .lst (us.map D.str) ∧ (∀ t ∈ ts, t.ok ∧ t.n ≤ 12 ∧ t.hi ≤ 9 ∧ ∀ x ∈ t.names, x ∈ us) ∧ ts.length = don.length ∧ 0 ≤ a4 ∧ 0 ≤ b4 ∧ b4 ≤ 50 + 150 * don.length ∧ ρ = [some (.im (.slst (ns.map .int))), some (.im (.int i)), some (Av.Flow a4 b4 fc), some s3, o4, o5, some (.im (.int dn)), x7, none, x9, x10, x11]) ?_ ?_ ?_).imp ?_
    · exact ⟨by simp, [], _, a3, b3, rfl, by simp [fz, fzs_strs], by simp, rfl, a3h, by omega, by simp; omega, rfl⟩
    · rintro don d rest acc _ ⟨hl, ts, s3, a4, b4, rfl, e3, ht, hts, a4h, b4h, b4l, rfl⟩
      simp only [List.length_cons] at hl
      simp [Av.Flow, outs]
      refine draw_fw a4h b4h (by omega) hc0 hc1 (by decide) (by decide) fun r3 a5 b5 r30 r31 a5h b5h b5l => ?_
      simp [backs, Av.Flow, outs, e3]
      refine deep_fw hc0 hc1 une (by omega) 9 a5h (by omega) (by omega) dn0 (by omega) (by omega) (by omega) fun t a6 b6 t1 t2 t3 a6h b6h b6l t4 => ?_
      simp [backs, Av.Flow]
      refine ⟨by omega, by omega, ts ++ [t], by simp, .im (.lst (us.map D.str)), rfl, fun t' ht' => ?_, by simp [hts], a6, a6h, b6, by omega, by omega, ?_⟩
      · rcases List.mem_append.mp ht' with z | z
        · exact ht t' z
        · rw [List.mem_singleton.mp z]
          exact ⟨t1, by omega, by omega, t4⟩
      · exact ⟨⟨rfl, rfl⟩, rfl⟩
    · rintro acc _ ⟨hl, ts, s3, a4, b4, rfl, e3, ht, hts, a4h, b4h, b4l, rfl⟩
      simp only [List.length_nil] at hl
      exact ⟨ts, s3, a4, b4, rfl, e3, ht, by omega, a4h, b4h, by omega, rfl⟩
    rintro acc _ ⟨ts, s3, a4, b4, rfl, e3, ht, hts, a4h, b4h, b4l, rfl⟩
    generalize hr : restore _ _ _ = r
    obtain ⟨o8, rfl⟩ := restore_of hr rfl
    clear hr
    simp
    unfold m_law_3
    simp [outs, Av.Flow, e3]
    refine values_fw a4h b4h (by omega) hc0 hc1 (by omega) fun k1 i1 a5 b5 v1 a5h b5h b5l => ?_
    simp [backs, Av.Flow, outs]
    refine values_fw a5h (by omega) (by omega) hc0 hc1 (by omega) fun k2 i2 a6 b6 v2 a6h b6h b6l => ?_
    simp [backs, Av.Flow]
    unfold m_law_2
    simp
    have fi : ∀ is : List Int, fzs (is.map fun i => S.im (.int i)) = is.map .int := fun is => fzs_comp D.int is
    have efz : fz (S.lst [DC k1 i1, DC k2 i2, .dct [] []]) = .lst [.dct k1 (i1.map .int), .dct k2 (i2.map .int), .dct [] []] := by
      simp only [fz, fzs, fi]
    rw [efz]
    have cut1 : sliceS (.im (.lst [.dct k1 (i1.map .int), .dct k2 (i2.map .int), .dct [] []])) none (some 1) = some (.lst [.im (.dct k1 (i1.map .int))]) := rfl
    rw [cut1, ofO_some]
    have add1 : ∀ Q, opv bAdd [.im (.lst [.dct k1 (i1.map .int), .dct k2 (i2.map .int), .dct [] []]), .lst [.im (.dct k1 (i1.map .int))]] Q ↔ Q (.lst [.im (.dct k1 (i1.map .int)), .im (.dct k2 (i2.map .int)), .im (.dct [] []), .im (.dct k1 (i1.map .int))]) := fun Q => by
      show ofO _ Q ↔ _
      simp [bAdd, elems, allIm_cons, allIm]
    rw [add1]
    simp only [fz, fzs, seqD_lst, ofO_some]
    refine for_all (fun ρ => ∃ (s7 : S) (g h j k : Option S), fz s7 = .lst (ts.map Tm.d) ∧ ρ = [some (.im (.slst (ns.map .int))), some (.im (.int i)), some (Av.Flow a6 b6 fc), some (.im (.lst (us.map D.str))), o4, o5, some (.im (.int dn)), some s7, g, h, j, k]) ⟨_, _, _, _, _, by simp [fz, show (fun t => S.im (Tm.d t)) = S.im ∘ Tm.d from rfl, fzs_comp], rfl⟩ ?_ ?_
    · rintro d hd _ ⟨s7, g, h, j, k, e7, rfl⟩
      have hdd : ∃ ks is, Vl ks is ∧ d = .dct ks (is.map .int) := by
        simp only [List.mem_cons, List.not_mem_nil, or_false] at hd
        rcases hd with rfl | rfl | rfl | rfl
        · exact ⟨_, _, v1, rfl⟩
        · exact ⟨_, _, v2, rfl⟩
        · exact ⟨[], [], ⟨List.Pairwise.nil, rfl, by simp⟩, rfl⟩
        · exact ⟨_, _, v1, rfl⟩
      obtain ⟨ks', is', hv, rfl⟩ := hdd
      simp
      unfold m_law_1
      have hs7 : s7 = .im (.lst (ts.map Tm.d)) ∨ ∃ ss, s7 = .lst ss := by
        cases s7 with
        | im d => exact .inl (congrArg S.im e7)
        | lst ss => exact .inr ⟨ss, rfl⟩
        | dct _ _ => cases e7
        | obj _ _ _ => cases e7
      rcases hs7 with rfl | ⟨ss, rfl⟩
      all_goals
        simp [still, e7]
        refine (comp_all (ds := ts.map Tm.d) (fun _ => S.im (.bl true)) (by simp; omega) ?_).imp ?_
        · intro d hd
          obtain ⟨t, htm, rfl⟩ := List.mem_map.mp hd
          obtain ⟨t1, t2, t3, t4⟩ := ht t htm
          simp [outs]
          refine right_fw t3 t1 ?_ (by omega) hv ?_
          · rw [List.all_eq_true]
            exact fun x hx => (h2 x (t4 x hx)).1
          · simp [backs]
        · rintro acc ρ ⟨rfl, rfl⟩
          generalize hr : restore _ _ _ = r
          obtain ⟨o11, rfl⟩ := restore_of hr rfl
          clear hr
          rw [show (List.map (fun _ => S.im (.bl true)) (ts.map Tm.d)) = ((ts.map fun _ => true).map fun b => S.im (.bl b)) by simp, all_op]
          rw [show (ts.map fun _ => true).all id = true by simp]
          simp
    · rintro _ ⟨s7, g, h, j, k, e7, rfl⟩
      simp
  · rintro _ ⟨x1, x2, x3, x4, x5, x6, x7, x8, x9, x10, x11, rfl⟩
    unfold m_law_9
    simp
    exact q
theorem the_law (ns : List Int) (h1 : ns.length ≤ 63) (h2 : ∀ z ∈ ns, Builtin.Int.intBits z ≤ 1048576) : ∃ fin, F_law [.im (.slst (ns.map .int))] = some (.ret (.im (.bl true)), fin) ∧ (fin = [] ∨ fin = [none]) := by
  obtain ⟨p, e, q⟩ := law_fw (Q := fun o fin => o = .ret (.im (.bl true)) ∧ fin = [none]) h1 ⟨rfl, rfl⟩
  obtain ⟨o, fin⟩ := p
  obtain ⟨rfl, rfl⟩ := q
  exact ⟨_, e, .inr rfl⟩
end Lk03
end
set_option Elab.async false
set_option linter.all false
set_option maxRecDepth 100000
set_option maxHeartbeats 4000000
noncomputable section
namespace Lk03
open PySem L2 Av PyProof.Rows PySem.F
theorem all_mk {l : PySem.W.OpenLaw} {w : World} {K : PySem.W.Frag} {h : Heap} {mg : Str → Option Value} {fa : Addr} (X : K.In h) (G : h.Ns mainGlobals mg) (hfa : mg "law" = some (.ref fa))
    {f0 : Addr} {od0 an0 : Option Addr} {sl0 : Array (Option Value)} {oc0 kV0 dc0 pm0 cd0 ct0 : Value}
    {f1 : Addr} {od1 an1 : Option Addr} {sl1 : Array (Option Value)} {oc1 kV1 dc1 pm1 cd1 ct1 : Value}
    {f2 : Addr} {od2 an2 : Option Addr} {sl2 : Array (Option Value)} {oc2 kV2 dc2 pm2 cd2 ct2 : Value}
    {f3 : Addr} {od3 an3 : Option Addr} {sl3 : Array (Option Value)} {oc3 kV3 dc3 pm3 cd3 ct3 : Value}
    {f4 : Addr} {od4 an4 : Option Addr} {sl4 : Array (Option Value)} {oc4 kV4 dc4 pm4 cd4 ct4 : Value}
    {f5 : Addr} {od5 an5 : Option Addr} {sl5 : Array (Option Value)} {oc5 kV5 dc5 pm5 cd5 ct5 : Value}
    {f6 : Addr} {od6 an6 : Option Addr} {sl6 : Array (Option Value)} {oc6 kV6 dc6 pm6 cd6 ct6 : Value}
    {f7 : Addr} {od7 an7 : Option Addr} {sl7 : Array (Option Value)} {oc7 kV7 dc7 pm7 cd7 ct7 : Value}
    {f8 : Addr} {od8 an8 : Option Addr} {sl8 : Array (Option Value)} {oc8 kV8 dc8 pm8 cd8 ct8 : Value}
    {f9 : Addr} {od9 an9 : Option Addr} {sl9 : Array (Option Value)} {oc9 kV9 dc9 pm9 cd9 ct9 : Value}
    {f10 : Addr} {od10 an10 : Option Addr} {sl10 : Array (Option Value)} {oc10 kV10 dc10 pm10 cd10 ct10 : Value}
    {f11 : Addr} {od11 an11 : Option Addr} {sl11 : Array (Option Value)} {oc11 kV11 dc11 pm11 cd11 ct11 : Value}
    {f12 : Addr} {od12 an12 : Option Addr} {sl12 : Array (Option Value)} {oc12 kV12 dc12 pm12 cd12 ct12 : Value}
    {f13 : Addr} {od13 an13 : Option Addr} {sl13 : Array (Option Value)} {oc13 kV13 dc13 pm13 cd13 ct13 : Value}
    {f14 : Addr} {od14 an14 : Option Addr} {sl14 : Array (Option Value)} {oc14 kV14 dc14 pm14 cd14 ct14 : Value}
    {t_WIDE}
    (a0 : PySem.W.nsIn K mainGlobals "_law_draw" = some (some (.ref f0)))
    (l0 : K.lookup f0 = some ⟨oc0, od0, .func (PySem.W.fnOf "_law_draw" "_law_draw" (defArgs s__law_draw) (defBody s__law_draw) (defScope s__law_draw) .none kV0 dc0 pm0 an0 cd0 ct0), sl0⟩)
    (c0 : PySem.W.codeIn K cd0 "_law_draw" = true)
    (k0 : PySem.W.keepIn K (.ref f0) = true)
    (a1 : PySem.W.nsIn K mainGlobals "_law_deep_term" = some (some (.ref f1)))
    (l1 : K.lookup f1 = some ⟨oc1, od1, .func (PySem.W.fnOf "_law_deep_term" "_law_deep_term" (defArgs s__law_deep_term) (defBody s__law_deep_term) (defScope s__law_deep_term) .none kV1 dc1 pm1 an1 cd1 ct1), sl1⟩)
    (c1 : PySem.W.codeIn K cd1 "_law_deep_term" = true)
    (k1 : PySem.W.keepIn K (.ref f1) = true)
    (a2 : PySem.W.nsIn K mainGlobals "_law_cell" = some (some (.ref f2)))
    (l2 : K.lookup f2 = some ⟨oc2, od2, .func (PySem.W.fnOf "_law_cell" "_law_cell" (defArgs s__law_cell) (defBody s__law_cell) (defScope s__law_cell) .none kV2 dc2 pm2 an2 cd2 ct2), sl2⟩)
    (c2 : PySem.W.codeIn K cd2 "_law_cell" = true)
    (k2 : PySem.W.keepIn K (.ref f2) = true)
    (a3 : PySem.W.nsIn K mainGlobals "_law_flow" = some (some (.ref f3)))
    (l3 : K.lookup f3 = some ⟨oc3, od3, .func (PySem.W.fnOf "_law_flow" "_law_flow" (defArgs s__law_flow) (defBody s__law_flow) (defScope s__law_flow) .none kV3 dc3 pm3 an3 cd3 ct3), sl3⟩)
    (c3 : PySem.W.codeIn K cd3 "_law_flow" = true)
    (k3 : PySem.W.keepIn K (.ref f3) = true)
    (a4 : PySem.W.nsIn K mainGlobals "_law_names" = some (some (.ref f4)))
    (l4 : K.lookup f4 = some ⟨oc4, od4, .func (PySem.W.fnOf "_law_names" "_law_names" (defArgs s__law_names) (defBody s__law_names) (defScope s__law_names) .none kV4 dc4 pm4 an4 cd4 ct4), sl4⟩)
    (c4 : PySem.W.codeIn K cd4 "_law_names" = true)
    (k4 : PySem.W.keepIn K (.ref f4) = true)
    (a5 : PySem.W.nsIn K mainGlobals "_law_gone" = some (some (.ref f5)))
    (l5 : K.lookup f5 = some ⟨oc5, od5, .func (PySem.W.fnOf "_law_gone" "_law_gone" (defArgs s__law_gone) (defBody s__law_gone) (defScope s__law_gone) .none kV5 dc5 pm5 an5 cd5 ct5), sl5⟩)
    (c5 : PySem.W.codeIn K cd5 "_law_gone" = true)
    (k5 : PySem.W.keepIn K (.ref f5) = true)
    (a6 : PySem.W.nsIn K mainGlobals "_law_whole" = some (some (.ref f6)))
    (l6 : K.lookup f6 = some ⟨oc6, od6, .func (PySem.W.fnOf "_law_whole" "_law_whole" (defArgs s__law_whole) (defBody s__law_whole) (defScope s__law_whole) .none kV6 dc6 pm6 an6 cd6 ct6), sl6⟩)
    (c6 : PySem.W.codeIn K cd6 "_law_whole" = true)
    (k6 : PySem.W.keepIn K (.ref f6) = true)
    (a7 : PySem.W.nsIn K mainGlobals "_law_worth" = some (some (.ref f7)))
    (l7 : K.lookup f7 = some ⟨oc7, od7, .func (PySem.W.fnOf "_law_worth" "_law_worth" (defArgs s__law_worth) (defBody s__law_worth) (defScope s__law_worth) .none kV7 dc7 pm7 an7 cd7 ct7), sl7⟩)
    (c7 : PySem.W.codeIn K cd7 "_law_worth" = true)
    (k7 : PySem.W.keepIn K (.ref f7) = true)
    (a8 : PySem.W.nsIn K mainGlobals "cells_of" = some (some (.ref f8)))
    (l8 : K.lookup f8 = some ⟨oc8, od8, .func (PySem.W.fnOf "cells_of" "cells_of" (defArgs s_cells_of) (defBody s_cells_of) (defScope s_cells_of) .none kV8 dc8 pm8 an8 cd8 ct8), sl8⟩)
    (c8 : PySem.W.codeIn K cd8 "cells_of" = true)
    (k8 : PySem.W.keepIn K (.ref f8) = true)
    (a9 : PySem.W.nsIn K mainGlobals "parts_of" = some (some (.ref f9)))
    (l9 : K.lookup f9 = some ⟨oc9, od9, .func (PySem.W.fnOf "parts_of" "parts_of" (defArgs s_parts_of) (defBody s_parts_of) (defScope s_parts_of) .none kV9 dc9 pm9 an9 cd9 ct9), sl9⟩)
    (c9 : PySem.W.codeIn K cd9 "parts_of" = true)
    (k9 : PySem.W.keepIn K (.ref f9) = true)
    (a10 : PySem.W.nsIn K mainGlobals "of_two" = some (some (.ref f10)))
    (l10 : K.lookup f10 = some ⟨oc10, od10, .func (PySem.W.fnOf "of_two" "of_two" (defArgs s_of_two) (defBody s_of_two) (defScope s_of_two) .none kV10 dc10 pm10 an10 cd10 ct10), sl10⟩)
    (c10 : PySem.W.codeIn K cd10 "of_two" = true)
    (k10 : PySem.W.keepIn K (.ref f10) = true)
    (a11 : PySem.W.nsIn K mainGlobals "worth" = some (some (.ref f11)))
    (l11 : K.lookup f11 = some ⟨oc11, od11, .func (PySem.W.fnOf "worth" "worth" (defArgs s_worth) (defBody s_worth) (defScope s_worth) .none kV11 dc11 pm11 an11 cd11 ct11), sl11⟩)
    (c11 : PySem.W.codeIn K cd11 "worth" = true)
    (k11 : PySem.W.keepIn K (.ref f11) = true)
    (a12 : PySem.W.nsIn K mainGlobals "_law_right" = some (some (.ref f12)))
    (l12 : K.lookup f12 = some ⟨oc12, od12, .func (PySem.W.fnOf "_law_right" "_law_right" (defArgs s__law_right) (defBody s__law_right) (defScope s__law_right) .none kV12 dc12 pm12 an12 cd12 ct12), sl12⟩)
    (c12 : PySem.W.codeIn K cd12 "_law_right" = true)
    (k12 : PySem.W.keepIn K (.ref f12) = true)
    (a13 : PySem.W.nsIn K mainGlobals "_law_values" = some (some (.ref f13)))
    (l13 : K.lookup f13 = some ⟨oc13, od13, .func (PySem.W.fnOf "_law_values" "_law_values" (defArgs s__law_values) (defBody s__law_values) (defScope s__law_values) .none kV13 dc13 pm13 an13 cd13 ct13), sl13⟩)
    (c13 : PySem.W.codeIn K cd13 "_law_values" = true)
    (k13 : PySem.W.keepIn K (.ref f13) = true)
    (a14 : PySem.W.nsIn K mainGlobals "law" = some (some (.ref f14)))
    (l14 : K.lookup f14 = some ⟨oc14, od14, .func (PySem.W.fnOf "law" "law" (defArgs s_law) (defBody s_law) (defScope s_law) .none kV14 dc14 pm14 an14 cd14 ct14), sl14⟩)
    (c14 : PySem.W.codeIn K cd14 "law" = true)
    (k14 : PySem.W.keepIn K (.ref f14) = true)
    (z_all : PySem.W.nsIn K mainGlobals "all" = some none)
    (z_bool : PySem.W.nsIn K mainGlobals "bool" = some none)
    (z_dict : PySem.W.nsIn K mainGlobals "dict" = some none)
    (z_enumerate : PySem.W.nsIn K mainGlobals "enumerate" = some none)
    (z_int : PySem.W.nsIn K mainGlobals "int" = some none)
    (z_isinstance : PySem.W.nsIn K mainGlobals "isinstance" = some none)
    (z_len : PySem.W.nsIn K mainGlobals "len" = some none)
    (z_list : PySem.W.nsIn K mainGlobals "list" = some none)
    (z_max : PySem.W.nsIn K mainGlobals "max" = some none)
    (z_range : PySem.W.nsIn K mainGlobals "range" = some none)
    (z_set : PySem.W.nsIn K mainGlobals "set" = some none)
    (z_sorted : PySem.W.nsIn K mainGlobals "sorted" = some none)
    (z_tuple : PySem.W.nsIn K mainGlobals "tuple" = some none)
    (g_WIDE : PySem.W.nsIn K mainGlobals "WIDE" = some (some (.int 1000000 t_WIDE)))
    : ∃ fd : FuncData, (∀ (s : Shared) (v : Value), BindsTo s fd ⟨[v], []⟩ [("_law_script", v)]) ∧ ∀ base : Heap, K.In base → base.Ns mainGlobals mg → FnOk l.prog w K mg base (L2.CX l.prog w) 13 fa fd ["_law_script"] (spT K) := by
  have e := hfa.symm.trans (PySem.W.mg_of X G a14)
  cases e
  have F0 := fun_mk (st := s__law_draw) l0 c0 k0
  have D0 : DefIn K mg "_law_draw" s__law_draw P__law_draw := ⟨_, _, F0, PySem.W.mg_of X G a0, F0.binds (ps := P__law_draw) fun _ _ _ _ _ _ us hl => match us, hl with | [_, _], _ => rfl⟩
  have F1 := fun_mk (st := s__law_deep_term) l1 c1 k1
  have D1 : DefIn K mg "_law_deep_term" s__law_deep_term P__law_deep_term := ⟨_, _, F1, PySem.W.mg_of X G a1, F1.binds (ps := P__law_deep_term) fun _ _ _ _ _ _ us hl => match us, hl with | [_, _, _, _], _ => rfl⟩
  have F2 := fun_mk (st := s__law_cell) l2 c2 k2
  have D2 : DefIn K mg "_law_cell" s__law_cell P__law_cell := ⟨_, _, F2, PySem.W.mg_of X G a2, F2.binds (ps := P__law_cell) fun _ _ _ _ _ _ us hl => match us, hl with | [_, _], _ => rfl⟩
  have F3 := fun_mk (st := s__law_flow) l3 c3 k3
  have D3 : DefIn K mg "_law_flow" s__law_flow P__law_flow := ⟨_, _, F3, PySem.W.mg_of X G a3, F3.binds (ps := P__law_flow) fun _ _ _ _ _ _ us hl => match us, hl with | [_, _], _ => rfl⟩
  have F4 := fun_mk (st := s__law_names) l4 c4 k4
  have D4 : DefIn K mg "_law_names" s__law_names P__law_names := ⟨_, _, F4, PySem.W.mg_of X G a4, F4.binds (ps := P__law_names) fun _ _ _ _ _ _ us hl => match us, hl with | [_, _], _ => rfl⟩
  have F5 := fun_mk (st := s__law_gone) l5 c5 k5
  have D5 : DefIn K mg "_law_gone" s__law_gone P__law_gone := ⟨_, _, F5, PySem.W.mg_of X G a5, F5.binds (ps := P__law_gone) fun _ _ _ _ _ _ us hl => match us, hl with | [_], _ => rfl⟩
  have F6 := fun_mk (st := s__law_whole) l6 c6 k6
  have D6 : DefIn K mg "_law_whole" s__law_whole P__law_whole := ⟨_, _, F6, PySem.W.mg_of X G a6, F6.binds (ps := P__law_whole) fun _ _ _ _ _ _ us hl => match us, hl with | [_, _], _ => rfl⟩
  have F7 := fun_mk (st := s__law_worth) l7 c7 k7
  have D7 : DefIn K mg "_law_worth" s__law_worth P__law_worth := ⟨_, _, F7, PySem.W.mg_of X G a7, F7.binds (ps := P__law_worth) fun _ _ _ _ _ _ us hl => match us, hl with | [_, _], _ => rfl⟩
  have F8 := fun_mk (st := s_cells_of) l8 c8 k8
  have D8 : DefIn K mg "cells_of" s_cells_of P_cells_of := ⟨_, _, F8, PySem.W.mg_of X G a8, F8.binds (ps := P_cells_of) fun _ _ _ _ _ _ us hl => match us, hl with | [_], _ => rfl⟩
  have F9 := fun_mk (st := s_parts_of) l9 c9 k9
  have D9 : DefIn K mg "parts_of" s_parts_of P_parts_of := ⟨_, _, F9, PySem.W.mg_of X G a9, F9.binds (ps := P_parts_of) fun _ _ _ _ _ _ us hl => match us, hl with | [_], _ => rfl⟩
  have F10 := fun_mk (st := s_of_two) l10 c10 k10
  have D10 : DefIn K mg "of_two" s_of_two P_of_two := ⟨_, _, F10, PySem.W.mg_of X G a10, F10.binds (ps := P_of_two) fun _ _ _ _ _ _ us hl => match us, hl with | [_, _, _], _ => rfl⟩
  have F11 := fun_mk (st := s_worth) l11 c11 k11
  have D11 : DefIn K mg "worth" s_worth P_worth := ⟨_, _, F11, PySem.W.mg_of X G a11, F11.binds (ps := P_worth) fun _ _ _ _ _ _ us hl => match us, hl with | [_, _], _ => rfl⟩
  have F12 := fun_mk (st := s__law_right) l12 c12 k12
  have D12 : DefIn K mg "_law_right" s__law_right P__law_right := ⟨_, _, F12, PySem.W.mg_of X G a12, F12.binds (ps := P__law_right) fun _ _ _ _ _ _ us hl => match us, hl with | [_, _], _ => rfl⟩
  have F13 := fun_mk (st := s__law_values) l13 c13 k13
  have D13 : DefIn K mg "_law_values" s__law_values P__law_values := ⟨_, _, F13, PySem.W.mg_of X G a13, F13.binds (ps := P__law_values) fun _ _ _ _ _ _ us hl => match us, hl with | [_, _], _ => rfl⟩
  have F14 := fun_mk (st := s_law) l14 c14 k14
  have Gg : Gs K mg := ⟨PySem.W.mg_none_of X G z_all, PySem.W.mg_none_of X G z_bool, PySem.W.mg_none_of X G z_dict, PySem.W.mg_none_of X G z_enumerate, PySem.W.mg_none_of X G z_int, PySem.W.mg_none_of X G z_isinstance, PySem.W.mg_none_of X G z_len, PySem.W.mg_none_of X G z_list, PySem.W.mg_none_of X G z_max, PySem.W.mg_none_of X G z_range, PySem.W.mg_none_of X G z_set, PySem.W.mg_none_of X G z_sorted, PySem.W.mg_none_of X G z_tuple, gd_int X G g_WIDE⟩
  have C__law_draw {base : Heap} := ok__law_draw (P := l.prog) (w := w) (base := base) (cl := (fun _ => 0)) Gg D0
  have C__law_deep_term {base : Heap} := ok__law_deep_term (P := l.prog) (w := w) (base := base) (cl := (fun _ => 0)) Gg D1 C__law_draw 9
  have C__law_cell {base : Heap} := ok__law_cell (P := l.prog) (w := w) (base := base) (cl := (fun _ => 0)) Gg D2
  have C__law_flow {base : Heap} := ok__law_flow (P := l.prog) (w := w) (base := base) (cl := (fun _ => 0)) Gg D3 C__law_cell
  have C__law_names {base : Heap} := ok__law_names (P := l.prog) (w := w) (base := base) (cl := (fun _ => 0)) Gg D4 C__law_draw
  have C__law_gone {base : Heap} := ok__law_gone (P := l.prog) (w := w) (base := base) (cl := (fun _ => 0)) Gg D5
  have C__law_whole {base : Heap} := ok__law_whole (P := l.prog) (w := w) (base := base) (cl := (fun _ => 0)) Gg D6
  have C__law_worth {base : Heap} := ok__law_worth (P := l.prog) (w := w) (base := base) (cl := (fun _ => 0)) Gg D7 9
  have C_cells_of {base : Heap} := ok_cells_of (P := l.prog) (w := w) (base := base) (cl := (fun _ => 0)) Gg D8
  have C_parts_of {base : Heap} := ok_parts_of (P := l.prog) (w := w) (base := base) (cl := (fun _ => 0)) Gg D9 9
  have C_of_two {base : Heap} := ok_of_two (P := l.prog) (w := w) (base := base) (cl := (fun _ => 0)) Gg D10
  have C_worth {base : Heap} := ok_worth (P := l.prog) (w := w) (base := base) (cl := (fun _ => 0)) Gg D11 C_of_two 9
  have C__law_right {base : Heap} := ok__law_right (P := l.prog) (w := w) (base := base) (cl := (fun _ => 0)) Gg D12 C__law_gone C__law_whole C__law_worth C_cells_of C_parts_of C_worth
  have C__law_values {base : Heap} := ok__law_values (P := l.prog) (w := w) (base := base) (cl := (fun _ => 0)) Gg D13 C__law_draw
  refine ⟨_, fun s v => ?_, fun base _ _ => law_of (cl := (fun _ => 0)) (F := F_law) (ok_law Gg F14 C__law_deep_term C__law_draw C__law_flow C__law_names C__law_right C__law_values) ?_⟩
  · exact .of_eq rfl
  · exact the_law
theorem walk {l : PySem.W.OpenLaw} {q : Program} {loose : List Str} {XP : (Str → Option Value) → Heap → Prop} {YP : World → Heap → Prop} {d : DefRec} {K : Params → PySem.W.Frag} (hn : l.most = some 63) (hdf : d.params.defaults = [])
    (hY : ∀ (w : World) (h : Heap), YP w h → (K w.params).In h)
    (F : ∀ (w : World) (mg : Str → Option Value) (fa : Addr) (h : Heap), (K w.params).In h → h.Ns mainGlobals mg → mg d.name = some (.ref fa) →
      ∃ fd : FuncData, (∀ (s : Shared) (u : Value), BindsTo s fd ⟨[u], []⟩ [("_law_script", u)]) ∧ ∀ base : Heap, (K w.params).In base → base.Ns mainGlobals mg → FnOk l.prog w (K w.params) mg base (L2.CX l.prog w) 13 fa fd ["_law_script"] (spT (K w.params))) :
    PySem.W.WalkO q loose XP YP l.row.toRowW d [] (fun f vs => PySem.call f vs) :=
  L2.walk_ofB (n := 63) (k := 13) (x := "_law_script") (CX := fun w => L2.CX l.prog w) (sp := fun w => spT (K w.params)) hn (by decide) hdf ⟨rfl, by decide, by decide⟩ hY F (fun _ _ a ns hl hb _ hS => ⟨a, ns, rfl, hS, hl, hb, fun _ => rfl⟩) fun _ _ _ _ _ z => no_cx z
end Lk03
end
open PySem PySem.W PyProof.Rows
set_option maxRecDepth 100000 in
set_option maxHeartbeats 0 in
theorem PySem.Challenge.cw_dimfits_k03_terms_holds : PySem.Challenge.rw_dimfits_k03_terms.Holds := by
  w_on; o_law; k_head; (case hw => w_witness2)
  k_fill
  refine Lk03.walk (l := PySem.Challenge.rw_dimfits_k03_terms) rfl rfl (fun w h Y => PySem.W.kIn_of Y) ?F
  case F =>
    intro w mg fa h KX G hmg
    refine' Lk03.all_mk KX G hmg ?a0 ?l0 ?c0 ?k0 ?a1 ?l1 ?c1 ?k1 ?a2 ?l2 ?c2 ?k2 ?a3 ?l3 ?c3 ?k3 ?a4 ?l4 ?c4 ?k4 ?a5 ?l5 ?c5 ?k5 ?a6 ?l6 ?c6 ?k6 ?a7 ?l7 ?c7 ?k7 ?a8 ?l8 ?c8 ?k8 ?a9 ?l9 ?c9 ?k9 ?a10 ?l10 ?c10 ?k10 ?a11 ?l11 ?c11 ?k11 ?a12 ?l12 ?c12 ?k12 ?a13 ?l13 ?c13 ?k13 ?a14 ?l14 ?c14 ?k14 ?z_all ?z_bool ?z_dict ?z_enumerate ?z_int ?z_isinstance ?z_len ?z_list ?z_max ?z_range ?z_set ?z_sorted ?z_tuple ?g_WIDE
    (case a0 => k_is)
    (case l0 => k_is)
    (case c0 => k_is)
    (case k0 => k_is)
    (case a1 => k_is)
    (case l1 => k_is)
    (case c1 => k_is)
    (case k1 => k_is)
    (case a2 => k_is)
    (case l2 => k_is)
    (case c2 => k_is)
    (case k2 => k_is)
    (case a3 => k_is)
    (case l3 => k_is)
    (case c3 => k_is)
    (case k3 => k_is)
    (case a4 => k_is)
    (case l4 => k_is)
    (case c4 => k_is)
    (case k4 => k_is)
    (case a5 => k_is)
    (case l5 => k_is)
    (case c5 => k_is)
    (case k5 => k_is)
    (case a6 => k_is)
    (case l6 => k_is)
    (case c6 => k_is)
    (case k6 => k_is)
    (case a7 => k_is)
    (case l7 => k_is)
    (case c7 => k_is)
    (case k7 => k_is)
    (case a8 => k_is)
    (case l8 => k_is)
    (case c8 => k_is)
    (case k8 => k_is)
    (case a9 => k_is)
    (case l9 => k_is)
    (case c9 => k_is)
    (case k9 => k_is)
    (case a10 => k_is)
    (case l10 => k_is)
    (case c10 => k_is)
    (case k10 => k_is)
    (case a11 => k_is)
    (case l11 => k_is)
    (case c11 => k_is)
    (case k11 => k_is)
    (case a12 => k_is)
    (case l12 => k_is)
    (case c12 => k_is)
    (case k12 => k_is)
    (case a13 => k_is)
    (case l13 => k_is)
    (case c13 => k_is)
    (case k13 => k_is)
    (case a14 => k_is)
    (case l14 => k_is)
    (case c14 => k_is)
    (case k14 => k_is)
    (case z_all => k_is)
    (case z_bool => k_is)
    (case z_dict => k_is)
    (case z_enumerate => k_is)
    (case z_int => k_is)
    (case z_isinstance => k_is)
    (case z_len => k_is)
    (case z_list => k_is)
    (case z_max => k_is)
    (case z_range => k_is)
    (case z_set => k_is)
    (case z_sorted => k_is)
    (case z_tuple => k_is)
    (case g_WIDE => k_is)
#print axioms PySem.Challenge.cw_dimfits_k03_terms_holds
