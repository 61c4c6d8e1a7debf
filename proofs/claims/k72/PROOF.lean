import PyProof.Rows.All
import Wide.All
import OpenK.AllK
import Wide.FinOn
import HandS.ForMost
import HandS.Walk
import HandS.Star
import HandS.Style
import HandS.TupAny
import HandS.IsInst
import HandS.More
import KE.KSortedM
import KE.GoesEnum
import KE.GoesMore
import KE.BitLaws
import PySem.Challenge.RW_stillroom_k72_terms_and_judging
set_option Elab.async false
set_option linter.all false
set_option maxRecDepth 100000
set_option maxHeartbeats 1000000
/-! Pu: Python values as trees, an environment by slots, and what a piece of syntax does to them. -/
namespace Pu
open PySem PySem.Spec PyProof.Rows L2

/-! ### trees -/
inductive T where
  | non | bl (b : Bool) | int (i : Int) | str (x : Str)
  /-- a list (tracked) | a list that is only read | a tuple -/
  | lst (xs : List T) | rl (xs : List T) | tup (xs : List T)
  /-- a dict by ints and texts -/
  | dk (ks : List Key) (xs : List T)
deriving Inhabited

def Gr (H H' : Hp) : Prop := ∀ p o, H p = some o → H' p = some o
theorem Gr.refl (H : Hp) : Gr H H := fun _ _ h => h
theorem Gr.trans {H H1 H2 : Hp} (a : Gr H H1) (b : Gr H1 H2) : Gr H H2 := fun p o h => b p o (a p o h)
theorem Gr.new {H : Hp} {p : Addr} {o : HO} (h : H p = none) : Gr H (upd H p o) := fun a u e => by
  rw [upd_ne (ne_of_none e h)]
  exact e
theorem Gr.free {H H' : Hp} {p : Addr} (e : Gr H H') (h : H' p = none) : H p = none := by
  cases h1 : H p with
  | none => rfl
  | some o =>
    rw [e p o h1] at h
    cases h
theorem gr_rd {H H' : Hp} {a : Addr} {u : HO} (e : Gr H H') (h : Rd H a u) : Rd H' a u := by
  rcases h with h | ⟨o, h⟩
  · exact .inl (e a _ h)
  · exact .inr ⟨o, e a _ h⟩
theorem gr_l {K : PySem.W.Frag} {H H' : Hp} {a : Addr} {xs : List V} (e : Gr H H') (h : SqL K H a xs) : SqL K H' a xs := by
  rcases h with h | h
  · exact .inl (gr_rd e h)
  · exact .inr h
theorem gr_t {K : PySem.W.Frag} {H H' : Hp} {a : Addr} {xs : List V} (e : Gr H H') (h : SqT K H a xs) : SqT K H' a xs := by
  rcases h with h | h
  · exact .inl (gr_rd e h)
  · exact .inr h

section
variable (K : PySem.W.Frag) (H : Hp)
mutual
def D : T → V → Prop
  | .non, v => v = .non
  | .bl b, v => v = .bl b
  | .int i, v => v = .int i
  | .str x, v => v = .str x
  | .lst ts, v => ∃ a xs, v = .ref a ∧ H a = some (.lst xs) ∧ DL ts xs
  | .rl ts, v => ∃ a xs, v = .ref a ∧ SqL K H a xs ∧ DL ts xs
  | .tup ts, v => ∃ a xs, v = .ref a ∧ SqT K H a xs ∧ DL ts xs
  | .dk ks ts, v => ∃ a xs, v = .ref a ∧ Rd H a (.dK (ks.zip xs)) ∧ ks.length = xs.length ∧ DL ts xs
def DL : List T → List V → Prop
  | [], xs => xs = []
  | t :: ts, xs => ∃ x r, xs = x :: r ∧ D t x ∧ DL ts r
end
end

section
variable {K : PySem.W.Frag} {H H' : Hp}
mutual
theorem D.mono (g : Gr H H') : ∀ {t : T} {v : V}, D K H t v → D K H' t v
  | .non, _, h => by simpa only [D] using h
  | .bl _, _, h => by simpa only [D] using h
  | .int _, _, h => by simpa only [D] using h
  | .str _, _, h => by simpa only [D] using h
  | .lst ts, v, h => by
    rw [D] at h ⊢
    obtain ⟨a, xs, e, h, d⟩ := h
    exact ⟨a, xs, e, g _ _ h, DL.mono g d⟩
  | .rl ts, v, h => by
    rw [D] at h ⊢
    obtain ⟨a, xs, e, h, d⟩ := h
    exact ⟨a, xs, e, gr_l g h, DL.mono g d⟩
  | .tup ts, v, h => by
    rw [D] at h ⊢
    obtain ⟨a, xs, e, h, d⟩ := h
    exact ⟨a, xs, e, gr_t g h, DL.mono g d⟩
  | .dk ks ts, v, h => by
    rw [D] at h ⊢
    obtain ⟨a, xs, e, h, l, d⟩ := h
    exact ⟨a, xs, e, gr_rd g h, l, DL.mono g d⟩
theorem DL.mono (g : Gr H H') : ∀ {ts : List T} {xs : List V}, DL K H ts xs → DL K H' ts xs
  | [], _, h => by simpa only [DL] using h
  | t :: ts, _, h => by
    rw [DL] at h ⊢
    obtain ⟨x, r, e, h1, h2⟩ := h
    exact ⟨x, r, e, D.mono g h1, DL.mono g h2⟩
end
theorem d_non {v : V} : D K H .non v ↔ v = .non := by rw [D]
theorem d_bl {v : V} {b : Bool} : D K H (.bl b) v ↔ v = .bl b := by rw [D]
theorem d_int {v : V} {i : Int} : D K H (.int i) v ↔ v = .int i := by rw [D]
theorem d_str {v : V} {x : Str} : D K H (.str x) v ↔ v = .str x := by rw [D]
theorem d_lst {v : V} {ts : List T} : D K H (.lst ts) v ↔ ∃ a xs, v = .ref a ∧ H a = some (.lst xs) ∧ DL K H ts xs := by rw [D]
theorem d_rl {v : V} {ts : List T} : D K H (.rl ts) v ↔ ∃ a xs, v = .ref a ∧ SqL K H a xs ∧ DL K H ts xs := by rw [D]
theorem d_tup {v : V} {ts : List T} : D K H (.tup ts) v ↔ ∃ a xs, v = .ref a ∧ SqT K H a xs ∧ DL K H ts xs := by rw [D]
theorem d_dk {v : V} {ks : List Key} {ts : List T} : D K H (.dk ks ts) v ↔ ∃ a xs, v = .ref a ∧ Rd H a (.dK (ks.zip xs)) ∧ ks.length = xs.length ∧ DL K H ts xs := by rw [D]
theorem dl_nil {xs : List V} : DL K H [] xs ↔ xs = [] := by rw [DL]
theorem dl_cons {t : T} {ts : List T} {xs : List V} : DL K H (t :: ts) xs ↔ ∃ x r, xs = x :: r ∧ D K H t x ∧ DL K H ts r := by rw [DL]
theorem DL.nil : DL K H [] [] := dl_nil.mpr rfl
theorem DL.cons {t : T} {ts : List T} {x : V} {xs : List V} (h : D K H t x) (r : DL K H ts xs) : DL K H (t :: ts) (x :: xs) := dl_cons.mpr ⟨x, xs, rfl, h, r⟩
theorem DL.length : ∀ {ts : List T} {xs : List V}, DL K H ts xs → ts.length = xs.length
  | [], _, h => by rw [dl_nil] at h; rw [h]; rfl
  | t :: ts, _, h => by
    obtain ⟨x, r, rfl, _, d⟩ := dl_cons.mp h
    simp [DL.length d]
theorem DL.get : ∀ {ts : List T} {xs : List V} {i : Nat} {t : T}, DL K H ts xs → ts[i]? = some t → ∃ x, xs[i]? = some x ∧ D K H t x
  | [], _, _, _, _, e => by simp at e
  | s :: ts, _, 0, t, h, e => by
    obtain ⟨x, r, rfl, d, _⟩ := dl_cons.mp h
    simp at e
    subst e
    exact ⟨x, rfl, d⟩
  | s :: ts, _, i + 1, t, h, e => by
    obtain ⟨x, r, rfl, _, d⟩ := dl_cons.mp h
    obtain ⟨y, h1, h2⟩ := DL.get (i := i) (t := t) d (by simpa using e)
    exact ⟨y, by simpa using h1, h2⟩
theorem DL.get' : ∀ {ts : List T} {xs : List V} {i : Nat} {x : V}, DL K H ts xs → xs[i]? = some x → ∃ t, ts[i]? = some t ∧ D K H t x := by
  intro ts xs i x h e
  have hl := h.length
  have hi : i < ts.length := by
    have := (List.getElem?_eq_some_iff.mp e).1
    omega
  obtain ⟨y, h1, h2⟩ := h.get (List.getElem?_eq_getElem hi)
  rw [e] at h1
  cases h1
  exact ⟨_, List.getElem?_eq_getElem hi, h2⟩
theorem DL.append : ∀ {ts us : List T} {xs ys : List V}, DL K H ts xs → DL K H us ys → DL K H (ts ++ us) (xs ++ ys)
  | [], _, _, _, h, g => by rw [dl_nil] at h; subst h; exact g
  | t :: ts, _, _, _, h, g => by
    obtain ⟨x, r, rfl, d, q⟩ := dl_cons.mp h
    exact DL.cons d (DL.append q g)
theorem DL.take : ∀ {ts : List T} {xs : List V} (n : Nat), DL K H ts xs → DL K H (ts.take n) (xs.take n)
  | _, _, 0, _ => by simpa using DL.nil
  | [], _, n + 1, h => by rw [dl_nil] at h; subst h; simpa using DL.nil
  | t :: ts, _, n + 1, h => by
    obtain ⟨x, r, rfl, d, q⟩ := dl_cons.mp h
    exact DL.cons d (DL.take n q)
theorem DL.drop : ∀ {ts : List T} {xs : List V} (n : Nat), DL K H ts xs → DL K H (ts.drop n) (xs.drop n)
  | _, _, 0, h => by simpa using h
  | [], _, n + 1, h => by rw [dl_nil] at h; subst h; simpa using DL.nil
  | t :: ts, _, n + 1, h => by
    obtain ⟨x, r, rfl, d, q⟩ := dl_cons.mp h
    simpa using DL.drop n q
theorem DL.set : ∀ {ts : List T} {xs : List V} {t : T} {x : V} (i : Nat), DL K H ts xs → D K H t x → DL K H (ts.set i t) (xs.set i x)
  | [], _, _, _, _, h, _ => by rw [dl_nil] at h; subst h; simpa using DL.nil
  | s :: ts, _, _, _, 0, h, g => by
    obtain ⟨y, r, rfl, d, q⟩ := dl_cons.mp h
    exact DL.cons g q
  | s :: ts, _, _, _, i + 1, h, g => by
    obtain ⟨y, r, rfl, d, q⟩ := dl_cons.mp h
    exact DL.cons d (DL.set i q g)
theorem DL.one {t : T} {x : V} (h : D K H t x) : DL K H [t] [x] := DL.cons h DL.nil
theorem DL.reverse : ∀ {ts : List T} {xs : List V}, DL K H ts xs → DL K H ts.reverse xs.reverse
  | [], _, h => by rw [dl_nil] at h; subst h; simpa using DL.nil
  | t :: ts, _, h => by
    obtain ⟨x, r, rfl, d, q⟩ := dl_cons.mp h
    simpa using DL.append (DL.reverse q) (DL.one d)
theorem DL.rep {t : T} {x : V} (h : D K H t x) : ∀ n : Nat, DL K H (List.replicate n t) (List.replicate n x)
  | 0 => DL.nil
  | n + 1 => DL.cons h (DL.rep h n)
theorem DL.flat {ts : List T} {xs : List V} (h : DL K H ts xs) : ∀ n : Nat, DL K H (List.replicate n ts).flatten (List.replicate n xs).flatten
  | 0 => DL.nil
  | n + 1 => by simpa [List.replicate_succ] using DL.append h (DL.flat h n)
theorem dl_ints : ∀ {ns : List Int} {xs : List V}, DL K H (ns.map T.int) xs ↔ xs = ns.map V.int
  | [], xs => dl_nil
  | n :: ns, xs => by
    constructor
    · intro h
      obtain ⟨x, r, rfl, d, q⟩ := dl_cons.mp h
      rw [d_int.mp d, dl_ints.mp q]
      rfl
    · rintro rfl
      exact DL.cons (d_int.mpr rfl) (dl_ints.mpr rfl)
theorem dl_bls : ∀ {ns : List Bool} {xs : List V}, DL K H (ns.map T.bl) xs ↔ xs = ns.map V.bl
  | [], xs => dl_nil
  | n :: ns, xs => by
    constructor
    · intro h
      obtain ⟨x, r, rfl, d, q⟩ := dl_cons.mp h
      rw [d_bl.mp d, dl_bls.mp q]
      rfl
    · rintro rfl
      exact DL.cons (d_bl.mpr rfl) (dl_bls.mpr rfl)
theorem dl_strs : ∀ {ns : List Str} {xs : List V}, DL K H (ns.map T.str) xs ↔ xs = ns.map V.str
  | [], xs => dl_nil
  | n :: ns, xs => by
    constructor
    · intro h
      obtain ⟨x, r, rfl, d, q⟩ := dl_cons.mp h
      rw [d_str.mp d, dl_strs.mp q]
      rfl
    · rintro rfl
      exact DL.cons (d_str.mpr rfl) (dl_strs.mpr rfl)
/-- a list that is written is a list that is read -/
theorem D.sql {ts : List T} {v : V} (h : D K H (.lst ts) v) : D K H (.rl ts) v := by
  obtain ⟨a, xs, e, h, d⟩ := d_lst.mp h
  exact d_rl.mpr ⟨a, xs, e, SqL.of h, d⟩
end

/-! ### slots -/
/-- not assigned | a value that stays | an object of the frame's own | a parameter's object that the def may change -/
inductive Sl where
  | u | i (t : T) | o (t : T) | p (t : T)
deriving Inhabited
abbrev En := List Sl
def Sl.isO : Sl → Bool
  | .o _ => true
  | .p _ => true
  | _ => false

/-- the frame's entry: the stable part, the heap, the parameters' objects that it may change -/
structure Fa where
  Hs : Hp
  H : Hp
  inn : Nat → Option Addr
  /-- objects that are kept aside -/
  rs : Addr → Option HO
def Fa.res (F : Fa) (p : Addr) (o : HO) : Fa := { F with rs := fun q => if q = p then some o else F.rs q }

section
variable (K : PySem.W.Frag)
/-- what stands in an object of one's own -/
def OC (Hs H : Hp) (t : T) (a : Addr) : Prop := match t with
  | .lst ts => ∃ xs, H a = some (.lst xs) ∧ DL K Hs ts xs
  | .dk ks ts => ∃ xs, H a = some (.dK (ks.zip xs)) ∧ ks.length = xs.length ∧ DL K Hs ts xs
  | _ => False
def SlOk (F : Fa) (Hs H : Hp) (a : Addr) (i : Nat) (s : Sl) (v : Option (Option V)) : Prop := match s with
  | .u => True
  | .i t => ∃ x, v = some (some x) ∧ D K Hs t x
  | .o t => v = some (some (.ref a)) ∧ Hs a = none ∧ F.H a = none ∧ OC K Hs H t a
  | .p t => v = some (some (.ref a)) ∧ Hs a = none ∧ F.inn i = some a ∧ OC K Hs H t a
structure SR (F : Fa) (Hs H : Hp) (ρ : En) (σ : L2.St) : Prop where
  sub : Gr Hs H
  low : Gr F.Hs Hs
  new : ∀ p, F.Hs p = none → Hs p ≠ none → F.H p = none
  bas : ∀ p o, F.H p = some o → (∀ i, F.inn i ≠ some p) → H p = some o
  dom : ∀ p, H p = none → F.H p = none
  len : ρ.length = σ.length
  slots : ∃ ad : Nat → Addr, (∀ i s, ρ[i]? = some s → SlOk K F Hs H (ad i) i s σ[i]?) ∧
    (∀ i j s t, i ≠ j → ρ[i]? = some s → ρ[j]? = some t → s.isO = true → t.isO = true → ad i ≠ ad j) ∧
    ∀ i s, ρ[i]? = some s → s.isO = true → F.rs (ad i) = none
  rsv : ∀ p o, F.rs p = some o → H p = some o ∧ Hs p = none ∧ F.H p = none
end

section
variable {K : PySem.W.Frag} {F : Fa} {Hs H : Hp} {ρ : En} {σ : L2.St}
theorem OC.there {t : T} {a : Addr} (h : OC K Hs H t a) : H a ≠ none := by
  cases t <;> first | exact h.elim | skip
  · obtain ⟨xs, e, _⟩ := h
    rw [e]
    simp
  · obtain ⟨xs, e, _⟩ := h
    rw [e]
    simp
theorem OC.keep {Hs' H' : Hp} {t : T} {a : Addr} (g : Gr Hs Hs') (e : H' a = H a) (h : OC K Hs H t a) : OC K Hs' H' t a := by
  cases t <;> first | exact h.elim | skip
  · obtain ⟨xs, q, d⟩ := h
    exact ⟨xs, e.trans q, d.mono g⟩
  · obtain ⟨xs, q, l, d⟩ := h
    exact ⟨xs, e.trans q, l, d.mono g⟩
/-- a new object that is stable -/
theorem SR.grow (s : SR K F Hs H ρ σ) {p : Addr} {o : HO} (h : H p = none) : SR K F (upd Hs p o) (upd H p o) ρ σ := by
  have hs : Hs p = none := s.sub.free h
  refine ⟨fun q u e => ?_, s.low.trans (Gr.new hs), fun q h0 h1 => ?_, fun q u e i => ?_, fun q e => ?_, s.len, ?_, fun q u e => ?_⟩
  · by_cases c : q = p
    · subst c; rw [upd_same] at e ⊢; exact e
    · rw [upd_ne c] at e ⊢; exact s.sub q u e
  · by_cases c : q = p
    · subst c; exact s.dom q h
    · rw [upd_ne c] at h1; exact s.new q h0 h1
  · have c : q ≠ p := fun z => by subst z; rw [s.dom q h] at e; cases e
    rw [upd_ne c]; exact s.bas q u e i
  · by_cases c : q = p
    · subst c; exact s.dom q h
    · rw [upd_ne c] at e; exact s.dom q e
  · obtain ⟨ad, h1, h2⟩ := s.slots
    refine ⟨ad, fun i sl e => ?_, h2⟩
    have q := h1 i sl e
    cases sl with
    | u => trivial
    | i t => obtain ⟨x, e1, d⟩ := q; exact ⟨x, e1, d.mono (Gr.new hs)⟩
    | o t =>
      obtain ⟨e1, e2, e3, oc⟩ := q
      have c : ad i ≠ p := fun z => oc.there (by rw [z]; exact h)
      exact ⟨e1, by rw [upd_ne c]; exact e2, e3, oc.keep (Gr.new hs) (upd_ne c)⟩
    | p t =>
      obtain ⟨e1, e2, e3, oc⟩ := q
      have c : ad i ≠ p := fun z => oc.there (by rw [z]; exact h)
      exact ⟨e1, by rw [upd_ne c]; exact e2, e3, oc.keep (Gr.new hs) (upd_ne c)⟩
  · obtain ⟨r1, r2, r3⟩ := s.rsv q u e
    have c : q ≠ p := fun z => by rw [z, h] at r1; cases r1
    exact ⟨by rw [upd_ne c]; exact r1, by rw [upd_ne c]; exact r2, r3⟩
theorem Gr.up {Hs H : Hp} (g : Gr Hs H) {p : Addr} {o : HO} (h : H p = none) : Gr Hs (upd Hs p o) := Gr.new (g.free h)
end
end Pu
set_option Elab.async false
set_option linter.all false
set_option maxRecDepth 100000
set_option maxHeartbeats 1000000
namespace Pu
open PySem PySem.Spec PyProof.Rows L2
section
variable {K : PySem.W.Frag} {F : Fa} {Hs H : Hp} {ρ : En} {σ : L2.St} {p : Addr} {o : HO}
/-- a new object that is not stable -/
theorem SR.side (s : SR K F Hs H ρ σ) {p : Addr} {o : HO} (h : H p = none) : SR K (F.res p o) Hs (upd H p o) ρ σ := by
  refine ⟨s.sub.trans (Gr.new h), s.low, s.new, fun q u e i => ?_, fun q e => ?_, s.len, ?_, fun q u e => ?_⟩
  · have c : q ≠ p := fun z => by subst z; rw [show (F.res q o).H q = F.H q from rfl, s.dom q h] at e; cases e
    rw [upd_ne c]; exact s.bas q u e i
  · by_cases c : q = p
    · subst c; exact s.dom q h
    · rw [upd_ne c] at e; exact s.dom q e
  · obtain ⟨ad, h1, h2, h3⟩ := s.slots
    have ne : ∀ i sl, ρ[i]? = some sl → sl.isO = true → ad i ≠ p := fun i sl e o z => by
      have q := h1 i sl e
      cases sl with
      | u => cases o
      | i t => cases o
      | o t => exact q.2.2.2.there (by rw [z]; exact h)
      | p t => exact q.2.2.2.there (by rw [z]; exact h)
    refine ⟨ad, fun i sl e => ?_, h2, fun i sl e o => ?_⟩
    · have q := h1 i sl e
      cases sl with
      | u => trivial
      | i t => exact q
      | o t =>
        obtain ⟨e1, e2, e3, oc⟩ := q
        exact ⟨e1, e2, e3, oc.keep (Gr.refl _) (upd_ne (ne i _ e rfl))⟩
      | p t =>
        obtain ⟨e1, e2, e3, oc⟩ := q
        exact ⟨e1, e2, e3, oc.keep (Gr.refl _) (upd_ne (ne i _ e rfl))⟩
    · show (if ad i = p then some _ else F.rs (ad i)) = none
      rw [if_neg (ne i sl e o)]
      exact h3 i sl e o
  · have e : (if q = p then some o else F.rs q) = some u := e
    by_cases c : q = p
    · rw [if_pos c] at e
      cases e
      subst c
      exact ⟨upd_same, s.sub.free h, s.dom q h⟩
    · rw [if_neg c] at e
      obtain ⟨r1, r2, r3⟩ := s.rsv q u e
      exact ⟨by rw [upd_ne c]; exact r1, r2, r3⟩
theorem SR.rs_none (s : SR K F Hs H ρ σ) {p : Addr} (h : H p = none) : F.rs p = none := by
  cases e : F.rs p with
  | none => rfl
  | some o =>
    rw [(s.rsv p o e).1] at h
    cases h
/-- .. is let go -/
theorem SR.let_go {p : Addr} {o : HO} (h0 : F.rs p = none) (s : SR K (F.res p o) Hs H ρ σ) : SR K F Hs H ρ σ := by
  refine ⟨s.sub, s.low, s.new, s.bas, s.dom, s.len, ?_, fun q u e => ?_⟩
  · obtain ⟨ad, h1, h2, h3⟩ := s.slots
    refine ⟨ad, fun i sl e => ?_, h2, fun i sl e o => ?_⟩
    · have q := h1 i sl e
      cases sl <;> exact q
    · have z : (if ad i = p then some _ else F.rs (ad i)) = none := h3 i sl e o
      by_cases c : ad i = p
      · rw [c]; exact h0
      · rw [if_neg c] at z; exact z
  · have c : q ≠ p := fun z => by rw [z, h0] at e; cases e
    exact s.rsv q u (show (if q = p then some o else F.rs q) = some u by rw [if_neg c]; exact e)
theorem res_res (F : Fa) (p : Addr) (o o' : HO) : (F.res p o).res p o' = F.res p o' := by
  unfold Fa.res
  congr 1
  funext q
  by_cases c : q = p
  · simp [c]
  · simp [c]
/-- .. is written -/
theorem SR.poke {p : Addr} {o o' : HO} (s : SR K (F.res p o) Hs H ρ σ) : SR K (F.res p o') Hs (upd H p o') ρ σ := by
  obtain ⟨r1, r2, r3⟩ := s.rsv p o (by show (if p = p then some o else F.rs p) = some o; rw [if_pos rfl])
  refine ⟨fun q u e => ?_, s.low, s.new, fun q u e i => ?_, fun q e => ?_, s.len, ?_, fun q u e => ?_⟩
  · have c : q ≠ p := fun z => by rw [z, r2] at e; cases e
    rw [upd_ne c]; exact s.sub q u e
  · have c : q ≠ p := fun z => by rw [z, show (F.res p o').H p = (F.res p o).H p from rfl, r3] at e; cases e
    rw [upd_ne c]; exact s.bas q u e i
  · by_cases c : q = p
    · rw [c, upd_same] at e; cases e
    · rw [upd_ne c] at e; exact s.dom q e
  · obtain ⟨ad, h1, h2, h3⟩ := s.slots
    have ne : ∀ i sl, ρ[i]? = some sl → sl.isO = true → ad i ≠ p := fun i sl e ho z => by
      have q : (if ad i = p then some o else F.rs (ad i)) = none := h3 i sl e ho
      rw [if_pos z] at q; cases q
    refine ⟨ad, fun i sl e => ?_, h2, fun i sl e ho => ?_⟩
    · have q := h1 i sl e
      cases sl with
      | u => trivial
      | i t => exact q
      | o t =>
        obtain ⟨e1, e2, e3, oc⟩ := q
        exact ⟨e1, e2, e3, oc.keep (Gr.refl _) (upd_ne (ne i _ e rfl))⟩
      | p t =>
        obtain ⟨e1, e2, e3, oc⟩ := q
        exact ⟨e1, e2, e3, oc.keep (Gr.refl _) (upd_ne (ne i _ e rfl))⟩
    · have q : (if ad i = p then some o else F.rs (ad i)) = none := h3 i sl e ho
      show (if ad i = p then some o' else F.rs (ad i)) = none
      rw [if_neg (ne i sl e ho)] at q ⊢
      exact q
  · have e : (if q = p then some o' else F.rs q) = some u := e
    by_cases c : q = p
    · rw [if_pos c] at e
      cases e
      subst c
      exact ⟨upd_same, r2, r3⟩
    · rw [if_neg c] at e
      obtain ⟨q1, q2, q3⟩ := s.rsv q u (show (if q = p then some o else F.rs q) = some u by rw [if_neg c]; exact e)
      exact ⟨by rw [upd_ne c]; exact q1, q2, q3⟩
theorem SR.at (s : SR K (F.res p o) Hs H ρ σ) : H p = some o ∧ Hs p = none ∧ F.H p = none := s.rsv p o (by show (if p = p then some o else F.rs p) = some o; rw [if_pos rfl])
/-- .. becomes stable -/
theorem SR.freeze {p : Addr} {o : HO} (h0 : F.rs p = none) (s : SR K (F.res p o) Hs H ρ σ) : SR K F (upd Hs p o) H ρ σ := by
  obtain ⟨r1, r2, r3⟩ := s.at
  have g : Gr Hs (upd Hs p o) := Gr.new r2
  obtain ⟨ad, h1, h2, h3⟩ := s.slots
  have ne : ∀ i sl, ρ[i]? = some sl → sl.isO = true → ad i ≠ p := fun i sl e ho z => by
    have q : (if ad i = p then some o else F.rs (ad i)) = none := h3 i sl e ho
    rw [if_pos z] at q; cases q
  have s' := s.let_go h0
  refine ⟨fun q u e => ?_, s.low.trans g, fun q h0 h1 => ?_, s.bas, s.dom, s.len, ⟨ad, fun i sl e => ?_, h2, fun i sl e ho => ?_⟩, fun q u e => ?_⟩
  · by_cases c : q = p
    · subst c; rw [upd_same] at e; rw [r1]; exact e
    · rw [upd_ne c] at e; exact s.sub q u e
  · by_cases c : q = p
    · subst c; exact r3
    · rw [upd_ne c] at h1; exact s.new q h0 h1
  · have q := h1 i sl e
    cases sl with
    | u => trivial
    | i t => obtain ⟨x, e1, d⟩ := q; exact ⟨x, e1, d.mono g⟩
    | o t =>
      obtain ⟨e1, e2, e3, oc⟩ := q
      exact ⟨e1, by rw [upd_ne (ne i _ e rfl)]; exact e2, e3, oc.keep g rfl⟩
    | p t =>
      obtain ⟨e1, e2, e3, oc⟩ := q
      exact ⟨e1, by rw [upd_ne (ne i _ e rfl)]; exact e2, e3, oc.keep g rfl⟩
  · have q : (if ad i = p then some o else F.rs (ad i)) = none := h3 i sl e ho
    rw [if_neg (ne i sl e ho)] at q
    exact q
  · obtain ⟨q1, q2, q3⟩ := s'.rsv q u e
    have c : q ≠ p := fun z => by rw [z, h0] at e; cases e
    exact ⟨q1, by rw [upd_ne c]; exact q2, q3⟩
theorem SR.get (s : SR K F Hs H ρ σ) {i : Nat} {sl : Sl} (e : ρ[i]? = some sl) : ∃ v, σ[i]? = some v := by
  have h : i < ρ.length := (List.getElem?_eq_some_iff.mp e).1
  rw [s.len] at h
  exact ⟨_, List.getElem?_eq_getElem h⟩
theorem SR.imm (s : SR K F Hs H ρ σ) {i : Nat} {t : T} (e : ρ[i]? = some (.i t)) : ∃ v, σ[i]? = some (some v) ∧ D K Hs t v := by
  obtain ⟨ad, h1, h2, h3⟩ := s.slots
  exact h1 i _ e
theorem get_set_i {α : Type} {l : List α} {i j : Nat} {x y : α} (h : (l.set i x)[j]? = some y) : (i = j ∧ y = x) ∨ (i ≠ j ∧ l[j]? = some y) := by
  by_cases c : i = j
  · subst c
    have hl : i < l.length := by
      have := (List.getElem?_eq_some_iff.mp h).1
      simpa using this
    rw [List.getElem?_set_self hl] at h
    exact .inl ⟨rfl, (Option.some.inj h).symm⟩
  · rw [List.getElem?_set_ne c] at h
    exact .inr ⟨c, h⟩
/-- a slot takes a stable value -/
theorem SR.set (s : SR K F Hs H ρ σ) {i : Nat} {t : T} {v : V} (d : D K Hs t v) : SR K F Hs H (ρ.set i (.i t)) (σ.set i (some v)) := by
  refine ⟨s.sub, s.low, s.new, s.bas, s.dom, by simpa using s.len, ?_, s.rsv⟩
  obtain ⟨ad, h1, h2, h3⟩ := s.slots
  refine ⟨ad, fun j sl e => ?_, fun j k x y n ej ek ox oy => ?_, fun j x ej ox => ?_⟩
  · rcases get_set_i e with ⟨rfl, rfl⟩ | ⟨c, e⟩
    · have hl : i < σ.length := by
        have := (List.getElem?_eq_some_iff.mp e).1
        rw [List.length_set, s.len] at this
        exact this
      exact ⟨v, List.getElem?_set_self hl, d⟩
    · rw [List.getElem?_set_ne c]
      exact h1 j sl e
  · rcases get_set_i ej with ⟨rfl, rfl⟩ | ⟨c, ej⟩
    · cases ox
    · rcases get_set_i ek with ⟨rfl, rfl⟩ | ⟨c', ek⟩
      · cases oy
      · exact h2 j k x y n ej ek ox oy
  · rcases get_set_i ej with ⟨rfl, rfl⟩ | ⟨c, ej⟩
    · cases ox
    · exact h3 j x ej ox
/-- a slot is forgotten -/
theorem SR.drop (s : SR K F Hs H ρ σ) {i : Nat} {x : Option V} : SR K F Hs H (ρ.set i .u) (σ.set i x) := by
  refine ⟨s.sub, s.low, s.new, s.bas, s.dom, by simpa using s.len, ?_, s.rsv⟩
  obtain ⟨ad, h1, h2, h3⟩ := s.slots
  refine ⟨ad, fun j sl e => ?_, fun j k x y n ej ek ox oy => ?_, fun j x ej ox => ?_⟩
  · rcases get_set_i e with ⟨rfl, rfl⟩ | ⟨c, e⟩
    · trivial
    · rw [List.getElem?_set_ne c]
      exact h1 j sl e
  · rcases get_set_i ej with ⟨rfl, rfl⟩ | ⟨c, ej⟩
    · cases ox
    · rcases get_set_i ek with ⟨rfl, rfl⟩ | ⟨c', ek⟩
      · cases oy
      · exact h2 j k x y n ej ek ox oy
  · rcases get_set_i ej with ⟨rfl, rfl⟩ | ⟨c, ej⟩
    · cases ox
    · exact h3 j x ej ox
/-- a slot takes an own object -/
theorem SR.setO {p : Addr} {o : HO} (h0 : F.rs p = none) (s : SR K (F.res p o) Hs H ρ σ) {i : Nat} {t : T} (oc : OC K Hs H t p) : SR K F Hs H (ρ.set i (.o t)) (σ.set i (some (.ref p))) := by
  obtain ⟨r1, r2, r3⟩ := s.at
  have s' := s.let_go h0
  obtain ⟨ad, h1, h2, h3⟩ := s.slots
  have nep : ∀ i sl, ρ[i]? = some sl → sl.isO = true → ad i ≠ p := fun i sl e ho z => by
    have q : (if ad i = p then some o else F.rs (ad i)) = none := h3 i sl e ho
    rw [if_pos z] at q; cases q
  refine ⟨s.sub, s.low, s.new, s.bas, s.dom, by simpa using s.len, ⟨fun j => if j = i then p else ad j, fun j sl e => ?_, fun j k x y n ej ek ox oy => ?_, fun j x ej ox => ?_⟩, s'.rsv⟩
  · rcases get_set_i e with ⟨rfl, rfl⟩ | ⟨c, e⟩
    · have hl : i < σ.length := by
        have := (List.getElem?_eq_some_iff.mp e).1
        rw [List.length_set, s.len] at this
        exact this
      show SlOk K F Hs H (if i = i then p else ad i) i (.o t) _
      rw [if_pos rfl]
      exact ⟨List.getElem?_set_self hl, r2, r3, oc⟩
    · rw [List.getElem?_set_ne c]
      show SlOk K F Hs H (if j = i then p else ad j) j sl _
      rw [if_neg (Ne.symm c)]
      have q := h1 j sl e
      cases sl <;> exact q
  · show (if j = i then p else ad j) ≠ (if k = i then p else ad k)
    rcases get_set_i ej with ⟨rfl, rfl⟩ | ⟨c, ej⟩
    · rcases get_set_i ek with ⟨rfl, rfl⟩ | ⟨c', ek⟩
      · exact absurd rfl n
      · rw [if_pos rfl, if_neg (Ne.symm c')]
        exact Ne.symm (nep k y ek oy)
    · rcases get_set_i ek with ⟨rfl, rfl⟩ | ⟨c', ek⟩
      · rw [if_neg (Ne.symm c), if_pos rfl]
        exact nep j x ej ox
      · rw [if_neg (Ne.symm c), if_neg (Ne.symm c')]
        exact h2 j k x y n ej ek ox oy
  · show F.rs (if j = i then p else ad j) = none
    rcases get_set_i ej with ⟨rfl, rfl⟩ | ⟨c, ej⟩
    · rw [if_pos rfl]; exact h0
    · rw [if_neg (Ne.symm c)]
      have q : (if ad j = p then some o else F.rs (ad j)) = none := h3 j x ej ox
      rw [if_neg (nep j x ej ox)] at q
      exact q
/-- an own object is written -/
theorem SR.write (s : SR K F Hs H ρ σ) {i : Nat} {t : T} (e : ρ[i]? = some (.o t) ∨ ρ[i]? = some (.p t)) : ∃ a, σ[i]? = some (some (.ref a)) ∧ OC K Hs H t a ∧ ∀ t' o, OC K Hs (upd H a o) t' a →
    SR K F Hs (upd H a o) (ρ.set i (match ρ[i]? with | some (.p _) => .p t' | _ => .o t')) σ := by
  obtain ⟨ad, h1, h2, h3⟩ := s.slots
  have hi : i < ρ.length := by
    rcases e with e | e <;> exact (List.getElem?_eq_some_iff.mp e).1
  have base : σ[i]? = some (some (.ref (ad i))) ∧ Hs (ad i) = none ∧ OC K Hs H t (ad i) ∧ (F.H (ad i) = none ∨ ∃ j, F.inn j = some (ad i)) := by
    rcases e with e | e
    · obtain ⟨q1, q2, q3, q4⟩ := h1 i _ e
      exact ⟨q1, q2, q4, .inl q3⟩
    · obtain ⟨q1, q2, q3, q4⟩ := h1 i _ e
      exact ⟨q1, q2, q4, .inr ⟨i, q3⟩⟩
  obtain ⟨b1, b2, b3, b4⟩ := base
  refine ⟨ad i, b1, b3, fun t' o oc => ?_⟩
  have nea : ∀ j x, i ≠ j → ρ[j]? = some x → x.isO = true → ad j ≠ ad i := fun j x n ej ox => by
    rcases e with e | e
    · exact h2 j i x _ (Ne.symm n) ej e ox rfl
    · exact h2 j i x _ (Ne.symm n) ej e ox rfl
  have oi : ∃ sl, ρ[i]? = some sl ∧ sl.isO = true := by
    rcases e with e | e <;> exact ⟨_, e, rfl⟩
  obtain ⟨sli, ei, oi⟩ := oi
  refine ⟨fun q u e' => ?_, s.low, s.new, fun q u e' hn => ?_, fun q e' => ?_, by simpa using s.len, ⟨ad, fun j sl ej => ?_, fun j k x y n ej ek ox oy => ?_, fun j x ej ox => ?_⟩, fun q u e' => ?_⟩
  · have c : q ≠ ad i := fun z => by rw [z, b2] at e'; cases e'
    rw [upd_ne c]; exact s.sub q u e'
  · have c : q ≠ ad i := fun z => by
      rcases b4 with z1 | ⟨j, z1⟩
      · rw [z, z1] at e'; cases e'
      · exact hn j (by rw [z]; exact z1)
    rw [upd_ne c]; exact s.bas q u e' hn
  · by_cases c : q = ad i
    · rw [c, upd_same] at e'; cases e'
    · rw [upd_ne c] at e'; exact s.dom q e'
  · rcases get_set_i ej with ⟨rfl, rfl⟩ | ⟨c, ej⟩
    · rcases e with e | e
      · rw [e]
        obtain ⟨q1, q2, q3, q4⟩ := h1 i _ e
        exact ⟨q1, q2, q3, oc⟩
      · rw [e]
        obtain ⟨q1, q2, q3, q4⟩ := h1 i _ e
        exact ⟨q1, q2, q3, oc⟩
    · have q := h1 j sl ej
      cases sl with
      | u => trivial
      | i t => exact q
      | o t =>
        obtain ⟨q1, q2, q3, q4⟩ := q
        exact ⟨q1, q2, q3, q4.keep (Gr.refl _) (upd_ne (nea j _ c ej rfl))⟩
      | p t =>
        obtain ⟨q1, q2, q3, q4⟩ := q
        exact ⟨q1, q2, q3, q4.keep (Gr.refl _) (upd_ne (nea j _ c ej rfl))⟩
  · have fix : ∀ (j : Nat) (x : Sl), (ρ.set i (match ρ[i]? with | some (.p _) => .p t' | _ => .o t'))[j]? = some x → x.isO = true → ∃ y, ρ[j]? = some y ∧ y.isO = true := fun j x ej ox => by
      rcases get_set_i ej with ⟨rfl, rfl⟩ | ⟨c, ej⟩
      · rcases e with e | e <;> exact ⟨_, e, rfl⟩
      · exact ⟨x, ej, ox⟩
    obtain ⟨x', e1, o1⟩ := fix j x ej ox
    obtain ⟨y', e2, o2⟩ := fix k y ek oy
    exact h2 j k x' y' n e1 e2 o1 o2
  · rcases get_set_i ej with ⟨rfl, rfl⟩ | ⟨c, ej⟩
    · exact h3 i sli ei oi
    · exact h3 j x ej ox
  · obtain ⟨q1, q2, q3⟩ := s.rsv q u e'
    have c : q ≠ ad i := fun z => by rw [z, h3 i sli ei oi] at e'; cases e'
    exact ⟨by rw [upd_ne c]; exact q1, q2, q3⟩
/-- an own slot becomes a stable one -/
theorem OC.d {t : T} {a : Addr} (h : OC K Hs H t a) : ∃ o, H a = some o ∧ ∀ Hs', Gr Hs Hs' → Hs' a = some o → D K Hs' t (.ref a) := by
  cases t <;> first | exact h.elim | skip
  · obtain ⟨xs, q, d⟩ := h
    exact ⟨_, q, fun Hs' g e => d_lst.mpr ⟨a, xs, rfl, e, d.mono g⟩⟩
  · obtain ⟨xs, q, l, d⟩ := h
    exact ⟨_, q, fun Hs' g e => d_dk.mpr ⟨a, xs, rfl, .inl e, l, d.mono g⟩⟩
theorem SR.frz (s : SR K F Hs H ρ σ) {i : Nat} {t : T} (e : ρ[i]? = some (.o t)) : ∃ v Hs', σ[i]? = some (some v) ∧ Gr Hs Hs' ∧ D K Hs' t v ∧ SR K F Hs' H (ρ.set i (.i t)) σ := by
  obtain ⟨ad, h1, h2, h3⟩ := s.slots
  obtain ⟨q1, q2, q3, q4⟩ := h1 i _ e
  obtain ⟨o, ho, hd⟩ := q4.d
  have g : Gr Hs (upd Hs (ad i) o) := Gr.new q2
  have ne : ∀ j x, i ≠ j → ρ[j]? = some x → x.isO = true → ad j ≠ ad i := fun j x n ej ox => h2 j i x _ (Ne.symm n) ej e ox rfl
  refine ⟨.ref (ad i), upd Hs (ad i) o, q1, g, hd _ g upd_same, fun q u e => ?_, s.low.trans g, fun q a b => ?_, s.bas, s.dom, by simpa using s.len, ⟨ad, fun j sl ej => ?_, fun j k x y n ej ek ox oy => ?_, fun j x ej ox => ?_⟩, fun q u e' => ?_⟩
  · by_cases c : q = ad i
    · subst c; rw [upd_same] at e; rw [ho]; exact e
    · rw [upd_ne c] at e; exact s.sub q u e
  · by_cases c : q = ad i
    · subst c; exact q3
    · rw [upd_ne c] at b; exact s.new q a b
  · rcases get_set_i ej with ⟨rfl, rfl⟩ | ⟨c, ej⟩
    · exact ⟨_, q1, hd _ g upd_same⟩
    · have q := h1 j sl ej
      cases sl with
      | u => trivial
      | i t => obtain ⟨x, e1, d⟩ := q; exact ⟨x, e1, d.mono g⟩
      | o t =>
        obtain ⟨e1, e2, e3, oc⟩ := q
        exact ⟨e1, by rw [upd_ne (ne j _ c ej rfl)]; exact e2, e3, oc.keep g rfl⟩
      | p t =>
        obtain ⟨e1, e2, e3, oc⟩ := q
        exact ⟨e1, by rw [upd_ne (ne j _ c ej rfl)]; exact e2, e3, oc.keep g rfl⟩
  · rcases get_set_i ej with ⟨rfl, rfl⟩ | ⟨c, ej⟩
    · cases ox
    · rcases get_set_i ek with ⟨rfl, rfl⟩ | ⟨c', ek⟩
      · cases oy
      · exact h2 j k x y n ej ek ox oy
  · rcases get_set_i ej with ⟨rfl, rfl⟩ | ⟨c, ej⟩
    · cases ox
    · exact h3 j x ej ox
  · obtain ⟨r1, r2, r3⟩ := s.rsv q u e'
    have c : q ≠ ad i := fun z => by rw [z, h3 i _ e rfl] at e'; cases e'
    exact ⟨r1, by rw [upd_ne c]; exact r2, r3⟩
/-- what may be read now: the items are stable -/
def DB (K : PySem.W.Frag) (Hs H : Hp) (t : T) (v : V) : Prop := match t with
  | .lst ts => ∃ a xs, v = .ref a ∧ H a = some (.lst xs) ∧ DL K Hs ts xs
  | .dk ks ts => ∃ a xs, v = .ref a ∧ Rd H a (.dK (ks.zip xs)) ∧ ks.length = xs.length ∧ DL K Hs ts xs
  | t => D K Hs t v
theorem D.b {t : T} {v : V} (g : Gr Hs H) (d : D K Hs t v) : DB K Hs H t v := by
  cases t <;> first | exact d | skip
  · obtain ⟨a, xs, e, h, q⟩ := d_lst.mp d
    exact ⟨a, xs, e, g _ _ h, q⟩
  · obtain ⟨a, xs, e, h, q⟩ := d_dk.mp d
    exact ⟨a, xs, e, gr_rd g h, q⟩
theorem OC.b {t : T} {a : Addr} (h : OC K Hs H t a) : DB K Hs H t (.ref a) := by
  cases t <;> first | exact h.elim | skip
  · obtain ⟨xs, q, d⟩ := h
    exact ⟨a, xs, rfl, q, d⟩
  · obtain ⟨xs, q, l, d⟩ := h
    exact ⟨a, xs, rfl, .inl q, l, d⟩
/-- what a slot holds -/
def peek (ρ : En) (i : Nat) : Option T := match ρ[i]? with
  | some (.i t) => some t
  | some (.o t) => some t
  | some (.p t) => some t
  | _ => none
theorem SR.peek (s : SR K F Hs H ρ σ) {i : Nat} {t : T} (e : peek ρ i = some t) : ∃ v, σ[i]? = some (some v) ∧ DB K Hs H t v := by
  unfold Pu.peek at e
  obtain ⟨ad, h1, h2, h3⟩ := s.slots
  split at e
  · cases e
    rename_i h
    obtain ⟨v, q, d⟩ := h1 i _ h
    exact ⟨v, q, d.b s.sub⟩
  · cases e
    rename_i h
    obtain ⟨q1, _, _, oc⟩ := h1 i _ h
    exact ⟨_, q1, oc.b⟩
  · cases e
    rename_i h
    obtain ⟨q1, _, _, oc⟩ := h1 i _ h
    exact ⟨_, q1, oc.b⟩
  · cases e
end

/-! ### judgements -/
abbrev EM' := En → Option (T × En)
abbrev TM' := En → Option (Bool × En)
section
variable (K : PySem.W.Frag)
/-- an expression gives t, and leaves ρ' -/
def tE (ρ : En) (t : T) (ρ' : En) : TE := fun σ H Q => ∃ F Hs, SR K F Hs H ρ σ ∧ ∀ v Hs' H', SR K F Hs' H' ρ' σ → Gr Hs Hs' → D K Hs' t v → Q v H'
/-- .. a new object of one's own -/
def tF (ρ : En) (t : T) (ρ' : En) : TE := fun σ H Q => ∃ F Hs, SR K F Hs H ρ σ ∧ ∀ p o Hs' H', F.rs p = none → SR K (F.res p o) Hs' H' ρ' σ → Gr Hs Hs' → OC K Hs' H' t p → Q (.ref p) H'
def tT (ρ : En) (b : Bool) (ρ' : En) : TT := fun σ H Q => ∃ F Hs, SR K F Hs H ρ σ ∧ ∀ Hs' H', SR K F Hs' H' ρ' σ → Gr Hs Hs' → Q b H'
/-- an argument: a value | what a slot holds -/
inductive Ar where
  | v (t : T) | b (i : Nat)
inductive AL (Hs : Hp) (σ : L2.St) : List Ar → List V → Prop where
  | nil : AL Hs σ [] []
  | v {t : T} {x : V} {as : List Ar} {xs : List V} (h : D K Hs t x) (r : AL Hs σ as xs) : AL Hs σ (.v t :: as) (x :: xs)
  | b {i : Nat} {x : V} {as : List Ar} {xs : List V} (h : σ[i]? = some (some x)) (r : AL Hs σ as xs) : AL Hs σ (.b i :: as) (x :: xs)
abbrev AM' := En → Option (List Ar × En)
def tA (ρ : En) (as : List Ar) (ρ' : En) : TA := fun σ H Q => ∃ F Hs, SR K F Hs H ρ σ ∧ ∀ vs Hs' H', SR K F Hs' H' ρ' σ → Gr Hs Hs' → AL K Hs' σ as vs → Q vs H'
end
theorem AL.mono {K : PySem.W.Frag} {Hs Hs' : Hp} {σ : L2.St} (g : Gr Hs Hs') : ∀ {as : List Ar} {vs : List V}, AL K Hs σ as vs → AL K Hs' σ as vs
  | _, _, .nil => .nil
  | _, _, .v h r => .v (h.mono g) (AL.mono g r)
  | _, _, .b h r => .b h (AL.mono g r)
section
variable {X : Cx}
theorem pe_w {e : Expr} {t t' : TE} (h : PE X e t) (w : ∀ σ H Q, t' σ H Q → t σ H Q) : PE X e t' := ⟨fun pins s σ H Q I q => h.run pins s σ H Q I (w σ H Q q)⟩
theorem pt_w {e : Expr} {t t' : TT} (h : PT X e t) (w : ∀ σ H Q, t' σ H Q → t σ H Q) : PT X e t' := ⟨fun pins s σ H Q I q => h.run pins s σ H Q I (w σ H Q q)⟩
theorem pw_w {e : Expr} {t t' : TT} (h : PW X e t) (w : ∀ σ H Q, t' σ H Q → t σ H Q) : PW X e t' := ⟨fun wh pins s σ H Q I q => h.run wh pins s σ H Q I (w σ H Q q)⟩
theorem pa_w {es : List Expr} {t t' : TA} (h : PA X es t) (w : ∀ σ H Q, t' σ H Q → t σ H Q) : PA X es t' := ⟨fun pos pins s σ H Q I q => h.run pos pins s σ H Q I (w σ H Q q)⟩
theorem ps_w {e : Stmt} {t t' : TS} (h : PS X e t) (w : ∀ D σ H, t' D σ H → t D σ H) : PS X e t' := ⟨fun pins s σ H Q I q => h.run pins s σ H Q I (w Q σ H q)⟩
theorem pss_w {e : List Stmt} {t t' : TS} (h : PSs X e t) (w : ∀ D σ H, t' D σ H → t D σ H) : PSs X e t' := ⟨fun pins s σ H Q I q => h.run pins s σ H Q I (w Q σ H q)⟩
def EM (X : Cx) (e : Expr) (m : EM') : Prop := ∀ ρ t ρ', m ρ = some (t, ρ') → PE X e (tE X.K ρ t ρ')
def EF (X : Cx) (e : Expr) (m : EM') : Prop := ∀ ρ t ρ', m ρ = some (t, ρ') → PE X e (tF X.K ρ t ρ')
def TM (X : Cx) (e : Expr) (m : TM') : Prop := ∀ ρ b ρ', m ρ = some (b, ρ') → PT X e (tT X.K ρ b ρ')
def WM (X : Cx) (e : Expr) (m : TM') : Prop := ∀ ρ b ρ', m ρ = some (b, ρ') → PW X e (tT X.K ρ b ρ')
def AM (X : Cx) (es : List Expr) (m : AM') : Prop := ∀ ρ as ρ', m ρ = some (as, ρ') → PA X es (tA X.K ρ as ρ')

/-! ### names, constants -/
/-- a name's value goes on: an own object becomes stable -/
def mVar (i : Nat) : EM' := fun ρ => match ρ[i]? with
  | some (.i t) => some (t, ρ)
  | some (.o t) => some (t, ρ.set i (.i t))
  | _ => none
theorem em_var {x : Str} {pos : Pos} (i : Nat) (h : PE X (.Name x pos) (tVar i)) : EM X (.Name x pos) (mVar i) := by
  intro ρ t ρ' e
  refine pe_w h fun σ H Q ⟨F, Hs, s, k⟩ => ?_
  unfold mVar at e
  split at e
  · rename_i q
    cases e
    obtain ⟨v, e1, d⟩ := s.imm q
    exact ⟨v, e1, k v Hs H s (Gr.refl _) d⟩
  · rename_i q
    cases e
    obtain ⟨v, Hs', e1, g, d, s'⟩ := s.frz q
    exact ⟨v, e1, k v Hs' H s' g d⟩
  · cases e
def mC (t : T) : EM' := fun ρ => some (t, ρ)
theorem em_c {e : Expr} {v : V} {t : T} (h : PE X e (tC v)) (d : ∀ H, D X.K H t v) : EM X e (mC t) := by
  intro ρ u ρ' q
  cases q
  exact pe_w h fun σ H Q ⟨F, Hs, s, k⟩ => k v Hs H s (Gr.refl _) (d Hs)
theorem em_int {i j pos} : EM X (.Constant (.int i) j pos) (mC (.int i)) := em_c pe_int fun _ => d_int.mpr rfl
theorem em_bl {b j pos} : EM X (.Constant (.bool b) j pos) (mC (.bl b)) := em_c pe_bl fun _ => d_bl.mpr rfl
theorem em_non {j pos} : EM X (.Constant .none j pos) (mC .non) := em_c pe_non fun _ => d_non.mpr rfl
theorem em_str {x j pos} : EM X (.Constant (.str x) j pos) (mC (.str x)) := em_c pe_str fun _ => d_str.mpr rfl
/-- a new object's value goes on -/
theorem em_f {e : Expr} {m : EM'} (h : EF X e m) : EM X e m := by
  intro ρ t ρ' q
  refine pe_w (h ρ t ρ' q) fun σ H Q ⟨F, Hs, s, k⟩ => ⟨F, Hs, s, fun p o Hs' H' h0 s' g oc => ?_⟩
  obtain ⟨o', ho, hd⟩ := oc.d
  obtain ⟨r1, r2, r3⟩ := s'.at
  rw [r1] at ho
  cases ho
  have g2 : Gr Hs' (upd Hs' p o) := Gr.new r2
  exact k (.ref p) _ H' (s'.freeze h0) (g.trans g2) (hd _ g2 upd_same)

/-! ### operators by values -/
/-- an operation on two values: what it gives is stable -/
def Prim2 (K : PySem.W.Frag) (r : R2) (g : T → T → Option T) : Prop := ∀ (F : Fa) (Hs H : Hp) (ρ : En) (σ : L2.St) (x y z : T) (v u : V) (Q : VK), SR K F Hs H ρ σ → DB K Hs H x v → DB K Hs H y u → g x y = some z →
  (∀ w Hs' H', SR K F Hs' H' ρ σ → Gr Hs Hs' → D K Hs' z w → Q w H') → r v u H Q
/-- .. gives a new list -/
def Prim2F (K : PySem.W.Frag) (r : R2) (g : T → T → Option T) : Prop := ∀ (F : Fa) (Hs H : Hp) (ρ : En) (σ : L2.St) (x y z : T) (v u : V) (Q : VK), SR K F Hs H ρ σ → DB K Hs H x v → DB K Hs H y u → g x y = some z →
  (∀ p o Hs' H', F.rs p = none → SR K (F.res p o) Hs' H' ρ σ → Gr Hs Hs' → OC K Hs' H' z p → Q (.ref p) H') → r v u H Q
/-- an operand: an expression | a name whose object is only read -/
inductive Op where
  | e (m : EM') | n (i : Nat)
/-- reading an operand at its place: an expression's value | nothing yet -/
def OM (X : Cx) (e : Expr) : Op → Prop
  | .e m => EM X e m
  | .n i => PE X e (tVar i)
def mO : Op → En → Option (Option T × En)
  | .e m => fun ρ => (m ρ).map fun r => (some r.1, r.2)
  | .n i => fun ρ => (peek ρ i).map fun _ => (none, ρ)
def mO2 : Op → Option T → En → Option T
  | .e _, t, _ => t
  | .n i, _, ρ => peek ρ i
/-- two operands, then the operation -/
def mBin (g : T → T → Option T) (a b : Op) : EM' := fun ρ =>
  match mO a ρ with
  | none => none
  | some (x, ρ1) => match mO b ρ1 with
    | none => none
    | some (y, ρ2) => match mO2 a x ρ2, mO2 b y ρ2 with
      | some x, some y => (g x y).map fun z => (z, ρ2)
      | _, _ => none
/-- the two values as they stand when the operation is done -/
theorem bin_ops {ea eb : Expr} {a b : Op} (ha : OM X ea a) (hb : OM X eb b) {ρ ρ1 ρ2 : En} {x y : Option T} {x' y' : T} (e1 : mO a ρ = some (x, ρ1)) (e2 : mO b ρ1 = some (y, ρ2)) (e3 : mO2 a x ρ2 = some x') (e4 : mO2 b y ρ2 = some y') :
    ∃ ta tb, PE X ea ta ∧ PE X eb tb ∧ ∀ F Hs H σ (Q : V → V → Hp → Prop), SR X.K F Hs H ρ σ → (∀ v u Hs' H', SR X.K F Hs' H' ρ2 σ → Gr Hs Hs' → DB X.K Hs' H' x' v → DB X.K Hs' H' y' u → Q v u H') → ta σ H fun v H1 => tb σ H1 fun u H2 => Q v u H2 := by
  cases a with
  | e ma =>
    simp only [mO, Option.map_eq_some_iff] at e1
    obtain ⟨⟨x0, ρ0⟩, q1, q2⟩ := e1
    cases q2
    cases e3
    cases b with
    | e mb =>
      simp only [mO, Option.map_eq_some_iff] at e2
      obtain ⟨⟨y0, ρ0'⟩, q3, q4⟩ := e2
      cases q4
      cases e4
      refine ⟨_, _, ha _ _ _ q1, hb _ _ _ q3, fun F Hs H σ Q s k => ⟨F, Hs, s, fun v Hs1 H1 s1 g1 d1 => ⟨F, Hs1, s1, fun u Hs2 H2 s2 g2 d2 => k v u Hs2 H2 s2 (g1.trans g2) ((d1.mono g2).b s2.sub) (d2.b s2.sub)⟩⟩⟩
    | n j =>
      simp only [mO, Option.map_eq_some_iff] at e2
      obtain ⟨_, _, e2⟩ := e2
      cases e2
      refine ⟨_, _, ha _ _ _ q1, hb, fun F Hs H σ Q s k => ⟨F, Hs, s, fun v Hs1 H1 s1 g1 d1 => ?_⟩⟩
      obtain ⟨u, q, d⟩ := s1.peek e4
      exact ⟨u, q, k v u Hs1 H1 s1 g1 (d1.b s1.sub) d⟩
  | n i =>
    simp only [mO, Option.map_eq_some_iff] at e1
    obtain ⟨x0, p0, e1⟩ := e1
    cases e1
    cases b with
    | e mb =>
      simp only [mO, Option.map_eq_some_iff] at e2
      obtain ⟨⟨y0, ρ0'⟩, q3, q4⟩ := e2
      cases q4
      cases e4
      refine ⟨_, _, ha, hb _ _ _ q3, fun F Hs H σ Q s k => ?_⟩
      obtain ⟨v, q, _⟩ := s.peek p0
      refine ⟨v, q, F, Hs, s, fun u Hs2 H2 s2 g2 d2 => ?_⟩
      obtain ⟨v', q', d'⟩ := s2.peek e3
      rw [q] at q'
      cases q'
      exact k v u Hs2 H2 s2 g2 d' (d2.b s2.sub)
    | n j =>
      simp only [mO, Option.map_eq_some_iff] at e2
      obtain ⟨_, _, e2⟩ := e2
      cases e2
      refine ⟨_, _, ha, hb, fun F Hs H σ Q s k => ?_⟩
      obtain ⟨v, q, d⟩ := s.peek e3
      obtain ⟨u, q', d'⟩ := s.peek e4
      exact ⟨v, q, u, q', k v u Hs H s (Gr.refl _) d d'⟩
theorem mBin_inv {g : T → T → Option T} {a b : Op} {ρ ρ' : En} {z : T} (e : mBin g a b ρ = some (z, ρ')) : ∃ x ρ1 y x' y', mO a ρ = some (x, ρ1) ∧ mO b ρ1 = some (y, ρ') ∧ mO2 a x ρ' = some x' ∧ mO2 b y ρ' = some y' ∧ g x' y' = some z := by
  unfold mBin at e
  split at e
  · cases e
  · rename_i x ρ1 q1
    split at e
    · cases e
    · rename_i y ρ2 q2
      split at e
      · rename_i x' y' q3 q4
        obtain ⟨z', h1, h2⟩ := Option.map_eq_some_iff.mp e
        cases h2
        exact ⟨x, ρ1, y, x', y', q1, q2, q3, q4, h1⟩
      · cases e
theorem em_bin {op : Operator} {r : R2} {g : T → T → Option T} {ea eb : Expr} {a b : Op} {pos : Pos} (ho : OpR X (binaryOp op) r) (hp : Prim2 X.K r g) (ha : OM X ea a) (hb : OM X eb b) : EM X (.BinOp ea op eb pos) (mBin g a b) := by
  intro ρ z ρ' e
  obtain ⟨x, ρ1, y, x', y', q1, q2, q3, q4, q5⟩ := mBin_inv e
  obtain ⟨ta, tb, pa, pb, k⟩ := bin_ops ha hb q1 q2 q3 q4
  refine pe_w (pe_op ho pa pb) fun σ H Q ⟨F, Hs, s, kk⟩ => ?_
  exact k F Hs H σ _ s fun v u Hs' H' s' g1 d1 d2 => hp F Hs' H' ρ' σ x' y' z v u Q s' d1 d2 q5 fun w Hs2 H2 s2 g2 d => kk w Hs2 H2 s2 (g1.trans g2) d
theorem ef_bin {op : Operator} {r : R2} {g : T → T → Option T} {ea eb : Expr} {a b : Op} {pos : Pos} (ho : OpR X (binaryOp op) r) (hp : Prim2F X.K r g) (ha : OM X ea a) (hb : OM X eb b) : EF X (.BinOp ea op eb pos) (mBin g a b) := by
  intro ρ z ρ' e
  obtain ⟨x, ρ1, y, x', y', q1, q2, q3, q4, q5⟩ := mBin_inv e
  obtain ⟨ta, tb, pa, pb, k⟩ := bin_ops ha hb q1 q2 q3 q4
  refine pe_w (pe_op ho pa pb) fun σ H Q ⟨F, Hs, s, kk⟩ => ?_
  exact k F Hs H σ _ s fun v u Hs' H' s' g1 d1 d2 => hp F Hs' H' ρ' σ x' y' z v u Q s' d1 d2 q5 fun w o Hs2 H2 h0 s2 g2 d => kk w o Hs2 H2 h0 s2 (g1.trans g2) d
theorem em_cmp {op : CmpOp} {r : R2} {g : T → T → Option T} {ea eb : Expr} {a b : Op} {pos : Pos} (ho : OpR X (compareOp op) r) (hp : Prim2 X.K r g) (ha : OM X ea a) (hb : OM X eb b) (hm : behindInMarks op eb = false) : EM X (.Compare ea [op] [eb] pos) (mBin g a b) := by
  intro ρ z ρ' e
  obtain ⟨x, ρ1, y, x', y', q1, q2, q3, q4, q5⟩ := mBin_inv e
  obtain ⟨ta, tb, pa, pb, k⟩ := bin_ops ha hb q1 q2 q3 q4
  refine pe_w (pe_cmpR ho pa pb hm) fun σ H Q ⟨F, Hs, s, kk⟩ => ?_
  exact k F Hs H σ _ s fun v u Hs' H' s' g1 d1 d2 => hp F Hs' H' ρ' σ x' y' z v u Q s' d1 d2 q5 fun w Hs2 H2 s2 g2 d => kk w Hs2 H2 s2 (g1.trans g2) d
theorem em_ix {r : R2} {g : T → T → Option T} {ea eb : Expr} {a b : Op} {pos : Pos} (ho : IxR X r) (hp : Prim2 X.K r g) (ha : OM X ea a) (hb : OM X eb b) (hs : PlainIx eb) : EM X (.Subscript ea eb pos) (mBin g a b) := by
  intro ρ z ρ' e
  obtain ⟨x, ρ1, y, x', y', q1, q2, q3, q4, q5⟩ := mBin_inv e
  obtain ⟨ta, tb, pa, pb, k⟩ := bin_ops ha hb q1 q2 q3 q4
  refine pe_w (pe_ix ho pa pb hs) fun σ H Q ⟨F, Hs, s, kk⟩ => ?_
  exact k F Hs H σ _ s fun v u Hs' H' s' g1 d1 d2 => hp F Hs' H' ρ' σ x' y' z v u Q s' d1 d2 q5 fun w Hs2 H2 s2 g2 d => kk w Hs2 H2 s2 (g1.trans g2) d
/-- a comparison as a test -/
def mBinB (g : T → T → Option Bool) (a b : Op) : TM' := fun ρ => (mBin (fun x y => (g x y).map T.bl) a b ρ).bind fun r => match r.1 with
  | .bl b => some (b, r.2)
  | _ => none
theorem tm_cmp {op : CmpOp} {r : R2} {g : T → T → Option Bool} {ea eb : Expr} {a b : Op} {pos : Pos} (ho : OpR X (compareOp op) r) (hp : Prim2 X.K r (fun x y => (g x y).map T.bl)) (ha : OM X ea a) (hb : OM X eb b) (hm : behindInMarks op eb = false) : TM X (.Compare ea [op] [eb] pos) (mBinB g a b) := by
  intro ρ c ρ' e
  obtain ⟨⟨z, ρ2⟩, e1, e2⟩ := Option.bind_eq_some_iff.mp e
  obtain ⟨x, ρ1, y, x', y', q1, q2, q3, q4, q5⟩ := mBin_inv e1
  obtain ⟨ta, tb, pa, pb, k⟩ := bin_ops ha hb q1 q2 q3 q4
  obtain ⟨b', q6, q7⟩ := Option.map_eq_some_iff.mp q5
  subst q7
  cases e2
  refine pt_w (pt_cmpR ho pa pb hm) fun σ H Q ⟨F, Hs, s, kk⟩ => ?_
  exact k F Hs H σ _ s fun v u Hs' H' s' g1 d1 d2 => hp F Hs' H' _ σ x' y' (.bl c) v u _ s' d1 d2 q5 fun w Hs2 H2 s2 g2 d => ⟨c, d_bl.mp d, kk Hs2 H2 s2 (g1.trans g2)⟩
end
end Pu
set_option Elab.async false
set_option linter.all false
set_option maxRecDepth 100000
set_option maxHeartbeats 1000000
namespace Pu
open PySem PySem.Spec PyProof.Rows L2
/-- the most that a list of ours holds -/
def lim : Nat := 1000000
theorem lim_le : lim ≤ sizeLine := by rw [sizeLine_eq]; decide
theorem lim_lt : lim < sizeLine := by rw [sizeLine_eq]; decide
section
variable {X : Cx}
theorem pe_never {e : Expr} : PE X e (fun _ _ _ => False) := ⟨fun _ _ _ _ _ _ h => h.elim⟩
theorem pt_never {e : Expr} : PT X e (fun _ _ _ => False) := ⟨fun _ _ _ _ _ _ h => h.elim⟩
theorem pw_never {e : Expr} : PW X e (fun _ _ _ => False) := ⟨fun _ _ _ _ _ _ _ h => h.elim⟩
/-! ### all runs at once -/
def uE (K : PySem.W.Frag) (m : EM') : TE := fun σ H Q => ∃ ρ t ρ', m ρ = some (t, ρ') ∧ tE K ρ t ρ' σ H Q
def uT (K : PySem.W.Frag) (m : TM') : TT := fun σ H Q => ∃ ρ t ρ', m ρ = some (t, ρ') ∧ tT K ρ t ρ' σ H Q
theorem EM.u {e : Expr} {m : EM'} (h : EM X e m) : PE X e (uE X.K m) := ⟨fun pins s σ H Q I ⟨ρ, t, ρ', q, k⟩ => (h ρ t ρ' q).run pins s σ H Q I k⟩
theorem TM.u {e : Expr} {m : TM'} (h : TM X e m) : PT X e (uT X.K m) := ⟨fun pins s σ H Q I ⟨ρ, t, ρ', q, k⟩ => (h ρ t ρ' q).run pins s σ H Q I k⟩
/-! ### tests -/
def mTB (m : EM') : TM' := fun ρ => match m ρ with
  | some (.bl b, ρ') => some (b, ρ')
  | _ => none
theorem tm_val {e : Expr} {m : EM'} (h : EM X e m) (he : ∀ whole, isTrue e X.env whole = (do let v ← whole; standAt e.pos; holding [v] (truthy v)) := by intro _; rfl) : TM X e (mTB m) := by
  intro ρ b ρ' q
  unfold mTB at q
  split at q
  · rename_i b' ρ1 e1
    cases q
    exact pt_w (pt_val (h _ _ _ e1) he) fun σ H Q ⟨F, Hs, s, k⟩ => ⟨F, Hs, s, fun v Hs' H' s' g d => ⟨_, d_bl.mp d, k Hs' H' s' g⟩⟩
  · cases q
def mAndT (a b : TM') : TM' := fun ρ => match a ρ with
  | some (true, ρ1) => b ρ1
  | some (false, ρ1) => some (false, ρ1)
  | none => none
def mOrT (a b : TM') : TM' := fun ρ => match a ρ with
  | some (false, ρ1) => b ρ1
  | some (true, ρ1) => some (true, ρ1)
  | none => none
def mNotT (a : TM') : TM' := fun ρ => (a ρ).map fun r => (!r.1, r.2)
theorem wm_and1 {a : Expr} {ma : TM'} {pos : Pos} (h : TM X a ma) : WM X (.BoolOp .And [a] pos) ma := fun ρ b ρ' q => pw_and1 (h ρ b ρ' q)
theorem wm_or1 {a : Expr} {ma : TM'} {pos : Pos} (h : TM X a ma) : WM X (.BoolOp .Or [a] pos) ma := fun ρ b ρ' q => pw_or1 (h ρ b ρ' q)
theorem wm_and {a b : Expr} {rest : List Expr} {ma mb : TM'} {pos : Pos} (ha : TM X a ma) (hb : WM X (.BoolOp .And (b :: rest) pos) mb) : WM X (.BoolOp .And (a :: b :: rest) pos) (mAndT ma mb) := by
  intro ρ c ρ' q
  unfold mAndT at q
  split at q
  · rename_i ρ1 e
    refine pw_w (pw_and (ha _ _ _ e) (hb _ _ _ q)) fun σ H Q ⟨F, Hs, s, k⟩ => ⟨F, Hs, s, fun Hs1 H1 s1 g1 => ?_⟩
    refine iteT ?_
    exact ⟨F, Hs1, s1, fun Hs2 H2 s2 g2 => k Hs2 H2 s2 (g1.trans g2)⟩
  · rename_i ρ1 e
    cases q
    refine pw_w (pw_and (ha _ _ _ e) pw_never) fun σ H Q ⟨F, Hs, s, k⟩ => ⟨F, Hs, s, fun Hs1 H1 s1 g1 => ?_⟩
    refine iteF ?_
    exact k Hs1 H1 s1 g1
  · cases q
theorem wm_or {a b : Expr} {rest : List Expr} {ma mb : TM'} {pos : Pos} (ha : TM X a ma) (hb : WM X (.BoolOp .Or (b :: rest) pos) mb) : WM X (.BoolOp .Or (a :: b :: rest) pos) (mOrT ma mb) := by
  intro ρ c ρ' q
  unfold mOrT at q
  split at q
  · rename_i ρ1 e
    refine pw_w (pw_or (ha _ _ _ e) (hb _ _ _ q)) fun σ H Q ⟨F, Hs, s, k⟩ => ⟨F, Hs, s, fun Hs1 H1 s1 g1 => ?_⟩
    refine iteF ?_
    exact ⟨F, Hs1, s1, fun Hs2 H2 s2 g2 => k Hs2 H2 s2 (g1.trans g2)⟩
  · rename_i ρ1 e
    cases q
    refine pw_w (pw_or (ha _ _ _ e) pw_never) fun σ H Q ⟨F, Hs, s, k⟩ => ⟨F, Hs, s, fun Hs1 H1 s1 g1 => ?_⟩
    refine iteT ?_
    exact k Hs1 H1 s1 g1
  · cases q
theorem tm_w {a : Expr} {m : TM'} (h : WM X a m) : TM X a m := fun ρ b ρ' q => (h ρ b ρ' q).pt
theorem tm_not {a : Expr} {m : TM'} {pos : Pos} (h : TM X a m) : TM X (.UnaryOp .Not a pos) (mNotT m) := by
  intro ρ b ρ' q
  obtain ⟨⟨b0, ρ0⟩, e, q⟩ := Option.map_eq_some_iff.mp q
  cases q
  exact pt_w (pt_not (h _ _ _ e)) fun σ H Q ⟨F, Hs, s, k⟩ => ⟨F, Hs, s, k⟩
/-- as values -/
def mVB (m : TM') : EM' := fun ρ => (m ρ).map fun r => (.bl r.1, r.2)
def mAndV (a b : EM') : EM' := mVB (mAndT (mTB a) (mTB b))
def mOrV (a b : EM') : EM' := mVB (mOrT (mTB a) (mTB b))
def mNotV (a : EM') : EM' := mVB (mNotT (mTB a))
theorem mTB_some {m : EM'} {ρ ρ' : En} {b : Bool} (h : mTB m ρ = some (b, ρ')) : m ρ = some (.bl b, ρ') := by
  unfold mTB at h
  split at h
  · rename_i e
    cases h
    exact e
  · cases h
theorem mVB_some {m : TM'} {ρ ρ' : En} {t : T} (h : mVB m ρ = some (t, ρ')) : ∃ b, t = .bl b ∧ m ρ = some (b, ρ') := by
  obtain ⟨⟨b0, ρ0⟩, e, q⟩ := Option.map_eq_some_iff.mp h
  cases q
  exact ⟨b0, rfl, e⟩
theorem em_one {op} {a : Expr} {m : EM'} {pos : Pos} (h : EM X a m) : EM X (.BoolOp op [a] pos) m := fun ρ t ρ' q => pe_one (h ρ t ρ' q)
theorem em_and {a b : Expr} {rest : List Expr} {ma mb : EM'} {pos : Pos} (ha : EM X a ma) (hb : EM X (.BoolOp .And (b :: rest) pos) mb) : EM X (.BoolOp .And (a :: b :: rest) pos) (mAndV ma mb) := by
  intro ρ t ρ' q
  obtain ⟨c, rfl, q2⟩ := mVB_some (m := mAndT (mTB ma) (mTB mb)) q
  unfold mAndT at q2
  split at q2
  · rename_i ρ1 e
    refine pe_w (pe_and (ha _ _ _ (mTB_some e)) (hb _ _ _ (mTB_some q2))) fun σ H Q ⟨F, Hs, s, k⟩ => ⟨F, Hs, s, fun v Hs1 H1 s1 g1 d1 => ⟨true, d_bl.mp d1, ?_⟩⟩
    refine iteT ?_
    exact ⟨F, Hs1, s1, fun v Hs2 H2 s2 g2 d2 => k v Hs2 H2 s2 (g1.trans g2) d2⟩
  · rename_i ρ1 e
    cases q2
    refine pe_w (pe_and (ha _ _ _ (mTB_some e)) pe_never) fun σ H Q ⟨F, Hs, s, k⟩ => ⟨F, Hs, s, fun v Hs1 H1 s1 g1 d1 => ⟨false, d_bl.mp d1, ?_⟩⟩
    refine iteF ?_
    exact k _ Hs1 H1 s1 g1 (d_bl.mpr rfl)
  · cases q2
theorem em_or {a b : Expr} {rest : List Expr} {ma mb : EM'} {pos : Pos} (ha : EM X a ma) (hb : EM X (.BoolOp .Or (b :: rest) pos) mb) : EM X (.BoolOp .Or (a :: b :: rest) pos) (mOrV ma mb) := by
  intro ρ t ρ' q
  obtain ⟨c, rfl, q2⟩ := mVB_some (m := mOrT (mTB ma) (mTB mb)) q
  unfold mOrT at q2
  split at q2
  · rename_i ρ1 e
    refine pe_w (pe_or (ha _ _ _ (mTB_some e)) (hb _ _ _ (mTB_some q2))) fun σ H Q ⟨F, Hs, s, k⟩ => ⟨F, Hs, s, fun v Hs1 H1 s1 g1 d1 => ⟨false, d_bl.mp d1, ?_⟩⟩
    refine iteF ?_
    exact ⟨F, Hs1, s1, fun v Hs2 H2 s2 g2 d2 => k v Hs2 H2 s2 (g1.trans g2) d2⟩
  · rename_i ρ1 e
    cases q2
    refine pe_w (pe_or (ha _ _ _ (mTB_some e)) pe_never) fun σ H Q ⟨F, Hs, s, k⟩ => ⟨F, Hs, s, fun v Hs1 H1 s1 g1 d1 => ⟨true, d_bl.mp d1, ?_⟩⟩
    refine iteT ?_
    exact k _ Hs1 H1 s1 g1 (d_bl.mpr rfl)
  · cases q2
theorem em_not {a : Expr} {m : EM'} {pos : Pos} (h : EM X a m) : EM X (.UnaryOp .Not a pos) (mNotV m) := by
  intro ρ t ρ' q
  obtain ⟨c, rfl, q2⟩ := mVB_some (m := mNotT (mTB m)) q
  obtain ⟨⟨b0, ρ0⟩, e, q3⟩ := Option.map_eq_some_iff.mp q2
  cases q3
  exact pe_w (pe_not (h _ _ _ (mTB_some e))) fun σ H Q ⟨F, Hs, s, k⟩ => ⟨F, Hs, s, fun v Hs1 H1 s1 g1 d1 => ⟨b0, d_bl.mp d1, k _ Hs1 H1 s1 g1 (d_bl.mpr rfl)⟩⟩
def mIf (c : TM') (a b : EM') : EM' := fun ρ => match c ρ with
  | some (true, ρ1) => a ρ1
  | some (false, ρ1) => b ρ1
  | none => none
theorem em_if {c a b : Expr} {mc : TM'} {ma mb : EM'} {pos : Pos} (hc : TM X c mc) (ha : EM X a ma) (hb : EM X b mb) : EM X (.IfExp c a b pos) (mIf mc ma mb) := by
  intro ρ t ρ' q
  unfold mIf at q
  split at q
  · rename_i ρ1 e
    refine pe_w (pe_ifExp (hc _ _ _ e) (ha _ _ _ q) pe_never) fun σ H Q ⟨F, Hs, s, k⟩ => ⟨F, Hs, s, fun Hs1 H1 s1 g1 => ?_⟩
    refine iteT ?_
    exact ⟨F, Hs1, s1, fun v Hs2 H2 s2 g2 d2 => k v Hs2 H2 s2 (g1.trans g2) d2⟩
  · rename_i ρ1 e
    refine pe_w (pe_ifExp (hc _ _ _ e) pe_never (hb _ _ _ q)) fun σ H Q ⟨F, Hs, s, k⟩ => ⟨F, Hs, s, fun Hs1 H1 s1 g1 => ?_⟩
    refine iteF ?_
    exact ⟨F, Hs1, s1, fun v Hs2 H2 s2 g2 d2 => k v Hs2 H2 s2 (g1.trans g2) d2⟩
  · cases q
/-- a op b op' c -/
def mChain (g g' : T → T → Option Bool) (a b c : EM') : TM' := fun ρ => match a ρ with
  | none => none
  | some (x, ρ1) => match b ρ1 with
    | none => none
    | some (y, ρ2) => match g x y with
      | none => none
      | some false => some (false, ρ2)
      | some true => match c ρ2 with
        | none => none
        | some (z, ρ3) => (g' y z).map fun k => (k, ρ3)
theorem tm_chain {op op' : CmpOp} {r r' : R2} {g g' : T → T → Option Bool} {a b c : Expr} {ma mb mc : EM'} {pos : Pos} (ho : OpR X (compareOp op) r) (ho' : OpR X (compareOp op') r') (hp : Prim2 X.K r (fun x y => (g x y).map T.bl)) (hp' : Prim2 X.K r' (fun x y => (g' x y).map T.bl))
    (ha : EM X a ma) (hb : EM X b mb) (hc : EM X c mc) (hm : lastMarks [op, op'] [b, c] = false := by with_unfolding_all rfl) : TM X (.Compare a [op, op'] [b, c] pos) (mChain g g' ma mb mc) := by
  intro ρ k ρ' q
  unfold mChain at q
  split at q
  · cases q
  · rename_i x ρ1 e1
    split at q
    · cases q
    · rename_i y ρ2 e2
      split at q
      · cases q
      · rename_i e3
        cases q
        refine pt_w (pt_chain ho ho' (ha _ _ _ e1) (hb _ _ _ e2) pe_never hm) fun σ H Q ⟨F, Hs, s, kk⟩ => ?_
        refine ⟨F, Hs, s, fun v Hs1 H1 s1 g1 d1 => ⟨F, Hs1, s1, fun u Hs2 H2 s2 g2 d2 => ?_⟩⟩
        refine hp F Hs2 H2 _ σ x y (.bl false) v u _ s2 ((d1.mono g2).b s2.sub) (d2.b s2.sub) (congrArg (Option.map T.bl) e3) fun w Hs3 H3 s3 g3 d3 => ⟨false, d_bl.mp d3, ?_⟩
        refine iteF ?_
        exact ⟨false, rfl, kk Hs3 H3 s3 ((g1.trans g2).trans g3)⟩
      · rename_i e3
        split at q
        · cases q
        · rename_i z ρ3 e4
          obtain ⟨k0, e5, q⟩ := Option.map_eq_some_iff.mp q
          cases q
          refine pt_w (pt_chain ho ho' (ha _ _ _ e1) (hb _ _ _ e2) (hc _ _ _ e4) hm) fun σ H Q ⟨F, Hs, s, kk⟩ => ?_
          refine ⟨F, Hs, s, fun v Hs1 H1 s1 g1 d1 => ⟨F, Hs1, s1, fun u Hs2 H2 s2 g2 d2 => ?_⟩⟩
          refine hp F Hs2 H2 _ σ x y (.bl true) v u _ s2 ((d1.mono g2).b s2.sub) (d2.b s2.sub) (congrArg (Option.map T.bl) e3) fun w Hs3 H3 s3 g3 d3 => ⟨true, d_bl.mp d3, ?_⟩
          refine iteT ?_
          refine ⟨F, Hs3, s3, fun w' Hs4 H4 s4 g4 d4 => ?_⟩
          exact hp' F Hs4 H4 _ σ y z (.bl k) u w' _ s4 ((d2.mono (g3.trans g4)).b s4.sub) (d4.b s4.sub) (congrArg (Option.map T.bl) e5) fun w2 Hs5 H5 s5 g5 d5 => ⟨k, d_bl.mp d5, kk Hs5 H5 s5 ((((g1.trans g2).trans g3).trans g4).trans g5)⟩
/-! ### arguments, displays -/
def mNil : AM' := fun ρ => some ([], ρ)
def mArg (m : EM') (r : AM') : AM' := fun ρ => match m ρ with
  | none => none
  | some (t, ρ1) => (r ρ1).map fun q => (.v t :: q.1, q.2)
def mArgB (i : Nat) (r : AM') : AM' := fun ρ => (peek ρ i).bind fun _ => (r ρ).map fun q => (.b i :: q.1, q.2)
theorem am_nil : AM X [] mNil := by
  intro ρ as ρ' q
  cases q
  exact pa_w pa_nil fun σ H Q ⟨F, Hs, s, k⟩ => k [] Hs H s (Gr.refl _) .nil
theorem am_e {e : Expr} {es : List Expr} {m : EM'} {r : AM'} (h : EM X e m) (hr : AM X es r) (hs : starEach (e :: es) X.env = (false, eval e X.env) :: starEach es X.env := by rfl) : AM X (e :: es) (mArg m r) := by
  intro ρ as ρ' q
  unfold mArg at q
  split at q
  · cases q
  · rename_i t ρ1 e1
    obtain ⟨⟨as2, ρ2⟩, e2, q⟩ := Option.map_eq_some_iff.mp q
    cases q
    exact pa_w (pa_cons (h _ _ _ e1) (hr _ _ _ e2) hs) fun σ H Q ⟨F, Hs, s, k⟩ => ⟨F, Hs, s, fun v Hs1 H1 s1 g1 d1 => ⟨F, Hs1, s1, fun vs Hs2 H2 s2 g2 d2 => k _ Hs2 H2 s2 (g1.trans g2) (.v (d1.mono g2) d2)⟩⟩
theorem am_b {i : Nat} {e : Expr} {es : List Expr} {r : AM'} (h : PE X e (tVar i)) (hr : AM X es r) (hs : starEach (e :: es) X.env = (false, eval e X.env) :: starEach es X.env := by rfl) : AM X (e :: es) (mArgB i r) := by
  intro ρ as ρ' q
  obtain ⟨t, e1, q⟩ := Option.bind_eq_some_iff.mp q
  obtain ⟨⟨as2, ρ2⟩, e2, q⟩ := Option.map_eq_some_iff.mp q
  cases q
  refine pa_w (pa_cons h (hr _ _ _ e2) hs) fun σ H Q ⟨F, Hs, s, k⟩ => ?_
  obtain ⟨v, e3, _⟩ := s.peek e1
  exact ⟨v, e3, F, Hs, s, fun vs Hs2 H2 s2 g2 d2 => k _ Hs2 H2 s2 g2 (.b e3 d2)⟩
/-- a star: the items of a list or a tuple -/
def items : T → Option (List T)
  | .lst ts => some ts
  | .rl ts => some ts
  | .tup ts => some ts
  | _ => none
theorem DB.items {K : PySem.W.Frag} {Hs H : Hp} {t : T} {v : V} {ts : List T} (g : Gr Hs H) (h : DB K Hs H t v) (e : items t = some ts) : ∃ a xs, v = .ref a ∧ (SqT K H a xs ∨ SqL K H a xs) ∧ DL K Hs ts xs := by
  cases t <;> simp only [Pu.items, Option.some.injEq, reduceCtorEq] at e
  · subst e
    obtain ⟨a, xs, e, h, d⟩ := h
    exact ⟨a, xs, e, .inr (SqL.of h), d⟩
  · subst e
    obtain ⟨a, xs, e, h, d⟩ := d_rl.mp h
    exact ⟨a, xs, e, .inr (gr_l g h), d⟩
  · subst e
    obtain ⟨a, xs, e, h, d⟩ := d_tup.mp h
    exact ⟨a, xs, e, .inl (gr_t g h), d⟩
theorem AL.dl {K : PySem.W.Frag} {Hs : Hp} {σ : L2.St} : ∀ {ts : List T} {xs : List V} {as : List Ar} {vs : List V}, DL K Hs ts xs → AL K Hs σ as vs → AL K Hs σ (ts.map Ar.v ++ as) (xs ++ vs)
  | [], _, _, _, h, g => by rw [dl_nil] at h; subst h; exact g
  | t :: ts, _, _, _, h, g => by
    obtain ⟨x, r, rfl, d, q⟩ := dl_cons.mp h
    exact .v d (AL.dl q g)
def mStar (m : EM') (r : AM') : AM' := fun ρ => match m ρ with
  | none => none
  | some (t, ρ1) => (items t).bind fun ts => (r ρ1).map fun q => (ts.map Ar.v ++ q.1, q.2)
def mStarB (i : Nat) (r : AM') : AM' := fun ρ => (peek ρ i).bind fun t => (items t).bind fun ts => (r ρ).map fun q => (ts.map Ar.v ++ q.1, q.2)
theorem am_star {e : Expr} {es : List Expr} {m : EM'} {r : AM'} {p : Pos} (h : EM X e m) (hr : AM X es r) (hs : starEach (.Starred e p :: es) X.env = (true, eval e X.env) :: starEach es X.env := by rfl) : AM X (.Starred e p :: es) (mStar m r) := by
  intro ρ as ρ' q
  unfold mStar at q
  split at q
  · cases q
  · rename_i t ρ1 e1
    obtain ⟨ts, e0, q⟩ := Option.bind_eq_some_iff.mp q
    obtain ⟨⟨as2, ρ2⟩, e2, q⟩ := Option.map_eq_some_iff.mp q
    cases q
    refine pa_w (StX.pa_star (h _ _ _ e1) (hr _ _ _ e2) hs) fun σ H Q ⟨F, Hs, s, k⟩ => ⟨F, Hs, s, fun v Hs1 H1 s1 g1 d1 => ?_⟩
    obtain ⟨a, xs, ev, hx, dl⟩ := (d1.b s1.sub).items s1.sub e0
    exact ⟨a, xs, ev, hx, F, Hs1, s1, fun vs Hs2 H2 s2 g2 d2 => k _ Hs2 H2 s2 (g1.trans g2) (AL.dl (dl.mono g2) d2)⟩
theorem am_starB {i : Nat} {e : Expr} {es : List Expr} {r : AM'} {p : Pos} (h : PE X e (tVar i)) (hr : AM X es r) (hs : starEach (.Starred e p :: es) X.env = (true, eval e X.env) :: starEach es X.env := by rfl) : AM X (.Starred e p :: es) (mStarB i r) := by
  intro ρ as ρ' q
  obtain ⟨t, e1, q⟩ := Option.bind_eq_some_iff.mp q
  obtain ⟨ts, e0, q⟩ := Option.bind_eq_some_iff.mp q
  obtain ⟨⟨as2, ρ2⟩, e2, q⟩ := Option.map_eq_some_iff.mp q
  cases q
  refine pa_w (StX.pa_star h (hr _ _ _ e2) hs) fun σ H Q ⟨F, Hs, s, k⟩ => ?_
  obtain ⟨v, e3, d⟩ := s.peek e1
  obtain ⟨a, xs, ev, hx, dl⟩ := d.items s.sub e0
  exact ⟨v, e3, a, xs, ev, hx, F, Hs, s, fun vs Hs2 H2 s2 g2 d2 => k _ Hs2 H2 s2 g2 (AL.dl (dl.mono g2) d2)⟩
/-- the values of arguments, all by value -/
def vals : List Ar → Option (List T)
  | [] => some []
  | .v t :: as => (vals as).map fun ts => t :: ts
  | .b _ :: _ => none
theorem AL.vals {K : PySem.W.Frag} {Hs : Hp} {σ : L2.St} : ∀ {as : List Ar} {vs : List V} {ts : List T}, AL K Hs σ as vs → vals as = some ts → DL K Hs ts vs
  | _, _, _, .nil, e => by cases e; exact DL.nil
  | _, _, _, .v h r, e => by
    obtain ⟨ts, e1, e2⟩ := Option.map_eq_some_iff.mp e
    cases e2
    exact DL.cons h (AL.vals r e1)
  | _, _, _, .b _ _, e => by cases e
/-- .. as they stand now -/
def nows (ρ : En) : List Ar → Option (List T)
  | [] => some []
  | .v t :: as => (nows ρ as).map fun ts => t :: ts
  | .b i :: as => (peek ρ i).bind fun t => (nows ρ as).map fun ts => t :: ts
inductive DBL (K : PySem.W.Frag) (Hs H : Hp) : List T → List V → Prop where
  | nil : DBL K Hs H [] []
  | cons {t : T} {x : V} {ts : List T} {xs : List V} (h : DB K Hs H t x) (r : DBL K Hs H ts xs) : DBL K Hs H (t :: ts) (x :: xs)
theorem AL.nows {K : PySem.W.Frag} {F : Fa} {Hs H : Hp} {ρ : En} {σ : L2.St} (s : SR K F Hs H ρ σ) : ∀ {as : List Ar} {vs : List V} {ts : List T}, AL K Hs σ as vs → nows ρ as = some ts → DBL K Hs H ts vs
  | _, _, _, .nil, e => by cases e; exact .nil
  | _, _, _, .v h r, e => by
    obtain ⟨ts, e1, e2⟩ := Option.map_eq_some_iff.mp e
    cases e2
    exact .cons (h.b s.sub) (AL.nows s r e1)
  | _, _, _, .b h r, e => by
    obtain ⟨t, e0, e⟩ := Option.bind_eq_some_iff.mp e
    obtain ⟨ts, e1, e2⟩ := Option.map_eq_some_iff.mp e
    cases e2
    obtain ⟨v, q, d⟩ := s.peek e0
    rw [h] at q
    cases q
    exact .cons d (AL.nows s r e1)
def mTup (a : AM') : EM' := fun ρ => (a ρ).bind fun r => (vals r.1).bind fun ts => if ts.length ≤ lim then some (.tup ts, r.2) else none
def mLst (a : AM') : EM' := fun ρ => (a ρ).bind fun r => (vals r.1).bind fun ts => if ts.length ≤ lim then some (.lst ts, r.2) else none
theorem em_tup {es : List Expr} {a : AM'} {x1} {pos : Pos} (h : AM X es a) : EM X (.Tuple es x1 pos) (mTup a) := by
  intro ρ t ρ' q
  obtain ⟨⟨as, ρ1⟩, e1, q⟩ := Option.bind_eq_some_iff.mp q
  obtain ⟨ts, e2, q⟩ := Option.bind_eq_some_iff.mp q
  split at q
  · rename_i hl
    cases q
    refine pe_w (pe_tup (h _ _ _ e1)) fun σ H Q ⟨F, Hs, s, k⟩ => ⟨F, Hs, s, fun vs Hs1 H1 s1 g1 d1 => ?_⟩
    have dl := d1.vals e2
    refine ⟨by rw [← dl.length]; exact Nat.le_trans hl lim_le, fun p hp => ?_⟩
    have g2 : Gr Hs1 (upd Hs1 p (.tup vs)) := Gr.up s1.sub hp
    exact k _ _ _ (s1.grow hp) (g1.trans g2) (d_tup.mpr ⟨p, vs, rfl, SqT.of upd_same, dl.mono g2⟩)
  · cases q
theorem ef_lst {es : List Expr} {a : AM'} {pos : Pos} (h : AM X es a) : EF X (.List es pos) (mLst a) := by
  intro ρ t ρ' q
  obtain ⟨⟨as, ρ1⟩, e1, q⟩ := Option.bind_eq_some_iff.mp q
  obtain ⟨ts, e2, q⟩ := Option.bind_eq_some_iff.mp q
  split at q
  · rename_i hl
    cases q
    refine pe_w (pe_lst (h _ _ _ e1)) fun σ H Q ⟨F, Hs, s, k⟩ => ⟨F, Hs, s, fun vs Hs1 H1 s1 g1 d1 => ?_⟩
    have dl := d1.vals e2
    refine ⟨by rw [← dl.length]; exact Nat.le_trans hl lim_le, fun p hp => ?_⟩
    exact k p _ Hs1 _ (s1.rs_none hp) (s1.side hp) g1 ⟨vs, upd_same, dl⟩
  · cases q
/-- a built-in's call -/
def PrimN (K : PySem.W.Frag) (r : List V → Hp → VK → Prop) (g : List T → Option T) : Prop := ∀ (F : Fa) (Hs H : Hp) (ρ : En) (σ : L2.St) (ts : List T) (z : T) (vs : List V) (Q : VK), SR K F Hs H ρ σ → DBL K Hs H ts vs → g ts = some z →
  (∀ w Hs' H', SR K F Hs' H' ρ σ → Gr Hs Hs' → D K Hs' z w → Q w H') → r vs H Q
def PrimNF (K : PySem.W.Frag) (r : List V → Hp → VK → Prop) (g : List T → Option T) : Prop := ∀ (F : Fa) (Hs H : Hp) (ρ : En) (σ : L2.St) (ts : List T) (z : T) (vs : List V) (Q : VK), SR K F Hs H ρ σ → DBL K Hs H ts vs → g ts = some z →
  (∀ p o Hs' H', F.rs p = none → SR K (F.res p o) Hs' H' ρ σ → Gr Hs Hs' → OC K Hs' H' z p → Q (.ref p) H') → r vs H Q
def mCall (g : List T → Option T) (a : AM') : EM' := fun ρ => (a ρ).bind fun r => (nows r.2 r.1).bind fun ts => (g ts).map fun z => (z, r.2)
theorem mCall_inv {g : List T → Option T} {a : AM'} {ρ ρ' : En} {t : T} (q : mCall g a ρ = some (t, ρ')) : ∃ as ts, a ρ = some (as, ρ') ∧ nows ρ' as = some ts ∧ g ts = some t := by
  obtain ⟨⟨as, ρ1⟩, e1, q⟩ := Option.bind_eq_some_iff.mp q
  obtain ⟨ts, e2, q⟩ := Option.bind_eq_some_iff.mp q
  obtain ⟨z, e3, q⟩ := Option.map_eq_some_iff.mp q
  cases q
  exact ⟨as, ts, e1, e2, e3⟩
theorem em_callR {r : List V → Hp → VK → Prop} {g : List T → Option T} {ee : Expr} {es : List Expr} {a : AM'} (hpe : ∀ t : TA, PA X es t → PE X ee (tCB r t)) (hp : PrimN X.K r g) (ha : AM X es a) : EM X ee (mCall g a) := by
  intro ρ t ρ' q
  obtain ⟨as, ts, e1, e2, e3⟩ := mCall_inv q
  exact pe_w (hpe _ (ha _ _ _ e1)) fun σ H Q ⟨F, Hs, s, k⟩ => ⟨F, Hs, s, fun vs Hs1 H1 s1 g1 d1 => hp F Hs1 H1 ρ' σ ts t vs Q s1 (d1.nows s1 e2) e3 fun w Hs2 H2 s2 g2 d2 => k w Hs2 H2 s2 (g1.trans g2) d2⟩
theorem ef_callR {r : List V → Hp → VK → Prop} {g : List T → Option T} {ee : Expr} {es : List Expr} {a : AM'} (hpe : ∀ t : TA, PA X es t → PE X ee (tCB r t)) (hp : PrimNF X.K r g) (ha : AM X es a) : EF X ee (mCall g a) := by
  intro ρ t ρ' q
  obtain ⟨as, ts, e1, e2, e3⟩ := mCall_inv q
  exact pe_w (hpe _ (ha _ _ _ e1)) fun σ H Q ⟨F, Hs, s, k⟩ => ⟨F, Hs, s, fun vs Hs1 H1 s1 g1 d1 => hp F Hs1 H1 ρ' σ ts t vs Q s1 (d1.nows s1 e2) e3 fun w o Hs2 H2 h0 s2 g2 d2 => k w o Hs2 H2 h0 s2 (g1.trans g2) d2⟩
end
end Pu
set_option Elab.async false
set_option linter.all false
set_option maxRecDepth 100000
set_option maxHeartbeats 1000000
namespace Pu
open PySem PySem.Spec PyProof.Rows L2
/-! ### statements -/
inductive Out where
  | nx (ρ : En) | rt (t : T) (ρ : En) | bk (ρ : En) | ct (ρ : En) | ex (c : Nat) (ρ : En)
abbrev SM' := En → Option Out
/-- what is wanted of an exception -/
abbrev Wi := Nat → L2.St → Hp → Prop
def W0 : Wi := fun _ _ _ => False
section
variable (K : PySem.W.Frag)
def Goes (W : Wi) (Dd : Ends) (F : Fa) (Hs : Hp) : Out → Prop
  | .nx ρ' => ∀ σ' Hs' H', Gr Hs Hs' → SR K F Hs' H' ρ' σ' → Dd.nx σ' H'
  | .rt t ρ' => ∀ σ' Hs' H' v, Gr Hs Hs' → SR K F Hs' H' ρ' σ' → D K Hs' t v → Dd.rt v H'
  | .bk ρ' => ∀ σ' Hs' H', Gr Hs Hs' → SR K F Hs' H' ρ' σ' → Dd.bk σ' H'
  | .ct ρ' => ∀ σ' Hs' H', Gr Hs Hs' → SR K F Hs' H' ρ' σ' → Dd.ct σ' H'
  | .ex c ρ' => ∀ σ' Hs' H', Gr Hs Hs' → SR K F Hs' H' ρ' σ' → W c σ' H'
def tS (W : Wi) (ρ : En) (o : Out) : TS := fun Dd σ H => ∃ F Hs, SR K F Hs H ρ σ ∧ Goes K W Dd F Hs o
def uS (W : Wi) (m : SM') : TS := fun Dd σ H => ∃ ρ o, m ρ = some o ∧ tS K W ρ o Dd σ H
end
theorem Goes.mono {K : PySem.W.Frag} {W : Wi} {Dd : Ends} {F : Fa} {Hs Hs' : Hp} {o : Out} (g : Gr Hs Hs') (h : Goes K W Dd F Hs o) : Goes K W Dd F Hs' o := by
  cases o with
  | nx ρ => exact fun σ H1 H2 g2 s => h σ H1 H2 (g.trans g2) s
  | rt t ρ => exact fun σ H1 H2 v g2 s d => h σ H1 H2 v (g.trans g2) s d
  | bk ρ => exact fun σ H1 H2 g2 s => h σ H1 H2 (g.trans g2) s
  | ct ρ => exact fun σ H1 H2 g2 s => h σ H1 H2 (g.trans g2) s
  | ex c ρ => exact fun σ H1 H2 g2 s => h σ H1 H2 (g.trans g2) s
section
variable {X : Cx} {W : Wi}
def SM (X : Cx) (W : Wi) (s : Stmt) (m : SM') : Prop := ∀ ρ o, m ρ = some o → PS X s (tS X.K W ρ o)
def SMs (X : Cx) (W : Wi) (s : List Stmt) (m : SM') : Prop := ∀ ρ o, m ρ = some o → PSs X s (tS X.K W ρ o)
theorem SMs.u {s : List Stmt} {m : SM'} (h : SMs X W s m) : PSs X s (uS X.K W m) := ⟨fun pins s σ H Q I ⟨ρ, o, q, k⟩ => (h ρ o q).run pins s σ H Q I k⟩
theorem pss_nev {sts : List Stmt} : PSs X sts (fun _ _ _ => False) := ⟨fun _ _ _ _ _ _ h => h.elim⟩
def mNx : SM' := fun ρ => some (.nx ρ)
def mSeq (a b : SM') : SM' := fun ρ => match a ρ with
  | some (.nx ρ1) => b ρ1
  | r => r
theorem sms_nil : SMs X W [] mNx := by
  intro ρ o q
  cases q
  exact pss_w pss_nil fun Dd σ H ⟨F, Hs, s, k⟩ => k σ Hs H (Gr.refl _) s
theorem sms_cons {st : Stmt} {rest : List Stmt} {a b : SM'} (h1 : SM X W st a) (h2 : SMs X W rest b) : SMs X W (st :: rest) (mSeq a b) := by
  intro ρ o q
  unfold mSeq at q
  split at q
  · rename_i ρ1 e
    refine pss_w (pss_cons (h1 _ _ e) (h2 _ _ q)) fun Dd σ H ⟨F, Hs, s, k⟩ => ⟨F, Hs, s, fun σ' Hs' H' g s' => ⟨F, Hs', s', k.mono g⟩⟩
  · rename_i ne
    refine pss_w (pss_cons (h1 _ _ q) pss_nev) fun Dd σ H ⟨F, Hs, s, k⟩ => ⟨F, Hs, s, ?_⟩
    cases o with
    | nx ρ1 => exact absurd q (ne ρ1)
    | rt t ρ => exact k
    | bk ρ => exact k
    | ct ρ => exact k
    | ex c ρ => exact k
theorem sms_one {st : Stmt} {a : SM'} (h1 : SM X W st a) : SMs X W [st] a := fun ρ o q => pss_one (h1 ρ o q)
theorem sm_pass {pos : Pos} : SM X W (.Pass pos) mNx := by
  intro ρ o q
  cases q
  exact ps_w ps_pass fun Dd σ H ⟨F, Hs, s, k⟩ => k σ Hs H (Gr.refl _) s
def mBk : SM' := fun ρ => some (.bk ρ)
def mCt : SM' := fun ρ => some (.ct ρ)
theorem sm_break {pos : Pos} : SM X W (.Break pos) mBk := by
  intro ρ o q
  cases q
  exact ps_w ps_break fun Dd σ H ⟨F, Hs, s, k⟩ => k σ Hs H (Gr.refl _) s
theorem sm_continue {pos : Pos} : SM X W (.Continue pos) mCt := by
  intro ρ o q
  cases q
  exact ps_w ps_continue fun Dd σ H ⟨F, Hs, s, k⟩ => k σ Hs H (Gr.refl _) s
/-- e -/
def mEx (m : EM') : SM' := fun ρ => (m ρ).map fun r => .nx r.2
theorem sm_expr {e : Expr} {m : EM'} {pos : Pos} (h : EM X e m) (hs : swapsWith e none pos.line X.env = pure false := by rfl) : SM X W (.Expr e pos) (mEx m) := by
  intro ρ o q
  obtain ⟨⟨t, ρ1⟩, e1, q⟩ := Option.map_eq_some_iff.mp q
  cases q
  exact ps_w (ps_expr (h _ _ _ e1) hs) fun Dd σ H ⟨F, Hs, s, k⟩ => ⟨F, Hs, s, fun v Hs' H' s' g _ => k σ Hs' H' g s'⟩
/-- return e -/
def mRet (m : EM') : SM' := fun ρ => (m ρ).map fun r => .rt r.1 r.2
theorem sm_ret {e : Expr} {m : EM'} {pos : Pos} (h : EM X e m) : SM X W (.Return (some e) pos) (mRet m) := by
  intro ρ o q
  obtain ⟨⟨t, ρ1⟩, e1, q⟩ := Option.map_eq_some_iff.mp q
  cases q
  exact ps_w (ps_ret (h _ _ _ e1)) fun Dd σ H ⟨F, Hs, s, k⟩ => ⟨F, Hs, s, fun v Hs' H' s' g d => k σ Hs' H' v g s' d⟩
def mRetN : SM' := fun ρ => some (.rt .non ρ)
theorem sm_retN {pos : Pos} : SM X W (.Return none pos) mRetN := by
  intro ρ o q
  cases q
  exact ps_w ps_retN fun Dd σ H ⟨F, Hs, s, k⟩ => k σ Hs H .non (Gr.refl _) s (d_non.mpr rfl)
/-- if -/
def mIfS (c : TM') (a b : SM') : SM' := fun ρ => match c ρ with
  | some (true, ρ1) => a ρ1
  | some (false, ρ1) => b ρ1
  | none => none
theorem sm_if {c : Expr} {a b : List Stmt} {mc : TM'} {ma mb : SM'} {pos : Pos} (hc : TM X c mc) (ha : SMs X W a ma) (hb : SMs X W b mb) : SM X W (.If c a b pos) (mIfS mc ma mb) := by
  intro ρ o q
  unfold mIfS at q
  split at q
  · rename_i ρ1 e
    refine ps_w (ps_if (hc _ _ _ e) (ha _ _ q) pss_nev) fun Dd σ H ⟨F, Hs, s, k⟩ => ⟨F, Hs, s, fun Hs1 H1 s1 g1 => ?_⟩
    refine iteT ?_
    exact ⟨F, Hs1, s1, k.mono g1⟩
  · rename_i ρ1 e
    refine ps_w (ps_if (hc _ _ _ e) pss_nev (hb _ _ q)) fun Dd σ H ⟨F, Hs, s, k⟩ => ⟨F, Hs, s, fun Hs1 H1 s1 g1 => ?_⟩
    refine iteF ?_
    exact ⟨F, Hs1, s1, k.mono g1⟩
  · cases q
/-- x = e: the value is stable | a new object of one's own -/
def noP (ρ : En) (i : Nat) : Bool := match ρ[i]? with
  | some (.p _) => false
  | some _ => true
  | none => false
def mSet (i : Nat) (m : EM') : SM' := fun ρ => match m ρ with
  | some (t, ρ1) => if noP ρ1 i = true then some (.nx (ρ1.set i (.i t))) else none
  | none => none
def mSetO (i : Nat) (m : EM') : SM' := fun ρ => match m ρ with
  | some (t, ρ1) => if noP ρ1 i = true then some (.nx (ρ1.set i (.o t))) else none
  | none => none
theorem sm_set {i : Nat} {x : Str} {e : Expr} {m : EM'} {pos pos' : Pos} (hN : X.N.Nodup) (hi : X.N[i]? = some x) (hx : Loc X.env.scope x) (h : EM X e m) (hs : swapsWith e (some (.Name x pos')) pos.line X.env = pure false := by rfl)
    (hf : X.fn x = true ∨ X.env.scope.names.lookup x = some .local := by first | exact .inl rfl | exact .inr rfl | assumption) : SM X W (.Assign [.Name x pos'] e pos) (mSet i m) := by
  intro ρ o q
  unfold mSet at q
  split at q
  · rename_i t ρ1 e1
    split at q
    · cases q
      exact ps_w (ps_set hN hi hx (h _ _ _ e1) hs hf) fun Dd σ H ⟨F, Hs, s, k⟩ => ⟨F, Hs, s, fun v Hs' H' s' g d => k _ Hs' H' g (s'.set d)⟩
    · cases q
  · cases q
theorem sm_setO {i : Nat} {x : Str} {e : Expr} {m : EM'} {pos pos' : Pos} (hN : X.N.Nodup) (hi : X.N[i]? = some x) (hx : Loc X.env.scope x) (h : EF X e m) (hs : swapsWith e (some (.Name x pos')) pos.line X.env = pure false := by rfl)
    (hf : X.fn x = true ∨ X.env.scope.names.lookup x = some .local := by first | exact .inl rfl | exact .inr rfl | assumption) : SM X W (.Assign [.Name x pos'] e pos) (mSetO i m) := by
  intro ρ o q
  unfold mSetO at q
  split at q
  · rename_i t ρ1 e1
    split at q
    · cases q
      exact ps_w (ps_set hN hi hx (h _ _ _ e1) hs hf) fun Dd σ H ⟨F, Hs, s, k⟩ => ⟨F, Hs, s, fun p o Hs' H' h0 s' g oc => k _ Hs' H' g (s'.setO h0 oc)⟩
    · cases q
  · cases q
/-! targets -/
abbrev GM' := T → En → Option En
/-- the slots outside js are as they were -/
def Off (js : List Nat) (σ σ' : L2.St) : Prop := σ'.length = σ.length ∧ ∀ j, j ∉ js → σ'[j]? = σ[j]?
theorem Off.refl (js : List Nat) (σ : L2.St) : Off js σ σ := ⟨rfl, fun _ _ => rfl⟩
theorem Off.trans {js : List Nat} {a b c : L2.St} (h : Off js a b) (g : Off js b c) : Off js a c := ⟨g.1.trans h.1, fun j n => (g.2 j n).trans (h.2 j n)⟩
def tG (K : PySem.W.Frag) (js : List Nat) (t : T) (ρ ρ' : En) : TG := fun v σ H Q => ∃ F Hs, SR K F Hs H ρ σ ∧ D K Hs t v ∧ ∀ σ', SR K F Hs H ρ' σ' → Off js σ σ' → Q σ' H
def tGs (K : PySem.W.Frag) (js : List Nat) (ts : List T) (ρ ρ' : En) : TGs := fun vs σ H Q => ∃ F Hs, SR K F Hs H ρ σ ∧ DL K Hs ts vs ∧ ∀ σ', SR K F Hs H ρ' σ' → Off js σ σ' → Q σ' H
def GM (X : Cx) (tg : Expr) (js : List Nat) (g : GM') : Prop := ∀ t ρ ρ', g t ρ = some ρ' → PG X tg (tG X.K js t ρ ρ')
def GMs (X : Cx) (tgs : List Expr) (js : List Nat) (g : List T → En → Option En) : Prop := ∀ ts ρ ρ', g ts ρ = some ρ' → PGs X tgs (tGs X.K js ts ρ ρ')
theorem pg_w {e : Expr} {t t' : TG} (h : PG X e t) (w : ∀ v σ H Q, t' v σ H Q → t v σ H Q) : PG X e t' := ⟨fun pins s σ H v u Q I r q => h.run pins s σ H v u Q I r (w v σ H Q q)⟩
theorem pgs_w {e : List Expr} {t t' : TGs} (h : PGs X e t) (w : ∀ v σ H Q, t' v σ H Q → t v σ H Q) : PGs X e t' := ⟨fun pins s σ H v u Q I r q => h.run pins s σ H v u Q I r (w v σ H Q q)⟩
def uG (K : PySem.W.Frag) (js : List Nat) (g : GM') : TG := fun v σ H Q => ∃ t ρ ρ', g t ρ = some ρ' ∧ tG K js t ρ ρ' v σ H Q
theorem GM.u {tg : Expr} {js : List Nat} {g : GM'} (h : GM X tg js g) : PG X tg (uG X.K js g) := ⟨fun pins s σ H v u Q I r ⟨t, ρ, ρ', q, k⟩ => (h t ρ ρ' q).run pins s σ H v u Q I r k⟩
def gN (i : Nat) : GM' := fun t ρ => if noP ρ i = true then some (ρ.set i (.i t)) else none
theorem gm_name {i : Nat} {x : Str} {js : List Nat} {pos : Pos} (hN : X.N.Nodup) (hi : X.N[i]? = some x) (hx : Loc X.env.scope x) (hj : i ∈ js)
    (hf : X.fn x = true ∨ X.env.scope.names.lookup x = some .local := by first | exact .inl rfl | exact .inr rfl | assumption) : GM X (.Name x pos) js (gN i) := by
  intro t ρ ρ' q
  unfold gN at q
  split at q
  · cases q
    refine pg_w (pg_name hN hi hx hf) fun v σ H Q ⟨F, Hs, s, d, k⟩ => k _ (s.set d) ⟨by simp, fun j n => ?_⟩
    have c : i ≠ j := fun z => n (by rw [← z]; exact hj)
    exact List.getElem?_set_ne c
  · cases q
def gsNil : List T → En → Option En := fun ts ρ => match ts with
  | [] => some ρ
  | _ => none
def gsCons (g : GM') (r : List T → En → Option En) : List T → En → Option En := fun ts ρ => match ts with
  | t :: ts => (g t ρ).bind (r ts)
  | [] => none
theorem gms_nil {js : List Nat} : GMs X [] js gsNil := by
  intro ts ρ ρ' q
  cases ts with
  | nil =>
    cases q
    exact pgs_w pgs_nil fun v σ H Q ⟨F, Hs, s, d, k⟩ => ⟨dl_nil.mp d, k σ s (Off.refl _ _)⟩
  | cons t ts => cases q
theorem gms_cons {e : Expr} {es : List Expr} {js : List Nat} {g : GM'} {r : List T → En → Option En} (h1 : GM X e js g) (h2 : GMs X es js r)
    (hs : (assignEach (e :: es) X.env).map (·.2) = assign e X.env :: (assignEach es X.env).map (·.2) := by rfl) : GMs X (e :: es) js (gsCons g r) := by
  intro ts ρ ρ' q
  cases ts with
  | nil => cases q
  | cons t ts =>
    obtain ⟨ρ1, e1, e2⟩ := Option.bind_eq_some_iff.mp q
    refine pgs_w (pgs_cons (h1 _ _ _ e1) (h2 _ _ _ e2) hs) fun vs σ H Q ⟨F, Hs, s, d, k⟩ => ?_
    obtain ⟨x, xs, ev, d1, d2⟩ := dl_cons.mp d
    exact ⟨x, xs, ev, F, Hs, s, d1, fun σ' s' o' => ⟨F, Hs, s', d2, fun σ2 s2 o2 => k σ2 s2 (o'.trans o2)⟩⟩
def gT (n : Nat) (g : List T → En → Option En) : GM' := fun t ρ => match t with
  | .tup ts => if ts.length = n then g ts ρ else none
  | _ => none
theorem gm_tup {es : List Expr} {k : Nat} {js : List Nat} {g : List T → En → Option En} {n : Nat} {pos : Pos} (hc : X.calm = true) (h : GMs X es js g)
    (hn : (assignEach es X.env).length = n := by rfl) (hst : (assignEach es X.env).findIdx? (·.1) = none := by rfl) : GM X (.Tuple es k pos) js (gT n g) := by
  intro t ρ ρ' q
  cases t <;> simp only [gT, reduceCtorEq] at q
  rename_i ts
  split at q
  · rename_i hl
    refine pg_w (pg_tup hc (h _ _ _ q) hn hst) fun v σ H Q ⟨F, Hs, s, d, k⟩ => ?_
    obtain ⟨a, xs, ev, ht, dl⟩ := d_tup.mp d
    exact ⟨a, xs, ev, gr_t s.sub ht, by rw [← dl.length]; exact hl, F, Hs, s, dl, k⟩
  · cases q
/-- target = e -/
def mAsg (m : EM') (g : GM') : SM' := fun ρ => match m ρ with
  | some (t, ρ1) => (g t ρ1).map .nx
  | none => none
theorem sm_asg {tg e : Expr} {m : EM'} {js : List Nat} {g : GM'} {pos : Pos} (he : EM X e m) (hg : GM X tg js g) (hs : swapsWithSole [tg] e pos.line X.env = pure false := by rfl) (hw : swappedStores [tg] e X.env = pure none := by rfl)
    (h1 : (assignEach [tg] X.env).map (·.2) = [assign tg X.env] := by rfl) : SM X W (.Assign [tg] e pos) (mAsg m g) := by
  intro ρ o q
  unfold mAsg at q
  split at q
  · rename_i t ρ1 e1
    obtain ⟨ρ2, e2, q⟩ := Option.map_eq_some_iff.mp q
    cases q
    exact ps_w (ps_asg (he _ _ _ e1) (hg _ _ _ e2) hs hw h1) fun Dd σ H ⟨F, Hs, s, k⟩ => ⟨F, Hs, s, fun v Hs' H' s' g d => ⟨F, Hs', s', d, fun σ' s2 _ => k σ' Hs' H' g s2⟩⟩
  · cases q
/-! loops -/
def whileL (c : TM') (b : SM') : Nat → En → Option Out
  | 0, _ => none
  | n + 1, ρ => match c ρ with
    | none => none
    | some (false, ρ1) => some (.nx ρ1)
    | some (true, ρ1) => match b ρ1 with
      | some (.nx ρ2) => whileL c b n ρ2
      | some (.ct ρ2) => whileL c b n ρ2
      | some (.bk ρ2) => some (.nx ρ2)
      | r => r
def mWhile (n : Nat) (c : TM') (b : SM') : SM' := whileL c b n
theorem sm_while {c : Expr} {body : List Stmt} {mc : TM'} {mb : SM'} {n : Nat} {pos : Pos} (hp : PassesOwn (model X.prog X.w) X.A X.env X.xe) (hc : TM X c mc) (hb : SMs X W body mb) : SM X W (.While c body [] pos) (mWhile n mc mb) := by
  intro ρ o q
  refine ps_w (ps_while hp hc.u hb.u) fun Dd σ H ⟨F, Hs, s, k⟩ => ?_
  refine ⟨fun m σ' H' => ∃ ρ' Hs', Gr Hs Hs' ∧ SR X.K F Hs' H' ρ' σ' ∧ whileL mc mb m ρ' = some o, ⟨n, ρ, Hs, Gr.refl _, s, q⟩, ?_⟩
  rintro m σ1 H1 ⟨ρ1, Hs1, g1, s1, w⟩
  cases m with
  | zero => cases w
  | succ m =>
    unfold whileL at w
    split at w
    · cases w
    · rename_i ρ2 e
      cases w
      refine ⟨ρ1, false, ρ2, e, F, Hs1, s1, fun Hs2 H2 s2 g2 => ?_⟩
      refine iteF ?_
      exact k σ1 Hs2 H2 (g1.trans g2) s2
    · rename_i ρ2 e
      refine ⟨ρ1, true, ρ2, e, F, Hs1, s1, fun Hs2 H2 s2 g2 => ?_⟩
      refine iteT ?_
      refine ⟨fun σ' H' => ∃ ρ' Hs', Gr Hs Hs' ∧ SR X.K F Hs' H' ρ' σ' ∧ whileL mc mb m ρ' = some o, fun σ' H' h => ⟨m, Nat.lt_succ_self m, h⟩, ?_⟩
      split at w
      · rename_i ρ3 e3
        exact ⟨ρ2, _, e3, F, Hs2, s2, fun σ' Hs' H' g' s' => ⟨ρ3, Hs', (g1.trans g2).trans g', s', w⟩⟩
      · rename_i ρ3 e3
        exact ⟨ρ2, _, e3, F, Hs2, s2, fun σ' Hs' H' g' s' => ⟨ρ3, Hs', (g1.trans g2).trans g', s', w⟩⟩
      · rename_i ρ3 e3
        cases w
        exact ⟨ρ2, _, e3, F, Hs2, s2, fun σ' Hs' H' g' s' => k σ' Hs' H' ((g1.trans g2).trans g') s'⟩
      · rename_i n1 n2 n3
        refine ⟨ρ2, o, w, F, Hs2, s2, ?_⟩
        have k' := k.mono (g1.trans g2)
        cases o with
        | nx ρ => exact absurd w (n1 ρ)
        | rt t ρ => exact k'
        | bk ρ => exact absurd w (n3 ρ)
        | ct ρ => exact absurd w (n2 ρ)
        | ex c ρ => exact k'
/-- what a loop walks -/
structure WT (K : PySem.W.Frag) (J : It) (ts : List T) (Hs : Hp) : Prop where
  goes : ∀ i H, i < ts.length → Gr Hs H → J.go i H
  stops : ∀ H, Gr Hs H → J.stop ts.length H
  yields : ∀ i H x H' t, ts[i]? = some t → Gr Hs H → J.yld i H x H' → (H' = H ∧ D K Hs t x) ∨ ∃ p xs us, x = .ref p ∧ H p = none ∧ H' = upd H p (.tup xs) ∧ t = .tup us ∧ DL K Hs us xs
theorem WT.mono {K : PySem.W.Frag} {J : It} {ts : List T} {Hs Hs' : Hp} (g : Gr Hs Hs') (w : WT K J ts Hs) : WT K J ts Hs' :=
  ⟨fun i H h g' => w.goes i H h (g.trans g'), fun H g' => w.stops H (g.trans g'), fun i H x H' t e g' y => by
    rcases w.yields i H x H' t e (g.trans g') y with ⟨a, b⟩ | ⟨p, xs, us, a, b, c, d, e⟩
    · exact .inl ⟨a, b.mono g⟩
    · exact .inr ⟨p, xs, us, a, b, c, d, e.mono g⟩⟩
abbrev IM' := En → Option (List T × En)
def tI (K : PySem.W.Frag) (ρ : En) (ts : List T) (ρ' : En) : TI := fun σ H R => ∃ F Hs, SR K F Hs H ρ σ ∧ ∀ J Hs' H', SR K F Hs' H' ρ' σ → Gr Hs Hs' → WT K J ts Hs' → R J H'
def IM (X : Cx) (tg iter : Expr) (m : IM') : Prop := ∀ ρ ts ρ', m ρ = some (ts, ρ') → PI X tg iter (tI X.K ρ ts ρ')
theorem pi_w {tg iter : Expr} {t t' : TI} (h : PI X tg iter t) (w : ∀ σ H Q, t' σ H Q → t σ H Q) : PI X tg iter t' := ⟨fun pins s σ H Q I q => h.run pins s σ H Q I (w σ H Q q)⟩
def forL (g : GM') (b : SM') : List T → En → Option Out
  | [], ρ => some (.nx ρ)
  | t :: ts, ρ => match g t ρ with
    | none => none
    | some ρ1 => match b ρ1 with
      | some (.nx ρ2) => forL g b ts ρ2
      | some (.ct ρ2) => forL g b ts ρ2
      | some (.bk ρ2) => some (.nx ρ2)
      | r => r
def mFor (it : IM') (g : GM') (b : SM') : SM' := fun ρ => match it ρ with
  | none => none
  | some (ts, ρ1) => forL g b ts ρ1
/-- an item as it is drawn: it stands, or its tuple is new -/
theorem drawn_item {K : PySem.W.Frag} {F : Fa} {Hs H H' : Hp} {ρ : En} {σ : L2.St} {t : T} {x : V} (s : SR K F Hs H ρ σ)
    (y : (H' = H ∧ D K Hs t x) ∨ ∃ p xs us, x = .ref p ∧ H p = none ∧ H' = upd H p (.tup xs) ∧ t = .tup us ∧ DL K Hs us xs) : ∃ Hs', Gr Hs Hs' ∧ SR K F Hs' H' ρ σ ∧ D K Hs' t x := by
  rcases y with ⟨rfl, d⟩ | ⟨p, xs, us, rfl, hn, rfl, rfl, d⟩
  · exact ⟨Hs, Gr.refl _, s, d⟩
  · have g : Gr Hs (upd Hs p (.tup xs)) := Gr.up s.sub hn
    exact ⟨_, g, s.grow hn, d_tup.mpr ⟨p, xs, rfl, SqT.of upd_same, d.mono g⟩⟩
theorem sm_for {tg iter : Expr} {body : List Stmt} {it : IM'} {js : List Nat} {g : GM'} {mb : SM'} {pos : Pos} (hp : PassesOwn (model X.prog X.w) X.A X.env X.xe) (hc : X.calm = true) (hi : IM X tg iter it) (hg : GM X tg js g) (hb : SMs X W body mb)
    (hs : ∀ x, foldedSetIterable iter X.env x = pure x := by intro _; rfl) : SM X W (.For tg iter body [] pos) (mFor it g mb) := by
  intro ρ o q
  unfold mFor at q
  split at q
  · cases q
  rename_i ts ρ1 e1
  refine ps_w (ps_for hp hc (hi _ _ _ e1) hg.u hb.u hs) fun Dd σ H ⟨F, Hs, s, k⟩ => ⟨F, Hs, s, fun J Hs1 H1 s1 g1 w => ?_⟩
  refine ⟨fun i m σ' H' => m = ts.length - i ∧ i ≤ ts.length ∧ ∃ ρ' Hs', Gr Hs1 Hs' ∧ SR X.K F Hs' H' ρ' σ' ∧ forL g mb (ts.drop i) ρ' = some o, ⟨ts.length, by simp, Nat.zero_le _, ρ1, Hs1, Gr.refl _, s1, q⟩, ?_⟩
  rintro i m σ' H' ⟨rfl, hi, ρ', Hs', g', s', f⟩
  by_cases hlt : i < ts.length
  · refine .inr ⟨w.goes i H' hlt (g'.trans s'.sub), ?_⟩
    rw [List.drop_eq_getElem_cons hlt] at f
    unfold forL at f
    split at f
    · cases f
    rename_i ρ2 e2
    refine ⟨fun σ3 H3 => ∃ ρ3 Hs3, Gr Hs1 Hs3 ∧ SR X.K F Hs3 H3 ρ3 σ3 ∧ forL g mb (ts.drop (i + 1)) ρ3 = some o, fun σ3 H3 h => ⟨ts.length - (i + 1), by omega, rfl, hlt, h⟩, fun x H2 y => ?_⟩
    obtain ⟨Hs2, g2, s2, d2⟩ := drawn_item s' ((w.mono g').yields i H' x H2 _ (List.getElem?_eq_getElem hlt) s'.sub y)
    refine ⟨_, _, _, e2, F, Hs2, s2, d2, fun σ3 s3 _ => ?_⟩
    have gg : Gr Hs1 Hs2 := g'.trans g2
    split at f
    · rename_i ρ4 e4
      exact ⟨_, _, e4, F, Hs2, s3, fun σ4 Hs4 H4 g4 s4 => ⟨ρ4, Hs4, gg.trans g4, s4, f⟩⟩
    · rename_i ρ4 e4
      exact ⟨_, _, e4, F, Hs2, s3, fun σ4 Hs4 H4 g4 s4 => ⟨ρ4, Hs4, gg.trans g4, s4, f⟩⟩
    · rename_i ρ4 e4
      cases f
      exact ⟨_, _, e4, F, Hs2, s3, fun σ4 Hs4 H4 g4 s4 => k σ4 Hs4 H4 ((g1.trans gg).trans g4) s4⟩
    · rename_i n1 n2 n3
      refine ⟨_, _, f, F, Hs2, s3, ?_⟩
      have k' := k.mono (g1.trans gg)
      cases o with
      | nx ρ => exact absurd f (n1 ρ)
      | rt t ρ => exact k'
      | bk ρ => exact absurd f (n3 ρ)
      | ct ρ => exact absurd f (n2 ρ)
      | ex c ρ => exact k'
  · have e : i = ts.length := by omega
    subst e
    rw [List.drop_length] at f
    cases f
    exact .inl ⟨w.stops H' (g'.trans s'.sub), k σ' Hs' H' (g1.trans g') s'⟩
end
end Pu
set_option Elab.async false
set_option linter.all false
set_option maxRecDepth 100000
set_option maxHeartbeats 1000000
namespace Pu
open PySem PySem.Spec PyProof.Rows L2
/-! ### comprehensions -/
def wipeE (ρ : En) : List Nat → En
  | [] => ρ
  | v :: vs => (wipeE ρ vs).set v .u
theorem wipeE_out {ρ : En} {i : Nat} : ∀ {vs : List Nat}, i ∉ vs → (wipeE ρ vs)[i]? = ρ[i]?
  | [], _ => rfl
  | v :: vs, h => by
    have h1 : v ≠ i := fun e => h (by rw [e]; exact List.mem_cons_self)
    have h2 : i ∉ vs := fun m => h (List.mem_cons_of_mem _ m)
    unfold wipeE
    rw [List.getElem?_set_ne h1]
    exact wipeE_out h2
theorem wipeE_len (ρ : En) : ∀ vs : List Nat, (wipeE ρ vs).length = ρ.length
  | [] => rfl
  | v :: vs => by unfold wipeE; rw [List.length_set, wipeE_len ρ vs]
theorem wipeE_in {ρ : En} {i : Nat} {s : Sl} : ∀ {vs : List Nat}, i ∈ vs → (wipeE ρ vs)[i]? = some s → s = .u
  | [], h, _ => by cases h
  | v :: vs, h, e => by
    unfold wipeE at e
    rcases get_set_i e with ⟨_, rfl⟩ | ⟨c, e⟩
    · rfl
    · rcases List.mem_cons.mp h with z | z
      · exact absurd z.symm c
      · exact wipeE_in z e
theorem wipe_in {σ : L2.St} {i : Nat} {s : Option V} : ∀ {vs : List Nat}, i ∈ vs → (wipe σ vs)[i]? = some s → s = none
  | [], h, _ => by cases h
  | v :: vs, h, e => by
    unfold wipe at e
    rcases get_set_i e with ⟨_, rfl⟩ | ⟨c, e⟩
    · rfl
    · rcases List.mem_cons.mp h with z | z
      · exact absurd z.symm c
      · exact wipe_in z e
theorem off_wipe (σ : L2.St) (vs : List Nat) : Off vs σ (wipe σ vs) := ⟨wipe_length σ vs, fun j n => wipe_out n⟩
theorem Off.symm {js : List Nat} {a b : L2.St} (h : Off js a b) : Off js b a := ⟨h.1.symm, fun j n => (h.2 j n).symm⟩
theorem Off.sub {js ks : List Nat} {a b : L2.St} (h : Off js a b) (s : ∀ j ∈ js, j ∈ ks) : Off ks a b := ⟨h.1, fun j n => h.2 j fun m => n (s j m)⟩
theorem wipe_off {vs : List Nat} {a b : L2.St} (h : Off vs a b) : wipe b vs = wipe a vs := by
  apply List.ext_getElem?
  intro j
  by_cases c : j ∈ vs
  · have e1 : (wipe a vs).length = (wipe b vs).length := by rw [wipe_length, wipe_length, h.1]
    by_cases l : j < (wipe a vs).length
    · have l2 : j < (wipe b vs).length := by omega
      have q1 := wipe_in c (List.getElem?_eq_getElem l)
      have q2 := wipe_in c (List.getElem?_eq_getElem l2)
      rw [List.getElem?_eq_getElem l, List.getElem?_eq_getElem l2, q1, q2]
    · rw [List.getElem?_eq_none (by omega), List.getElem?_eq_none (by omega)]
  · rw [wipe_out c, wipe_out c, h.2 j c]
section
variable {K : PySem.W.Frag} {F : Fa} {Hs H : Hp} {ρ : En} {σ σ' : L2.St}
theorem SR.off (s : SR K F Hs H ρ σ) {vs : List Nat} (h : Off vs σ σ') : SR K F Hs H (wipeE ρ vs) σ' := by
  obtain ⟨ad, h1, h2, h3⟩ := s.slots
  have fix : ∀ i x, (wipeE ρ vs)[i]? = some x → x.isO = true → i ∉ vs ∧ ρ[i]? = some x := fun i x e o => by
    by_cases c : i ∈ vs
    · rw [wipeE_in c e] at o; cases o
    · rw [wipeE_out c] at e; exact ⟨c, e⟩
  refine ⟨s.sub, s.low, s.new, s.bas, s.dom, by rw [wipeE_len, h.1]; exact s.len, ⟨ad, fun i x e => ?_, fun i j x y n ei ej ox oy => ?_, fun i x e o => ?_⟩, s.rsv⟩
  · by_cases c : i ∈ vs
    · rw [wipeE_in c e]; trivial
    · rw [wipeE_out c] at e
      rw [h.2 i c]
      exact h1 i x e
  · exact h2 i j x y n (fix i x ei ox).2 (fix j y ej oy).2 ox oy
  · exact h3 i x (fix i x e o).2 o
end
def lcL (vs : List Nat) (g : GM') (c : TM') (e : EM') : List T → En → List T → Option (List T × En)
  | [], ρ, acc => some (acc, wipeE ρ vs)
  | t :: r, ρ, acc => match g t ρ with
    | none => none
    | some ρ1 => match c ρ1 with
      | none => none
      | some (false, ρ2) => lcL vs g c e r (wipeE ρ2 vs) acc
      | some (true, ρ2) => match e ρ2 with
        | none => none
        | some (y, ρ3) => lcL vs g c e r (wipeE ρ3 vs) (acc ++ [y])
def mLc (vs : List Nat) (it : IM') (g : GM') (c : TM') (e : EM') : EM' := fun ρ => match it ρ with
  | none => none
  | some (ts, ρ1) => if ts.length ≤ lim then (lcL vs g c e ts (wipeE ρ1 vs) []).map fun r => (.lst r.1, r.2) else none
def mYes : TM' := fun ρ => some (true, ρ)
section
variable {X : Cx} {W : Wi}
def TMs (X : Cx) (es : List Expr) (m : TM') : Prop := ∀ ρ b ρ', m ρ = some (b, ρ') → PTs X es (tT X.K ρ b ρ')
theorem pts_w {e : List Expr} {t t' : TT} (h : PTs X e t) (w : ∀ σ H Q, t' σ H Q → t σ H Q) : PTs X e t' := ⟨fun pins s σ H Q I q => h.run pins s σ H Q I (w σ H Q q)⟩
theorem tms_nil : TMs X [] mYes := by
  intro ρ b ρ' q
  cases q
  exact pts_w pts_nil fun σ H Q ⟨F, Hs, s, k⟩ => k Hs H s (Gr.refl _)
theorem tms_one {c : Expr} {m : TM'} (h : TM X c m) : TMs X [c] m := fun ρ b ρ' q => pts_one (h ρ b ρ' q)
theorem TMs.u {es : List Expr} {m : TM'} (h : TMs X es m) : PTs X es (uT X.K m) := ⟨fun pins s σ H Q I ⟨ρ, t, ρ', q, k⟩ => (h ρ t ρ' q).run pins s σ H Q I k⟩
/-- the reading of a comprehension -/
theorem lc_read {K : PySem.W.Frag} {it : IM'} {js vs : List Nat} {g : GM'} {mt : TM'} {me : EM'} (hj : ∀ j ∈ js, j ∈ vs) {ρ ρ1 ρ' : En} {t : T} {ts : List T} (e1 : it ρ = some (ts, ρ1)) (q : mLc vs it g mt me ρ = some (t, ρ')) {σ : L2.St} {H : Hp} {Q : VK}
    (h : tF K ρ t ρ' σ H Q) : tLc (tI K ρ ts ρ1) (uG K js g) (uT K mt) (uE K me) vs σ H Q := by
  obtain ⟨F, Hs, s, k⟩ := h
  unfold mLc at q
  rw [e1] at q
  have q : (if ts.length ≤ lim then (lcL vs g mt me ts (wipeE ρ1 vs) []).map fun r => ((.lst r.1, r.2) : T × En) else none) = some (t, ρ') := q
  by_cases hlim : ts.length ≤ lim
  case neg =>
    rw [if_neg hlim] at q
    cases q
  rw [if_pos hlim] at q
  obtain ⟨⟨ys, ρ2⟩, e2, q2⟩ := Option.map_eq_some_iff.mp q
  cases q2
  refine ⟨F, Hs, s, fun J Hs1 H1 s1 g1 w D hD => ?_⟩
  have h0 := s1.rs_none hD
  refine ⟨fun i m H' => m = ts.length - i ∧ i ≤ ts.length ∧ ∃ ρ3 Hs3 acc xs, Gr Hs1 Hs3 ∧ SR K (F.res D (.lst xs)) Hs3 H' ρ3 (wipe σ vs) ∧ DL K Hs3 acc xs ∧ xs.length ≤ i ∧ lcL vs g mt me (ts.drop i) ρ3 acc = some (ys, ρ2),
    ⟨ts.length, by simp, Nat.zero_le _, wipeE ρ1 vs, Hs1, [], [], Gr.refl _, (s1.off (off_wipe σ vs)).side hD, DL.nil, Nat.le_refl _, e2⟩, ?_⟩
  rintro i m H' ⟨rfl, hi, ρ3, Hs3, acc, xs, g3, s3, dl, hx, l⟩
  by_cases hlt : i < ts.length
  · refine .inr ⟨w.goes i H' hlt (g3.trans s3.sub), ?_⟩
    rw [List.drop_eq_getElem_cons hlt] at l
    unfold lcL at l
    split at l
    · cases l
    rename_i ρ4 e4
    refine ⟨fun H2 => ∃ ρ5 Hs5 acc xs, Gr Hs1 Hs5 ∧ SR K (F.res D (.lst xs)) Hs5 H2 ρ5 (wipe σ vs) ∧ DL K Hs5 acc xs ∧ xs.length ≤ i + 1 ∧ lcL vs g mt me (ts.drop (i + 1)) ρ5 acc = some (ys, ρ2), fun H2 h => ⟨ts.length - (i + 1), by omega, rfl, hlt, h⟩, fun x H2 y => ?_⟩
    obtain ⟨Hs4, g4, s4, d4⟩ := drawn_item s3 ((w.mono g3).yields i H' x H2 _ (List.getElem?_eq_getElem hlt) s3.sub y)
    refine ⟨_, _, _, e4, F.res D (.lst xs), Hs4, s4, d4, fun σ4 s5 off => ?_⟩
    have off' : Off vs (wipe σ vs) σ4 := off.sub hj
    have ew : wipe σ4 vs = wipe σ vs := by
      rw [wipe_off off', wipe_off (off_wipe σ vs)]
    refine ⟨ew, ?_⟩
    split at l
    · cases l
    · rename_i ρ5 e5
      refine ⟨_, _, _, e5, F.res D (.lst xs), Hs4, s5, fun Hs6 H6 s6 g6 => ?_⟩
      refine iteF ?_
      exact ⟨_, Hs6, acc, xs, (g3.trans g4).trans g6, s6.off off'.symm, dl.mono (g4.trans g6), by omega, l⟩
    · rename_i ρ5 e5
      refine ⟨_, _, _, e5, F.res D (.lst xs), Hs4, s5, fun Hs6 H6 s6 g6 => ?_⟩
      refine iteT ?_
      split at l
      · cases l
      rename_i yv ρ6 e6
      refine ⟨_, _, _, e6, F.res D (.lst xs), Hs6, s6, fun v Hs7 H7 s7 g7 d7 => ⟨xs, s7.at.1, ?_, ?_⟩⟩
      · have := lim_lt
        omega
      · refine ⟨_, Hs7, acc ++ [yv], xs ++ [v], ((g3.trans g4).trans g6).trans g7, (s7.off off'.symm).poke, (dl.mono ((g4.trans g6).trans g7)).append (DL.one d7), by simp; omega, l⟩
  · have e : i = ts.length := by omega
    subst e
    rw [List.drop_length] at l
    cases l
    refine .inl ⟨w.stops H' (g3.trans s3.sub), k D _ Hs3 H' h0 (s3.off (off_wipe σ vs).symm) (g1.trans g3) ⟨xs, s3.at.1, dl⟩⟩
theorem mLc_it {it : IM'} {vs : List Nat} {g : GM'} {mt : TM'} {me : EM'} {ρ ρ' : En} {t : T} (q : mLc vs it g mt me ρ = some (t, ρ')) : ∃ ts ρ1, it ρ = some (ts, ρ1) := by
  unfold mLc at q
  split at q
  · cases q
  · rename_i ts ρ1 e
    exact ⟨ts, ρ1, e⟩
theorem ef_lc {elt tg iter : Expr} {ifs : List Expr} {scope : Scope} {own : List (Str × Nat)} {pos : Pos} {it : IM'} {js : List Nat} {g : GM'} {mt : TM'} {me : EM'} (hc : X.calm = true) (hN : X.N.Nodup) (hi : IM X tg iter it) (ok : BlkOk X.N X.env.scope scope own) (hj : ∀ j ∈ js, j ∈ own.map (·.2))
    (hg : ∀ (s : Shared) (H : Hp) (C : Addr) (cl : List (Str × Addr)) (fp : List Addr), GM (X.blk s H scope (compEnvC scope cl C X.env) fp) tg js g)
    (ht : ∀ (s : Shared) (H : Hp) (C : Addr) (cl : List (Str × Addr)) (fp : List Addr), TMs (X.blk s H scope (compEnvC scope cl C X.env) fp) ifs mt)
    (he : ∀ (s : Shared) (H : Hp) (C : Addr) (cl : List (Str × Addr)) (fp : List Addr), EM (X.blk s H scope (compEnvC scope cl C X.env) fp) elt me) (hs : ∀ x, foldedSetIterable iter X.env x = pure x := by intro _; rfl) :
    EF X (.ListComp elt [⟨tg, iter, ifs, 0⟩] scope pos) (mLc (own.map (·.2)) it g mt me) := by
  intro ρ t ρ' q
  obtain ⟨ts, ρ1, e1⟩ := mLc_it q
  exact pe_w (pe_lc (g := uG X.K js g) (tt := uT X.K mt) (te := uE X.K me) hc hN (hi _ _ _ e1) ok (fun s H C cl fp => by exact (hg s H C cl fp).u) (fun s H C cl fp => by exact (ht s H C cl fp).u) (fun s H C cl fp => by exact (he s H C cl fp).u) hs) fun σ H Q h => lc_read hj e1 q h
/-- y = [..] -/
theorem sm_setLcO {i : Nat} {y : Str} {py : Pos} {elt tg iter : Expr} {ifs : List Expr} {scope : Scope} {own : List (Str × Nat)} {pos spos : Pos} {it : IM'} {js : List Nat} {g : GM'} {mt : TM'} {me : EM'} (hc : X.calm = true) (hN : X.N.Nodup) (hy : X.N[i]? = some y) (hyl : X.env.scope.names.lookup y = some .local)
    (hsw : swapsWith (.ListComp elt [⟨tg, iter, ifs, 0⟩] scope pos) (some (.Name y py)) spos.line X.env = pure true) (hi : IM X tg iter it) (ok : BlkOk X.N X.env.scope scope own) (hj : ∀ j ∈ js, j ∈ own.map (·.2))
    (hg : ∀ (s : Shared) (H : Hp) (C : Addr) (cl : List (Str × Addr)) (fp : List Addr), GM (X.blk s H scope (compEnvC scope cl C X.env) fp) tg js g)
    (ht : ∀ (s : Shared) (H : Hp) (C : Addr) (cl : List (Str × Addr)) (fp : List Addr), TMs (X.blk s H scope (compEnvC scope cl C X.env) fp) ifs mt)
    (he : ∀ (s : Shared) (H : Hp) (C : Addr) (cl : List (Str × Addr)) (fp : List Addr), EM (X.blk s H scope (compEnvC scope cl C X.env) fp) elt me) (hs : ∀ x, foldedSetIterable iter X.env x = pure x := by intro _; rfl) :
    SM X W (.Assign [.Name y py] (.ListComp elt [⟨tg, iter, ifs, 0⟩] scope pos) spos) (mSetO i (mLc (own.map (·.2)) it g mt me)) := by
  intro ρ o q
  unfold mSetO at q
  split at q
  · rename_i t ρ1 e1
    split at q
    · cases q
      obtain ⟨ts, ρ2, e2⟩ := mLc_it e1
      refine ps_w (ps_setLc (g := uG X.K js g) (tt := uT X.K mt) (te := uE X.K me) hc hN hy hyl hsw (hi _ _ _ e2) ok (fun s H C cl fp => by exact (hg s H C cl fp).u) (fun s H C cl fp => by exact (ht s H C cl fp).u) (fun s H C cl fp => by exact (he s H C cl fp).u) hs) fun Dd σ H ⟨F, Hs, s, k⟩ => ?_
      exact lc_read hj e2 e1 ⟨F, Hs, s, fun p o Hs' H' h0 s' g oc => k _ Hs' H' g (s'.setO h0 oc)⟩
    · cases q
  · cases q
/-- .. what it makes is stable -/
theorem SR.oi {K : PySem.W.Frag} {F : Fa} {Hs H : Hp} {ρ : En} {σ : L2.St} {i : Nat} {t : T} (s : SR K F Hs H (ρ.set i (.o t)) σ) (hi : i < ρ.length) : ∃ Hs', Gr Hs Hs' ∧ SR K F Hs' H (ρ.set i (.i t)) σ := by
  obtain ⟨v, Hs', _, g, _, s'⟩ := s.frz (i := i) (t := t) (List.getElem?_set_self hi)
  rw [List.set_set] at s'
  exact ⟨Hs', g, s'⟩
theorem noP_lt {ρ : En} {i : Nat} (h : noP ρ i = true) : i < ρ.length := by
  unfold noP at h
  split at h
  · cases h
  · rename_i e
    exact (List.getElem?_eq_some_iff.mp e).1
  · cases h
theorem sm_frz {s : Stmt} {i : Nat} {m : EM'} (h : SM X W s (mSetO i m)) : SM X W s (mSet i m) := by
  intro ρ o q
  unfold mSet at q
  split at q
  · rename_i t ρ1 e1
    split at q
    · rename_i hn
      cases q
      have q2 : mSetO i m ρ = some (.nx (ρ1.set i (.o t))) := by
        unfold mSetO
        rw [e1]
        show (if noP ρ1 i = true then some (Out.nx (ρ1.set i (.o t))) else none) = _
        rw [if_pos hn]
      refine ps_w (h _ _ q2) fun Dd σ H ⟨F, Hs, s, k⟩ => ⟨F, Hs, s, fun σ' Hs' H' g s' => ?_⟩
      obtain ⟨Hs2, g2, s2⟩ := s'.oi (noP_lt hn)
      exact k σ' Hs2 H' (g.trans g2) s2
    · cases q
  · cases q
/-! ### own objects -/
/-- the tree of an own slot -/
def ownT (ρ : En) (i : Nat) : Option T := match ρ[i]? with
  | some (.o t) => some t
  | some (.p t) => some t
  | _ => none
def putT (ρ : En) (i : Nat) (t : T) : En := ρ.set i (match ρ[i]? with | some (.p _) => .p t | _ => .o t)
theorem ownT_or {ρ : En} {i : Nat} {t : T} (h : ownT ρ i = some t) : ρ[i]? = some (.o t) ∨ ρ[i]? = some (.p t) := by
  unfold ownT at h
  split at h
  · rename_i e; cases h; exact .inl e
  · rename_i e; cases h; exact .inr e
  · cases h
/-- x.append(e) -/
def isLst : T → Bool
  | .lst _ => true
  | _ => false
def mApp (i : Nat) (m : EM') : SM' := fun ρ => (ownT ρ i).bind fun t0 => if isLst t0 = true then (match m ρ with
  | some (t, ρ1) => match ownT ρ1 i with
    | some (.lst ts) => if ts.length < lim then some (.nx (putT ρ1 i (.lst (ts ++ [t])))) else none
    | _ => none
  | none => none) else none
theorem sm_app {i : Nat} {o e : Expr} {apos cpos pos : Pos} {m : EM'} (ho : PE X o (tVar i)) (he : EM X e m) (hpe : ∀ t : TA, PA X [e] t → PE X (.Call (.Attribute o "append" apos) [e] [] cpos) (tBM X.K "list" rAppend (tVar i) t))
    (hse : starEach [e] X.env = (false, eval e X.env) :: starEach [] X.env := by rfl) (hs : swapsWith (.Call (.Attribute o "append" apos) [e] [] cpos) none pos.line X.env = pure false := by rfl) : SM X W (.Expr (.Call (.Attribute o "append" apos) [e] [] cpos) pos) (mApp i m) := by
  intro ρ oo q
  obtain ⟨t0, e0, q⟩ := Option.bind_eq_some_iff.mp q
  by_cases h0 : isLst t0 = true
  case neg =>
    rw [if_neg h0] at q
    cases q
  rw [if_pos h0] at q
  split at q
  · rename_i t ρ1 e1
    split at q
    · rename_i ts e2
      split at q
      · rename_i hl
        cases q
        refine ps_w (ps_expr (hpe _ (pa_cons (he _ _ _ e1) pa_nil hse)) hs) fun Dd σ H ⟨F, Hs, s, k⟩ => ?_
        obtain ⟨a, q1, oc0, _⟩ := s.write (ownT_or e0)
        refine ⟨.ref a, q1, ?_⟩
        -- it is a list now
        have ty : tyV X.K "list" (.ref a) H := by
          cases t0 <;> first | cases h0 | skip
          obtain ⟨xs, hx, _⟩ := oc0
          exact .inl ⟨rfl, xs, SqL.of hx⟩
        refine ⟨ty, F, Hs, s, fun v Hs1 H1 s1 g1 d1 => ?_⟩
        obtain ⟨a', q1', oc, wr⟩ := s1.write (ownT_or e2)
        rw [q1] at q1'
        cases q1'
        obtain ⟨xs, hx, dl⟩ := oc
        have hl2 := dl.length
        have := lim_lt
        refine ⟨a, xs, v, rfl, rfl, hx, by omega, ?_⟩
        exact k _ _ _ g1 (wr (.lst (ts ++ [t])) _ ⟨xs ++ [v], upd_same, dl.append (DL.one d1)⟩)
      · cases q
    · cases q
  · cases q
end
end Pu
set_option Elab.async false
set_option linter.all false
set_option maxRecDepth 100000
set_option maxHeartbeats 1000000
namespace Pu
open PySem PySem.Spec PyProof.Rows L2
/-! ### defs: what they promise -/
def ArgOk (K : PySem.W.Frag) (Hs H : Hp) (a : Addr) (s : Sl) (v : V) : Prop := match s with
  | .i t => D K Hs t v
  | .p t => v = .ref a ∧ Hs a = none ∧ OC K Hs H t a
  | _ => False
abbrev Fn := List Sl → Option (T × List Sl)
def spP (K : PySem.W.Frag) (n : Nat) (f : Fn) : Sp := fun vs H Q _ => vs.length = n ∧ ∃ (Hs : Hp) (as : List Sl) (ad : Nat → Addr) (t : T) (as' : List Sl), as.length = n ∧ Gr Hs H ∧
  (∀ i s, as[i]? = some s → ∃ v, vs[i]? = some v ∧ ArgOk K Hs H (ad i) s v) ∧ (∀ i j s t, i ≠ j → as[i]? = some (.p s) → as[j]? = some (.p t) → ad i ≠ ad j) ∧ f as = some (t, as') ∧
  ∀ v Hs' H', Gr Hs Hs' → Gr Hs' H' → (∀ p, Hs p = none → Hs' p ≠ none → H p = none) → (∀ p o, H p = some o → (∀ i t, as[i]? = some (.p t) → ad i ≠ p) → H' p = some o) → (∀ p, H' p = none → H p = none) →
    (∀ i t, as[i]? = some (.p t) → ∃ t', as'[i]? = some (.p t') ∧ Hs' (ad i) = none ∧ OC K Hs' H' t' (ad i)) → D K Hs' t v → Q v H'
/-- the parameters' objects are where they were -/
def okP : List Sl → En → Bool
  | [], _ => true
  | .p _ :: as, .p _ :: ρ => okP as ρ
  | .p _ :: _, _ => false
  | _ :: as, _ :: ρ => okP as ρ
  | _ :: _, [] => false
theorem okP_get : ∀ {as : List Sl} {ρ : En} {i : Nat} {t : T}, okP as ρ = true → as[i]? = some (.p t) → ∃ t', ρ[i]? = some (.p t')
  | [], _, _, _, _, e => by simp at e
  | .u :: as, ρ, i, t, h, e => by
    cases ρ with
    | nil => cases h
    | cons s ρ =>
      cases i with
      | zero => simp at e
      | succ i => exact okP_get (as := as) (ρ := ρ) (i := i) h (by simpa using e)
  | .i _ :: as, ρ, i, t, h, e => by
    cases ρ with
    | nil => cases h
    | cons s ρ =>
      cases i with
      | zero => simp at e
      | succ i => exact okP_get (as := as) (ρ := ρ) (i := i) h (by simpa using e)
  | .o _ :: as, ρ, i, t, h, e => by
    cases ρ with
    | nil => cases h
    | cons s ρ =>
      cases i with
      | zero => simp at e
      | succ i => exact okP_get (as := as) (ρ := ρ) (i := i) h (by simpa using e)
  | .p _ :: as, ρ, i, t, h, e => by
    cases ρ with
    | nil => cases h
    | cons s ρ =>
      cases s <;> first | cases h | skip
      cases i with
      | zero => exact ⟨_, rfl⟩
      | succ i => exact okP_get (as := as) (ρ := ρ) (i := i) h (by simpa using e)
/-- a def's body as a function: n parameters, N slots -/
def runF (n N : Nat) (m : SM') : Fn := fun as => match m (as ++ List.replicate (N - n) .u) with
  | some (.rt t ρ) => if okP as ρ = true then some (t, ρ.take n) else none
  | some (.nx ρ) => if okP as ρ = true then some (.non, ρ.take n) else none
  | _ => none
section
variable {P : Program} {w : World} {K : PySem.W.Frag} {mg : Str → Option Value} {base : Heap}
theorem get_app {as : List Sl} {m i : Nat} {s : Sl} (h : (as ++ List.replicate m Sl.u)[i]? = some s) : as[i]? = some s ∨ (as.length ≤ i ∧ s = .u) := by
  by_cases c : i < as.length
  · rw [List.getElem?_append_left c] at h
    exact .inl h
  · rw [List.getElem?_append_right (by omega)] at h
    refine .inr ⟨by omega, ?_⟩
    have := List.getElem?_eq_some_iff.mp h
    obtain ⟨_, e⟩ := this
    rw [List.getElem_replicate] at e
    exact e.symm
theorem fn_ok {x qual : Str} {st : Stmt} {f : Addr} {fd : FuncData} {N ps : List Str} {k : Nat} {m : SM'} (F : Fun K x qual st f fd) (S : FnScope N ps (defScope st)) (hn : ps.length ≤ N.length)
    (hbody : ∀ (cdv : Value) (A : Around) (outer : List Env) (s : Shared) (H : Hp) (E : XK), Room k (A.deeper (envOfC qual (defScope st) s.heap.objs.size f cdv)) → SMs (cxOf CX0 P w K mg base N qual (defScope st) f cdv A outer s H E).nox W0 (defBody st) m) :
    FnOk P w K mg base CX0 (k + 1) f fd ps (spP K ps.length (runF ps.length N.length m)) := by
  refine F.ok S (fun vs H Q E h => h.1) fun cdv A outer s H vs Q E hr h => ?_
  obtain ⟨hl, Hs, as, ad, t, as', hla, g, ha, hd, hf, q⟩ := h
  refine ⟨_, (hbody cdv A outer s H E hr).u, ?_⟩
  have inn : ∀ (i : Nat) (a : Addr), (match as[i]? with | some (Sl.p _) => some (ad i) | _ => none) = some a → ∃ t, as[i]? = some (Sl.p t) ∧ a = ad i := fun i a e => by
    split at e
    · rename_i u e2
      cases e
      exact ⟨u, e2, rfl⟩
    · cases e
  let F : Fa := ⟨Hs, H, fun i => match as[i]? with | some (.p _) => some (ad i) | _ => none, fun _ => none⟩
  have s0 : SR K F Hs H (as ++ List.replicate (N.length - ps.length) .u) (L2.start N vs) := by
    refine ⟨g, Gr.refl _, fun p a b => absurd a b, fun p o e _ => e, fun p e => e, ?_, ⟨ad, fun i sl e => ?_, fun i j a b n ei ej oa ob => ?_, fun i a e o => rfl⟩, fun p o e => by cases e⟩
    · unfold L2.start
      simp only [List.length_append, List.length_map, List.length_replicate]
      omega
    · rcases get_app e with e | ⟨_, rfl⟩
      · obtain ⟨v, ev, ok⟩ := ha i sl e
        have es : (L2.start N vs)[i]? = some (some v) := by
          unfold L2.start
          have hi : i < vs.length := (List.getElem?_eq_some_iff.mp ev).1
          rw [List.getElem?_append_left (by simpa using hi), List.getElem?_map, ev]
          rfl
        cases sl with
        | u => trivial
        | i t => exact ⟨v, es, ok⟩
        | o t => exact ok.elim
        | p t =>
          obtain ⟨rfl, h2, h3⟩ := ok
          refine ⟨es, h2, ?_, h3⟩
          show (match as[i]? with | some (Sl.p _) => some (ad i) | _ => none) = some (ad i)
          rw [e]
      · trivial
    · have fix : ∀ (i : Nat) (a : Sl), (as ++ List.replicate (N.length - ps.length) Sl.u)[i]? = some a → a.isO = true → ∃ t, as[i]? = some (Sl.p t) := fun i a e o => by
        rcases get_app e with e | ⟨_, rfl⟩
        · cases a with
          | u => cases o
          | i t => cases o
          | o t =>
            obtain ⟨v, _, ok⟩ := ha i _ e
            exact ok.elim
          | p t => exact ⟨t, e⟩
        · cases o
      obtain ⟨t1, e1⟩ := fix i a ei oa
      obtain ⟨t2, e2⟩ := fix j b ej ob
      exact hd i j t1 t2 n e1 e2
  -- the end
  have fin : ∀ t' ρ' σ' Hs' H' v, okP as ρ' = true → some (t', ρ'.take ps.length) = some (t, as') → Gr Hs Hs' → SR K F Hs' H' ρ' σ' → D K Hs' t' v → Q v H' := fun t' ρ' σ' Hs' H' v ok e g' s' d => by
    cases e
    refine q v Hs' H' g' s'.sub (fun p a b => s'.new p a b) (fun p o e n => s'.bas p o e fun i z => ?_) s'.dom (fun i u e => ?_) d
    · obtain ⟨u, e1, e2⟩ := inn i p z
      exact n i u e1 e2.symm
    · obtain ⟨t', e1⟩ := okP_get ok e
      have hi : i < ps.length := by
        have := (List.getElem?_eq_some_iff.mp e).1
        omega
      obtain ⟨ad2, h1, _, _⟩ := s'.slots
      obtain ⟨_, q2, q3, q4⟩ := h1 i _ e1
      obtain ⟨_, _, ea⟩ := inn i _ q3
      rw [ea] at q2 q4
      exact ⟨t', by rw [List.getElem?_take, if_pos hi]; exact e1, q2, q4⟩
  unfold runF at hf
  split at hf
  · rename_i t' ρ' e
    split at hf
    · rename_i ok
      exact ⟨_, _, e, F, Hs, s0, fun σ' Hs' H' v g' s' d => fin t' ρ' σ' Hs' H' v ok hf g' s' d⟩
    · cases hf
  · rename_i ρ' e
    split at hf
    · rename_i ok
      exact ⟨_, _, e, F, Hs, s0, fun σ' Hs' H' g' s' => fin .non ρ' σ' Hs' H' .non ok hf g' s' (d_non.mpr rfl)⟩
    · cases hf
  · cases hf
end
/-! ### calls of defs -/
def slotsA (ρ : En) : List Ar → Option (List Sl)
  | [] => some []
  | .v t :: as => (slotsA ρ as).map fun r => .i t :: r
  | .b i :: as => match ρ[i]? with
    | some (.i t) => (slotsA ρ as).map fun r => .i t :: r
    | some (.o t) => (slotsA ρ as).map fun r => .p t :: r
    | some (.p t) => (slotsA ρ as).map fun r => .p t :: r
    | _ => none
/-- the slots that are handed -/
def bIx : List Ar → List Nat
  | [] => []
  | .v _ :: as => bIx as
  | .b i :: as => i :: bIx as
def noDup : List Nat → Bool
  | [] => true
  | i :: r => !r.contains i && noDup r
def newT : List Ar → List Sl → Nat → Option T
  | .b j :: as, s :: sl, i => if j = i then (match s with | .p t => some t | _ => none) else newT as sl i
  | .v _ :: as, _ :: sl, i => newT as sl i
  | _, _, _ => none
def upS (as : List Ar) (sl : List Sl) (i : Nat) (s : Sl) : Sl := match s with
  | .o t => .o ((newT as sl i).getD t)
  | .p t => .p ((newT as sl i).getD t)
  | s => s
def upE (as : List Ar) (sl : List Sl) (ρ : En) : En := match bIx as with
  | [] => ρ
  | _ => ρ.mapIdx fun i s => upS as sl i s
def mDef (f : Fn) (a : AM') : EM' := fun ρ => match a ρ with
  | none => none
  | some (as, ρ1) => match slotsA ρ1 as with
    | none => none
    | some sl => if noDup (bIx as) = true then (match f sl with
      | none => none
      | some (t, sl') => some (t, upE as sl' ρ1)) else none
theorem newT_nil : ∀ {as : List Ar} {sl : List Sl} {i : Nat}, bIx as = [] → newT as sl i = none
  | [], sl, _, _ => by cases sl <;> rfl
  | .v _ :: as, [], _, h => rfl
  | .v _ :: as, _ :: sl, i, h => newT_nil (as := as) h
  | .b _ :: _, _, _, h => by cases h
theorem upE_get {as : List Ar} {sl : List Sl} {ρ : En} {i : Nat} : (upE as sl ρ)[i]? = (ρ[i]?).map (upS as sl i) := by
  unfold upE
  split
  · rename_i h
    cases e : ρ[i]? with
    | none => rfl
    | some s =>
      show some s = some (upS as sl i s)
      cases s <;> simp only [upS, newT_nil h, Option.getD_none]
  · rw [List.getElem?_mapIdx]
theorem bIx_mem : ∀ {as : List Ar} {k i : Nat}, as[k]? = some (.b i) → i ∈ bIx as
  | [], _, _, h => by simp at h
  | .v _ :: as, 0, _, h => by simp at h
  | .v _ :: as, k + 1, i, h => bIx_mem (as := as) (k := k) (by simpa using h)
  | .b j :: as, 0, i, h => by simp at h; subst h; exact List.mem_cons_self
  | .b j :: as, k + 1, i, h => List.mem_cons_of_mem _ (bIx_mem (as := as) (k := k) (by simpa using h))
theorem noDup_inj : ∀ {as : List Ar} {k l i : Nat}, noDup (bIx as) = true → as[k]? = some (.b i) → as[l]? = some (.b i) → k = l
  | [], _, _, _, _, h, _ => by simp at h
  | .v _ :: as, 0, _, _, _, h, _ => by simp at h
  | .v _ :: as, _ + 1, 0, _, _, _, h => by simp at h
  | .v _ :: as, k + 1, l + 1, i, n, h, g => by rw [noDup_inj (as := as) (k := k) (l := l) n (by simpa using h) (by simpa using g)]
  | .b j :: as, k, l, i, n, h, g => by
    have n : (!(bIx as).contains j && noDup (bIx as)) = true := n
    rw [Bool.and_eq_true] at n
    have nm : j ∉ bIx as := by simpa using n.1
    cases k with
    | zero =>
      simp at h
      subst h
      cases l with
      | zero => rfl
      | succ l => exact absurd (bIx_mem (as := as) (k := l) (by simpa using g)) nm
    | succ k =>
      cases l with
      | zero =>
        simp at g
        subst g
        exact absurd (bIx_mem (as := as) (k := k) (by simpa using h)) nm
      | succ l => rw [noDup_inj (as := as) (k := k) (l := l) n.2 (by simpa using h) (by simpa using g)]
theorem newT_none : ∀ {as : List Ar} {sl : List Sl} {i : Nat}, (∀ k : Nat, as[k]? ≠ some (Ar.b i)) → newT as sl i = none
  | [], sl, _, _ => by cases sl <;> rfl
  | .v _ :: as, [], _, h => rfl
  | .b _ :: as, [], _, h => rfl
  | .v _ :: as, _ :: sl, i, h => newT_none (as := as) fun k => by simpa using h (k + 1)
  | .b j :: as, s :: sl, i, h => by
    have c : j ≠ i := fun z => h 0 (by simp [z])
    show (if j = i then _ else newT as sl i) = none
    rw [if_neg c]
    exact newT_none (as := as) fun k => by simpa using h (k + 1)
theorem newT_some : ∀ {as : List Ar} {sl : List Sl} {i k : Nat} {t : T}, noDup (bIx as) = true → as[k]? = some (.b i) → sl[k]? = some (.p t) → newT as sl i = some t
  | [], _, _, _, _, _, h, _ => by simp at h
  | _ :: _, [], _, _, _, _, _, h => by simp at h
  | .v _ :: as, s :: sl, i, 0, t, n, h, g => by simp at h
  | .v _ :: as, s :: sl, i, k + 1, t, n, h, g => newT_some (as := as) (sl := sl) (k := k) n (by simpa using h) (by simpa using g)
  | .b j :: as, s :: sl, i, k, t, n, h, g => by
    have n' : (!(bIx as).contains j && noDup (bIx as)) = true := n
    rw [Bool.and_eq_true] at n'
    have nm : j ∉ bIx as := by simpa using n'.1
    unfold newT
    cases k with
    | zero =>
      simp at h g
      subst h
      subst g
      rw [if_pos rfl]
    | succ k =>
      have m := bIx_mem (as := as) (k := k) (i := i) (by simpa using h)
      rw [if_neg (fun z => nm (by rw [z]; exact m))]
      exact newT_some (as := as) (sl := sl) (k := k) n'.2 (by simpa using h) (by simpa using g)
theorem slotsA_len {ρ : En} : ∀ {as : List Ar} {sl : List Sl}, slotsA ρ as = some sl → sl.length = as.length
  | [], _, h => by cases h; rfl
  | .v _ :: as, _, h => by
    obtain ⟨r, e, rfl⟩ := Option.map_eq_some_iff.mp h
    simp [slotsA_len e]
  | .b i :: as, _, h => by
    unfold slotsA at h
    split at h
    · obtain ⟨r, e, rfl⟩ := Option.map_eq_some_iff.mp h
      simp [slotsA_len e]
    · obtain ⟨r, e, rfl⟩ := Option.map_eq_some_iff.mp h
      simp [slotsA_len e]
    · obtain ⟨r, e, rfl⟩ := Option.map_eq_some_iff.mp h
      simp [slotsA_len e]
    · cases h
/-- what an argument's slot is -/
theorem slotsA_get {ρ : En} : ∀ {as : List Ar} {sl : List Sl} {k : Nat} {s : Sl}, slotsA ρ as = some sl → sl[k]? = some s →
    (∃ t, as[k]? = some (.v t) ∧ s = .i t) ∨ ∃ i, as[k]? = some (.b i) ∧ ((∃ t, ρ[i]? = some (.i t) ∧ s = .i t) ∨ ∃ t, (ρ[i]? = some (.o t) ∨ ρ[i]? = some (.p t)) ∧ s = .p t)
  | [], _, _, _, h, e => by cases h; simp at e
  | .v t :: as, _, k, s, h, e => by
    obtain ⟨r, e1, rfl⟩ := Option.map_eq_some_iff.mp h
    cases k with
    | zero => simp at e; subst e; exact .inl ⟨t, rfl, rfl⟩
    | succ k => simpa using slotsA_get (k := k) e1 (by simpa using e)
  | .b i :: as, _, k, s, h, e => by
    unfold slotsA at h
    split at h
    · rename_i t e0
      obtain ⟨r, e1, rfl⟩ := Option.map_eq_some_iff.mp h
      cases k with
      | zero => simp at e; subst e; exact .inr ⟨i, rfl, .inl ⟨t, e0, rfl⟩⟩
      | succ k => simpa using slotsA_get (k := k) e1 (by simpa using e)
    · rename_i t e0
      obtain ⟨r, e1, rfl⟩ := Option.map_eq_some_iff.mp h
      cases k with
      | zero => simp at e; subst e; exact .inr ⟨i, rfl, .inr ⟨t, .inl e0, rfl⟩⟩
      | succ k => simpa using slotsA_get (k := k) e1 (by simpa using e)
    · rename_i t e0
      obtain ⟨r, e1, rfl⟩ := Option.map_eq_some_iff.mp h
      cases k with
      | zero => simp at e; subst e; exact .inr ⟨i, rfl, .inr ⟨t, .inr e0, rfl⟩⟩
      | succ k => simpa using slotsA_get (k := k) e1 (by simpa using e)
    · cases h
theorem AL.get {K : PySem.W.Frag} {Hs : Hp} {σ : L2.St} : ∀ {as : List Ar} {vs : List V} {k : Nat} {a : Ar}, AL K Hs σ as vs → as[k]? = some a → ∃ v, vs[k]? = some v ∧ match a with
    | .v t => D K Hs t v
    | .b i => σ[i]? = some (some v)
  | _, _, _, _, .nil, e => by simp at e
  | _, _, 0, _, .v h r, e => by simp at e; subst e; exact ⟨_, rfl, h⟩
  | _, _, 0, _, .b h r, e => by simp at e; subst e; exact ⟨_, rfl, h⟩
  | _, _, k + 1, _, .v h r, e => by simpa using AL.get (k := k) r (by simpa using e)
  | _, _, k + 1, _, .b h r, e => by simpa using AL.get (k := k) r (by simpa using e)
theorem AL.len {K : PySem.W.Frag} {Hs : Hp} {σ : L2.St} : ∀ {as : List Ar} {vs : List V}, AL K Hs σ as vs → as.length = vs.length
  | _, _, .nil => rfl
  | _, _, .v h r => by simp [AL.len r]
  | _, _, .b h r => by simp [AL.len r]
/-- what a call leaves, to the caller -/
theorem sp_use {K : PySem.W.Frag} {F : Fa} {Hs H : Hp} {ρ : En} {σ : L2.St} {n : Nat} {f : Fn} {as : List Ar} {sl sl' : List Sl} {vs : List V} {t : T} {Q : VK} {E : XK} (s : SR K F Hs H ρ σ) (al : AL K Hs σ as vs) (hn : as.length = n) (e1 : slotsA ρ as = some sl) (nd : noDup (bIx as) = true) (e2 : f sl = some (t, sl'))
    (k : ∀ v Hs' H', SR K F Hs' H' (upE as sl' ρ) σ → Gr Hs Hs' → D K Hs' t v → Q v H') : spP K n f vs H Q E := by
  obtain ⟨ad, h1, h2, h3⟩ := s.slots
  -- the address of an argument's object
  let ad' : Nat → Addr := fun k => match as[k]? with | some (.b i) => ad i | _ => 0
  have adb : ∀ (k i : Nat), as[k]? = some (Ar.b i) → ad' k = ad i := fun k i e => by
    show (match as[k]? with | some (Ar.b i) => ad i | _ => 0) = ad i
    rw [e]
  have own : ∀ (k : Nat) (u : T), sl[k]? = some (Sl.p u) → ∃ i : Nat, as[k]? = some (Ar.b i) ∧ (ρ[i]? = some (Sl.o u) ∨ ρ[i]? = some (Sl.p u)) := fun k u e => by
    rcases slotsA_get e1 e with ⟨_, _, z⟩ | ⟨i, ea, ⟨_, _, z⟩ | ⟨u', eo, z⟩⟩
    · cases z
    · cases z
    · cases z; exact ⟨i, ea, eo⟩
  have slo : ∀ (i : Nat) (u : T), (ρ[i]? = some (Sl.o u) ∨ ρ[i]? = some (Sl.p u)) → ∃ x, ρ[i]? = some x ∧ x.isO = true := fun i u e => by
    rcases e with e | e <;> exact ⟨_, e, rfl⟩
  have slq : ∀ (i : Nat) (u : T), (ρ[i]? = some (Sl.o u) ∨ ρ[i]? = some (Sl.p u)) → σ[i]? = some (some (.ref (ad i))) ∧ Hs (ad i) = none ∧ OC K Hs H u (ad i) ∧ (F.H (ad i) = none ∨ ∃ j, F.inn j = some (ad i)) := fun i u e => by
    rcases e with e | e
    · obtain ⟨q1, q2, q3, q4⟩ := h1 i _ e; exact ⟨q1, q2, q4, .inl q3⟩
    · obtain ⟨q1, q2, q3, q4⟩ := h1 i _ e; exact ⟨q1, q2, q4, .inr ⟨i, q3⟩⟩
  refine ⟨by rw [← al.len]; exact hn, Hs, sl, ad', t, sl', by rw [slotsA_len e1]; exact hn, s.sub, fun j x e => ?_, fun j l a b njl ej el => ?_, e2, fun v Hs' H' g g' hnew hbas hdom hin d => ?_⟩
  · rcases slotsA_get e1 e with ⟨u, ea, rfl⟩ | ⟨i, ea, ⟨u, ei, rfl⟩ | ⟨u, eo, rfl⟩⟩
    · obtain ⟨v, ev, dv⟩ := al.get ea
      exact ⟨v, ev, dv⟩
    · obtain ⟨v, ev, dv⟩ := al.get ea
      obtain ⟨v', q, dd⟩ := s.imm ei
      have dv : σ[i]? = some (some v) := dv
      rw [dv] at q
      cases q
      exact ⟨v, ev, dd⟩
    · obtain ⟨v, ev, dv⟩ := al.get ea
      have dv : σ[i]? = some (some v) := dv
      obtain ⟨q1, q2, q3, _⟩ := slq i u eo
      rw [q1] at dv
      cases dv
      refine ⟨_, ev, ?_⟩
      show V.ref (ad i) = V.ref (ad' j) ∧ Hs (ad' j) = none ∧ OC K Hs H u (ad' j)
      rw [adb j i ea]
      exact ⟨rfl, q2, q3⟩
  · obtain ⟨i1, a1, o1⟩ := own j a ej
    obtain ⟨i2, a2, o2⟩ := own l b el
    rw [adb _ _ a1, adb _ _ a2]
    obtain ⟨x1, y1, z1⟩ := slo i1 a o1
    obtain ⟨x2, y2, z2⟩ := slo i2 b o2
    exact h2 i1 i2 x1 x2 (fun z => njl (noDup_inj nd a1 (by rw [z]; exact a2))) y1 y2 z1 z2
  · -- whatever is no argument's object stands
    have keep : ∀ p o, H p = some o → (∀ (i : Nat) (u : T), (ρ[i]? = some (Sl.o u) ∨ ρ[i]? = some (Sl.p u)) → i ∈ bIx as → ad i ≠ p) → H' p = some o := fun p o e ne => hbas p o e fun j u ej => by
      obtain ⟨i1, a1, o1⟩ := own j u ej
      rw [adb _ _ a1]
      exact ne i1 u o1 (bIx_mem a1)
    refine k v Hs' H' ⟨g', s.low.trans g, fun p a b => ?_, fun p o e ni => ?_, fun p e => s.dom p (hdom p e), ?_, ⟨ad, fun i x e => ?_, fun i j x y nij ei ej ox oy => ?_, fun i x e ox => ?_⟩, fun p o e => ?_⟩ g d
    · by_cases c : Hs p = none
      · exact s.dom p (hnew p c b)
      · exact s.new p a c
    · refine keep p o (s.bas p o e ni) fun i u eo _ z => ?_
      obtain ⟨_, _, _, q4⟩ := slq i u eo
      rcases q4 with q4 | ⟨j, q4⟩
      · rw [z, e] at q4; cases q4
      · exact ni j (by rw [← z]; exact q4)
    · rw [← s.len]
      unfold upE
      split
      · rfl
      · simp
    · rw [upE_get] at e
      obtain ⟨y, ey, rfl⟩ := Option.map_eq_some_iff.mp e
      have q := h1 i y ey
      have passed : ∀ u : T, (ρ[i]? = some (Sl.o u) ∨ ρ[i]? = some (Sl.p u)) → ∃ u', (newT as sl' i).getD u = u' ∧ Hs' (ad i) = none ∧ OC K Hs' H' u' (ad i) := fun u eo => by
        obtain ⟨q1, q2, q3, q4⟩ := slq i u eo
        by_cases c : ∃ k : Nat, as[k]? = some (Ar.b i)
        · obtain ⟨k, ek⟩ := c
          have hk : k < sl.length := by
            rw [slotsA_len e1]
            exact (List.getElem?_eq_some_iff.mp ek).1
          have es : sl[k]? = some (Sl.p u) := by
            rcases slotsA_get e1 (List.getElem?_eq_getElem hk) with ⟨_, z, _⟩ | ⟨i', ea, ⟨u', z, _⟩ | ⟨u', z, z2⟩⟩
            · rw [ek] at z; cases z
            · rw [ek] at ea
              cases ea
              rcases eo with eo | eo <;> (rw [eo] at z; cases z)
            · rw [ek] at ea
              cases ea
              have : u' = u := by
                rcases eo with eo | eo <;> rcases z with z | z <;> rw [eo] at z <;> cases z <;> rfl
              rw [List.getElem?_eq_getElem hk, z2, this]
          obtain ⟨u', e3, e4, oc⟩ := hin k u es
          rw [adb _ _ ek] at e4 oc
          exact ⟨u', by rw [newT_some nd ek e3]; rfl, e4, oc⟩
        · have nn : newT as sl' i = none := newT_none fun k z => c ⟨k, z⟩
          obtain ⟨o, ho⟩ : ∃ o, H (ad i) = some o := by
            cases ho : H (ad i) with
            | none => exact absurd ho q3.there
            | some o => exact ⟨o, rfl⟩
          have ho' : H' (ad i) = some o := hbas _ o ho fun j u2 ej => by
            obtain ⟨i1, a1, o1⟩ := own j u2 ej
            rw [adb _ _ a1]
            obtain ⟨x1, y1, z1⟩ := slo i1 u2 o1
            obtain ⟨x2, y2, z2⟩ := slo i u eo
            exact h2 i1 i x1 x2 (fun z => c ⟨j, by rw [← z]; exact a1⟩) y1 y2 z1 z2
          refine ⟨u, by rw [nn]; rfl, ?_, q3.keep g (by rw [ho, ho'])⟩
          cases hz : Hs' (ad i) with
          | none => rfl
          | some o2 =>
            have := hnew _ q2 (by rw [hz]; simp)
            rw [this] at ho
            cases ho
      cases y with
      | u => trivial
      | i u => obtain ⟨x, e5, dx⟩ := q; exact ⟨x, e5, dx.mono g⟩
      | o u =>
        obtain ⟨u', e5, e6, e7⟩ := passed u (.inl ey)
        show SlOk K F Hs' H' (ad i) i (.o ((newT as sl' i).getD u)) σ[i]?
        rw [e5]
        exact ⟨q.1, e6, q.2.2.1, e7⟩
      | p u =>
        obtain ⟨u', e5, e6, e7⟩ := passed u (.inr ey)
        show SlOk K F Hs' H' (ad i) i (.p ((newT as sl' i).getD u)) σ[i]?
        rw [e5]
        exact ⟨q.1, e6, q.2.2.1, e7⟩
    · rw [upE_get] at ei ej
      obtain ⟨x', ex, rfl⟩ := Option.map_eq_some_iff.mp ei
      obtain ⟨y', ey, rfl⟩ := Option.map_eq_some_iff.mp ej
      exact h2 i j x' y' nij ex ey (by cases x' <;> first | exact ox | rfl) (by cases y' <;> first | exact oy | rfl)
    · rw [upE_get] at e
      obtain ⟨x', ex, rfl⟩ := Option.map_eq_some_iff.mp e
      exact h3 i x' ex (by cases x' <;> first | exact ox | rfl)
    · obtain ⟨r1, r2, r3⟩ := s.rsv p o e
      refine ⟨keep p o r1 fun i u eo _ z => ?_, ?_, r3⟩
      · obtain ⟨x1, y1, z1⟩ := slo i u eo
        have := h3 i x1 y1 z1
        rw [z, e] at this
        cases this
      · cases hz : Hs' p with
        | none => rfl
        | some o2 =>
          have := hnew p r2 (by rw [hz]; simp)
          rw [this] at r1
          cases r1
section
variable {X : Cx}
theorem mDef_inv {f : Fn} {a : AM'} {ρ ρ' : En} {t : T} (q : mDef f a ρ = some (t, ρ')) : ∃ as ρ1 sl sl', a ρ = some (as, ρ1) ∧ slotsA ρ1 as = some sl ∧ noDup (bIx as) = true ∧ f sl = some (t, sl') ∧ ρ' = upE as sl' ρ1 := by
  unfold mDef at q
  split at q
  · cases q
  · rename_i as ρ1 e1
    split at q
    · cases q
    · rename_i sl e2
      split at q
      · rename_i nd
        split at q
        · cases q
        · rename_i t' sl' e3
          cases q
          exact ⟨as, ρ1, sl, sl', e1, e2, nd, e3, rfl⟩
      · cases q
def lenIs (n : Nat) (a : AM') : Prop := ∀ ρ as ρ', a ρ = some (as, ρ') → as.length = n
theorem em_def {f : Fn} {k n : Nat} {fa : Addr} {fd : FuncData} {ps : List Str} {x : Str} {e : Expr} {es : List Expr} {p pos : Pos} {a : AM'} (Fn : FnOk X.prog X.w X.K X.mg X.base CX0 k fa fd ps (spP X.K n f)) (hr : Room k X.A) (hg : Gl X x) (hm : X.mg x = some (.ref fa)) (hk : PySem.W.keepIn X.K (.ref fa) = true)
    (hb : Binds X.K fd ps []) (ha : AM X (e :: es) a) (hl : lenIs n a) (hdb : (x == ("__debug__" : Str)) = false := by decide) (he : starEach (e :: es) X.env = (false, eval e X.env) :: starEach es X.env := by rfl) (hpl : (backTo pos (starEach es X.env)).any (·.1) = false := by rfl) :
    EM X (.Call (.Name x p) (e :: es) [] pos) (mDef f a) := by
  intro ρ t ρ' q
  obtain ⟨as, ρ1, sl, sl', e1, e2, nd, e3, rfl⟩ := mDef_inv q
  refine pe_w (pe_call Fn hr hg hm hk hb .nil pass0 (ha _ _ _ e1) hdb he hpl) fun σ H Q ⟨F, Hs, s, k⟩ => ⟨F, Hs, s, fun vs Hs1 H1 s1 g1 al => ?_⟩
  show spP X.K n f (vs ++ []) H1 Q E0
  rw [List.append_nil]
  exact sp_use s1 al (hl _ _ _ e1) e2 nd e3 fun v Hs2 H2 s2 g2 d => k v Hs2 H2 s2 (g1.trans g2) d
theorem em_def0 {f : Fn} {k : Nat} {fa : Addr} {fd : FuncData} {ps : List Str} {x : Str} {p pos : Pos} (Fn : FnOk X.prog X.w X.K X.mg X.base CX0 k fa fd ps (spP X.K 0 f)) (hr : Room k X.A) (hg : Gl X x) (hm : X.mg x = some (.ref fa)) (hk : PySem.W.keepIn X.K (.ref fa) = true)
    (hb : Binds X.K fd ps []) (hdb : (x == ("__debug__" : Str)) = false := by decide) : EM X (.Call (.Name x p) [] [] pos) (mDef f mNil) := by
  intro ρ t ρ' q
  obtain ⟨as, ρ1, sl, sl', e1, e2, nd, e3, rfl⟩ := mDef_inv q
  cases e1
  refine pe_w (pe_call0 Fn hr hg hm hk hb .nil pass0 hdb) fun σ H Q ⟨F, Hs, s, k⟩ => ?_
  show spP X.K 0 f ([] ++ []) H Q E0
  exact sp_use s .nil rfl e2 nd e3 fun v Hs2 H2 s2 g2 d => k v Hs2 H2 s2 g2 d
theorem len_nil : lenIs 0 mNil := fun ρ as ρ' q => by cases q; rfl
theorem len_arg {n : Nat} {m : EM'} {r : AM'} (h : lenIs n r) : lenIs (n + 1) (mArg m r) := fun ρ as ρ' q => by
  unfold mArg at q
  split at q
  · cases q
  · obtain ⟨⟨as2, ρ2⟩, e2, q⟩ := Option.map_eq_some_iff.mp q
    cases q
    simp [h _ _ _ e2]
theorem len_argB {n i : Nat} {r : AM'} (h : lenIs n r) : lenIs (n + 1) (mArgB i r) := fun ρ as ρ' q => by
  obtain ⟨_, _, q⟩ := Option.bind_eq_some_iff.mp q
  obtain ⟨⟨as2, ρ2⟩, e2, q⟩ := Option.map_eq_some_iff.mp q
  cases q
  simp [h _ _ _ e2]
end
end Pu
set_option Elab.async false
set_option linter.all false
set_option maxRecDepth 100000
set_option maxHeartbeats 1000000
namespace Pu
open PySem PySem.Spec PyProof.Rows L2
section
variable {K : PySem.W.Frag} {F : Fa} {Hs H : Hp} {ρ : En} {σ : L2.St}
theorem b_int {i : Int} {v : V} (h : DB K Hs H (.int i) v) : v = .int i := d_int.mp (show D K Hs (.int i) v from h)
theorem b_bl {i : Bool} {v : V} (h : DB K Hs H (.bl i) v) : v = .bl i := d_bl.mp (show D K Hs (.bl i) v from h)
theorem b_str {i : Str} {v : V} (h : DB K Hs H (.str i) v) : v = .str i := d_str.mp (show D K Hs (.str i) v from h)
theorem b_non {v : V} (h : DB K Hs H .non v) : v = .non := d_non.mp (show D K Hs .non v from h)
theorem b_tup {ts : List T} {v : V} (s : Gr Hs H) (h : DB K Hs H (.tup ts) v) : ∃ a xs, v = .ref a ∧ SqT K H a xs ∧ DL K Hs ts xs := by
  obtain ⟨a, xs, e, q, d⟩ := d_tup.mp (show D K Hs (.tup ts) v from h)
  exact ⟨a, xs, e, gr_t s q, d⟩
/-! ### ints -/
def gI (f : Int → Int → Int) : T → T → Option T
  | .int i, .int j => some (.int (f i j))
  | _, _ => none
def gIc (C : Int → Int → Bool) (f : Int → Int → Int) : T → T → Option T
  | .int i, .int j => if C i j = true then some (.int (f i j)) else none
  | _, _ => none
def gIb (f : Int → Int → Bool) : T → T → Option Bool
  | .int i, .int j => some (f i j)
  | _, _ => none
theorem p_I {f : Int → Int → Int} : Prim2 K (rI0 fun i j => .int (f i j)) (gI f) := by
  intro F Hs H ρ σ x y z v u Q s d1 d2 e k
  cases x <;> cases y <;> simp only [gI, reduceCtorEq, Option.some.injEq] at e
  subst e
  exact ⟨_, _, b_int d1, b_int d2, k _ Hs H s (Gr.refl _) (d_int.mpr rfl)⟩
theorem p_Ic {Cp : Int → Int → Prop} {C : Int → Int → Bool} (hC : ∀ i j, C i j = true → Cp i j) {f : Int → Int → Int} : Prim2 K (rI Cp fun i j => .int (f i j)) (gIc C f) := by
  intro F Hs H ρ σ x y z v u Q s d1 d2 e k
  cases x <;> cases y <;> simp only [gIc, reduceCtorEq] at e
  split at e
  · rename_i c
    cases e
    exact ⟨_, _, b_int d1, b_int d2, hC _ _ c, k _ Hs H s (Gr.refl _) (d_int.mpr rfl)⟩
  · cases e
theorem p_Ib {f : Int → Int → Bool} : Prim2 K (rI0 fun i j => .bl (f i j)) (fun x y => (gIb f x y).map T.bl) := by
  intro F Hs H ρ σ x y z v u Q s d1 d2 e k
  cases x <;> cases y <;> simp only [gIb, Option.map_none, Option.map_some, reduceCtorEq, Option.some.injEq] at e
  subst e
  exact ⟨_, _, b_int d1, b_int d2, k _ Hs H s (Gr.refl _) (d_bl.mpr rfl)⟩
theorem Prim2.or {r r' : R2} {g g' : T → T → Option T} (h : Prim2 K r g) (h' : Prim2 K r' g') : Prim2 K (fun x y H Q => r x y H Q ∨ r' x y H Q) (fun x y => (g x y).or (g' x y)) := by
  intro F Hs H ρ σ x y z v u Q s d1 d2 e k
  cases e1 : g x y with
  | some w =>
    simp only [e1, Option.or] at e
    cases e
    exact .inl (h F Hs H ρ σ x y z v u Q s d1 d2 e1 k)
  | none =>
    simp only [e1, Option.or] at e
    exact .inr (h' F Hs H ρ σ x y z v u Q s d1 d2 e k)
def cDiv (i j : Int) : Bool := decide (0 < j ∧ j < 1073741824)
def cPos (i j : Int) : Bool := decide (0 < j)
def cMul (i j : Int) : Bool := decide ((-(2 ^ 64) < i ∧ i < 2 ^ 64) ∨ (-(2 ^ 64) < j ∧ j < 2 ^ 64))
def cNn (i j : Int) : Bool := decide (0 ≤ j)
def cPow (i j : Int) : Bool := decide (0 ≤ j ∧ j ≤ 1000000 ∧ i.natAbs < 2 ^ 64)
/-! text + text, tuple + tuple, list + list -/
def gAddS : T → T → Option T
  | .str x, .str y => if x.length + y.length ≤ lim then some (.str (x ++ y)) else none
  | _, _ => none
theorem p_addS : Prim2 K (fun x y H Q => ∃ i j, x = .str i ∧ y = .str j ∧ i.length + j.length ≤ sizeLine ∧ Q (.str (i ++ j)) H) gAddS := by
  intro F Hs H ρ σ x y z v u Q s d1 d2 e k
  cases x <;> cases y <;> simp only [gAddS, reduceCtorEq] at e
  split at e
  · rename_i c
    cases e
    exact ⟨_, _, b_str d1, b_str d2, Nat.le_trans c lim_le, k _ Hs H s (Gr.refl _) (d_str.mpr rfl)⟩
  · cases e
def gAddT : T → T → Option T
  | .tup x, .tup y => if x.length + y.length ≤ lim then some (.tup (x ++ y)) else none
  | _, _ => none
theorem p_addT : Prim2 K (rCatA K) gAddT := by
  intro F Hs H ρ σ x y z v u Q s d1 d2 e k
  cases x <;> cases y <;> simp only [gAddT, reduceCtorEq] at e
  split at e
  · rename_i ts us c
    cases e
    obtain ⟨a, xs, rfl, h1, e1⟩ := b_tup s.sub d1
    obtain ⟨b, ys, rfl, h2, e2⟩ := b_tup s.sub d2
    refine ⟨a, b, xs, ys, rfl, rfl, h1, h2, by rw [← e1.length, ← e2.length]; exact Nat.le_trans c lim_le, fun z => ?_, fun _ z => ?_, fun _ _ p hp => ?_⟩
    · subst z
      have : ts = [] := List.eq_nil_of_length_eq_zero e1.length
      subst this
      exact k _ Hs H s (Gr.refl _) d2
    · subst z
      have : us = [] := List.eq_nil_of_length_eq_zero e2.length
      subst this
      exact k _ Hs H s (Gr.refl _) (by rw [List.append_nil]; exact d1)
    · have g : Gr Hs (upd Hs p (.tup (xs ++ ys))) := Gr.up s.sub hp
      exact k _ _ _ (s.grow hp) g (d_tup.mpr ⟨p, _, rfl, SqT.of upd_same, (e1.append e2).mono g⟩)
  · cases e
def gAddL : T → T → Option T
  | .lst x, .lst y => if x.length + y.length ≤ lim then some (.lst (x ++ y)) else none
  | _, _ => none
theorem p_addLF : Prim2F K rCat gAddL := by
  intro F Hs H ρ σ x y z v u Q s d1 d2 e k
  cases x <;> cases y <;> simp only [gAddL, reduceCtorEq] at e
  split at e
  · rename_i ts us c
    cases e
    obtain ⟨a, xs, rfl, h1, e1⟩ := d1
    obtain ⟨b, ys, rfl, h2, e2⟩ := d2
    exact ⟨a, b, xs, ys, rfl, rfl, h1, h2, by rw [← e1.length, ← e2.length]; exact Nat.le_trans c lim_le, fun p hp => k p _ Hs _ (s.rs_none hp) (s.side hp) (Gr.refl _) ⟨_, upd_same, e1.append e2⟩⟩
  · cases e
/-- what makes a new object, its value stable -/
theorem Prim2F.prim {r : R2} {g : T → T → Option T} (h : Prim2F K r g) : Prim2 K r g := by
  intro F Hs H ρ σ x y z v u Q s d1 d2 e k
  refine h F Hs H ρ σ x y z v u Q s d1 d2 e fun p o Hs' H' h0 s' g oc => ?_
  obtain ⟨o', ho, hd⟩ := oc.d
  obtain ⟨r1, r2, r3⟩ := s'.at
  rw [r1] at ho
  cases ho
  have g2 : Gr Hs' (upd Hs' p o) := Gr.new r2
  exact k (.ref p) _ H' (s'.freeze h0) (g.trans g2) (hd _ g2 upd_same)
def gRep : T → T → Option T
  | .lst x, .int n => if -(2 ^ 63) ≤ n ∧ n < 2 ^ 63 ∧ x.length * n.toNat ≤ lim then some (.lst (List.replicate n.toNat x).flatten) else none
  | _, _ => none
theorem p_repF : Prim2F K rRep gRep := by
  intro F Hs H ρ σ x y z v u Q s d1 d2 e k
  cases x <;> cases y <;> simp only [gRep, reduceCtorEq] at e
  split at e
  · rename_i ts n c
    cases e
    obtain ⟨a, xs, rfl, h1, e1⟩ := d1
    exact ⟨a, _, xs, rfl, b_int d2, h1, c.1, c.2.1, by rw [← e1.length]; exact Nat.le_trans c.2.2 lim_le, fun p hp => k p _ Hs _ (s.rs_none hp) (s.side hp) (Gr.refl _) ⟨_, upd_same, e1.flat _⟩⟩
  · cases e
/-! ### comparisons by == -/
mutual
def toP : T → Option PyData
  | .non => some .none
  | .bl b => some (.bool b)
  | .int i => some (.int i)
  | .str x => some (.str x)
  | .lst ts => (toPs ts).map PyData.list
  | .rl ts => (toPs ts).map PyData.list
  | .tup ts => (toPs ts).map PyData.tuple
  | .dk _ _ => none
def toPs : List T → Option (List PyData)
  | [] => some []
  | t :: ts => (toP t).bind fun d => (toPs ts).map fun ds => d :: ds
end
mutual
theorem toP_dp : ∀ {t : T} {d : PyData} {v : V}, toP t = some d → D K H t v → Dp K H v d
  | .non, _, _, e, h => by simp only [toP, Option.some.injEq] at e; subst e; rw [d_non.mp h]; exact .non
  | .bl b, _, _, e, h => by simp only [toP, Option.some.injEq] at e; subst e; rw [d_bl.mp h]; exact .bl b
  | .int b, _, _, e, h => by simp only [toP, Option.some.injEq] at e; subst e; rw [d_int.mp h]; exact .int b
  | .str b, _, _, e, h => by simp only [toP, Option.some.injEq] at e; subst e; rw [d_str.mp h]; exact .str b
  | .lst ts, _, _, e, h => by
    simp only [toP, Option.map_eq_some_iff] at e
    obtain ⟨ds, e1, rfl⟩ := e
    obtain ⟨a, xs, rfl, h1, d⟩ := d_lst.mp h
    exact .lst (SqL.of h1) (toPs_dp e1 d)
  | .rl ts, _, _, e, h => by
    simp only [toP, Option.map_eq_some_iff] at e
    obtain ⟨ds, e1, rfl⟩ := e
    obtain ⟨a, xs, rfl, h1, d⟩ := d_rl.mp h
    exact .lst h1 (toPs_dp e1 d)
  | .tup ts, _, _, e, h => by
    simp only [toP, Option.map_eq_some_iff] at e
    obtain ⟨ds, e1, rfl⟩ := e
    obtain ⟨a, xs, rfl, h1, d⟩ := d_tup.mp h
    exact .tup h1 (toPs_dp e1 d)
  | .dk _ _, _, _, e, _ => by simp only [toP, reduceCtorEq] at e
theorem toPs_dp : ∀ {ts : List T} {ds : List PyData} {vs : List V}, toPs ts = some ds → DL K H ts vs → DpAll K H vs ds
  | [], _, _, e, h => by simp only [toPs, Option.some.injEq] at e; subst e; rw [dl_nil.mp h]; exact .nil
  | t :: ts, _, _, e, h => by
    simp only [toPs, Option.bind_eq_some_iff, Option.map_eq_some_iff] at e
    obtain ⟨d, e1, ds, e2, rfl⟩ := e
    obtain ⟨x, r, rfl, h1, h2⟩ := dl_cons.mp h
    exact .cons (toP_dp e1 h1) (toPs_dp e2 h2)
end
/-- a value that is read: as it stands -/
theorem DB.d {t : T} {v : V} (g : Gr Hs H) (h : DB K Hs H t v) : D K H t v := by
  cases t <;> first | exact D.mono g h | skip
  · obtain ⟨a, xs, e, q, d⟩ := h
    exact d_lst.mpr ⟨a, xs, e, q, d.mono g⟩
  · obtain ⟨a, xs, e, q, l, d⟩ := h
    exact d_dk.mpr ⟨a, xs, e, q, l, d.mono g⟩
def gEqD (x y : T) : Option Bool := match toP x, toP y with
  | some d, some e => if (SeqAt.shaped d && SeqAt.shaped e) = true then some (PyData.eqv d e) else none
  | _, _ => none
def gEq : T → T → Option Bool
  | .int i, .int j => some (decide (i = j))
  | .bl i, .bl j => some (decide (i = j))
  | .str i, .str j => some (decide (i = j))
  | .non, .non => some true
  | x, y => gEqD x y
def gNe (x y : T) : Option Bool := (gEq x y).map fun b => !b
theorem eq_dec {P Q : Prop} [Decidable P] [Decidable Q] (h : P ↔ Q) : decide P = decide Q := by
  by_cases c : P
  · rw [decide_eq_true c, decide_eq_true (h.mp c)]
  · rw [decide_eq_false c, decide_eq_false (fun z => c (h.mpr z))]
theorem gEq_cases {x y : T} {b : Bool} {v u : V} (s : Gr Hs H) (d1 : DB K Hs H x v) (d2 : DB K Hs H y u) (e : gEq x y = some b) :
    (scal v u = true ∧ b = decide (v = u)) ∨ ∃ d e, Dp K H v d ∧ Dp K H u e ∧ SeqAt.shaped d = true ∧ SeqAt.shaped e = true ∧ b = PyData.eqv d e := by
  have deep : gEqD x y = some b → ∃ d e, Dp K H v d ∧ Dp K H u e ∧ SeqAt.shaped d = true ∧ SeqAt.shaped e = true ∧ b = PyData.eqv d e := fun e => by
    unfold gEqD at e
    split at e
    · rename_i d d' e1 e2
      split at e
      · rename_i c
        rw [Bool.and_eq_true] at c
        cases e
        exact ⟨d, d', toP_dp e1 (d1.d s), toP_dp e2 (d2.d s), c.1, c.2, rfl⟩
      · cases e
    · cases e
  unfold gEq at e
  split at e
  · cases e
    cases b_int d1
    cases b_int d2
    exact .inl ⟨rfl, eq_dec ⟨fun z => by rw [z], fun z => V.int.inj z⟩⟩
  · cases e
    cases b_bl d1
    cases b_bl d2
    exact .inl ⟨rfl, eq_dec ⟨fun z => by rw [z], fun z => V.bl.inj z⟩⟩
  · cases e
    cases b_str d1
    cases b_str d2
    exact .inl ⟨rfl, eq_dec ⟨fun z => by rw [z], fun z => V.str.inj z⟩⟩
  · cases e
    cases b_non d1
    cases b_non d2
    exact .inl ⟨rfl, rfl⟩
  · exact .inr (deep e)
theorem p_eq : Prim2 K (fun x y H Q => rEq x y H Q ∨ rEqD K x y H Q) (fun x y => (gEq x y).map T.bl) := by
  intro F Hs H ρ σ x y z v u Q s d1 d2 e k
  obtain ⟨b, e1, rfl⟩ := Option.map_eq_some_iff.mp e
  rcases gEq_cases s.sub d1 d2 e1 with ⟨h1, rfl⟩ | ⟨d, e', h1, h2, h3, h4, rfl⟩
  · exact .inl ⟨h1, k _ Hs H s (Gr.refl _) (d_bl.mpr rfl)⟩
  · exact .inr ⟨d, e', h1, h2, h3, h4, k _ Hs H s (Gr.refl _) (d_bl.mpr rfl)⟩
theorem p_ne : Prim2 K (fun x y H Q => rNe x y H Q ∨ rNeD K x y H Q) (fun x y => (gNe x y).map T.bl) := by
  intro F Hs H ρ σ x y z v u Q s d1 d2 e k
  obtain ⟨b, e1, rfl⟩ := Option.map_eq_some_iff.mp e
  obtain ⟨b', e2, rfl⟩ := Option.map_eq_some_iff.mp e1
  rcases gEq_cases s.sub d1 d2 e2 with ⟨h1, rfl⟩ | ⟨d, e', h1, h2, h3, h4, rfl⟩
  · exact .inl ⟨h1, k _ Hs H s (Gr.refl _) (d_bl.mpr rfl)⟩
  · exact .inr ⟨d, e', h1, h2, h3, h4, k _ Hs H s (Gr.refl _) (d_bl.mpr rfl)⟩
/-! x in xs -/
def flatT : T → Bool
  | .non => true
  | .bl _ => true
  | .int _ => true
  | .str _ => true
  | _ => false
def eqT : T → T → Bool
  | .non, .non => true
  | .bl a, .bl b => a == b
  | .bl a, .int b => (if a then 1 else 0) == b
  | .int a, .bl b => a == (if b then 1 else 0)
  | .int a, .int b => a == b
  | .str a, .str b => a == b
  | _, _ => false
theorem flat_v {t : T} {v : V} (h : flatT t = true) (d : D K H t v) : flatV v = true := by
  cases t <;> first | cases h | skip
  · cases d_non.mp d; rfl
  · cases d_bl.mp d; rfl
  · cases d_int.mp d; rfl
  · cases d_str.mp d; rfl
theorem eqT_v {t u : T} {v w : V} (h : flatT t = true) (h2 : flatT u = true) (d : D K H t v) (d2 : D K H u w) : eqV v w = eqT t u := by
  cases t <;> first | cases h | skip
  all_goals (cases u <;> first | cases h2 | skip)
  all_goals (first | cases d_non.mp d | cases d_bl.mp d | cases d_int.mp d | cases d_str.mp d)
  all_goals (first | cases d_non.mp d2 | cases d_bl.mp d2 | cases d_int.mp d2 | cases d_str.mp d2)
  all_goals rfl
def inT (x : T) (ts : List T) : Bool := ts.any fun y => eqT y x
theorem flats_v : ∀ {ts : List T} {vs : List V}, ts.all flatT = true → DL K H ts vs → vs.all flatV = true
  | [], _, _, d => by rw [dl_nil.mp d]; rfl
  | t :: ts, _, h, d => by
    obtain ⟨x, r, rfl, d1, d2⟩ := dl_cons.mp d
    rw [List.all_cons, Bool.and_eq_true] at h ⊢
    exact ⟨flat_v h.1 d1, flats_v h.2 d2⟩
theorem inT_v {x : T} {v : V} (hx : flatT x = true) (dx : D K H x v) : ∀ {ts : List T} {vs : List V}, ts.all flatT = true → DL K H ts vs → inV v vs = inT x ts
  | [], _, _, d => by rw [dl_nil.mp d]; rfl
  | t :: ts, _, h, d => by
    obtain ⟨y, r, rfl, d1, d2⟩ := dl_cons.mp d
    rw [List.all_cons, Bool.and_eq_true] at h
    unfold inV inT
    rw [List.any_cons, List.any_cons, eqT_v h.1 hx d1 dx]
    congr 1
    exact inT_v hx dx h.2 d2
def gIn (neg : Bool) (x y : T) : Option Bool := (items y).bind fun ts => if (flatT x && ts.all flatT) = true then some (if neg then !inT x ts else inT x ts) else none
theorem p_in {neg : Bool} : Prim2 K (rIn K neg) (fun x y => (gIn neg x y).map T.bl) := by
  intro F Hs H ρ σ x y z v u Q s d1 d2 e k
  obtain ⟨b, e1, rfl⟩ := Option.map_eq_some_iff.mp e
  obtain ⟨ts, e2, e3⟩ := Option.bind_eq_some_iff.mp e1
  split at e3
  · rename_i c
    rw [Bool.and_eq_true] at c
    cases e3
    obtain ⟨a, xs, rfl, h, dl⟩ := d2.items s.sub e2
    have dx := d1.d s.sub
    have dl' := dl.mono s.sub
    refine ⟨a, xs, rfl, h.symm, flat_v c.1 dx, flats_v c.2 dl', ?_⟩
    rw [inT_v c.1 dx c.2 dl']
    exact k _ Hs H s (Gr.refl _) (d_bl.mpr rfl)
  · cases e3
def gIsN (x y : T) : Option Bool := match x, y with
  | .non, .non => some true
  | _, .non => some false
  | _, _ => none
theorem non_iff {t : T} {v : V} (g : Gr Hs H) (h : DB K Hs H t v) : v = .non ↔ t = .non := by
  have d := h.d g
  cases t
  · exact ⟨fun _ => rfl, fun _ => d_non.mp d⟩
  · rw [d_bl.mp d]; constructor <;> (intro z; cases z)
  · rw [d_int.mp d]; constructor <;> (intro z; cases z)
  · rw [d_str.mp d]; constructor <;> (intro z; cases z)
  · obtain ⟨a, xs, rfl, _⟩ := d_lst.mp d; constructor <;> (intro z; cases z)
  · obtain ⟨a, xs, rfl, _⟩ := d_rl.mp d; constructor <;> (intro z; cases z)
  · obtain ⟨a, xs, rfl, _⟩ := d_tup.mp d; constructor <;> (intro z; cases z)
  · obtain ⟨a, xs, rfl, _⟩ := d_dk.mp d; constructor <;> (intro z; cases z)
theorem gIsN_some {x y : T} {b : Bool} (e : gIsN x y = some b) : y = .non ∧ (b = true ↔ x = .non) := by
  unfold gIsN at e
  split at e
  · cases e; exact ⟨rfl, by simp⟩
  · rename_i h
    cases e
    refine ⟨rfl, ?_⟩
    constructor
    · intro z; cases z
    · intro z; exact absurd z h
  · cases e
theorem p_isN : Prim2 K (fun x y H Q => y = .non ∧ Q (.bl (decide (x = .non))) H) (fun x y => (gIsN x y).map T.bl) := by
  intro F Hs H ρ σ x y z v u Q s d1 d2 e k
  obtain ⟨b, e1, rfl⟩ := Option.map_eq_some_iff.mp e
  obtain ⟨rfl, h⟩ := gIsN_some e1
  have e2 : decide (v = V.non) = b := by
    have := non_iff s.sub d1
    cases b with
    | true => exact decide_eq_true (this.mpr (h.mp rfl))
    | false => exact decide_eq_false fun z => by have := h.mpr (this.mp z); cases this
  refine ⟨b_non d2, ?_⟩
  rw [e2]
  exact k _ Hs H s (Gr.refl _) (d_bl.mpr rfl)
theorem p_notN : Prim2 K (fun x y H Q => y = .non ∧ Q (.bl (!decide (x = .non))) H) (fun x y => ((gIsN x y).map fun b => !b).map T.bl) := by
  intro F Hs H ρ σ x y z v u Q s d1 d2 e k
  obtain ⟨b', e0, rfl⟩ := Option.map_eq_some_iff.mp e
  obtain ⟨b, e1, rfl⟩ := Option.map_eq_some_iff.mp e0
  obtain ⟨rfl, h⟩ := gIsN_some e1
  have e2 : decide (v = V.non) = b := by
    have := non_iff s.sub d1
    cases b with
    | true => exact decide_eq_true (this.mpr (h.mp rfl))
    | false => exact decide_eq_false fun z => by have := h.mpr (this.mp z); cases this
  refine ⟨b_non d2, ?_⟩
  rw [e2]
  exact k _ Hs H s (Gr.refl _) (d_bl.mpr rfl)
def gIsB (x y : T) : Option Bool := match x, y with
  | .bl a, .bl b => some (decide (a = b))
  | _, _ => none
theorem p_isB : Prim2 K rIsB (fun x y => (gIsB x y).map T.bl) := by
  intro F Hs H ρ σ x y z v u Q s d1 d2 e k
  obtain ⟨b, e1, rfl⟩ := Option.map_eq_some_iff.mp e
  cases x <;> cases y <;> simp only [gIsB, reduceCtorEq, Option.some.injEq] at e1
  subst e1
  exact ⟨_, _, b_bl d1, b_bl d2, k _ Hs H s (Gr.refl _) (d_bl.mpr rfl)⟩
/-! ### items, slices -/
def gIx (x y : T) : Option T := match y with
  | .int i => match x with
    | .str z => if z.length ≤ lim then (atI z.cps.toList i).map fun c => .str ⟨#[c]⟩ else none
    | x => (items x).bind fun ts => atI ts i
  | _ => none
theorem DL.atI {ts : List T} {xs : List V} {i : Int} {t : T} (h : DL K Hs ts xs) (e : atI ts i = some t) : ∃ x, L2.atI xs i = some x ∧ D K Hs t x := by
  unfold L2.atI at e ⊢
  rw [h.length] at e
  obtain ⟨j, e1, e2⟩ := Option.bind_eq_some_iff.mp e
  obtain ⟨x, h1, h2⟩ := h.get e2
  exact ⟨x, by rw [e1]; exact h1, h2⟩
theorem p_ix : Prim2 K (rIx K) gIx := by
  intro F Hs H ρ σ x y z v u Q s d1 d2 e k
  cases y <;> simp only [gIx, reduceCtorEq] at e
  rename_i i
  have gen : (items x).bind (fun ts => L2.atI ts i) = some z → rIx K v u H Q := fun e => by
    obtain ⟨ts, e2, e3⟩ := Option.bind_eq_some_iff.mp e
    obtain ⟨a, xs, rfl, h, dl⟩ := d1.items s.sub e2
    obtain ⟨w, h1, h2⟩ := dl.atI e3
    rcases h with h | h
    · exact .inr (.inl ⟨a, xs, i, w, rfl, b_int d2, h, h1, k w Hs H s (Gr.refl _) h2⟩)
    · exact .inl ⟨a, xs, i, w, rfl, b_int d2, h, h1, k w Hs H s (Gr.refl _) h2⟩
  cases x <;> first | exact gen e | skip
  simp only at e
  split at e
  · rename_i c
    obtain ⟨c', e1, rfl⟩ := Option.map_eq_some_iff.mp e
    exact .inr (.inr ⟨_, i, c', b_str d1, b_int d2, Nat.le_trans c lim_le, e1, k _ Hs H s (Gr.refl _) (d_str.mpr rfl)⟩)
  · cases e
end
end Pu
set_option Elab.async false
set_option linter.all false
set_option maxRecDepth 100000
set_option maxHeartbeats 1000000
namespace Pu
open PySem PySem.Spec PyProof.Rows L2
/-! ### one operand -/
def Prim1 (K : PySem.W.Frag) (r : V → Hp → VK → Prop) (g : T → Option T) : Prop := ∀ (F : Fa) (Hs H : Hp) (ρ : En) (σ : L2.St) (x z : T) (v : V) (Q : VK), SR K F Hs H ρ σ → DB K Hs H x v → g x = some z →
  (∀ w Hs' H', SR K F Hs' H' ρ σ → Gr Hs Hs' → D K Hs' z w → Q w H') → r v H Q
section
variable {X : Cx} {W : Wi}
def mUn (g : T → Option T) (m : EM') : EM' := fun ρ => (m ρ).bind fun r => (g r.1).map fun z => (z, r.2)
theorem em_un {op : UnaryOp} {r : V → Hp → VK → Prop} {g : T → Option T} {e : Expr} {m : EM'} {pos : Pos} (ho : UnR X (unaryOp op) r) (hp : Prim1 X.K r g) (h : EM X e m) : EM X (.UnaryOp op e pos) (mUn g m) := by
  intro ρ t ρ' q
  obtain ⟨⟨x, ρ1⟩, e1, q⟩ := Option.bind_eq_some_iff.mp q
  obtain ⟨z, e2, q⟩ := Option.map_eq_some_iff.mp q
  cases q
  exact pe_w (pe_un ho (h _ _ _ e1)) fun σ H Q ⟨F, Hs, s, k⟩ => ⟨F, Hs, s, fun v Hs1 H1 s1 g1 d1 => hp F Hs1 H1 _ σ x _ v Q s1 (d1.b s1.sub) e2 fun w Hs2 H2 s2 g2 d2 => k w Hs2 H2 s2 (g1.trans g2) d2⟩
def gNeg : T → Option T
  | .int i => some (.int (-i))
  | _ => none
theorem p_neg {K : PySem.W.Frag} : Prim1 K (rU fun i => .int (-i)) gNeg := by
  intro F Hs H ρ σ x z v Q s d e k
  cases x <;> simp only [gNeg, reduceCtorEq, Option.some.injEq] at e
  subst e
  exact ⟨_, b_int d, k _ Hs H s (Gr.refl _) (d_int.mpr rfl)⟩
end
/-! ### built-ins by values -/
section
variable {K : PySem.W.Frag} {F : Fa} {Hs H : Hp} {ρ : En} {σ : L2.St}
theorem dbl1 {t : T} {vs : List V} (h : DBL K Hs H [t] vs) : ∃ v, vs = [v] ∧ DB K Hs H t v := by
  cases h with
  | cons h r => cases r; exact ⟨_, rfl, h⟩
theorem dbl2 {t u : T} {vs : List V} (h : DBL K Hs H [t, u] vs) : ∃ v w, vs = [v, w] ∧ DB K Hs H t v ∧ DB K Hs H u w := by
  cases h with
  | cons h r =>
    obtain ⟨w, rfl, h2⟩ := dbl1 r
    exact ⟨_, _, rfl, h, h2⟩
def g1 (g : T → Option T) : List T → Option T
  | [t] => g t
  | _ => none
def g2 (g : T → T → Option T) : List T → Option T
  | [t, u] => g t u
  | _ => none
theorem g1_some {g : T → Option T} {ts : List T} {z : T} (h : g1 g ts = some z) : ∃ t, ts = [t] ∧ g t = some z := by
  unfold g1 at h
  split at h
  · exact ⟨_, rfl, h⟩
  · cases h
theorem g2_some {g : T → T → Option T} {ts : List T} {z : T} (h : g2 g ts = some z) : ∃ t u, ts = [t, u] ∧ g t u = some z := by
  unfold g2 at h
  split at h
  · exact ⟨_, _, rfl, h⟩
  · cases h
theorem PrimN.or {r r' : List V → Hp → VK → Prop} {g g' : List T → Option T} (h : PrimN K r g) (h' : PrimN K r' g') : PrimN K (fun xs H Q => r xs H Q ∨ r' xs H Q) (fun ts => (g ts).or (g' ts)) := by
  intro F Hs H ρ σ ts z vs Q s d e k
  cases e1 : g ts with
  | some w =>
    simp only [e1, Option.or] at e
    cases e
    exact .inl (h F Hs H ρ σ ts z vs Q s d e1 k)
  | none =>
    simp only [e1, Option.or] at e
    exact .inr (h' F Hs H ρ σ ts z vs Q s d e k)
theorem PrimNF.prim {r : List V → Hp → VK → Prop} {g : List T → Option T} (h : PrimNF K r g) : PrimN K r g := by
  intro F Hs H ρ σ ts z vs Q s d e k
  refine h F Hs H ρ σ ts z vs Q s d e fun p o Hs' H' h0 s' g oc => ?_
  obtain ⟨o', ho, hd⟩ := oc.d
  obtain ⟨r1, r2, r3⟩ := s'.at
  rw [r1] at ho
  cases ho
  have g2 : Gr Hs' (upd Hs' p o) := Gr.new r2
  exact k (.ref p) _ H' (s'.freeze h0) (g.trans g2) (hd _ g2 upd_same)
/-- len -/
def gLen : T → Option T
  | .str x => if x.length ≤ lim then some (.int x.length) else none
  | .dk ks _ => if ks.length ≤ lim then some (.int ks.length) else none
  | t => (items t).map fun ts => .int ts.length
theorem p_lenQ : PrimN K (fun xs H Q => ∃ p ys, xs = [.ref p] ∧ (SqL K H p ys ∨ SqT K H p ys) ∧ Q (.int ys.length) H) (g1 fun t => (items t).map fun ts => .int ts.length) := by
  intro F Hs H ρ σ ts z vs Q s d e k
  obtain ⟨t, rfl, e'⟩ := g1_some e
  replace e := e'
  clear e'
  obtain ⟨us, e1, rfl⟩ := Option.map_eq_some_iff.mp e
  obtain ⟨v, rfl, d'⟩ := dbl1 d
  replace d := d'
  clear d'
  obtain ⟨a, xs, rfl, h, dl⟩ := d.items s.sub e1
  exact ⟨a, xs, rfl, h.symm, k _ Hs H s (Gr.refl _) (d_int.mpr (by rw [dl.length]))⟩
theorem p_lenS : PrimN K (fun xs H Q => ∃ z, xs = [.str z] ∧ z.length ≤ sizeLine ∧ Q (.int z.length) H) (g1 fun t => match t with | .str x => if x.length ≤ lim then some (.int x.length) else none | _ => none) := by
  intro F Hs H ρ σ ts z vs Q s d e k
  obtain ⟨t, rfl, e'⟩ := g1_some e
  replace e := e'
  clear e'
  obtain ⟨v, rfl, d'⟩ := dbl1 d
  replace d := d'
  clear d'
  split at e
  · split at e
    · rename_i c
      cases e
      exact ⟨_, by rw [b_str d], Nat.le_trans c lim_le, k _ Hs H s (Gr.refl _) (d_int.mpr rfl)⟩
    · cases e
  · cases e
/-- abs, int, max, min -/
def gAbs : T → Option T
  | .int i => some (.int (if i < 0 then -i else i))
  | _ => none
theorem p_abs : PrimN K (fun xs H Q => ∃ i, xs = [.int i] ∧ Q (.int (if i < 0 then -i else i)) H) (g1 gAbs) := by
  intro F Hs H ρ σ ts z vs Q s d e k
  obtain ⟨t, rfl, e'⟩ := g1_some e
  replace e := e'
  clear e'
  obtain ⟨v, rfl, d'⟩ := dbl1 d
  replace d := d'
  clear d'
  cases t <;> simp only [gAbs, reduceCtorEq, Option.some.injEq] at e
  subst e
  exact ⟨_, by rw [b_int d], k _ Hs H s (Gr.refl _) (d_int.mpr rfl)⟩
def gInt : T → Option T
  | .int i => some (.int i)
  | .bl k => some (.int (if k then 1 else 0))
  | _ => none
theorem p_int : PrimN K (fun xs H Q => (∃ i, xs = [.int i] ∧ Q (.int i) H) ∨ ∃ k, xs = [.bl k] ∧ Q (.int (if k then 1 else 0)) H) (g1 gInt) := by
  intro F Hs H ρ σ ts z vs Q s d e k
  obtain ⟨t, rfl, e'⟩ := g1_some e
  replace e := e'
  clear e'
  obtain ⟨v, rfl, d'⟩ := dbl1 d
  replace d := d'
  clear d'
  cases t <;> simp only [gInt, reduceCtorEq, Option.some.injEq] at e
  · subst e
    exact .inr ⟨_, by rw [b_bl d], k _ Hs H s (Gr.refl _) (d_int.mpr rfl)⟩
  · subst e
    exact .inl ⟨_, by rw [b_int d], k _ Hs H s (Gr.refl _) (d_int.mpr rfl)⟩
def gMax2 : T → T → Option T
  | .int i, .int j => some (.int (if j > i then j else i))
  | _, _ => none
def gMin2 : T → T → Option T
  | .int i, .int j => some (.int (if j < i then j else i))
  | _, _ => none
theorem p_max2 : PrimN K (fun xs H Q => ∃ i j, xs = [.int i, .int j] ∧ Q (.int (if j > i then j else i)) H) (g2 gMax2) := by
  intro F Hs H ρ σ ts z vs Q s d e k
  obtain ⟨t, u, rfl, e'⟩ := g2_some e
  replace e := e'
  clear e'
  obtain ⟨v, w, rfl, d1, d2⟩ := dbl2 d
  cases t <;> cases u <;> simp only [gMax2, reduceCtorEq, Option.some.injEq] at e
  subst e
  exact ⟨_, _, by rw [b_int d1, b_int d2], k _ Hs H s (Gr.refl _) (d_int.mpr rfl)⟩
theorem p_min2 : PrimN K (fun xs H Q => ∃ i j, xs = [.int i, .int j] ∧ Q (.int (if j < i then j else i)) H) (g2 gMin2) := by
  intro F Hs H ρ σ ts z vs Q s d e k
  obtain ⟨t, u, rfl, e'⟩ := g2_some e
  replace e := e'
  clear e'
  obtain ⟨v, w, rfl, d1, d2⟩ := dbl2 d
  cases t <;> cases u <;> simp only [gMin2, reduceCtorEq, Option.some.injEq] at e
  subst e
  exact ⟨_, _, by rw [b_int d1, b_int d2], k _ Hs H s (Gr.refl _) (d_int.mpr rfl)⟩
/-- tuple(xs), list(xs) -/
def gTupOf (t : T) : Option T := (items t).bind fun ts => if ts.length ≤ lim then some (.tup ts) else none
theorem p_tupOf : PrimN K (fun xs H Q => ∃ p ys, xs = [.ref p] ∧ ((SqL K H p ys ∧ ∀ l, H l = none → Q (.ref l) (upd H l (.tup ys))) ∨ (SqT K H p ys ∧ Q (.ref p) H))) (g1 gTupOf) := by
  intro F Hs H ρ σ ts z vs Q s d e k
  obtain ⟨t, rfl, e'⟩ := g1_some e
  replace e := e'
  clear e'
  obtain ⟨v, rfl, d'⟩ := dbl1 d
  replace d := d'
  clear d'
  obtain ⟨us, e1, e⟩ := Option.bind_eq_some_iff.mp e
  split at e
  · cases e
    have new : ∀ (a : Addr) (xs : List V), DL K Hs us xs → ∀ l, H l = none → Q (.ref l) (upd H l (.tup xs)) := fun a xs dl l hl => by
      have g : Gr Hs (upd Hs l (.tup xs)) := Gr.up s.sub hl
      exact k _ _ _ (s.grow hl) g (d_tup.mpr ⟨l, xs, rfl, SqT.of upd_same, dl.mono g⟩)
    cases t <;> simp only [items, reduceCtorEq, Option.some.injEq] at e1
    · subst e1
      obtain ⟨a, xs, rfl, h, dl⟩ := d
      exact ⟨a, xs, rfl, .inl ⟨SqL.of h, new a xs dl⟩⟩
    · subst e1
      obtain ⟨a, xs, rfl, h, dl⟩ := d_rl.mp d
      exact ⟨a, xs, rfl, .inl ⟨gr_l s.sub h, new a xs dl⟩⟩
    · subst e1
      obtain ⟨a, xs, rfl, h, dl⟩ := d_tup.mp d
      exact ⟨a, xs, rfl, .inr ⟨gr_t s.sub h, k _ Hs H s (Gr.refl _) d⟩⟩
  · cases e
def gLstOf (t : T) : Option T := (items t).map .lst
theorem p_lstOf : PrimNF K (fun xs H Q => ∃ p ys, xs = [.ref p] ∧ (SqL K H p ys ∨ SqT K H p ys) ∧ ∀ l, H l = none → Q (.ref l) (upd H l (.lst ys))) (g1 gLstOf) := by
  intro F Hs H ρ σ ts z vs Q s d e k
  obtain ⟨t, rfl, e'⟩ := g1_some e
  replace e := e'
  clear e'
  obtain ⟨v, rfl, d'⟩ := dbl1 d
  replace d := d'
  clear d'
  obtain ⟨us, e1, rfl⟩ := Option.map_eq_some_iff.mp e
  obtain ⟨a, xs, rfl, h, dl⟩ := d.items s.sub e1
  exact ⟨a, xs, rfl, h.symm, fun l hl => k l _ Hs _ (s.rs_none hl) (s.side hl) (Gr.refl _) ⟨xs, upd_same, dl⟩⟩
/-- all, any -/
def bools : List T → Option (List Bool)
  | [] => some []
  | .bl b :: ts => (bools ts).map fun bs => b :: bs
  | _ => none
theorem bools_dl : ∀ {ts : List T} {bs : List Bool} {xs : List V}, bools ts = some bs → DL K Hs ts xs → xs = bs.map V.bl
  | [], _, _, e, d => by cases e; exact dl_nil.mp d
  | .bl b :: ts, _, _, e, d => by
    obtain ⟨bs, e1, rfl⟩ := Option.map_eq_some_iff.mp e
    obtain ⟨x, r, rfl, d1, d2⟩ := dl_cons.mp d
    rw [d_bl.mp d1, bools_dl e1 d2]
    rfl
def gAll : T → Option T
  | .lst ts => (bools ts).map fun bs => .bl (bs.all id)
  | _ => none
def gAny : T → Option T
  | .lst ts => (bools ts).map fun bs => .bl (bs.any id)
  | _ => none
theorem p_all : PrimN K (rAll K) (g1 gAll) := by
  intro F Hs H ρ σ ts z vs Q s d e k
  obtain ⟨t, rfl, e'⟩ := g1_some e
  replace e := e'
  clear e'
  obtain ⟨v, rfl, d'⟩ := dbl1 d
  replace d := d'
  clear d'
  cases t <;> simp only [gAll, reduceCtorEq] at e
  obtain ⟨bs, e1, rfl⟩ := Option.map_eq_some_iff.mp e
  obtain ⟨a, xs, rfl, h, dl⟩ := d
  have := bools_dl e1 dl
  subst this
  exact ⟨a, bs, rfl, SqL.of h, k _ Hs H s (Gr.refl _) (d_bl.mpr rfl)⟩
theorem p_any : PrimN K (rAny K) (g1 gAny) := by
  intro F Hs H ρ σ ts z vs Q s d e k
  obtain ⟨t, rfl, e'⟩ := g1_some e
  replace e := e'
  clear e'
  obtain ⟨v, rfl, d'⟩ := dbl1 d
  replace d := d'
  clear d'
  cases t <;> simp only [gAny, reduceCtorEq] at e
  obtain ⟨bs, e1, rfl⟩ := Option.map_eq_some_iff.mp e
  obtain ⟨a, xs, rfl, h, dl⟩ := d
  have := bools_dl e1 dl
  subst this
  exact ⟨a, bs, rfl, SqL.of h, k _ Hs H s (Gr.refl _) (d_bl.mpr rfl)⟩
/-- lists of ints -/
def isOf : List T → Option (List Int)
  | [] => some []
  | .int i :: ts => (isOf ts).map fun is => i :: is
  | _ => none
theorem ints_dl : ∀ {ts : List T} {is : List Int} {xs : List V}, isOf ts = some is → DL K Hs ts xs → xs = is.map V.int
  | [], _, _, e, d => by cases e; exact dl_nil.mp d
  | .int b :: ts, _, _, e, d => by
    obtain ⟨bs, e1, rfl⟩ := Option.map_eq_some_iff.mp e
    obtain ⟨x, r, rfl, d1, d2⟩ := dl_cons.mp d
    rw [d_int.mp d1, ints_dl e1 d2]
    rfl
theorem ints_map (is : List Int) : isOf (is.map T.int) = some is := by
  induction is with
  | nil => rfl
  | cons i r ih => simp only [List.map_cons, isOf, ih, Option.map_some]
def gSum : T → Option T
  | .lst ts => (isOf ts).map fun is => .int is.sum
  | _ => none
theorem p_sum : PrimN K (rSum K) (g1 gSum) := by
  intro F Hs H ρ σ ts z vs Q s d e k
  obtain ⟨t, rfl, e'⟩ := g1_some e
  replace e := e'
  clear e'
  obtain ⟨v, rfl, d'⟩ := dbl1 d
  replace d := d'
  clear d'
  cases t <;> simp only [gSum, reduceCtorEq] at e
  obtain ⟨bs, e1, rfl⟩ := Option.map_eq_some_iff.mp e
  obtain ⟨a, xs, rfl, h, dl⟩ := d
  have := ints_dl e1 dl
  subst this
  exact ⟨a, bs, rfl, SqL.of h, k _ Hs H s (Gr.refl _) (d_int.mpr rfl)⟩
/-- sorted ints, by inserting -/
def ins (i : Int) : List Int → List Int
  | [] => [i]
  | j :: r => if i ≤ j then i :: j :: r else j :: ins i r
def isort : List Int → List Int
  | [] => []
  | i :: r => ins i (isort r)
theorem ins_perm (i : Int) : ∀ l : List Int, (ins i l).Perm (i :: l)
  | [] => .refl _
  | j :: r => by
    unfold ins
    split
    · exact .refl _
    · exact ((ins_perm i r).cons j).trans (.swap i j r)
theorem isort_perm : ∀ l : List Int, (isort l).Perm l
  | [] => .refl _
  | i :: r => (ins_perm i (isort r)).trans ((isort_perm r).cons i)
theorem ins_sorted (i : Int) : ∀ l : List Int, l.Pairwise (· ≤ ·) → (ins i l).Pairwise (· ≤ ·)
  | [], _ => by simp [ins]
  | j :: r, h => by
    unfold ins
    rw [List.pairwise_cons] at h
    split
    · rename_i c
      rw [List.pairwise_cons]
      refine ⟨fun k hk => ?_, List.pairwise_cons.mpr h⟩
      rcases List.mem_cons.mp hk with z | z
      · rw [z]; exact c
      · exact Int.le_trans c (h.1 k z)
    · rename_i c
      rw [List.pairwise_cons]
      refine ⟨fun k hk => ?_, ins_sorted i r h.2⟩
      have := (ins_perm i r).mem_iff.mp hk
      rcases List.mem_cons.mp this with z | z
      · rw [z]; omega
      · exact h.1 k z
theorem isort_sorted : ∀ l : List Int, (isort l).Pairwise (· ≤ ·)
  | [] => .nil
  | i :: r => ins_sorted i _ (isort_sorted r)
theorem isort_is {l ys : List Int} (p : ys.Perm l) (s : ys.Pairwise (· ≤ ·)) : ys = isort l := PySem.W.ksm_same (p.trans (isort_perm l).symm) s (isort_sorted l)
def gSorted : T → Option T
  | .lst ts => (isOf ts).bind fun is => if is.length < 64 then some (.lst ((isort is).map .int)) else none
  | _ => none
theorem p_sorted : PrimNF K (rSorted K) (g1 gSorted) := by
  intro F Hs H ρ σ ts z vs Q s d e k
  obtain ⟨t, rfl, e'⟩ := g1_some e
  replace e := e'
  clear e'
  obtain ⟨v, rfl, d'⟩ := dbl1 d
  replace d := d'
  clear d'
  cases t <;> simp only [gSorted, reduceCtorEq] at e
  obtain ⟨is, e1, e⟩ := Option.bind_eq_some_iff.mp e
  split at e
  · rename_i c
    cases e
    obtain ⟨a, xs, rfl, h, dl⟩ := d
    have := ints_dl e1 dl
    subst this
    refine ⟨a, is, rfl, SqL.of h, c, fun ys p hp hs hn => ?_⟩
    have := isort_is hp hs
    subst this
    exact k p _ Hs _ (s.rs_none hn) (s.side hn) (Gr.refl _) ⟨_, upd_same, dl_ints.mpr rfl⟩
  · cases e
/-- sorted of a dict: its keys -/
def intKeys : List Key → Option (List Int)
  | [] => some []
  | .inl i :: ks => (intKeys ks).map fun is => i :: is
  | _ => none
theorem intKeys_map : ∀ {ks : List Key} {is : List Int}, intKeys ks = some is → ks = is.map Sum.inl
  | [], _, e => by cases e; rfl
  | .inl i :: ks, _, e => by
    obtain ⟨is, e1, rfl⟩ := Option.map_eq_some_iff.mp e
    rw [intKeys_map e1]
    rfl
def gSortedD : T → Option T
  | .dk ks _ => (intKeys ks).bind fun is => if is.length < 64 then some (.lst ((isort is).map .int)) else none
  | _ => none
theorem zip_fst {α β : Type} : ∀ {l : List α} {m : List β}, l.length = m.length → (l.zip m).map Prod.fst = l
  | [], [], _ => rfl
  | [], _ :: _, h => by simp at h
  | _ :: _, [], h => by simp at h
  | a :: l, b :: m, h => by
    rw [List.zip_cons_cons, List.map_cons, zip_fst (by simpa using h)]
theorem p_sortedD : PrimNF K (fun xs H Q => ∃ (a : Addr) (kvs : List (Key × V)) (ks : List Int), xs = [.ref a] ∧ Rd H a (.dK kvs) ∧ kvs.map (·.1) = ks.map Sum.inl ∧ ks.length < 64 ∧
    ∀ (ys : List Int) (p : Addr), ys.Perm ks → ys.Pairwise (· ≤ ·) → H p = none → Q (.ref p) (upd H p (.lst (ys.map V.int)))) (g1 gSortedD) := by
  intro F Hs H ρ σ ts z vs Q s d e k
  obtain ⟨t, rfl, e'⟩ := g1_some e
  replace e := e'
  clear e'
  obtain ⟨v, rfl, d'⟩ := dbl1 d
  replace d := d'
  clear d'
  cases t <;> simp only [gSortedD, reduceCtorEq] at e
  obtain ⟨is, e1, e⟩ := Option.bind_eq_some_iff.mp e
  split at e
  · rename_i c
    cases e
    obtain ⟨a, xs, rfl, h, l, dl⟩ := d
    refine ⟨a, _, is, rfl, h, ?_, c, fun ys p hp hs hn => ?_⟩
    · rw [zip_fst l]
      exact intKeys_map e1
    · have := isort_is hp hs
      subst this
      exact k p _ Hs _ (s.rs_none hn) (s.side hn) (Gr.refl _) ⟨_, upd_same, dl_ints.mpr rfl⟩
  · cases e
end
/-! ### isinstance(x, T), T a built-in class -/
def tyT : T → Option String
  | .non => some "NoneType"
  | .bl _ => some "bool"
  | .int _ => some "int"
  | .str _ => some "str"
  | .lst _ => some "list"
  | .rl _ => some "list"
  | .tup _ => some "tuple"
  | .dk _ _ => some "dict"
def isA (a b : String) : Bool := a == b || (a == "bool" && b == "int")
def gIsi (b : String) (t : T) : Option T := (tyT t).map fun a => .bl (isA a b)
theorem ty_dp {K : PySem.W.Frag} {Hs H : Hp} {t : T} {a : String} {v : V} (g : Gr Hs H) (h : DB K Hs H t v) (e : tyT t = some a) : TyX K H v (.type a) := by
  cases t <;> simp only [tyT, Option.some.injEq] at e <;> subst e
  · rw [b_non h]; exact .base .non
  · rw [b_bl h]; exact .base (.bl _)
  · rw [b_int h]; exact .base (.int _)
  · rw [b_str h]; exact .base (.str _)
  · obtain ⟨a, xs, rfl, q, _⟩ := h; exact .base (.lst q)
  · obtain ⟨a, xs, rfl, q, _⟩ := d_rl.mp h
    rcases q with q | ⟨o, its, n, q, c, _⟩
    · rcases q with q | ⟨o, q⟩
      · exact .base (.lst (g _ _ q))
      · exact .base (.frz (g _ _ q))
    · exact .kList q c
  · obtain ⟨a, xs, rfl, q, _⟩ := d_tup.mp h
    rcases q with q | ⟨o, its, n, q, c, _⟩
    · rcases q with q | ⟨o, q⟩
      · exact .base (.tup (g _ _ q))
      · exact .fTuple (g _ _ q)
    · exact .kTuple q c
  · obtain ⟨a, xs, rfl, q, _⟩ := h
    rcases q with q | ⟨o, q⟩
    · exact .base (.dK q)
    · exact .fDict q
def kitOk (b : String) : Bool := ["NoneType", "bool", "int", "str", "list", "tuple", "dict"].all fun a => kitB a b == some (isA a b)
theorem kitOk_int : kitOk "int" = true := by decide +kernel
theorem kitOk_bool : kitOk "bool" = true := by decide +kernel
theorem kitOk_str : kitOk "str" = true := by decide +kernel
theorem kitOk_list : kitOk "list" = true := by decide +kernel
theorem kitOk_tuple : kitOk "tuple" = true := by decide +kernel
theorem kitOk_get {a b : String} {t : T} (h : kitOk b = true) (e : tyT t = some a) : kitB a b = some (isA a b) := by
  unfold kitOk at h
  rw [List.all_eq_true] at h
  have m : a ∈ ["NoneType", "bool", "int", "str", "list", "tuple", "dict"] := by
    cases t <;> simp only [tyT, Option.some.injEq] at e <;> subst e <;> simp
  exact eq_of_beq (h a m)
section
variable {X : Cx}
theorem em_isi {e : Expr} {b : String} {y : Str} {m : EM'} {p p2 pos : Pos} (hk : kitOk b = true) (hg : Gl X "isinstance") (hm : X.mg "isinstance" = none) (hv : bootBuiltins "isinstance" = some (.builtin "isinstance")) (h : EM X e m)
    (hty : PE X (.Name y p2) (tC (.ty b))) (hs : starEach [e, .Name y p2] X.env = (false, eval e X.env) :: starEach [.Name y p2] X.env := by rfl) (hs2 : starEach [.Name y p2] X.env = (false, eval (.Name y p2) X.env) :: starEach [] X.env := by rfl)
    (hpl : (backTo pos (starEach [.Name y p2] X.env)).any (·.1) = false := by rfl) : EM X (.Call (.Name "isinstance" p) [e, .Name y p2] [] pos) (mUn (gIsi b) m) := by
  intro ρ t ρ' q
  obtain ⟨⟨x, ρ1⟩, e1, q⟩ := Option.bind_eq_some_iff.mp q
  obtain ⟨z, e2, q⟩ := Option.map_eq_some_iff.mp q
  cases q
  obtain ⟨a, e3, rfl⟩ := Option.map_eq_some_iff.mp e2
  refine pe_w (pe_callB call_isi hg hm hv (pa_cons (h _ _ _ e1) (pa_cons hty pa_nil hs2) hs) (he := hs) (hpl := hpl)) fun σ H Q ⟨F, Hs, s, k⟩ => ⟨F, Hs, s, fun v Hs1 H1 s1 g1 d1 => ?_⟩
  refine ⟨v, .ty b, .type a, .type b, isA a b, rfl, .ty b, ty_dp s1.sub (d1.b s1.sub) e3, kit_ty (kitOk_get hk e3), k _ Hs1 H1 s1 g1 (d_bl.mpr rfl)⟩
end
end Pu
set_option Elab.async false
set_option linter.all false
set_option maxRecDepth 100000
set_option maxHeartbeats 1000000
namespace Pu
open PySem PySem.Spec PyProof.Rows L2
/-! ### slices -/
def cutT {α : Type} (xs : List α) (lo hi : Option Int) : List α := (xs.drop (HT.sIx xs.length 0 lo)).take (HT.sIx xs.length xs.length hi - HT.sIx xs.length 0 lo)
theorem DL.cut {K : PySem.W.Frag} {H : Hp} {ts : List T} {xs : List V} (h : DL K H ts xs) (lo hi : Option Int) : DL K H (cutT ts lo hi) (cutV xs lo hi) := by
  unfold cutT cutV
  rw [h.length]
  exact (h.drop _).take _
theorem cutT_whole {α : Type} {xs : List α} {lo hi : Option Int} (h : HT.sIx xs.length 0 lo = 0 ∧ HT.sIx xs.length xs.length hi = xs.length) : cutT xs lo hi = xs := by
  unfold cutT
  rw [h.1, h.2]
  simp
section
variable {X : Cx} {W : Wi}
/-- the bounds of a slice -/
def mPart : Option EM' → En → Option (Option Int × En)
  | none, ρ => some (none, ρ)
  | some m, ρ => match m ρ with
    | some (.int i, ρ1) => some (some i, ρ1)
    | _ => none
def PM (X : Cx) : Option Expr → Option EM' → Prop
  | none, none => True
  | some e, some m => EM X e m
  | _, _ => False
theorem po_m {e : Option Expr} {m : Option EM'} (h : PM X e m) {ρ ρ1 : En} {o : Option Int} (q : mPart m ρ = some (o, ρ1)) :
    ∃ t : TO, PO X e t ∧ ∀ F Hs H σ (Q : Option Int → Hp → Prop), SR X.K F Hs H ρ σ → (∀ Hs' H', SR X.K F Hs' H' ρ1 σ → Gr Hs Hs' → Q o H') → t σ H Q := by
  cases m with
  | none =>
    cases e with
    | none =>
      cases q
      exact ⟨_, po_none, fun F Hs H σ Q s k => k Hs H s (Gr.refl _)⟩
    | some e => exact h.elim
  | some m =>
    cases e with
    | none => exact h.elim
    | some e =>
      have q : (match m ρ with | some (.int i, ρ1) => some (some i, ρ1) | _ => none) = some (o, ρ1) := q
      split at q
      · rename_i i ρ2 e1
        cases q
        exact ⟨_, po_some (h _ _ _ e1), fun F Hs H σ Q s k => ⟨F, Hs, s, fun v Hs1 H1 s1 g1 d1 => ⟨i, d_int.mp d1, k Hs1 H1 s1 g1⟩⟩⟩
      · cases q
def mSl (g : T → Option Int → Option Int → Option T) (a : Op) (lo hi : Option EM') : EM' := fun ρ => match mO a ρ with
  | none => none
  | some (x, ρ1) => match mPart lo ρ1 with
    | none => none
    | some (l, ρ2) => match mPart hi ρ2 with
      | none => none
      | some (h, ρ3) => match mO2 a x ρ3 with
        | none => none
        | some x => (g x l h).map fun z => (z, ρ3)
theorem mSl_inv {g : T → Option Int → Option Int → Option T} {a : Op} {lo hi : Option EM'} {ρ ρ' : En} {z : T} (q : mSl g a lo hi ρ = some (z, ρ')) :
    ∃ x ρ1 l ρ2 h x', mO a ρ = some (x, ρ1) ∧ mPart lo ρ1 = some (l, ρ2) ∧ mPart hi ρ2 = some (h, ρ') ∧ mO2 a x ρ' = some x' ∧ g x' l h = some z := by
  unfold mSl at q
  split at q
  · cases q
  rename_i x ρ1 e1
  split at q
  · cases q
  rename_i l ρ2 e2
  split at q
  · cases q
  rename_i h ρ3 e3
  split at q
  · cases q
  rename_i x' e4
  obtain ⟨z', e5, q⟩ := Option.map_eq_some_iff.mp q
  cases q
  exact ⟨x, ρ1, l, ρ2, h, x', e1, e2, e3, e4, e5⟩
def PrimS (K : PySem.W.Frag) (r : V → Option Int → Option Int → Hp → VK → Prop) (g : T → Option Int → Option Int → Option T) : Prop := ∀ (F : Fa) (Hs H : Hp) (ρ : En) (σ : L2.St) (x z : T) (l h : Option Int) (v : V) (Q : VK), SR K F Hs H ρ σ → DB K Hs H x v → g x l h = some z →
  (∀ w Hs' H', SR K F Hs' H' ρ σ → Gr Hs Hs' → D K Hs' z w → Q w H') → r v l h H Q
def PrimSF (K : PySem.W.Frag) (r : V → Option Int → Option Int → Hp → VK → Prop) (g : T → Option Int → Option Int → Option T) : Prop := ∀ (F : Fa) (Hs H : Hp) (ρ : En) (σ : L2.St) (x z : T) (l h : Option Int) (v : V) (Q : VK), SR K F Hs H ρ σ → DB K Hs H x v → g x l h = some z →
  (∀ p o Hs' H', F.rs p = none → SR K (F.res p o) Hs' H' ρ σ → Gr Hs Hs' → OC K Hs' H' z p → Q (.ref p) H') → r v l h H Q
theorem sl_read {ea : Expr} {lo hi : Option Expr} {a : Op} {ml mh : Option EM'} (ha : OM X ea a) (hl : PM X lo ml) (hh : PM X hi mh) {ρ ρ1 ρ2 ρ3 : En} {x : Option T} {x' : T} {l h : Option Int} (e1 : mO a ρ = some (x, ρ1)) (e2 : mPart ml ρ1 = some (l, ρ2)) (e3 : mPart mh ρ2 = some (h, ρ3)) (e4 : mO2 a x ρ3 = some x') :
    ∃ ta tl th, PE X ea ta ∧ PO X lo tl ∧ PO X hi th ∧ ∀ F Hs H σ (Q : V → Option Int → Option Int → Hp → Prop), SR X.K F Hs H ρ σ → (∀ v Hs' H', SR X.K F Hs' H' ρ3 σ → Gr Hs Hs' → DB X.K Hs' H' x' v → Q v l h H') → ta σ H fun v H1 => tl σ H1 fun l H2 => th σ H2 fun h H3 => Q v l h H3 := by
  obtain ⟨tl, pl, kl⟩ := po_m hl e2
  obtain ⟨th, ph, kh⟩ := po_m hh e3
  cases a with
  | e ma =>
    simp only [mO, Option.map_eq_some_iff] at e1
    obtain ⟨⟨x0, ρ0⟩, q1, q2⟩ := e1
    cases q2
    cases e4
    exact ⟨_, tl, th, ha _ _ _ q1, pl, ph, fun F Hs H σ Q s k => ⟨F, Hs, s, fun v Hs1 H1 s1 g1 d1 => kl F Hs1 H1 σ _ s1 fun Hs2 H2 s2 g2 => kh F Hs2 H2 σ _ s2 fun Hs3 H3 s3 g3 => k v Hs3 H3 s3 ((g1.trans g2).trans g3) ((d1.mono (g2.trans g3)).b s3.sub)⟩⟩
  | n i =>
    simp only [mO, Option.map_eq_some_iff] at e1
    obtain ⟨x0, p0, e1⟩ := e1
    cases e1
    refine ⟨_, tl, th, ha, pl, ph, fun F Hs H σ Q s k => ?_⟩
    obtain ⟨v, q, _⟩ := s.peek p0
    refine ⟨v, q, kl F Hs H σ _ s fun Hs2 H2 s2 g2 => kh F Hs2 H2 σ _ s2 fun Hs3 H3 s3 g3 => ?_⟩
    obtain ⟨v', q', d'⟩ := s3.peek e4
    rw [q] at q'
    cases q'
    exact k v Hs3 H3 s3 (g2.trans g3) d'
theorem em_sl {r : V → Option Int → Option Int → Hp → VK → Prop} {g : T → Option Int → Option Int → Option T} {e : Expr} {lo hi : Option Expr} {a : Op} {ml mh : Option EM'} {p2 pos : Pos} (hr : SlR X r) (hp : PrimS X.K r g) (ha : OM X e a) (hl : PM X lo ml) (hh : PM X hi mh) :
    EM X (.Subscript e (.Slice lo hi none p2) pos) (mSl g a ml mh) := by
  intro ρ z ρ' q
  obtain ⟨x, ρ1, l, ρ2, h, x', e1, e2, e3, e4, e5⟩ := mSl_inv q
  obtain ⟨ta, tl, th, pa, pl, ph, k⟩ := sl_read ha hl hh e1 e2 e3 e4
  refine pe_w (pe_slice hr pa pl ph) fun σ H Q ⟨F, Hs, s, kk⟩ => ?_
  exact k F Hs H σ (fun v l h H => r v l h H Q) s fun v Hs1 H1 s1 g1 d1 => hp F Hs1 H1 ρ' σ x' z l h v Q s1 d1 e5 fun w Hs2 H2 s2 g2 d2 => kk w Hs2 H2 s2 (g1.trans g2) d2
theorem ef_sl {r : V → Option Int → Option Int → Hp → VK → Prop} {g : T → Option Int → Option Int → Option T} {e : Expr} {lo hi : Option Expr} {a : Op} {ml mh : Option EM'} {p2 pos : Pos} (hr : SlR X r) (hp : PrimSF X.K r g) (ha : OM X e a) (hl : PM X lo ml) (hh : PM X hi mh) :
    EF X (.Subscript e (.Slice lo hi none p2) pos) (mSl g a ml mh) := by
  intro ρ z ρ' q
  obtain ⟨x, ρ1, l, ρ2, h, x', e1, e2, e3, e4, e5⟩ := mSl_inv q
  obtain ⟨ta, tl, th, pa, pl, ph, k⟩ := sl_read ha hl hh e1 e2 e3 e4
  refine pe_w (pe_slice hr pa pl ph) fun σ H Q ⟨F, Hs, s, kk⟩ => ?_
  exact k F Hs H σ (fun v l h H => r v l h H Q) s fun v Hs1 H1 s1 g1 d1 => hp F Hs1 H1 ρ' σ x' z l h v Q s1 d1 e5 fun w o Hs2 H2 h0 s2 g2 d2 => kk w o Hs2 H2 h0 s2 (g1.trans g2) d2
def gSlL (x : T) (lo hi : Option Int) : Option T := match x with
  | .lst ts => some (.lst (cutT ts lo hi))
  | .rl ts => some (.lst (cutT ts lo hi))
  | _ => none
def gSl (x : T) (lo hi : Option Int) : Option T := match x with
  | .lst ts => some (.lst (cutT ts lo hi))
  | .rl ts => some (.lst (cutT ts lo hi))
  | .tup ts => some (.tup (cutT ts lo hi))
  | .str z => if z.length ≤ lim then some (.str (cutS z lo hi)) else none
  | _ => none
theorem p_slLF {K : PySem.W.Frag} : PrimSF K (rSlL K) gSlL := by
  intro F Hs H ρ σ x z l h v Q s d e k
  have fin : ∀ (a : Addr) (ts : List T) (xs : List V), SqL K H a xs → DL K Hs ts xs → some (T.lst (cutT ts l h)) = some z → v = .ref a → rSlL K v l h H Q := fun a ts xs h1 dl e ev => by
    cases e
    exact ⟨a, xs, ev, h1, fun p hp => k p _ Hs _ (s.rs_none hp) (s.side hp) (Gr.refl _) ⟨_, upd_same, dl.cut l h⟩⟩
  cases x <;> simp only [gSlL, reduceCtorEq] at e
  · obtain ⟨a, xs, rfl, h1, dl⟩ := d
    exact fin a _ xs (SqL.of h1) dl e rfl
  · obtain ⟨a, xs, rfl, h1, dl⟩ := d_rl.mp d
    exact fin a _ xs (gr_l s.sub h1) dl e rfl
theorem PrimSF.prim {K : PySem.W.Frag} {r : V → Option Int → Option Int → Hp → VK → Prop} {g : T → Option Int → Option Int → Option T} (h : PrimSF K r g) : PrimS K r g := by
  intro F Hs H ρ σ x z l hh v Q s d e k
  refine h F Hs H ρ σ x z l hh v Q s d e fun p o Hs' H' h0 s' g oc => ?_
  obtain ⟨o', ho, hd⟩ := oc.d
  obtain ⟨r1, r2, r3⟩ := s'.at
  rw [r1] at ho
  cases ho
  have g2 : Gr Hs' (upd Hs' p o) := Gr.new r2
  exact k (.ref p) _ H' (s'.freeze h0) (g.trans g2) (hd _ g2 upd_same)
abbrev rSlAll (K : PySem.W.Frag) : V → Option Int → Option Int → Hp → VK → Prop := fun x lo hi H Q => rSlL K x lo hi H Q ∨ (rSlA K x lo hi H Q ∨ rSlS x lo hi H Q)
theorem slr_all : SlR X (rSlAll X.K) := sl_list.or (sl_tupA.or sl_str)
theorem p_sl {K : PySem.W.Frag} : PrimS K (rSlAll K) gSl := by
  intro F Hs H ρ σ x z l h v Q s d e k
  cases x <;> simp only [gSl, reduceCtorEq] at e
  · split at e
    · rename_i c
      cases e
      exact .inr (.inr ⟨_, b_str d, Nat.le_trans c lim_le, k _ Hs H s (Gr.refl _) (d_str.mpr rfl)⟩)
    · cases e
  · exact .inl (p_slLF.prim F Hs H ρ σ _ z l h v Q s d e k)
  · exact .inl (p_slLF.prim F Hs H ρ σ _ z l h v Q s d e k)
  · cases e
    obtain ⟨a, xs, rfl, h1, dl⟩ := d_tup.mp d
    refine .inr (.inl ⟨a, xs, rfl, gr_t s.sub h1, fun w => ?_, fun _ p hp => ?_⟩)
    · rw [← dl.length] at w
      rw [cutT_whole w] at k
      exact k _ Hs H s (Gr.refl _) d
    · have g : Gr Hs (upd Hs p (.tup (cutV xs l h))) := Gr.up s.sub hp
      exact k _ _ _ (s.grow hp) g (d_tup.mpr ⟨p, _, rfl, SqT.of upd_same, (dl.cut l h).mono g⟩)
/-! ### what loops walk -/
theorem wt_list {K : PySem.W.Frag} {Hs : Hp} {a : Addr} {xs : List V} {ts : List T} (hl : ∀ H, Gr Hs H → SqL K H a xs) (dl : DL K Hs ts xs) : WT K (Itl K a) ts Hs :=
  ⟨fun i H h g => walk_list.goes i H (by rw [← dl.length]; exact h) (hl H g), fun H g => by rw [dl.length]; exact walk_list.stops H (hl H g), fun i H x H' t e g y => by
    have hi : i < xs.length := by rw [← dl.length]; exact (List.getElem?_eq_some_iff.mp e).1
    obtain ⟨e1, e2⟩ := walk_list.yields i H x H' hi (hl H g) y
    obtain ⟨x', e3, d⟩ := dl.get e
    rw [e2] at e3
    cases e3
    exact .inl ⟨e1, d⟩⟩
theorem wt_tup {K : PySem.W.Frag} {Hs : Hp} {a : Addr} {xs : List V} {ts : List T} (hl : ∀ H, Gr Hs H → SqT K H a xs) (dl : DL K Hs ts xs) : WT K (Itt K a) ts Hs :=
  ⟨fun i H h g => walk_tup.goes i H (by rw [← dl.length]; exact h) (hl H g), fun H g => by rw [dl.length]; exact walk_tup.stops H (hl H g), fun i H x H' t e g y => by
    have hi : i < xs.length := by rw [← dl.length]; exact (List.getElem?_eq_some_iff.mp e).1
    obtain ⟨e1, e2⟩ := walk_tup.yields i H x H' hi (hl H g) y
    obtain ⟨x', e3, d⟩ := dl.get e
    rw [e2] at e3
    cases e3
    exact .inl ⟨e1, d⟩⟩
def mIt (m : EM') : IM' := fun ρ => (m ρ).bind fun r => (items r.1).map fun ts => (ts, r.2)
theorem im_seq {tg e : Expr} {m : EM'} (h : EM X e m) : IM X tg e (mIt m) := by
  intro ρ ts ρ' q
  obtain ⟨⟨t, ρ1⟩, e1, q⟩ := Option.bind_eq_some_iff.mp q
  obtain ⟨us, e2, q⟩ := Option.map_eq_some_iff.mp q
  cases q
  have he := h _ _ _ e1
  cases t <;> simp only [items, reduceCtorEq, Option.some.injEq] at e2
  · subst e2
    refine pi_w (pi_list he) fun σ H R ⟨F, Hs, s, k⟩ => ⟨F, Hs, s, fun v Hs1 H1 s1 g1 d1 => ?_⟩
    obtain ⟨a, xs, rfl, h1, dl⟩ := d_lst.mp d1
    exact ⟨a, rfl, ⟨xs, SqL.of (s1.sub _ _ h1)⟩, k _ Hs1 H1 s1 g1 (wt_list (fun H g => SqL.of (g _ _ h1)) dl)⟩
  · subst e2
    refine pi_w (pi_list he) fun σ H R ⟨F, Hs, s, k⟩ => ⟨F, Hs, s, fun v Hs1 H1 s1 g1 d1 => ?_⟩
    obtain ⟨a, xs, rfl, h1, dl⟩ := d_rl.mp d1
    exact ⟨a, rfl, ⟨xs, gr_l s1.sub h1⟩, k _ Hs1 H1 s1 g1 (wt_list (fun H g => gr_l g h1) dl)⟩
  · subst e2
    refine pi_w (pi_tup he) fun σ H R ⟨F, Hs, s, k⟩ => ⟨F, Hs, s, fun v Hs1 H1 s1 g1 d1 => ?_⟩
    obtain ⟨a, xs, rfl, h1, dl⟩ := d_tup.mp d1
    exact ⟨a, rfl, ⟨xs, gr_t s1.sub h1⟩, k _ Hs1 H1 s1 g1 (wt_tup (fun H g => gr_t g h1) dl)⟩
/-- lo, lo + 1, .. -/
def upTo (lo : Int) (n : Nat) : List T := (List.range n).map fun i => T.int (lo + (i : Nat))
theorem wt_range {K : PySem.W.Frag} {Hs : Hp} {lo : Int} {n : Nat} : WT K (Itr lo n) (upTo lo n) Hs :=
  ⟨fun i H h g => walk_range.goes i H (by simpa [upTo] using h) trivial, fun H g => by
    have : (upTo lo n).length = n := by simp [upTo]
    rw [this]
    exact walk_range.stops H trivial, fun i H x H' t e g y => by
    have hi : i < n := by have := (List.getElem?_eq_some_iff.mp e).1; simpa [upTo] using this
    obtain ⟨e1, e2⟩ := walk_range.yields i H x H' hi trivial y
    refine .inl ⟨e1, ?_⟩
    simp [upTo, List.getElem?_map, List.getElem?_range hi] at e
    subst e
    exact d_int.mpr e2⟩
def small62 (i : Int) : Bool := decide (-(2 ^ 62) ≤ i ∧ i < 2 ^ 62)
def mRng1 (m : EM') : IM' := fun ρ => match m ρ with
  | some (.int j, ρ1) => if small62 j = true then some (upTo 0 j.toNat, ρ1) else none
  | _ => none
theorem im_range1 {tg a : Expr} {m : EM'} {p pos : Pos} (hg : Gl X "range") (hm : X.mg "range" = none) (h : EM X a m) (hs1 : starEach (a :: []) X.env = (false, eval a X.env) :: starEach [] X.env := by rfl) (hs : starEach [a] X.env = [(false, eval a X.env)] := by rfl) :
    IM X tg (.Call (.Name "range" p) [a] [] pos) (mRng1 m) := by
  intro ρ ts ρ' q
  unfold mRng1 at q
  split at q
  · rename_i j ρ1 e1
    split at q
    · rename_i c
      cases q
      have c := of_decide_eq_true c
      exact pi_w (pi_range1 hg hm (pa_cons (h _ _ _ e1) pa_nil hs1) hs) fun σ H R ⟨F, Hs, s, k⟩ => ⟨F, Hs, s, fun v Hs1 H1 s1 g1 d1 => ⟨j, by rw [d_int.mp d1], c.1, c.2, k _ Hs1 H1 s1 g1 wt_range⟩⟩
    · cases q
  · cases q
def mRng2 (m m2 : EM') : IM' := fun ρ => match m ρ with
  | some (.int i, ρ1) => (match m2 ρ1 with
    | some (.int j, ρ2) => if (small62 i && small62 j) = true then some (upTo i (j - i).toNat, ρ2) else none
    | _ => none)
  | _ => none
theorem im_range2 {tg a b : Expr} {m m2 : EM'} {p pos : Pos} (hg : Gl X "range") (hm : X.mg "range" = none) (h : EM X a m) (h2 : EM X b m2) (hs1 : starEach (a :: [b]) X.env = (false, eval a X.env) :: starEach [b] X.env := by rfl) (hs2 : starEach (b :: []) X.env = (false, eval b X.env) :: starEach [] X.env := by rfl)
    (hs : starEach [a, b] X.env = [(false, eval a X.env), (false, eval b X.env)] := by rfl) (hs3 : starEach [b] X.env = [(false, eval b X.env)] := by rfl) :
    IM X tg (.Call (.Name "range" p) [a, b] [] pos) (mRng2 m m2) := by
  intro ρ ts ρ' q
  unfold mRng2 at q
  split at q
  · rename_i i ρ1 e1
    split at q
    · rename_i j ρ2 e2
      split at q
      · rename_i c
        cases q
        rw [Bool.and_eq_true] at c
        have c1 := of_decide_eq_true c.1
        have c2 := of_decide_eq_true c.2
        exact pi_w (pi_range2 hg hm (pa_cons (h _ _ _ e1) (pa_cons (h2 _ _ _ e2) pa_nil hs2) hs1) hs hs3) fun σ H R ⟨F, Hs, s, k⟩ => ⟨F, Hs, s, fun v Hs1 H1 s1 g1 d1 => ⟨F, Hs1, s1, fun u Hs2 H2 s2 g2 d2 =>
          ⟨i, j, by rw [d_int.mp d1, d_int.mp d2], ⟨c1.1, c1.2, c2.1, c2.2⟩, k _ Hs2 H2 s2 (g1.trans g2) wt_range⟩⟩⟩
      · cases q
    · cases q
  · cases q
/-! ### xs[i] = e -/
def mSub (i : Nat) (mi me : EM') : SM' := fun ρ => match me ρ with
  | none => none
  | some (t, ρ1) => if (ownT ρ1 i).isSome = true then (match mi ρ1 with
    | some (.int k, ρ2) => (match ownT ρ2 i with
      | some (.lst ts) => (ixN ts.length k).map fun j => .nx (putT ρ2 i (.lst (ts.set j t)))
      | _ => none)
    | _ => none) else none
theorem sm_sub {i : Nat} {o ix e : Expr} {mi me : EM'} {p2 pos : Pos} (ho : PE X o (tVar i)) (hi : EM X ix mi) (he : EM X e me) (hs : swapsWithSole [.Subscript o ix p2] e pos.line X.env = pure false := by rfl) (hw : swappedStores [.Subscript o ix p2] e X.env = pure none := by rfl)
    (h1 : (assignEach [.Subscript o ix p2] X.env).map (·.2) = [assign (.Subscript o ix p2) X.env] := by rfl) (ha : ∀ v, assign (.Subscript o ix p2) X.env v = (do
      let ov ← holding [v] (eval o X.env)
      let iv ← holding [v, ov] (eval ix X.env)
      standAt p2
      holding [v, ov, iv] (setItem ov iv v)
      release [v, ov, iv] []) := by intro _; rfl) : SM X W (.Assign [.Subscript o ix p2] e pos) (mSub i mi me) := by
  intro ρ oo q
  unfold mSub at q
  split at q
  · cases q
  rename_i t ρ1 e1
  by_cases c : (ownT ρ1 i).isSome = true
  case neg =>
    rw [if_neg c] at q
    cases q
  rw [if_pos c] at q
  split at q
  · rename_i k ρ2 e2
    split at q
    · rename_i ts e3
      obtain ⟨j, e4, q⟩ := Option.map_eq_some_iff.mp q
      cases q
      refine ps_w (ps_asg (he _ _ _ e1) (pg_sub ho (hi _ _ _ e2) set_list ha) hs hw h1) fun Dd σ H ⟨F, Hs, s, kk⟩ => ⟨F, Hs, s, fun v Hs1 H1 s1 g1 d1 => ?_⟩
      obtain ⟨t0, e0⟩ := Option.isSome_iff_exists.mp c
      obtain ⟨a, q1, _, _⟩ := s1.write (ownT_or e0)
      refine ⟨.ref a, q1, F, Hs1, s1, fun w Hs2 H2 s2 g2 d2 => ?_⟩
      obtain ⟨a', q1', oc, wr⟩ := s2.write (ownT_or e3)
      rw [q1] at q1'
      cases q1'
      obtain ⟨xs, hx, dl⟩ := oc
      refine ⟨a, xs, k, j, rfl, d_int.mp d2, hx, by rw [← dl.length]; exact e4, ?_⟩
      exact kk _ _ _ (g1.trans g2) (wr (.lst (ts.set j t)) _ ⟨xs.set j v, upd_same, dl.set j (d1.mono g2)⟩)
    · cases q
  · cases q
/-! ### dicts by ints and texts -/
def keyT : T → Option Key
  | .int i => some (.inl i)
  | .str x => some (.inr x)
  | _ => none
theorem keyT_v {K : PySem.W.Frag} {H : Hp} {t : T} {k : Key} {v : V} (e : keyT t = some k) (d : D K H t v) : v = kV k := by
  cases t <;> simp only [keyT, reduceCtorEq, Option.some.injEq] at e
  · subst e; exact d_int.mp d
  · subst e; exact d_str.mp d
def look {α : Type} : List Key → List α → Key → Option α
  | k :: ks, x :: xs, j => if k = j then some x else look ks xs j
  | _, _, _ => none
def put2 {α : Type} : List Key → List α → Key → α → List Key × List α
  | k :: ks, x :: xs, j, y => if k = j then (k :: ks, y :: xs) else let r := put2 ks xs j y; (k :: r.1, x :: r.2)
  | _, _, j, y => ([j], [y])
theorem look_dl {K : PySem.W.Frag} {H : Hp} {j : Key} {r : Option T} : ∀ {ks : List Key} {ts : List T} {xs : List V}, ks.length = xs.length → DL K H ts xs → look ks ts j = r → (r = none → valV (ks.zip xs) j = none) ∧ ∀ t, r = some t → ∃ v, valV (ks.zip xs) j = some v ∧ D K H t v
  | [], ts, xs, l, d, e => by
    have : look ([] : List Key) ts j = none := by cases ts <;> rfl
    rw [this] at e
    subst e
    exact ⟨(fun _ => by simp [valV]), (fun t z => nomatch z)⟩
  | k :: ks, [], xs, l, d, e => by
    rw [dl_nil.mp d] at l
    simp at l
  | k :: ks, t :: ts, xs, l, d, e => by
    obtain ⟨x, r', rfl, d1, d2⟩ := dl_cons.mp d
    unfold look at e
    by_cases c : k = j
    · rw [if_pos c] at e
      subst e
      refine ⟨(fun z => nomatch z), fun t' z => ?_⟩
      cases z
      exact ⟨x, valV_pos (p := (k, x)) c, d1⟩
    · rw [if_neg c] at e
      rw [List.zip_cons_cons, valV_neg (p := (k, x)) c]
      exact look_dl (by simpa using l) d2 e
theorem put2_zip {j : Key} {y : V} : ∀ {ks : List Key} {xs : List V}, ks.length = xs.length → ks.Nodup → putK (ks.zip xs) j y = (put2 ks xs j y).1.zip (put2 ks xs j y).2 ∧ (put2 ks xs j y).1.length = (put2 ks xs j y).2.length
  | [], [], _, _ => by simp [putK, put2]
  | [], _ :: _, l, _ => by simp at l
  | _ :: _, [], l, _ => by simp at l
  | k :: ks, x :: xs, l, n => by
    rw [List.nodup_cons] at n
    have l' : ks.length = xs.length := by simpa using l
    obtain ⟨ih1, ih2⟩ := put2_zip (j := j) (y := y) l' n.2
    unfold put2
    by_cases c : k = j
    · rw [if_pos c]
      subst c
      refine ⟨?_, by simpa using l⟩
      unfold putK
      rw [List.zip_cons_cons, List.any_cons]
      simp only [decide_true, Bool.true_or, if_true, List.map_cons, List.zip_cons_cons]
      congr 1
      have : ∀ p ∈ ks.zip xs, (fun kv : Key × V => if kv.1 = k then (kv.1, y) else kv) p = p := fun p hp => by
        have h1 : p.1 ∈ ks := (List.of_mem_zip hp).1
        have h2 : p.1 ≠ k := fun z => n.1 (by rw [← z]; exact h1)
        simp [h2]
      exact (List.map_congr_left this).trans (by simp)
    · rw [if_neg c]
      refine ⟨?_, by simpa using ih2⟩
      unfold putK at ih1 ⊢
      rw [List.zip_cons_cons, List.any_cons]
      simp only [c, decide_false, Bool.false_or, List.map_cons, if_false, List.zip_cons_cons]
      split
      · rename_i h
        rw [if_pos h] at ih1
        rw [ih1]
      · rename_i h
        rw [if_neg h] at ih1
        rw [List.cons_append, ih1]
theorem put2_fst {α β : Type} {j : Key} {y : α} {z : β} : ∀ {ks : List Key} {xs : List α} {zs : List β}, ks.length = xs.length → ks.length = zs.length → (put2 ks xs j y).1 = (put2 ks zs j z).1
  | [], [], [], _, _ => rfl
  | [], _ :: _, _, l, _ => by simp at l
  | [], _, _ :: _, _, l => by simp at l
  | _ :: _, [], _, l, _ => by simp at l
  | _ :: _, _, [], _, l => by simp at l
  | k :: ks, x :: xs, z' :: zs, l, l' => by
    unfold put2
    split
    · rfl
    · simp only
      rw [put2_fst (by simpa using l) (by simpa using l')]
theorem put2_dl {K : PySem.W.Frag} {H : Hp} {j : Key} {t : T} {v : V} (d0 : D K H t v) : ∀ {ks : List Key} {ts : List T} {xs : List V}, ks.length = ts.length → DL K H ts xs → DL K H (put2 ks ts j t).2 (put2 ks xs j v).2
  | [], [], _, _, d => by rw [dl_nil.mp d]; exact DL.one d0
  | [], _ :: _, _, l, _ => by simp at l
  | _ :: _, [], _, l, _ => by simp at l
  | k :: ks, u :: us, _, l, d => by
    obtain ⟨x, r, rfl, d1, d2⟩ := dl_cons.mp d
    unfold put2
    split
    · exact DL.cons d0 d2
    · exact DL.cons d1 (put2_dl d0 (by simpa using l) d2)
def nodupK : List Key → Bool
  | [] => true
  | k :: ks => !(ks.any fun j => decide (j = k)) && nodupK ks
theorem nodupK_iff : ∀ {ks : List Key}, nodupK ks = true → ks.Nodup
  | [], _ => .nil
  | k :: ks, h => by
    have h : (!(ks.any fun j => decide (j = k)) && nodupK ks) = true := h
    rw [Bool.and_eq_true] at h
    refine List.nodup_cons.mpr ⟨fun m => ?_, nodupK_iff h.2⟩
    have : (ks.any fun j => decide (j = k)) = true := List.any_eq_true.mpr ⟨k, m, decide_eq_true rfl⟩
    rw [this] at h
    exact Bool.noConfusion h.1
/-- {} -/
def mDnew : EM' := fun ρ => some (.dk [] [], ρ)
theorem ef_dnew {pos : Pos} : EF X (.Dict [] [] pos) mDnew := by
  intro ρ t ρ' q
  cases q
  exact pe_w pe_dnewK fun σ H Q ⟨F, Hs, s, k⟩ p hp => k p _ Hs _ (s.rs_none hp) (s.side hp) (Gr.refl _) ⟨[], upd_same, rfl, DL.nil⟩
/-- d[k] = e -/
def mDput (i : Nat) (mk me : EM') : SM' := fun ρ => match me ρ with
  | none => none
  | some (t, ρ1) => if (ownT ρ1 i).isSome = true then (match mk ρ1 with
    | none => none
    | some (kt, ρ2) => (match ownT ρ2 i with
      | some (.dk ks ts) => (keyT kt).bind fun k => if (nodupK ks && decide (ks.length = ts.length) && decide (ks.length < lim)) = true then some (.nx (putT ρ2 i (.dk (put2 ks ts k t).1 (put2 ks ts k t).2))) else none
      | _ => none)) else none
theorem sm_dput {i : Nat} {o ix e : Expr} {mk me : EM'} {p2 pos : Pos} (hu : X.A.units + 1 < cLine) (ho : PE X o (tVar i)) (hi : EM X ix mk) (he : EM X e me) (hs : swapsWith e (some (.Subscript o ix p2)) pos.line X.env = pure false := by rfl) : SM X W (.Assign [.Subscript o ix p2] e pos) (mDput i mk me) := by
  intro ρ oo q
  unfold mDput at q
  split at q
  · cases q
  rename_i t ρ1 e1
  by_cases c : (ownT ρ1 i).isSome = true
  case neg =>
    rw [if_neg c] at q
    cases q
  rw [if_pos c] at q
  split at q
  · cases q
  rename_i kt ρ2 e2
  split at q
  · rename_i ks ts e3
    obtain ⟨k, e4, q⟩ := Option.bind_eq_some_iff.mp q
    split at q
    · rename_i c2
      rw [Bool.and_eq_true, Bool.and_eq_true] at c2
      cases q
      have nd := nodupK_iff c2.1.1
      have l1 := of_decide_eq_true c2.1.2
      have l2 := of_decide_eq_true c2.2
      refine ps_w (ps_dput hu ho (hi _ _ _ e2) (he _ _ _ e1) hs) fun Dd σ H ⟨F, Hs, s, kk⟩ => ⟨F, Hs, s, fun v Hs1 H1 s1 g1 d1 => ?_⟩
      obtain ⟨t0, e0⟩ := Option.isSome_iff_exists.mp c
      obtain ⟨a, q1, _, _⟩ := s1.write (ownT_or e0)
      refine ⟨.ref a, q1, F, Hs1, s1, fun w Hs2 H2 s2 g2 d2 => ?_⟩
      obtain ⟨a', q1', oc, wr⟩ := s2.write (ownT_or e3)
      rw [q1] at q1'
      cases q1'
      obtain ⟨xs, hx, l3, dl⟩ := oc
      obtain ⟨pz, pl⟩ := put2_zip (j := k) (y := v) l3 nd
      have lz : (ks.zip xs).length < sizeLine := by
        rw [List.length_zip]
        have := lim_lt
        omega
      refine ⟨a, upd H2 a (.dK (putK (ks.zip xs) k v)), rfl, ?_, ?_⟩
      · rw [keyT_v e4 d2]
        exact DPut.k hx lz
      · refine kk _ _ _ (g1.trans g2) (wr _ _ ⟨(put2 ks xs k v).2, ?_, ?_, put2_dl (d1.mono g2) l1 dl⟩)
        · rw [upd_same, pz, put2_fst (z := t) l3 l1]
        · rw [← put2_fst (y := v) (z := t) l3 l1]; exact pl
    · cases q
  · cases q
end
end Pu
set_option Elab.async false
set_option linter.all false
set_option maxRecDepth 100000
set_option maxHeartbeats 1000000
namespace Pu
open PySem PySem.Spec PyProof.Rows L2
section
variable {X : Cx} {W : Wi} {K : PySem.W.Frag}
theorem om_n {i : Nat} {e : Expr} (h : PE X e (tVar i)) : OM X e (.n i) := h
theorem om_e {e : Expr} {m : EM'} (h : EM X e m) : OM X e (.e m) := h
theorem cMul_ok {i j : Int} (h : cMul i j = true) : CMul i j := by
  have := of_decide_eq_true h
  exact this
theorem cDiv_ok {i j : Int} (h : cDiv i j = true) : CDiv i j := by
  have := of_decide_eq_true h
  exact this
theorem cPow_ok {i j : Int} (h : cPow i j = true) : CPow i j := by
  have := of_decide_eq_true h
  exact this
/-! ### operators, whatever the operands are -/
def gAdd (x y : T) : Option T := (gI (fun i j => i + j) x y).or ((gAddS x y).or ((gAddT x y).or (gAddL x y)))
theorem p_add : Prim2 K (fun x y H Q => rI0 (fun i j => .int (i + j)) x y H Q ∨ ((∃ i j, x = .str i ∧ y = .str j ∧ i.length + j.length ≤ sizeLine ∧ Q (.str (i ++ j)) H) ∨ (rCatA K x y H Q ∨ rCat x y H Q))) gAdd :=
  Prim2.or p_I (Prim2.or p_addS (Prim2.or p_addT p_addLF.prim))
def gMul (x y : T) : Option T := (gIc cMul (fun i j => i * j) x y).or (gRep x y)
theorem p_mul : Prim2 K (fun x y H Q => rI CMul (fun i j => .int (i * j)) x y H Q ∨ rRep x y H Q) gMul :=
  Prim2.or (p_Ic fun i j h => cMul_ok h) p_repF.prim
theorem p_fdiv : Prim2 K (rI CDiv fun i j => .int (i / j)) (gIc cDiv fun i j => i / j) := p_Ic fun i j h => cDiv_ok h
theorem p_mod : Prim2 K (rI (fun _ j => 0 < j) fun i j => .int (i % j)) (gIc cPos fun i j => i % j) := p_Ic fun i j h => of_decide_eq_true h
theorem p_pow : Prim2 K (rI CPow fun i j => .int (i ^ j.toNat)) (gIc cPow fun i j => i ^ j.toNat) := p_Ic fun i j h => cPow_ok h
theorem p_shl : Prim2 K (rI CPow fun i j => .int (i * 2 ^ j.toNat)) (gIc cPow fun i j => i * 2 ^ j.toNat) := p_Ic fun i j h => cPow_ok h
theorem p_shr : Prim2 K (rI (fun _ j => 0 ≤ j) fun i j => .int (i / 2 ^ j.toNat)) (gIc cNn fun i j => i / 2 ^ j.toNat) := p_Ic fun i j h => of_decide_eq_true h
def gLen' (ts : List T) : Option T := (g1 (fun t => (items t).map fun ts => .int ts.length) ts).or (g1 (fun t => match t with | .str x => if x.length ≤ lim then some (.int x.length) else none | _ => none) ts)
theorem p_len : PrimN K (fun xs H Q => (∃ p ys, xs = [.ref p] ∧ (SqL K H p ys ∨ SqT K H p ys) ∧ Q (.int ys.length) H) ∨ (∃ z, xs = [.str z] ∧ z.length ≤ sizeLine ∧ Q (.int z.length) H)) gLen' := PrimN.or p_lenQ p_lenS
theorem PrimNF.or {r r' : List V → Hp → VK → Prop} {g g' : List T → Option T} (h : PrimNF K r g) (h' : PrimNF K r' g') : PrimNF K (fun xs H Q => r xs H Q ∨ r' xs H Q) (fun ts => (g ts).or (g' ts)) := by
  intro F Hs H ρ σ ts z vs Q s d e k
  cases e1 : g ts with
  | some w =>
    simp only [e1, Option.or] at e
    cases e
    exact .inl (h F Hs H ρ σ ts z vs Q s d e1 k)
  | none =>
    simp only [e1, Option.or] at e
    exact .inr (h' F Hs H ρ σ ts z vs Q s d e k)
def gSorted' (ts : List T) : Option T := (g1 gSorted ts).or (g1 gSortedD ts)
theorem p_sortedA : PrimNF K (fun xs H Q => rSorted K xs H Q ∨ (∃ (a : Addr) (kvs : List (Key × V)) (ks : List Int), xs = [.ref a] ∧ Rd H a (.dK kvs) ∧ kvs.map (·.1) = ks.map Sum.inl ∧ ks.length < 64 ∧
    ∀ (ys : List Int) (p : Addr), ys.Perm ks → ys.Pairwise (· ≤ ·) → H p = none → Q (.ref p) (upd H p (.lst (ys.map V.int))))) gSorted' := PrimNF.or p_sorted p_sortedD
/-! ### the module's names -/
theorem em_gI {x : Str} {i : Int} {pos : Pos} (h : ∃ t, X.mg x = some (.int i t)) (hg : Gl X x := by rfl) (hd : (x == ("__debug__" : Str)) = false := by decide) : EM X (.Name x pos) (mC (.int i)) := by
  obtain ⟨t, h⟩ := h
  exact em_c (pe_glob (v := .int i) hg h ⟨t, rfl⟩ hd) fun _ => d_int.mpr rfl
theorem em_gS {x z : Str} {pos : Pos} (h : ∃ t, X.mg x = some (.str z t)) (hg : Gl X x := by rfl) (hd : (x == ("__debug__" : Str)) = false := by decide) : EM X (.Name x pos) (mC (.str z)) := by
  obtain ⟨t, h⟩ := h
  exact em_c (pe_glob (v := .str z) hg h ⟨t, rfl⟩ hd) fun _ => d_str.mpr rfl
/-- x in D, D a dict of the module's with text keys -/
def KHas (K : PySem.W.Frag) (w : World) (p : Addr) (x : Str) (b : Bool) : Prop := ∃ es n r, K.lookup p = some ⟨.type "dict", none, .dict es n, #[]⟩ ∧ PySem.W.KeysLit w.params es.toList ∧ PySem.W.nsIn K p x = some r ∧ b = r.isSome
def gKin (yes no : List Str) : T → Option Bool
  | .str x => if x ∈ yes then some true else if x ∈ no then some false else none
  | _ => none
structure KDic (w : World) (K : PySem.W.Frag) (mg : Str → Option Value) (x : Str) (yes no : List Str) : Prop where
  ex : ∃ p, mg x = some (.ref p) ∧ (p == sysModules) = false ∧ (∀ z ∈ yes, KHas K w p z true) ∧ ∀ z ∈ no, KHas K w p z false
def rKin (K : PySem.W.Frag) (w : World) : R2 := fun x y H Q => ∃ z p b, x = .str z ∧ y = .ref p ∧ (p == sysModules) = false ∧ KHas K w p z b ∧ Q (.bl b) H
theorem op_kin : OpR X (compareOp .In) (rKin X.K X.w) := by
  intro pins s σ H x y v u Q I rx ry h
  obtain ⟨z, p, b, rfl, rfl, hs, ⟨es, n, r, hl, hk, e, rfl⟩, q⟩ := h
  obtain ⟨t, rfl⟩ := rx
  obtain rfl : u = Value.ref p := ry
  refine wpAny_in_of (strKind_is X.prog X.w z t) hs (PySem.W.mapOf_K (prog := X.prog) (w := X.w) I.kIn hl hk) ⟨.bl r.isSome, H, I.tok _, ?_, q⟩
  show Value.bool _ = Value.bool _
  rw [PySem.W.find_K hl e]
theorem kin_read {x : Str} {yes no : List Str} {p2 : Pos} {e : Expr} {m : EM'} (hd : KDic X.w X.K X.mg x yes no) (h : EM X e m) (hg : Gl X x) (hdb : (x == ("__debug__" : Str)) = false) {ρ ρ1 : En} {t : T} {b : Bool} (e1 : m ρ = some (t, ρ1)) (e2 : gKin yes no t = some b) :
    ∃ te tp, PE X e te ∧ PE X (.Name x p2) tp ∧ ∀ F Hs H σ (Q : VK), SR X.K F Hs H ρ σ → (∀ w Hs' H', SR X.K F Hs' H' ρ1 σ → Gr Hs Hs' → D X.K Hs' (.bl b) w → Q w H') → tOp (rKin X.K X.w) te tp σ H Q := by
  obtain ⟨p, hm, hs, h1, h2⟩ := hd.ex
  refine ⟨_, _, h _ _ _ e1, pe_glob hg hm (v := .ref p) rfl hdb, fun F Hs H σ Q s k => ⟨F, Hs, s, fun v Hs1 H1 s1 g1 d1 => ?_⟩⟩
  cases t <;> simp only [gKin, reduceCtorEq] at e2
  rename_i z
  refine ⟨z, p, b, d_str.mp d1, rfl, hs, ?_, k _ Hs1 H1 s1 g1 (d_bl.mpr rfl)⟩
  split at e2
  · rename_i c
    cases e2
    exact h1 z c
  · split at e2
    · rename_i c
      cases e2
      exact h2 z c
    · cases e2
theorem em_kin {x : Str} {yes no : List Str} {p2 pos : Pos} {e : Expr} {m : EM'} (hd : KDic X.w X.K X.mg x yes no) (h : EM X e m) (hg : Gl X x := by rfl) (hdb : (x == ("__debug__" : Str)) = false := by decide) (hm : behindInMarks .In (.Name x p2) = false := by rfl) :
    EM X (.Compare e [.In] [.Name x p2] pos) (mUn (fun t => (gKin yes no t).map T.bl) m) := by
  intro ρ t ρ' q
  obtain ⟨⟨x0, ρ1⟩, e1, q⟩ := Option.bind_eq_some_iff.mp q
  obtain ⟨z, e2, q⟩ := Option.map_eq_some_iff.mp q
  obtain ⟨b, e3, rfl⟩ := Option.map_eq_some_iff.mp e2
  cases q
  obtain ⟨te, tp, pe, pp, k⟩ := kin_read hd h hg hdb (p2 := p2) e1 e3
  exact pe_w (pe_cmpR op_kin pe pp hm) fun σ H Q ⟨F, Hs, s, kk⟩ => k F Hs H σ Q s kk
theorem tm_kin {x : Str} {yes no : List Str} {p2 pos : Pos} {e : Expr} {m : EM'} (hd : KDic X.w X.K X.mg x yes no) (h : EM X e m) (hg : Gl X x := by rfl) (hdb : (x == ("__debug__" : Str)) = false := by decide) (hm : behindInMarks .In (.Name x p2) = false := by rfl) :
    TM X (.Compare e [.In] [.Name x p2] pos) (mTB (mUn (fun t => (gKin yes no t).map T.bl) m)) := by
  intro ρ b ρ' q
  have q := mTB_some q
  obtain ⟨⟨x0, ρ1⟩, e1, q⟩ := Option.bind_eq_some_iff.mp q
  obtain ⟨z, e2, q⟩ := Option.map_eq_some_iff.mp q
  obtain ⟨b, e3, rfl⟩ := Option.map_eq_some_iff.mp e2
  cases q
  obtain ⟨te, tp, pe, pp, k⟩ := kin_read hd h hg hdb (p2 := p2) e1 e3
  exact pt_w (pt_cmpR op_kin pe pp hm) fun σ H Q ⟨F, Hs, s, kk⟩ => k F Hs H σ _ s fun w Hs' H' s' g d => ⟨_, d_bl.mp d, kk Hs' H' s' g⟩
/-! ### d[k] of a dict of one's own -/
def gDix (x y : T) : Option T := match x with
  | .dk ks ts => (keyT y).bind fun k => look ks ts k
  | _ => none
theorem em_dix {ea eb : Expr} {a b : Op} {pos : Pos} (hu : X.A.units + 1 < cLine) (ha : OM X ea a) (hb : OM X eb b) (hs : NoSl eb := by exact fun _ _ => rfl) : EM X (.Subscript ea eb pos) (mBin gDix a b) := by
  intro ρ z ρ' e
  obtain ⟨x, ρ1, y, x', y', q1, q2, q3, q4, q5⟩ := mBin_inv e
  obtain ⟨ta, tb, pa, pb, k⟩ := bin_ops ha hb q1 q2 q3 q4
  refine pe_w (pe_dget hu pa pb hs) fun σ H Q ⟨F, Hs, s, kk⟩ => ?_
  refine k F Hs H σ (fun v u H' => ∃ a r, v = .ref a ∧ DGet H' a u (some r) ∧ Q r H') s fun v u Hs' H' s' g1 d1 d2 => ?_
  cases x' <;> simp only [gDix, reduceCtorEq] at q5
  obtain ⟨key, e1, e2⟩ := Option.bind_eq_some_iff.mp q5
  obtain ⟨a, xs, rfl, h1, l, dl⟩ := d1
  obtain ⟨w, e3, d3⟩ := (look_dl l dl e2).2 z rfl
  have eu := keyT_v e1 (d2.d s'.sub)
  subst eu
  exact ⟨a, w, rfl, .inl ⟨_, key, h1, rfl, e3.symm⟩, kk w Hs' H' s' g1 d3⟩
/-! ### x += e, of ints -/
def mAug (i : Nat) (f : Int → Int → Int) (m : EM') : SM' := fun ρ => match ρ[i]? with
  | some (.i (.int a)) => (match m ρ with
    | some (.int b, ρ1) => if noP ρ1 i = true then some (.nx (ρ1.set i (.i (.int (f a b))))) else none
    | _ => none)
  | _ => none
theorem sm_aug {i : Nat} {x : Str} {e : Expr} {m : EM'} {op : Operator} {f : Int → Int → Int} {pos pos' : Pos} (hN : X.N.Nodup) (hi : X.N[i]? = some x) (hx : Loc X.env.scope x) (h : EM X e m) (ho : PIp X op (ipI f))
    (hf : X.fn x = true ∨ X.env.scope.names.lookup x = some .local := by first | exact .inl rfl | exact .inr rfl | assumption) : SM X W (.AugAssign (.Name x pos') op e pos) (mAug i f m) := by
  intro ρ o q
  unfold mAug at q
  split at q
  · rename_i a e0
    split at q
    · rename_i b ρ1 e1
      split at q
      · cases q
        refine ps_w (ps_aug hN hi hx (h _ _ _ e1) ho hf) fun Dd σ H ⟨F, Hs, s, k⟩ => ?_
        obtain ⟨v, ev, d⟩ := s.imm e0
        refine ⟨v, ev, F, Hs, s, fun u Hs' H' s' g d' => ⟨a, b, d_int.mp d, d_int.mp d', k _ Hs' H' g (s'.set (d_int.mpr rfl))⟩⟩
      · cases q
    · cases q
  · cases q
/-! ### xs.extend(e) -/
def mExt (i : Nat) (a : Op) : SM' := fun ρ => (ownT ρ i).bind fun t0 => if isLst t0 = true then (match mO a ρ with
  | none => none
  | some (x, ρ1) => match mO2 a x ρ1, ownT ρ1 i with
    | some (.lst us), some (.lst ts) => if ts.length + us.length ≤ lim then some (.nx (putT ρ1 i (.lst (ts ++ us)))) else none
    | _, _ => none) else none
theorem one_op {e : Expr} {a : Op} (ha : OM X e a) {ρ ρ1 : En} {x : Option T} {x' : T} (e1 : mO a ρ = some (x, ρ1)) (e3 : mO2 a x ρ1 = some x') :
    ∃ ta, PE X e ta ∧ ∀ F Hs H σ (Q : VK), SR X.K F Hs H ρ σ → (∀ v Hs' H', SR X.K F Hs' H' ρ1 σ → Gr Hs Hs' → DB X.K Hs' H' x' v → Q v H') → ta σ H Q := by
  cases a with
  | e ma =>
    simp only [mO, Option.map_eq_some_iff] at e1
    obtain ⟨⟨x0, ρ0⟩, q1, q2⟩ := e1
    cases q2
    cases e3
    exact ⟨_, ha _ _ _ q1, fun F Hs H σ Q s k => ⟨F, Hs, s, fun v Hs1 H1 s1 g1 d1 => k v Hs1 H1 s1 g1 (d1.b s1.sub)⟩⟩
  | n i =>
    simp only [mO, Option.map_eq_some_iff] at e1
    obtain ⟨_, _, e1⟩ := e1
    cases e1
    refine ⟨_, ha, fun F Hs H σ Q s k => ?_⟩
    obtain ⟨v, q, d⟩ := s.peek e3
    exact ⟨v, q, k v Hs H s (Gr.refl _) d⟩
theorem sm_ext {i : Nat} {o e : Expr} {apos cpos pos : Pos} {a : Op} (ho : PE X o (tVar i)) (he : OM X e a) (hpe : ∀ t : TA, PA X [e] t → PE X (.Call (.Attribute o "extend" apos) [e] [] cpos) (tBM X.K "list" rExtend (tVar i) t))
    (hse : starEach [e] X.env = (false, eval e X.env) :: starEach [] X.env := by rfl) (hs : swapsWith (.Call (.Attribute o "extend" apos) [e] [] cpos) none pos.line X.env = pure false := by rfl) : SM X W (.Expr (.Call (.Attribute o "extend" apos) [e] [] cpos) pos) (mExt i a) := by
  intro ρ oo q
  obtain ⟨t0, e0, q⟩ := Option.bind_eq_some_iff.mp q
  by_cases h0 : isLst t0 = true
  case neg =>
    rw [if_neg h0] at q
    cases q
  rw [if_pos h0] at q
  split at q
  · cases q
  rename_i x ρ1 e1
  split at q
  · rename_i us ts e2 e3
    split at q
    · rename_i hl
      cases q
      obtain ⟨ta, pa, kk⟩ := one_op he e1 e2
      refine ps_w (ps_expr (hpe _ (pa_cons pa pa_nil hse)) hs) fun Dd σ H ⟨F, Hs, s, k⟩ => ?_
      obtain ⟨a, q1, oc0, _⟩ := s.write (ownT_or e0)
      have ty : tyV X.K "list" (.ref a) H := by
        cases t0 <;> first | cases h0 | skip
        obtain ⟨xs, hx, _⟩ := oc0
        exact .inl ⟨rfl, xs, SqL.of hx⟩
      refine ⟨.ref a, q1, ty, kk F Hs H σ _ s fun v Hs1 H1 s1 g1 d1 => ?_⟩
      obtain ⟨a', q1', oc, wr⟩ := s1.write (ownT_or e3)
      rw [q1] at q1'
      cases q1'
      obtain ⟨xs, hx, dl⟩ := oc
      obtain ⟨b, zs, rfl, hb, dz⟩ := d1
      refine ⟨a, b, xs, zs, rfl, rfl, hx, hb, by rw [← dl.length, ← dz.length]; exact Nat.le_trans hl lim_le, ?_⟩
      exact k _ _ _ g1 (wr (.lst (ts ++ us)) _ ⟨xs ++ zs, upd_same, dl.append dz⟩)
    · cases q
  · cases q
/-! ### a dict's display -/
abbrev DM' := En → Option (List (Key × T) × En)
def mDnil : DM' := fun ρ => some ([], ρ)
def mDcons (mk mv : EM') (r : DM') : DM' := fun ρ => match mk ρ with
  | none => none
  | some (kt, ρ1) => (keyT kt).bind fun k => match mv ρ1 with
    | none => none
    | some (t, ρ2) => (r ρ2).map fun q => ((k, t) :: q.1, q.2)
/-- the pairs as they come -/
inductive PsOk (K : PySem.W.Frag) (Hs : Hp) : List (Key × T) → List (Key × V) → Prop where
  | nil : PsOk K Hs [] []
  | cons {k : Key} {t : T} {v : V} {l : List (Key × T)} {r : List (Key × V)} (h : D K Hs t v) (q : PsOk K Hs l r) : PsOk K Hs ((k, t) :: l) ((k, v) :: r)
def DMs (X : Cx) (pos : Pos) (keys : List (Option Expr)) (values : List Expr) (m : DM') : Prop := ∀ ρ l ρ', m ρ = some (l, ρ') → ∃ trs, PPs X pos keys values trs ∧
  ∀ F Hs H σ (Q : List (V × V) → Hp → Prop), SR X.K F Hs H ρ σ → (∀ kvs Hs' H', SR X.K F Hs' H' ρ' σ → Gr Hs Hs' → PsOk X.K Hs' l kvs → Q (kvs.map fun kv => (kV kv.1, kv.2)) H') → tPairs trs σ H Q
theorem pm_nil {pos : Pos} : DMs X pos [] [] mDnil := by
  intro ρ l ρ' q
  cases q
  exact ⟨[], pps_nil, fun F Hs H σ Q s k => k [] Hs H s (Gr.refl _) .nil⟩
theorem pm_cons {pos : Pos} {k v : Expr} {ks : List (Option Expr)} {vs : List Expr} {mk mv : EM'} {r : DM'} (hk : EM X k mk) (hv : EM X v mv) (hr : DMs X pos ks vs r) : DMs X pos (some k :: ks) (v :: vs) (mDcons mk mv r) := by
  intro ρ l ρ' q
  unfold mDcons at q
  split at q
  · cases q
  rename_i kt ρ1 e1
  obtain ⟨key, e2, q⟩ := Option.bind_eq_some_iff.mp q
  split at q
  · cases q
  rename_i t ρ2 e3
  obtain ⟨⟨l2, ρ3⟩, e4, q⟩ := Option.map_eq_some_iff.mp q
  cases q
  obtain ⟨trs, pp, kk⟩ := hr _ _ _ e4
  refine ⟨_, pps_cons (hk _ _ _ e1) (hv _ _ _ e3) pp, fun F Hs H σ Q s kq => ⟨F, Hs, s, fun x Hs1 H1 s1 g1 d1 => ⟨F, Hs1, s1, fun y Hs2 H2 s2 g2 d2 => kk F Hs2 H2 σ _ s2 fun kvs Hs3 H3 s3 g3 ok => ?_⟩⟩⟩
  have := kq ((key, y) :: kvs) Hs3 H3 s3 ((g1.trans g2).trans g3) (.cons (d2.mono g3) ok)
  rw [keyT_v e2 d1]
  exact this
theorem zip_self {α β : Type} : ∀ l : List (α × β), l = (l.map Prod.fst).zip (l.map Prod.snd)
  | [] => rfl
  | (a, b) :: r => by rw [List.map_cons, List.map_cons, List.zip_cons_cons, ← zip_self r]
def mDisp (m : DM') : EM' := fun ρ => (m ρ).bind fun r => if (nodupK (r.1.map Prod.fst) && decide (r.1.length ≤ 15)) = true then some (.dk (r.1.map Prod.fst) (r.1.map Prod.snd), r.2) else none
theorem PsOk.keys {Hs : Hp} : ∀ {l : List (Key × T)} {kvs : List (Key × V)}, PsOk K Hs l kvs → kvs.map Prod.fst = l.map Prod.fst
  | _, _, .nil => rfl
  | _, _, .cons h q => by simp [PsOk.keys q]
theorem PsOk.dl {Hs : Hp} : ∀ {l : List (Key × T)} {kvs : List (Key × V)}, PsOk K Hs l kvs → DL K Hs (l.map Prod.snd) (kvs.map Prod.snd)
  | _, _, .nil => DL.nil
  | _, _, .cons h q => DL.cons h (PsOk.dl q)
theorem mergeK_new : ∀ {more acc : List (Key × V)}, ((acc ++ more).map Prod.fst).Nodup → mergeK acc more = acc ++ more
  | [], acc, _ => by simp [mergeK]
  | p :: r, acc, h => by
    have h1 : mergeK acc (p :: r) = mergeK (putK acc p.1 p.2) r := rfl
    have h2 : putK acc p.1 p.2 = acc ++ [p] := by
      unfold putK
      rw [if_neg]
      intro z
      rw [List.any_eq_true] at z
      obtain ⟨q, hq, e⟩ := z
      have e := of_decide_eq_true e
      rw [List.map_append, List.map_cons, List.nodup_append] at h
      exact h.2.2 q.1 (List.mem_map.mpr ⟨q, hq, rfl⟩) p.1 List.mem_cons_self e
    rw [h1, h2, mergeK_new (by simpa using h)]
    simp
theorem ef_disp {keys : List (Option Expr)} {values : List Expr} {m : DM'} {pos : Pos} (h : DMs X pos keys values m) (hall : keys.all (·.isSome) = true) (hl : keys.length = values.length) (h0 : keys ≠ []) (h15 : keys.length ≤ 15) : EF X (.Dict keys values pos) (mDisp m) := by
  intro ρ t ρ' q
  obtain ⟨⟨l, ρ1⟩, e1, q⟩ := Option.bind_eq_some_iff.mp q
  split at q
  · rename_i c
    cases q
    rw [Bool.and_eq_true] at c
    have c15 := of_decide_eq_true c.2
    obtain ⟨trs, pp, kk⟩ := h _ _ _ e1
    refine pe_w (pe_disp pp hall hl h0 h15) fun σ H Q ⟨F, Hs, s, k⟩ p hp => ?_
    have r0 := s.rs_none hp
    refine kk (F.res p (.dK [])) Hs _ σ _ (s.side hp) fun kvs Hs1 H1 s1 g1 ok => ⟨s1.at.1, kvs, rfl, ?_, ?_⟩
    · have := congrArg List.length ok.keys
      simp only [List.length_map] at this
      have c15 : l.length ≤ 15 := c15
      omega
    · have nd : (([] ++ kvs : List (Key × V)).map Prod.fst).Nodup := by
        rw [List.nil_append, ok.keys]
        exact nodupK_iff c.1
      rw [mergeK_new nd, List.nil_append]
      refine k p _ Hs1 _ r0 s1.poke g1 ⟨kvs.map Prod.snd, ?_, ?_, ok.dl⟩
      · rw [upd_same, ← ok.keys]
        congr 2
        exact zip_self kvs
      · have := congrArg List.length ok.keys
        simp only [List.length_map] at this ⊢
        omega
  · cases q
/-! ### calls of the module's defs -/
def Has (P : Program) (w : World) (K : PySem.W.Frag) (mg : Str → Option Value) (base : Heap) (k : Nat) (x : Str) (n : Nat) (f : Fn) : Prop :=
  ∃ fa fd ps, mg x = some (.ref fa) ∧ PySem.W.keepIn K (.ref fa) = true ∧ Binds K fd ps [] ∧ FnOk P w K mg base CX0 k fa fd ps (spP K n f)
theorem em_defH {f : Fn} {k n : Nat} {x : Str} {e : Expr} {es : List Expr} {p pos : Pos} {a : AM'} (h : Has X.prog X.w X.K X.mg X.base k x n f) (hr : Room k X.A) (hg : Gl X x) (ha : AM X (e :: es) a) (hl : lenIs n a)
    (hdb : (x == ("__debug__" : Str)) = false := by decide) (he : starEach (e :: es) X.env = (false, eval e X.env) :: starEach es X.env := by rfl) (hpl : (backTo pos (starEach es X.env)).any (·.1) = false := by rfl) : EM X (.Call (.Name x p) (e :: es) [] pos) (mDef f a) := by
  obtain ⟨fa, fd, ps, h1, h2, h3, h4⟩ := h
  exact em_def h4 hr hg h1 h2 h3 ha hl hdb he hpl
theorem em_defH0 {f : Fn} {k : Nat} {x : Str} {p pos : Pos} (h : Has X.prog X.w X.K X.mg X.base k x 0 f) (hr : Room k X.A) (hg : Gl X x) (hdb : (x == ("__debug__" : Str)) = false := by decide) : EM X (.Call (.Name x p) [] [] pos) (mDef f mNil) := by
  obtain ⟨fa, fd, ps, h1, h2, h3, h4⟩ := h
  exact em_def0 h4 hr hg h1 h2 h3 hdb
end
end Pu
namespace Pu
open PySem PySem.Spec PyProof.Rows L2
/-- the law's own call -/
theorem sp_law {K : PySem.W.Frag} {f : Fn} {H : Hp} {a : Addr} {ns : List Int} {E : XK} (hS : SqL K H a (ns.map V.int)) (h : ∃ s, f [.i (.rl (ns.map T.int))] = some (.bl true, s)) : spP K 1 f [.ref a] H (fun v _ => v = .bl true) E := by
  obtain ⟨s, h⟩ := h
  refine ⟨rfl, H, [.i (.rl (ns.map T.int))], fun _ => 0, _, s, rfl, Gr.refl _, fun i sl e => ?_, fun i j x y n e => ?_, h, fun v Hs' H' _ _ _ _ _ _ d => d_bl.mp d⟩
  · cases i with
    | zero =>
      cases e
      exact ⟨_, rfl, d_rl.mpr ⟨a, _, rfl, hS, dl_ints.mpr rfl⟩⟩
    | succ i => simp at e
  · cases i with
    | zero => cases e
    | succ i => simp at e
end Pu
set_option Elab.async false
set_option linter.all false
set_option maxRecDepth 100000
set_option maxHeartbeats 1000000
namespace Pu
open PySem PySem.Spec PyProof.Rows L2
open AutoSeq1 (wpAny_loadPart')
/-! ### enumerate(t), t a tuple -/
abbrev tupIt (t : Addr) : Obj := { cls := .type "tuple_iterator", data := .fields #[.ref t, .int 0 0] }
abbrev enOf (it : Addr) : Obj := { cls := .type "enumerate", data := .fields #[.none, .bool false, .ref it, rawInt 0, .none, .none] }
theorem en_new (t : Addr) (its : Array Value) : Meets (Builtin.«enumerate.__new__» ⟨[.type "enumerate", .ref t], []⟩)
    (fun _ R s => Heap.IsTuple s.heap t its ∧ R (.ok (.ret (.ref (s.heap.push (tupIt t)).objs.size))) { s with heap := (s.heap.push (tupIt t)).push (enOf s.heap.objs.size) }) :=
  .of_wp fun prog w A R s ⟨ht, h⟩ => by
    obtain ⟨hp, gs, dr, tk, os⟩ := s
    have sub := sub_enumerate
    have it : ∀ {A' : Around} {E Q : Value → Shared → Prop}, Q (.ref hp.objs.size) ⟨hp.push (tupIt t), gs, dr, tk, os⟩ → wpAny (model prog w) A' (pyIter (.ref t)) Q E ⟨hp, gs, dr, tk, os⟩ := fun q => wpAny_pyIter_tuple (s := ⟨hp, gs, dr, tk, os⟩) ht q
    wp_walk using it
    refine wpAny_stack_any fun _ => wpAny_pure ?_
    split
    · next c _ _ _ _ _ =>
      cases (c == Value.type "enumerate") <;> (wp_walk using it; exact ⟨_, rfl, h⟩)
    · (wp_walk using it; exact ⟨_, rfl, h⟩)
section
variable {prog : Program} {w : World} {A : Around} {E : Value → Shared → Prop} {s : Shared}
theorem en_call {t : Addr} {its : Array Value} {Q : Value → Shared → Prop} (ht : s.heap.IsTuple t its)
    (h : ∀ h', IsEnum h' (s.heap.objs.size + 1) s.heap.objs.size 0 .none → h'.IsTupleIter s.heap.objs.size t 0 → (∀ b o, s.heap.get? b = some o → h'.get? b = some o) → Q (.ref (s.heap.objs.size + 1)) { s with heap := h' }) :
    wpAny (model prog w) A (call (.type "enumerate") [.ref t]) Q E s := by
  have sz : (s.heap.push (tupIt t)).objs.size = s.heap.objs.size + 1 := Heap.size_push ..
  refine callType_new F.called_enumerate (by decide) (F.typeCall_enumerate_1 _) (F.newCall_enumerate_1 _) (fun o => F.args_object_init_2 o _) F.entry_enumerate_new (en_new t its) ⟨ht, ?_⟩
  rw [sz]
  have he : IsEnum ((s.heap.push (tupIt t)).push (enOf s.heap.objs.size)) (s.heap.objs.size + 1) s.heap.objs.size 0 .none := by
    have q := Heap.get?_push_size (s.heap.push (tupIt t)) (o := enOf s.heap.objs.size) rfl
    rw [sz] at q
    exact q
  exact ⟨⟨_, he, rfl⟩, h _ he ⟨_, Heap.get?_push_of_some _ (Heap.get?_push_size _ rfl), rfl, rfl⟩ fun b o x => Heap.get?_push_of_some _ (Heap.get?_push_of_some _ x)⟩
end
/-- the tuple at a as it stands, each item in a new pair -/
def Iet (K : PySem.W.Frag) (a : Addr) : It where
  go i H := ∃ (xs : List V) (x : V), SqT K H a xs ∧ xs[i]? = some x
  yld i H v H' := ∃ p x, v = .ref p ∧ H p = none ∧ H' = upd H p (.tup [.int (i : Nat), x]) ∧ ∀ xs, SqT K H a xs → xs[i]? = some x
  stop i H := ∃ xs : List V, SqT K H a xs ∧ xs.length ≤ i
theorem turn_et {P : Program} {w : World} {K : PySem.W.Frag} {elts : List Expr} {kk : Nat} {tpos : Pos} (a e it : Addr) (n1 : e ≠ it) (n2 : e ≠ a) (n3 : a ≠ it) :
    Turn P w K (.Tuple elts kk tpos) (Iet K a) [e, it] e (fun i h => (∃ old, IsEnum h e it ((i : Nat) : Int) old) ∧ h.IsTupleIter it a i) where
  mem := by simp
  obj := fun i h st b hb => by
    obtain ⟨⟨old, he⟩, ⟨o, ho, hc, hd⟩⟩ := st
    rcases List.mem_cons.mp hb with rfl | z
    · exact ⟨_, he, fun v q => nomatch q⟩
    · rw [List.mem_singleton.mp z]
      exact ⟨o, ho, fun v q => by rw [hd] at q; cases q⟩
  keep := fun i h h' st k => by
    obtain ⟨⟨old, he⟩, hi⟩ := st
    exact ⟨⟨old, k e (by simp) _ he⟩, hi.at fun o q => k it (by simp) o q⟩
  item := by
    intro X hP hw hK hc i pins s σ H E I hf st hg
    subst hP hw hK
    obtain ⟨⟨old, he⟩, hit⟩ := st
    obtain ⟨xs, x, hq, hx⟩ := hg
    obtain ⟨its, rv, p, hz⟩ := I.tuple hq
    obtain ⟨u, hu, ru⟩ := rv.get hx
    have pt : s.heap.IsTuple a its.toArray := p
    have lt : i < its.toArray.size := by
      have := (List.getElem?_eq_some_iff.mp hu).1
      simpa using this
    have D := Draws.tuple (prog := X.prog) (w := X.w) (A := X.A.in1) (I.ok.hd hc) it a n3 its.toArray
    have hel : e < s.heap.objs.size := Heap.lt_size he
    have hil : it < s.heap.objs.size := by obtain ⟨_, q, _⟩ := hit; exact Heap.lt_size q
    refine wpAny_pyNext_enum_itemC D he ⟨hit, pt⟩ lt n1 (by simp [n1, n2]) fun y h' tk hy ho hst' hT hsz hk => ?_
    have ey : y = u := by
      have : its.toArray[i]? = some u := by simpa using hu
      rw [this] at hy
      exact (Option.some.inj hy).symm
    subst ey
    refine ⟨_, rfl, wpAny_letOwnedTupleGo_enum (s := { s with heap := h', toks := tk + 1 }) ho fun h2 he2 sb => ?_⟩
    have old' : ∀ b o, b ∉ [e, it] → s.heap.get? b = some o → h2.get? b = some o := fun b o hb q => (sb.2 b fun z => hb (by simp [z])).trans (hk b o (fun z => hb (by simp [z])) (fun z => hb (by simp [z])) q)
    have hT2 : h2.get? s.heap.objs.size = some { cls := .type "tuple", data := .seq #[.int i tk, y] } := (sb.2 _ (Nat.ne_of_gt hel)).trans hT
    have new : ObjOk X.prog X.w (upd H s.heap.objs.size (.tup [.int (i : Nat), x])) h2 s.heap.objs.size (.tup [.int (i : Nat), x]) := by
      refine ⟨?_, [.int i tk, y], .cons ⟨_, rfl⟩ (.cons ru .nil), _, hT2, rfl, _, rfl⟩
      show 2 ≤ sizeLine
      decide
    have J : Inv X pins σ (upd H s.heap.objs.size (.tup [.int (i : Nat), x])) { s with heap := h2, toks := tk + 1 } := I.turnedNew (ch := [e, it]) old' hf (Nat.le_refl _) new
    refine ⟨.ref s.heap.objs.size, _, J, rfl, ⟨_, x, rfl, I.hok.fresh (Nat.le_refl _), rfl, fun ys hy => ?_⟩, ⟨⟨y, ?_⟩, hst'.1.at fun o q => (sb.2 it (Ne.symm n1)).trans q⟩, fun b hb => ?_⟩
    · rw [I.tuple_inj hy hq]
      exact hx
    · have q : ((i + 1 : Nat) : Int) = (i : Int) + 1 := by omega
      rw [q]
      exact he2
    · have lb : b < s.heap.objs.size := by
        rcases List.mem_cons.mp hb with rfl | z
        · exact hel
        · rw [List.mem_singleton.mp z]; exact hil
      rw [upd_ne (Nat.ne_of_lt lb)]
      exact (hf b hb).1
  done := by
    intro X hP hw hK hc i pins s σ H E I hf st hg
    subst hP hw hK
    obtain ⟨⟨old, he⟩, hit⟩ := st
    obtain ⟨xs, hq, hx⟩ := hg
    obtain ⟨its, rv, p, hz⟩ := I.tuple hq
    have pt : s.heap.IsTuple a its.toArray := p
    have D := Draws.tuple (prog := X.prog) (w := X.w) (A := X.A.in1) (I.ok.hd hc) it a n3 its.toArray
    have hl := rv.length
    obtain ⟨f0, f1, f2, f3, f4, f5⟩ := hf it (by simp)
    have le : its.toArray.size ≤ i := by simp; omega
    have st2 : s.heap.IsTupleIter it a its.toArray.size ∧ s.heap.IsTuple a its.toArray ∨ its.toArray.size < i := by
      rcases Nat.lt_or_ge its.toArray.size i with z | z
      · exact .inr z
      · exact .inl ⟨by rw [show its.toArray.size = i by omega]; exact hit, pt⟩
    rcases st2 with st2 | z
    · exact wpAny_pyNext_enum_endD D he st2 fun h' eb => ⟨rfl, I.turned (t' := s.toks) (fun b o hb q => eb b o hb q) f0 f1 f3 f4 f5⟩
    · have D2 : Draws X.prog X.w X.A.in1 it [it, a] i (fun j v => its.toArray[j]? = some v ∧ False) (fun j h => j = i ∧ h.IsTupleIter it a i ∧ h.IsTuple a its.toArray) :=
        ⟨fun _ _ st => D.live _ _ st.2, fun j h h' st hk => ⟨st.1, D.frame _ _ _ st.2 hk⟩, fun j s Q E hj st => by omega, fun s Q E st hE => wpAny_nextOf_tuple_end (I.ok.hd hc) st.2.1 st.2.2 (Array.getElem?_eq_none le) hE⟩
      exact wpAny_pyNext_enum_endD D2 he ⟨rfl, hit, pt⟩ fun h' eb => ⟨rfl, I.turned (t' := s.toks) (fun b o hb q => eb b o hb q) f0 f1 f3 f4 f5⟩
  self := fun A i s Q E st h => by
    obtain ⟨⟨_, he⟩, _⟩ := st
    exact wpAny_pyIter_enum he h
section
variable {X : Cx}
def iEnT (K : PySem.W.Frag) (ta : TA) : TI := fun σ H R => ta σ H fun vs H1 => ∃ a xs, vs = [.ref a] ∧ SqT K H1 a xs ∧ R (Iet K a) H1
theorem pi_enT {e : Expr} {ta : TA} {p pos tpos : Pos} {elts : List Expr} {kk : Nat} (hg : Gl X "enumerate") (hm : X.mg "enumerate" = none) (ha : PA X [e] ta) (hs : starEach [e] X.env = [(false, eval e X.env)] := by rfl) : PI X (.Tuple elts kk tpos) (.Call (.Name "enumerate" p) [e] [] pos) (iEnT X.K ta) := by
  constructor
  intro pins s σ H R I h
  refine Call_ (ld_blt I hg hm boot_enumerate (PyProof.Rows.callWith_type1 (thn (ha.run pos pins s σ H _ I h) fun us s1 ⟨vs, H1, I1, r1, a, xs, ex, hq, q⟩ => ?_) hs rfl))
  subst ex
  obtain ⟨u, rfl, ru⟩ := vals1 r1
  cases (show u = Value.ref a from ru)
  obtain ⟨its, rv, p', hz⟩ := I1.tuple hq
  have pt : s1.heap.IsTuple a its.toArray := p'
  have la : a < s1.heap.objs.size := by obtain ⟨o, ho, _⟩ := pt; exact Heap.lt_size ho
  refine en_call pt fun h' he hit hk => wpAny_pyIter_enum he ?_
  have J : Inv X pins σ H1 { s1 with heap := h' } := I1.kept (t' := s1.toks) hk
  refine ⟨s1.heap.objs.size + 1, [s1.heap.objs.size + 1, s1.heap.objs.size], _, _, H1, rfl, J, turn_et a (s1.heap.objs.size + 1) s1.heap.objs.size (Nat.succ_ne_self _) (Nat.ne_of_gt (Nat.lt_succ_of_lt la)) (Nat.ne_of_lt la), ⟨⟨.none, he⟩, hit⟩, fun b hb => ?_, q⟩
  have hle : s1.heap.objs.size ≤ b := by
    rcases List.mem_cons.mp hb with rfl | z
    · exact Nat.le_succ _
    · rw [List.mem_singleton.mp z]; exact Nat.le_refl _
  exact I1.fpOk hle (I1.hok.fresh hle)
/-- the items, numbered -/
def numd (n : Nat) : List T → List T
  | [] => []
  | t :: ts => .tup [.int (n : Nat), t] :: numd (n + 1) ts
theorem numd_get : ∀ {ts : List T} {n i : Nat}, (numd n ts)[i]? = (ts[i]?).map fun t => T.tup [.int ((n + i : Nat) : Int), t]
  | [], _, _ => by simp [numd]
  | t :: ts, n, 0 => by simp [numd]
  | t :: ts, n, i + 1 => by
    have := numd_get (ts := ts) (n := n + 1) (i := i)
    simp only [numd, List.getElem?_cons_succ]
    rw [this]
    have e : n + 1 + i = n + (i + 1) := by omega
    rw [e]
theorem numd_len : ∀ {ts : List T} {n : Nat}, (numd n ts).length = ts.length
  | [], _ => rfl
  | t :: ts, n => by simp [numd, numd_len]
def mEnum (m : EM') : IM' := fun ρ => (m ρ).bind fun r => (items r.1).map fun ts => (numd 0 ts, r.2)
theorem num_item {K : PySem.W.Frag} {Hs H H' : Hp} {ts : List T} {xs : List V} {i : Nat} {t : T} {v : V} {x : V} {p : Addr} (dl : DL K Hs ts xs) (e : (numd 0 ts)[i]? = some t) (hx : xs[i]? = some x) (ev : v = .ref p) (hp : H p = none) (eH : H' = upd H p (.tup [.int (i : Nat), x])) :
    (H' = H ∧ D K Hs t v) ∨ ∃ p xs us, v = .ref p ∧ H p = none ∧ H' = upd H p (.tup xs) ∧ t = .tup us ∧ DL K Hs us xs := by
  rw [numd_get] at e
  obtain ⟨t0, e1, rfl⟩ := Option.map_eq_some_iff.mp e
  obtain ⟨x', e2, d⟩ := dl.get e1
  rw [hx] at e2
  cases e2
  refine .inr ⟨p, _, _, ev, hp, eH, rfl, DL.cons (d_int.mpr (by simp)) (DL.one d)⟩
theorem wt_enumL {K : PySem.W.Frag} {Hs : Hp} {a : Addr} {xs : List V} {ts : List T} (hl : ∀ H, Gr Hs H → SqL K H a xs) (dl : DL K Hs ts xs) : WT K (Ite K a) (numd 0 ts) Hs :=
  ⟨fun i H h g => walk_enum.goes i H (by rw [← dl.length]; rw [numd_len] at h; exact h) (hl H g), fun H g => by rw [numd_len, dl.length]; exact walk_enum.stops H (hl H g), fun i H x H' t e g y => by
    have hi : i < xs.length := by
      have := (List.getElem?_eq_some_iff.mp e).1
      rw [numd_len, dl.length] at this
      exact this
    obtain ⟨p, a1, b1, e1, e2, e3, e4, e5⟩ := walk_enum.yields i H x H' hi (hl H g) y
    cases e4
    exact num_item dl e e5 e1 e2 e3⟩
theorem wt_enumT {K : PySem.W.Frag} {Hs : Hp} {a : Addr} {xs : List V} {ts : List T} (hl : ∀ H, Gr Hs H → SqT K H a xs) (dl : DL K Hs ts xs) : WT K (Iet K a) (numd 0 ts) Hs :=
  ⟨fun i H h g => by
    rw [numd_len, dl.length] at h
    exact ⟨xs, xs[i], hl H g, List.getElem?_eq_getElem h⟩, fun H g => ⟨xs, hl H g, by rw [numd_len, dl.length]; exact Nat.le_refl _⟩, fun i H x H' t e g y => by
    obtain ⟨p, b1, e1, e2, e3, e5⟩ := y
    exact num_item dl e (e5 xs (hl H g)) e1 e2 e3⟩
theorem im_enum {e : Expr} {m : EM'} {elts : List Expr} {kk : Nat} {p pos tpos : Pos} (hg : Gl X "enumerate") (hm : X.mg "enumerate" = none) (h : EM X e m) (hs1 : starEach (e :: []) X.env = (false, eval e X.env) :: starEach [] X.env := by rfl) (hs : starEach [e] X.env = [(false, eval e X.env)] := by rfl) :
    IM X (.Tuple elts kk tpos) (.Call (.Name "enumerate" p) [e] [] pos) (mEnum m) := by
  intro ρ ts ρ' q
  obtain ⟨⟨t, ρ1⟩, e1, q⟩ := Option.bind_eq_some_iff.mp q
  obtain ⟨us, e2, q⟩ := Option.map_eq_some_iff.mp q
  cases q
  have he := h _ _ _ e1
  cases t <;> simp only [items, reduceCtorEq, Option.some.injEq] at e2
  · subst e2
    refine pi_w (pi_enum hg hm (pa_cons he pa_nil hs1) hs) fun σ H R ⟨F, Hs, s, k⟩ => ⟨F, Hs, s, fun v Hs1 H1 s1 g1 d1 => ?_⟩
    obtain ⟨a, xs, rfl, h1, dl⟩ := d_lst.mp d1
    exact ⟨a, xs, rfl, SqL.of (s1.sub _ _ h1), k _ Hs1 H1 s1 g1 (wt_enumL (fun H g => SqL.of (g _ _ h1)) dl)⟩
  · subst e2
    refine pi_w (pi_enum hg hm (pa_cons he pa_nil hs1) hs) fun σ H R ⟨F, Hs, s, k⟩ => ⟨F, Hs, s, fun v Hs1 H1 s1 g1 d1 => ?_⟩
    obtain ⟨a, xs, rfl, h1, dl⟩ := d_rl.mp d1
    exact ⟨a, xs, rfl, gr_l s1.sub h1, k _ Hs1 H1 s1 g1 (wt_enumL (fun H g => gr_l g h1) dl)⟩
  · subst e2
    refine pi_w (pi_enT hg hm (pa_cons he pa_nil hs1) hs) fun σ H R ⟨F, Hs, s, k⟩ => ⟨F, Hs, s, fun v Hs1 H1 s1 g1 d1 => ?_⟩
    obtain ⟨a, xs, rfl, h1, dl⟩ := d_tup.mp d1
    exact ⟨a, xs, rfl, gr_t s1.sub h1, k _ Hs1 H1 s1 g1 (wt_enumT (fun H g => gr_t g h1) dl)⟩
end
end Pu
set_option Elab.async false
set_option linter.all false
set_option maxRecDepth 100000
namespace Pu
open PySem PySem.Spec PyProof.Rows L2
/-- a statement's run answers Q -/
def Wp (m : SM') (ρ : En) (Q : Out → Prop) : Prop := ∃ o, m ρ = some o ∧ Q o
def WpL (g : GM') (b : SM') (ts : List T) (ρ : En) (Q : Out → Prop) : Prop := ∃ o, forL g b ts ρ = some o ∧ Q o
def WpW (n : Nat) (c : TM') (b : SM') (ρ : En) (Q : Out → Prop) : Prop := ∃ o, whileL c b n ρ = some o ∧ Q o
def sqQ (b : SM') (Q : Out → Prop) : Out → Prop
  | .nx ρ => Wp b ρ Q
  | o => Q o
def loQ (f : En → Prop) (Q : Out → Prop) : Out → Prop
  | .nx ρ => f ρ
  | .ct ρ => f ρ
  | .bk ρ => Q (.nx ρ)
  | o => Q o
theorem sqQ_nx {b : SM'} {Q : Out → Prop} {ρ : En} : sqQ b Q (.nx ρ) = Wp b ρ Q := rfl
theorem sqQ_rt {b : SM'} {Q : Out → Prop} {ρ : En} {t : T} : sqQ b Q (.rt t ρ) = Q (.rt t ρ) := rfl
theorem sqQ_bk {b : SM'} {Q : Out → Prop} {ρ : En} : sqQ b Q (.bk ρ) = Q (.bk ρ) := rfl
theorem sqQ_ct {b : SM'} {Q : Out → Prop} {ρ : En} : sqQ b Q (.ct ρ) = Q (.ct ρ) := rfl
theorem loQ_nx {f : En → Prop} {Q : Out → Prop} {ρ : En} : loQ f Q (.nx ρ) = f ρ := rfl
theorem loQ_ct {f : En → Prop} {Q : Out → Prop} {ρ : En} : loQ f Q (.ct ρ) = f ρ := rfl
theorem loQ_bk {f : En → Prop} {Q : Out → Prop} {ρ : En} : loQ f Q (.bk ρ) = Q (.nx ρ) := rfl
theorem loQ_rt {f : En → Prop} {Q : Out → Prop} {ρ : En} {t : T} : loQ f Q (.rt t ρ) = Q (.rt t ρ) := rfl
theorem ex_some {α : Type} {c : α} {Q : α → Prop} : (∃ o, some c = some o ∧ Q o) = Q c := by
  apply propext
  constructor
  · rintro ⟨o, e, q⟩
    cases e
    exact q
  · exact fun q => ⟨c, rfl, q⟩
/-- what an option holds answers Q -/
def oW {α : Type} (Q : α → Prop) : Option α → Prop
  | some o => Q o
  | none => False
theorem oW_some {α : Type} {Q : α → Prop} {o : α} : oW Q (some o) = Q o := rfl
theorem oW_eq {α : Type} {Q : α → Prop} {o : Option α} : oW Q o = ∃ x, o = some x ∧ Q x := by
  cases o <;> simp [oW]
theorem wp_o {m : SM'} {ρ : En} {Q : Out → Prop} : Wp m ρ Q = oW Q (m ρ) := oW_eq.symm
def setW (k : T → Sl) (i : Nat) (Q : Out → Prop) : Option (T × En) → Prop
  | some (t, ρ) => noP ρ i = true ∧ Q (.nx (ρ.set i (k t)))
  | none => False
theorem setW_some {k : T → Sl} {i : Nat} {Q : Out → Prop} {t : T} {ρ : En} : setW k i Q (some (t, ρ)) = (noP ρ i = true ∧ Q (.nx (ρ.set i (k t)))) := rfl
def retW (Q : Out → Prop) : Option (T × En) → Prop
  | some (t, ρ) => Q (.rt t ρ)
  | none => False
theorem retW_some {Q : Out → Prop} {t : T} {ρ : En} : retW Q (some (t, ρ)) = Q (.rt t ρ) := rfl
def ifW (a b : SM') (Q : Out → Prop) : Option (Bool × En) → Prop
  | some (v, ρ) => if v = true then Wp a ρ Q else Wp b ρ Q
  | none => False
theorem ifW_some {a b : SM'} {Q : Out → Prop} {v : Bool} {ρ : En} : ifW a b Q (some (v, ρ)) = if v = true then Wp a ρ Q else Wp b ρ Q := rfl
theorem ifW_t {a b : SM'} {Q : Out → Prop} {ρ : En} : ifW a b Q (some (true, ρ)) = Wp a ρ Q := rfl
theorem ifW_f {a b : SM'} {Q : Out → Prop} {ρ : En} : ifW a b Q (some (false, ρ)) = Wp b ρ Q := rfl
def forW (g : GM') (b : SM') (Q : Out → Prop) : Option (List T × En) → Prop
  | some (ts, ρ) => WpL g b ts ρ Q
  | none => False
theorem forW_some {g : GM'} {b : SM'} {Q : Out → Prop} {ts : List T} {ρ : En} : forW g b Q (some (ts, ρ)) = WpL g b ts ρ Q := rfl
def whiW (n : Nat) (c : TM') (b : SM') (Q : Out → Prop) : Option (Bool × En) → Prop
  | some (v, ρ) => if v = true then Wp b ρ (loQ (fun ρ2 => WpW n c b ρ2 Q) Q) else Q (.nx ρ)
  | none => False
theorem wp_seq {a b : SM'} {ρ : En} {Q : Out → Prop} : Wp (mSeq a b) ρ Q = Wp a ρ (sqQ b Q) := by
  unfold Wp mSeq
  cases e : a ρ with
  | none => simp
  | some o => cases o <;> simp [sqQ, Wp]
theorem wp_nx {ρ : En} {Q : Out → Prop} : Wp mNx ρ Q = Q (.nx ρ) := ex_some
theorem wp_set {i : Nat} {m : EM'} {ρ : En} {Q : Out → Prop} : Wp (mSet i m) ρ Q = setW .i i Q (m ρ) := by
  unfold Wp mSet
  cases e : m ρ with
  | none => simp [setW]
  | some r =>
    obtain ⟨t, ρ1⟩ := r
    by_cases c : noP ρ1 i = true <;> simp [c, setW]
theorem wp_setO {i : Nat} {m : EM'} {ρ : En} {Q : Out → Prop} : Wp (mSetO i m) ρ Q = setW .o i Q (m ρ) := by
  unfold Wp mSetO
  cases e : m ρ with
  | none => simp [setW]
  | some r =>
    obtain ⟨t, ρ1⟩ := r
    by_cases c : noP ρ1 i = true <;> simp [c, setW]
theorem wp_ret {m : EM'} {ρ : En} {Q : Out → Prop} : Wp (mRet m) ρ Q = retW Q (m ρ) := by
  unfold Wp mRet
  cases e : m ρ <;> simp [retW]
theorem wp_if {c : TM'} {a b : SM'} {ρ : En} {Q : Out → Prop} : Wp (mIfS c a b) ρ Q = ifW a b Q (c ρ) := by
  unfold Wp mIfS
  cases e : c ρ with
  | none => simp [ifW]
  | some r =>
    obtain ⟨t, ρ1⟩ := r
    cases t <;> simp [ifW, Wp]
theorem wp_for {it : IM'} {g : GM'} {b : SM'} {ρ : En} {Q : Out → Prop} : Wp (mFor it g b) ρ Q = forW g b Q (it ρ) := by
  unfold Wp mFor
  cases e : it ρ <;> simp [forW, WpL]
theorem wp_while {n : Nat} {c : TM'} {b : SM'} {ρ : En} {Q : Out → Prop} : Wp (mWhile n c b) ρ Q = WpW n c b ρ Q := rfl
theorem wpl_nil {g : GM'} {b : SM'} {ρ : En} {Q : Out → Prop} : WpL g b [] ρ Q = Q (.nx ρ) := ex_some
theorem wpl_cons {g : GM'} {b : SM'} {t : T} {ts : List T} {ρ : En} {Q : Out → Prop} : WpL g b (t :: ts) ρ Q = ∃ ρ1, g t ρ = some ρ1 ∧ Wp b ρ1 (loQ (fun ρ2 => WpL g b ts ρ2 Q) Q) := by
  unfold Wp WpL
  rw [forL]
  cases e : g t ρ with
  | none => simp
  | some ρ1 =>
    simp only [Option.some.injEq, exists_eq_left']
    cases e2 : b ρ1 with
    | none => simp
    | some o => cases o <;> simp [loQ]
def goW (b : SM') (Q : Out → Prop) : Option En → Prop
  | some ρ => Wp b ρ Q
  | none => False
theorem goW_some {b : SM'} {Q : Out → Prop} {ρ : En} : goW b Q (some ρ) = Wp b ρ Q := rfl
theorem goW_ex {b : SM'} {Q : Out → Prop} {o : Option En} (h : goW b Q o) : ∃ ρ1, o = some ρ1 ∧ Wp b ρ1 Q := by
  cases o with
  | none => exact h.elim
  | some ρ1 => exact ⟨ρ1, rfl, h⟩
/-- a loop by what holds when `ts` is left to walk -/
theorem wpl_inv {g : GM'} {b : SM'} {Q : Out → Prop} (I : List T → En → Prop) (hs : ∀ t ts ρ, I (t :: ts) ρ → goW b (loQ (I ts) Q) (g t ρ)) (he : ∀ ρ, I [] ρ → Q (.nx ρ)) : ∀ {ts : List T} {ρ : En}, I ts ρ → WpL g b ts ρ Q
  | [], ρ, h => by rw [wpl_nil]; exact he ρ h
  | t :: ts, ρ, h => by
    rw [wpl_cons]
    obtain ⟨ρ1, e, o, e2, q⟩ := goW_ex (hs t ts ρ h)
    refine ⟨ρ1, e, o, e2, ?_⟩
    cases o with
    | nx ρ2 => exact wpl_inv I hs he q
    | ct ρ2 => exact wpl_inv I hs he q
    | bk ρ2 => exact q
    | rt t ρ2 => exact q
    | _ => exact q
/-- a loop over a mapped list, by the number of rounds done -/
theorem wpl_map {α : Type} {f : α → T} {g : GM'} {b : SM'} {Q : Out → Prop} (xs : List α) (I : Nat → En → Prop) (hs : ∀ k x ρ, xs[k]? = some x → I k ρ → goW b (loQ (I (k + 1)) Q) (g (f x) ρ)) (he : ∀ ρ, I xs.length ρ → Q (.nx ρ)) {ρ : En} (h : I 0 ρ) : WpL g b (xs.map f) ρ Q := by
  refine wpl_inv (fun ts ρ => ∃ k, k ≤ xs.length ∧ ts = (xs.drop k).map f ∧ I k ρ) ?_ ?_ ⟨0, Nat.zero_le _, by simp, h⟩
  · rintro t ts ρ ⟨k, hk, e, i⟩
    have hlt : k < xs.length := by
      apply Nat.lt_of_le_of_ne hk
      rintro rfl
      simp at e
    rw [List.drop_eq_getElem_cons hlt, List.map_cons] at e
    injection e with e1 e2
    subst e1 e2
    obtain ⟨ρ1, e, o, e2, q⟩ := goW_ex (hs k xs[k] ρ (List.getElem?_eq_getElem hlt) i)
    rw [e, goW_some]
    refine ⟨o, e2, ?_⟩
    cases o <;> first | exact ⟨k + 1, hlt, rfl, q⟩ | exact q
  · rintro ρ ⟨k, hk, e, i⟩
    have : xs.length ≤ k := by
      have := congrArg List.length e
      simp at this
      omega
    have : k = xs.length := by omega
    subst this
    exact he ρ i
theorem wpl_upTo {g : GM'} {b : SM'} {Q : Out → Prop} (lo : Int) (n : Nat) (I : Nat → En → Prop) (hs : ∀ (k : Nat) ρ, k < n → I k ρ → goW b (loQ (I (k + 1)) Q) (g (.int (lo + (k : Int))) ρ)) (he : ∀ ρ, I n ρ → Q (.nx ρ)) {ρ : En} (h : I 0 ρ) : WpL g b (upTo lo n) ρ Q := by
  unfold upTo
  refine wpl_map (List.range n) I ?_ ?_ h
  · intro k x ρ hx i
    obtain ⟨h1, h2⟩ := List.getElem?_eq_some_iff.mp hx
    rw [List.getElem_range] at h2
    subst h2
    exact hs k ρ (by simpa using h1) i
  · intro ρ i
    rw [List.length_range] at i
    exact he ρ i
theorem wpw_step {n : Nat} {c : TM'} {b : SM'} {ρ : En} {Q : Out → Prop} : WpW (n + 1) c b ρ Q = ∃ r, c ρ = some r ∧ (if r.1 = true then Wp b r.2 (loQ (fun ρ2 => WpW n c b ρ2 Q) Q) else Q (.nx r.2)) := by
  unfold Wp WpW
  rw [whileL]
  cases e : c ρ with
  | none => simp
  | some r =>
    obtain ⟨t, ρ1⟩ := r
    cases t with
    | false => simp
    | true =>
      simp only [Option.some.injEq, exists_eq_left', if_true]
      cases e2 : b ρ1 with
      | none => simp
      | some o => cases o <;> simp [loQ]
def whW (b : SM') (f : En → Prop) (Q : Out → Prop) : Option (Bool × En) → Prop
  | some (v, ρ) => if v = true then Wp b ρ (loQ f Q) else Q (.nx ρ)
  | none => False
theorem whW_some {b : SM'} {f : En → Prop} {Q : Out → Prop} {v : Bool} {ρ : En} : whW b f Q (some (v, ρ)) = if v = true then Wp b ρ (loQ f Q) else Q (.nx ρ) := rfl
theorem whW_ex {b : SM'} {f : En → Prop} {Q : Out → Prop} {o : Option (Bool × En)} (h : whW b f Q o) : ∃ r, o = some r ∧ (if r.1 = true then Wp b r.2 (loQ f Q) else Q (.nx r.2)) := by
  cases o with
  | none => exact h.elim
  | some r => exact ⟨r, rfl, h⟩
/-- a while loop by a number that falls -/
theorem wpw_inv {c : TM'} {b : SM'} {Q : Out → Prop} (I : Nat → En → Prop) (hs : ∀ k ρ, I k ρ → whW b (fun ρ2 => ∃ j, j < k ∧ I j ρ2) Q (c ρ)) : ∀ (k n : Nat) (ρ : En), k < n → I k ρ → WpW n c b ρ Q := by
  intro k
  induction k using Nat.strongRecOn with
  | _ k ih =>
    intro n ρ hn i
    cases n with
    | zero => omega
    | succ n =>
      rw [wpw_step]
      obtain ⟨r, e, h⟩ := whW_ex (hs k ρ i)
      refine ⟨r, e, ?_⟩
      split at h
      · rename_i hc
        rw [if_pos hc]
        obtain ⟨o, e2, q⟩ := h
        refine ⟨o, e2, ?_⟩
        cases o <;> first | (obtain ⟨j, hj, i2⟩ := q; exact ih j hj n _ (by omega) i2) | exact q
      · rename_i hc
        rw [if_neg hc]
        exact h
/-- a def by its body -/
def retQ (as : List Sl) (n : Nat) (Q : T → List Sl → Prop) : Out → Prop
  | .rt t ρ => okP as ρ = true ∧ Q t (ρ.take n)
  | .nx ρ => okP as ρ = true ∧ Q .non (ρ.take n)
  | _ => False
def Fp (f : Fn) (as : List Sl) (Q : T → List Sl → Prop) : Prop := ∃ r, f as = some r ∧ Q r.1 r.2
theorem fp_run {n N : Nat} {m : SM'} {as : List Sl} {Q : T → List Sl → Prop} (h : Wp m (as ++ List.replicate (N - n) .u) (retQ as n Q)) : Fp (runF n N m) as Q := by
  obtain ⟨o, e, q⟩ := h
  unfold Fp runF
  rw [e]
  cases o <;> first | exact ⟨_, if_pos q.1, q.2⟩ | exact q.elim
/-! tests and operands as binds -/
def npb : Sl → Bool
  | .p _ => false
  | _ => true
theorem noP_0 (s : Sl) (ρ : En) : noP (s :: ρ) 0 = npb s := by cases s <;> rfl
theorem noP_s (s : Sl) (ρ : En) (i : Nat) : noP (s :: ρ) (i + 1) = noP ρ i := rfl
theorem npb_u : npb .u = true := rfl
theorem npb_i (t : T) : npb (.i t) = true := rfl
theorem npb_o (t : T) : npb (.o t) = true := rfl
theorem mTB_bl {m : EM'} {ρ ρ1 : En} {b : Bool} (h : m ρ = some (.bl b, ρ1)) : mTB m ρ = some (b, ρ1) := by
  unfold mTB
  rw [h]
/-- the second half of and, or -/
def andK (b : TM') : Option (Bool × En) → Option (Bool × En)
  | some (c, ρ) => if c = true then b ρ else some (false, ρ)
  | none => none
def orK (b : TM') : Option (Bool × En) → Option (Bool × En)
  | some (c, ρ) => if c = true then some (true, ρ) else b ρ
  | none => none
def ifK (a b : EM') : Option (Bool × En) → Option (T × En)
  | some (c, ρ) => if c = true then a ρ else b ρ
  | none => none
theorem andK_some {b : TM'} {c : Bool} {ρ : En} : andK b (some (c, ρ)) = if c = true then b ρ else some (false, ρ) := rfl
theorem orK_some {b : TM'} {c : Bool} {ρ : En} : orK b (some (c, ρ)) = if c = true then some (true, ρ) else b ρ := rfl
theorem ifK_some {a b : EM'} {c : Bool} {ρ : En} : ifK a b (some (c, ρ)) = if c = true then a ρ else b ρ := rfl
theorem gN_b (i : Nat) (t : T) (ρ : En) : gN i t ρ = if noP ρ i = true then some (ρ.set i (.i t)) else none := rfl
theorem mAndT_b (a b : TM') (ρ : En) : mAndT a b ρ = andK b (a ρ) := by
  unfold mAndT
  cases e : a ρ with
  | none => rfl
  | some r => obtain ⟨c, ρ1⟩ := r; cases c <;> rfl
theorem mOrT_b (a b : TM') (ρ : En) : mOrT a b ρ = orK b (a ρ) := by
  unfold mOrT
  cases e : a ρ with
  | none => rfl
  | some r => obtain ⟨c, ρ1⟩ := r; cases c <;> rfl
theorem mIf_b (c : TM') (a b : EM') (ρ : En) : mIf c a b ρ = ifK a b (c ρ) := by
  unfold mIf
  cases e : c ρ with
  | none => rfl
  | some r => obtain ⟨c, ρ1⟩ := r; cases c <;> rfl
/-! values -/
theorem gI_int (f : Int → Int → Int) (a b : Int) : gI f (.int a) (.int b) = some (.int (f a b)) := rfl
theorem gIc_int (C : Int → Int → Bool) (f : Int → Int → Int) (a b : Int) : gIc C f (.int a) (.int b) = if C a b = true then some (.int (f a b)) else none := rfl
theorem gIb_int (f : Int → Int → Bool) (a b : Int) : gIb f (.int a) (.int b) = some (f a b) := rfl
theorem gAdd_int (a b : Int) : gAdd (.int a) (.int b) = some (.int (a + b)) := rfl
theorem gMul_int (a b : Int) (h : cMul a b = true) : gMul (.int a) (.int b) = some (.int (a * b)) := by
  unfold gMul
  rw [gIc_int, if_pos h]
  rfl
theorem gInt_int (a : Int) : gInt (.int a) = some (.int a) := rfl
def absI (a : Int) : Int := if a < 0 then -a else a
theorem absI_nn (a : Int) : 0 ≤ absI a := by
  unfold absI
  split <;> omega
theorem gAbs_int (a : Int) : gAbs (.int a) = some (.int (absI a)) := rfl
theorem wipeE_0 (ρ : En) : wipeE ρ [] = ρ := rfl
theorem wipeE_1 (ρ : En) (v : Nat) : wipeE ρ [v] = ρ.set v .u := rfl
theorem gEq_int (a b : Int) : gEq (.int a) (.int b) = some (decide (a = b)) := rfl
theorem gEq_str (a b : Str) : gEq (.str a) (.str b) = some (decide (a = b)) := rfl
theorem gEq_bl (a b : Bool) : gEq (.bl a) (.bl b) = some (decide (a = b)) := rfl
theorem gLen_lst (ts : List T) : gLen' [.lst ts] = some (.int ts.length) := rfl
theorem gLen_rl (ts : List T) : gLen' [.rl ts] = some (.int ts.length) := rfl
theorem gLen_tup (ts : List T) : gLen' [.tup ts] = some (.int ts.length) := rfl
theorem gLen_str (x : Str) (h : x.length ≤ lim) : gLen' [.str x] = some (.int x.length) := by
  show (if x.length ≤ lim then some (T.int x.length) else none) = _
  rw [if_pos h]
theorem gIx_lst (ts : List T) (i : Int) : gIx (.lst ts) (.int i) = atI ts i := rfl
theorem gIx_rl (ts : List T) (i : Int) : gIx (.rl ts) (.int i) = atI ts i := rfl
theorem gIx_tup (ts : List T) (i : Int) : gIx (.tup ts) (.int i) = atI ts i := rfl
theorem g1_one (g : T → Option T) (t : T) : g1 g [t] = g t := rfl
theorem g2_two (g : T → T → Option T) (t u : T) : g2 g [t, u] = g t u := rfl
theorem cPos_t {i j : Int} (h : 0 < j) : cPos i j = true := decide_eq_true h
theorem cDiv_t {i j : Int} (h : 0 < j) (h2 : j < 1073741824) : cDiv i j = true := decide_eq_true ⟨h, h2⟩
theorem cNn_t {i j : Int} (h : 0 ≤ j) : cNn i j = true := decide_eq_true h
theorem cMul_r {i j : Int} (h : -1000000000 < j) (h2 : j < 1000000000) : cMul i j = true := decide_eq_true (.inr ⟨by omega, by omega⟩)
theorem cMul_l {i j : Int} (h : -1000000000 < i) (h2 : i < 1000000000) : cMul i j = true := decide_eq_true (.inl ⟨by omega, by omega⟩)
theorem wp_app {i : Nat} {m : EM'} {ρ : En} {Q : Out → Prop} : Wp (mApp i m) ρ Q = oW Q (mApp i m ρ) := wp_o
theorem wp_sub {i : Nat} {m n : EM'} {ρ : En} {Q : Out → Prop} : Wp (mSub i m n) ρ Q = oW Q (mSub i m n ρ) := wp_o
theorem wp_dput {i : Nat} {m n : EM'} {ρ : En} {Q : Out → Prop} : Wp (mDput i m n) ρ Q = oW Q (mDput i m n ρ) := wp_o
theorem wp_asg {g : GM'} {m : EM'} {ρ : En} {Q : Out → Prop} : Wp (mAsg m g) ρ Q = oW Q (mAsg m g ρ) := wp_o
theorem wp_ext {i : Nat} {a : Op} {ρ : En} {Q : Out → Prop} : Wp (mExt i a) ρ Q = oW Q (mExt i a ρ) := wp_o
theorem wp_aug {i : Nat} {f : Int → Int → Int} {m : EM'} {ρ : En} {Q : Out → Prop} : Wp (mAug i f m) ρ Q = oW Q (mAug i f m ρ) := wp_o
theorem nat62 {n : Nat} (h : n ≤ 1000000) : small62 (n : Int) = true := decide_eq_true ⟨by omega, by omega⟩
theorem small62_t {i : Int} (h : -1000000 ≤ i) (h2 : i ≤ 1000000) : small62 i = true := decide_eq_true ⟨by omega, by omega⟩
theorem mRng1_b {m : EM'} {ρ ρ1 : En} {n : Int} (h : m ρ = some (.int n, ρ1)) (h1 : 0 ≤ n) (h2 : n ≤ 1000000) : mRng1 m ρ = some (upTo 0 n.toNat, ρ1) := by
  unfold mRng1
  rw [h]
  exact if_pos (small62_t (by omega) h2)
/-! a choice goes inwards -/
theorem ifW_ite {a b : SM'} {Q : Out → Prop} {c : Prop} [Decidable c] {x y : Option (Bool × En)} : ifW a b Q (if c then x else y) = if c then ifW a b Q x else ifW a b Q y := by split <;> rfl
theorem retW_ite {Q : Out → Prop} {c : Prop} [Decidable c] {x y : Option (T × En)} : retW Q (if c then x else y) = if c then retW Q x else retW Q y := by split <;> rfl
theorem setW_ite {k : T → Sl} {i : Nat} {Q : Out → Prop} {c : Prop} [Decidable c] {x y : Option (T × En)} : setW k i Q (if c then x else y) = if c then setW k i Q x else setW k i Q y := by split <;> rfl
theorem whW_ite {b : SM'} {f : En → Prop} {Q : Out → Prop} {c : Prop} [Decidable c] {x y : Option (Bool × En)} : whW b f Q (if c then x else y) = if c then whW b f Q x else whW b f Q y := by split <;> rfl
theorem andK_ite {b : TM'} {c : Prop} [Decidable c] {x y : Option (Bool × En)} : andK b (if c then x else y) = if c then andK b x else andK b y := by split <;> rfl
theorem orK_ite {b : TM'} {c : Prop} [Decidable c] {x y : Option (Bool × En)} : orK b (if c then x else y) = if c then orK b x else orK b y := by split <;> rfl
theorem ifK_ite {a b : EM'} {c : Prop} [Decidable c] {x y : Option (Bool × En)} : ifK a b (if c then x else y) = if c then ifK a b x else ifK a b y := by split <;> rfl
theorem omap_ite {α β : Type} {f : α → β} {c : Prop} [Decidable c] {x y : Option α} : Option.map f (if c then x else y) = if c then x.map f else y.map f := by split <;> rfl
def tbK : Option (T × En) → Option (Bool × En)
  | some (.bl b, ρ) => some (b, ρ)
  | _ => none
theorem tbK_some {b : Bool} {ρ : En} : tbK (some (.bl b, ρ)) = some (b, ρ) := rfl
theorem tbK_ite {c : Prop} [Decidable c] {x y : Option (T × En)} : tbK (if c then x else y) = if c then tbK x else tbK y := by split <;> rfl
theorem mTB_b (m : EM') (ρ : En) : mTB m ρ = tbK (m ρ) := rfl
/-- a statement up to what holds behind it -/
def nxR (R : En → Prop) : Out → Prop
  | .nx ρ => R ρ
  | _ => False
theorem nxR_nx {R : En → Prop} {ρ : En} : nxR R (.nx ρ) = R ρ := rfl
theorem wp_cut {a b : SM'} {ρ : En} {Q : Out → Prop} (R : En → Prop) (h : Wp a ρ (nxR R)) (k : ∀ ρ1, R ρ1 → Wp b ρ1 Q) : Wp (mSeq a b) ρ Q := by
  rw [wp_seq]
  obtain ⟨o, e, q⟩ := h
  refine ⟨o, e, ?_⟩
  cases o <;> first | exact k _ q | exact q.elim
theorem wpl_numd {α : Type} {f : α → T} {g : GM'} {b : SM'} {Q : Out → Prop} (xs : List α) (I : Nat → En → Prop) (hs : ∀ k x ρ, xs[k]? = some x → I k ρ → goW b (loQ (I (k + 1)) Q) (g (.tup [.int (k : Int), f x]) ρ)) (he : ∀ ρ, I xs.length ρ → Q (.nx ρ)) {ρ : En} (h : I 0 ρ) : WpL g b (numd 0 (xs.map f)) ρ Q := by
  have e : numd 0 (xs.map f) = xs.zipIdx.map fun p => T.tup [.int (p.2 : Int), f p.1] := by
    apply List.ext_getElem?
    intro i
    rw [numd_get, List.getElem?_map, List.getElem?_map, List.getElem?_zipIdx]
    cases xs[i]? <;> simp
  rw [e]
  refine wpl_map xs.zipIdx I ?_ ?_ h
  · intro k x ρ hx i
    rw [List.getElem?_zipIdx] at hx
    obtain ⟨y, e1, e2⟩ := Option.map_eq_some_iff.mp hx
    subst e2
    have := hs k y ρ e1 i
    simpa using this
  · intro ρ i
    rw [List.length_zipIdx] at i
    exact he ρ i
theorem atI_pick {α : Type} (f : α → T) (l : List α) (d : α) (n : Nat) (x : Int) (hn : l.length = n) (h0 : 0 < n) : atI (l.map f) (x % (n : Int)) = some (f (l.getD (x % (n : Int)).toNat d)) := by
  have h1 : 0 ≤ x % (n : Int) := Int.emod_nonneg _ (by omega)
  have h2 : x % (n : Int) < (n : Int) := Int.emod_lt_of_pos _ (by omega)
  obtain ⟨m, hm⟩ := Int.eq_ofNat_of_zero_le h1
  rw [hm]
  have h3 : m < l.length := by omega
  refine (atI_nat (v := f l[m]) ?_).trans ?_
  · simp [h3]
  · simp [h3]
theorem atI_0 (a : T) (ts : List T) : atI (a :: ts) 0 = some a := atI_nat (j := 0) rfl
theorem atI_1 (a b : T) (ts : List T) : atI (a :: b :: ts) 1 = some b := atI_nat (j := 1) rfl
theorem atI_2 (a b c : T) (ts : List T) : atI (a :: b :: c :: ts) 2 = some c := atI_nat (j := 2) rfl
theorem atI_3 (a b c d : T) (ts : List T) : atI (a :: b :: c :: d :: ts) 3 = some d := atI_nat (j := 3) rfl
theorem atI_4 (a b c d e : T) (ts : List T) : atI (a :: b :: c :: d :: e :: ts) 4 = some e := atI_nat (j := 4) rfl
theorem atI_5 (a b c d e f : T) (ts : List T) : atI (a :: b :: c :: d :: e :: f :: ts) 5 = some f := atI_nat (j := 5) rfl
theorem atI_6 (a b c d e f g : T) (ts : List T) : atI (a :: b :: c :: d :: e :: f :: g :: ts) 6 = some g := atI_nat (j := 6) rfl
theorem atI_7 (a b c d e f g h : T) (ts : List T) : atI (a :: b :: c :: d :: e :: f :: g :: h :: ts) 7 = some h := atI_nat (j := 7) rfl
theorem gIn_strs (x : Str) (ys : List Str) : gIn false (.str x) (.tup (ys.map .str)) = some (inT (.str x) (ys.map .str)) := by
  have : (ys.map T.str).all flatT = true := by simp [flatT]
  simp [gIn, items, this, flatT]
theorem toPs_str : ∀ ys : List Str, toPs (ys.map .str) = some (ys.map .str)
  | [] => rfl
  | y :: ys => by simp [toPs, toP, toPs_str ys]
theorem eqv_bool : ∃ b, b = true := ⟨true, rfl⟩
/-! comprehensions -/
/-- a comprehension whose rounds leave the names as they are: the items that pass the test, each turned -/
theorem lc_map {α : Type} {f : α → T} {vs : List Nat} {g : GM'} {c : TM'} {e : EM'} {ρ : En} (p : α → Bool) (h : α → T) : ∀ {xs : List α} {acc : List T}, wipeE ρ vs = ρ → (∀ x ∈ xs, ∃ ρ1, g (f x) ρ = some ρ1 ∧ ∃ ρ2, c ρ1 = some (p x, ρ2) ∧ (p x = false → wipeE ρ2 vs = ρ) ∧ (p x = true → ∃ ρ3, e ρ2 = some (h x, ρ3) ∧ wipeE ρ3 vs = ρ)) →
    lcL vs g c e (xs.map f) ρ acc = some (acc ++ (xs.filter p).map h, ρ)
  | [], acc, hw, _ => by simp [lcL, hw]
  | x :: xs, acc, hw, hx => by
    obtain ⟨ρ1, e1, ρ2, e2, h1, h2⟩ := hx x List.mem_cons_self
    have ih := @lc_map α f vs g c e ρ p h xs
    rw [List.map_cons, lcL, e1]
    simp only []
    rw [e2]
    cases hp : p x with
    | false =>
      simp only []
      rw [h1 hp, ih hw fun y hy => hx y (List.mem_cons_of_mem _ hy), List.filter_cons_of_neg (by simp [hp])]
    | true =>
      simp only []
      obtain ⟨ρ3, e3, h3⟩ := h2 hp
      rw [e3]
      simp only []
      rw [h3, ih hw fun y hy => hx y (List.mem_cons_of_mem _ hy), List.filter_cons_of_pos hp]
      simp
theorem lc_all {α : Type} {f : α → T} {vs : List Nat} {g : GM'} {c : TM'} {e : EM'} {ρ : En} (h : α → T) {xs : List α} {acc : List T} (hw : wipeE ρ vs = ρ) (hx : ∀ x ∈ xs, ∃ ρ1, g (f x) ρ = some ρ1 ∧ ∃ ρ2, c ρ1 = some (true, ρ2) ∧ ∃ ρ3, e ρ2 = some (h x, ρ3) ∧ wipeE ρ3 vs = ρ) :
    lcL vs g c e (xs.map f) ρ acc = some (acc ++ xs.map h, ρ) := by
  have := lc_map (f := f) (g := g) (c := c) (e := e) (ρ := ρ) (fun _ => true) h (xs := xs) (acc := acc) hw fun x hm => by
    obtain ⟨ρ1, e1, ρ2, e2, r⟩ := hx x hm
    exact ⟨ρ1, e1, ρ2, e2, ⟨fun z => (by cases z), fun _ => r⟩⟩
  rw [this, List.filter_eq_self.mpr fun _ _ => rfl]
end Pu
set_option Elab.async false
set_option linter.all false
set_option maxRecDepth 100000
set_option maxHeartbeats 2000000
namespace Pu
open PySem PySem.Spec PyProof.Rows L2
def topS (i : Nat) : Stmt := PySem.Challenge.pw_stillroom_k72_terms_and_judging.main.body.getD i (.Pass ⟨0, 0, 0, 0⟩)
def ks_MOST : List Str := ["size", "pages", "acts", "depth"]
def no_MOST : List Str := ["is", "could", "act", "name"]
abbrev s_law_cell : Stmt := topS 11
abbrev s_law_kinds : Stmt := topS 15
abbrev s_law_row : Stmt := topS 13
abbrev s_law_acts : Stmt := topS 16
abbrev s_law_facts : Stmt := topS 17
abbrev s_law_long : Stmt := topS 26
abbrev s_law_pattern : Stmt := topS 18
abbrev s_law_body : Stmt := topS 19
abbrev s_law_term : Stmt := topS 20
abbrev s_law_policy : Stmt := topS 25
abbrev s_stands : Stmt := topS 6
abbrev s_number_of : Stmt := topS 7
abbrev s_opened : Stmt := topS 3
abbrev s_moved : Stmt := topS 4
abbrev s_matches : Stmt := topS 5
abbrev s_holds : Stmt := topS 8
abbrev s_judge : Stmt := topS 9
abbrev s_law_is_integer : Stmt := topS 12
abbrev s_law_says : Stmt := topS 27
abbrev s_law_match : Stmt := topS 21
abbrev s_law_stands : Stmt := topS 22
abbrev s_law_holds : Stmt := topS 23
abbrev s_law_judged : Stmt := topS 24
abbrev s_law : Stmt := topS 28
structure Txt (w : World) (K : PySem.W.Frag) (mg : Str → Option Value) : Prop where
  n_len : mg "len" = none
  n_int : mg "int" = none
  n_range : mg "range" = none
  n_abs : mg "abs" = none
  n_tuple : mg "tuple" = none
  n_sorted : mg "sorted" = none
  n_enumerate : mg "enumerate" = none
  n_all : mg "all" = none
  n_isinstance : mg "isinstance" = none
  n_bool : mg "bool" = none
  c_STAR : ∃ t, mg "STAR" = some (.int 42 t)
  c_MOST : KDic w K mg "MOST" ks_MOST no_MOST
  f_law_cell : ∃ fa fd, mg "_law_cell" = some (.ref fa) ∧ Fun K "_law_cell" "_law_cell" s_law_cell fa fd
  f_law_kinds : ∃ fa fd, mg "_law_kinds" = some (.ref fa) ∧ Fun K "_law_kinds" "_law_kinds" s_law_kinds fa fd
  f_law_row : ∃ fa fd, mg "_law_row" = some (.ref fa) ∧ Fun K "_law_row" "_law_row" s_law_row fa fd
  f_law_acts : ∃ fa fd, mg "_law_acts" = some (.ref fa) ∧ Fun K "_law_acts" "_law_acts" s_law_acts fa fd
  f_law_facts : ∃ fa fd, mg "_law_facts" = some (.ref fa) ∧ Fun K "_law_facts" "_law_facts" s_law_facts fa fd
  f_law_long : ∃ fa fd, mg "_law_long" = some (.ref fa) ∧ Fun K "_law_long" "_law_long" s_law_long fa fd
  f_law_pattern : ∃ fa fd, mg "_law_pattern" = some (.ref fa) ∧ Fun K "_law_pattern" "_law_pattern" s_law_pattern fa fd
  f_law_body : ∃ fa fd, mg "_law_body" = some (.ref fa) ∧ Fun K "_law_body" "_law_body" s_law_body fa fd
  f_law_term : ∃ fa fd, mg "_law_term" = some (.ref fa) ∧ Fun K "_law_term" "_law_term" s_law_term fa fd
  f_law_policy : ∃ fa fd, mg "_law_policy" = some (.ref fa) ∧ Fun K "_law_policy" "_law_policy" s_law_policy fa fd
  f_stands : ∃ fa fd, mg "stands" = some (.ref fa) ∧ Fun K "stands" "stands" s_stands fa fd
  f_number_of : ∃ fa fd, mg "number_of" = some (.ref fa) ∧ Fun K "number_of" "number_of" s_number_of fa fd
  f_opened : ∃ fa fd, mg "opened" = some (.ref fa) ∧ Fun K "opened" "opened" s_opened fa fd
  f_moved : ∃ fa fd, mg "moved" = some (.ref fa) ∧ Fun K "moved" "moved" s_moved fa fd
  f_matches : ∃ fa fd, mg "matches" = some (.ref fa) ∧ Fun K "matches" "matches" s_matches fa fd
  f_holds : ∃ fa fd, mg "holds" = some (.ref fa) ∧ Fun K "holds" "holds" s_holds fa fd
  f_judge : ∃ fa fd, mg "judge" = some (.ref fa) ∧ Fun K "judge" "judge" s_judge fa fd
  f_law_is_integer : ∃ fa fd, mg "_law_is_integer" = some (.ref fa) ∧ Fun K "_law_is_integer" "_law_is_integer" s_law_is_integer fa fd
  f_law_says : ∃ fa fd, mg "_law_says" = some (.ref fa) ∧ Fun K "_law_says" "_law_says" s_law_says fa fd
  f_law_match : ∃ fa fd, mg "_law_match" = some (.ref fa) ∧ Fun K "_law_match" "_law_match" s_law_match fa fd
  f_law_stands : ∃ fa fd, mg "_law_stands" = some (.ref fa) ∧ Fun K "_law_stands" "_law_stands" s_law_stands fa fd
  f_law_holds : ∃ fa fd, mg "_law_holds" = some (.ref fa) ∧ Fun K "_law_holds" "_law_holds" s_law_holds fa fd
  f_law_judged : ∃ fa fd, mg "_law_judged" = some (.ref fa) ∧ Fun K "_law_judged" "_law_judged" s_law_judged fa fd
  f_law : ∃ fa fd, mg "law" = some (.ref fa) ∧ Fun K "law" "law" s_law fa fd
theorem sc_law_cell : FnScope ["_law_script", "_law_k"] ["_law_script", "_law_k"] (defScope s_law_cell) := ⟨rfl, rfl, rfl, by decide +kernel, rfl, by decide +kernel, by decide +kernel⟩
def m_law_cell : SM' := (mSeq (mIfS (mBinB (gIb fun i j => decide (i < j)) (.n 1) (.e (mCall gLen' (mArgB 0 mNil))))
  (mRet (mCall (g1 gInt) (mArg (mBin gIx (.n 0) (.n 1)) mNil)))
  mNx)
  (mRet (mC (.int 0))))
def F_law_cell : Fn := runF 2 2 m_law_cell
theorem ok_law_cell {P : Program} {w : World} {K : PySem.W.Frag} {mg : Str → Option Value} {base : Heap} (T : Txt w K mg) : Has P w K mg base 1 "_law_cell" 2 F_law_cell := by
  obtain ⟨fa, fd, g, F⟩ := T.f_law_cell
  have b := F.binds (ps := ["_law_script", "_law_k"]) fun _ _ _ _ _ _ us hl => match us, hl with | [_, _], _ => rfl
  refine ⟨fa, fd, _, g, F.kp, b, fn_ok F sc_law_cell (by decide) fun cdv A outer s H E hr => ?_⟩
  exact (sms_cons (sm_if (tm_cmp op_lt p_Ib (om_n (pv 1)) (om_e (em_callR (fun _ h => pe_callB (call_len_seq.or call_len_str) (by rfl) T.n_len (by decide +kernel) h) p_len (am_b (pv 0) am_nil))) (nomark _))
  (sms_one (sm_ret (em_callR (fun _ h => pe_callTy call_int1 (by rfl) T.n_int (by decide +kernel) h) p_int (am_e (em_ix ix_seq p_ix (om_n (pv 0)) (om_n (pv 1)) (fun _ _ => rfl)) am_nil))))
  sms_nil)
  (sms_one (sm_ret em_int)))
theorem sc_law_kinds : FnScope [] [] (defScope s_law_kinds) := ⟨rfl, rfl, rfl, by decide +kernel, rfl, by decide +kernel, by decide +kernel⟩
def m_law_kinds : SM' := (mRet (mLst (mArg (mC (.str "still")) (mArg (mC (.str "picture")) (mArg (mC (.str "film")) (mArg (mC (.str "sheet")) (mArg (mC (.str "folio")) (mArg (mC (.str "crate")) mNil))))))))
def F_law_kinds : Fn := runF 0 0 m_law_kinds
theorem ok_law_kinds {P : Program} {w : World} {K : PySem.W.Frag} {mg : Str → Option Value} {base : Heap} (T : Txt w K mg) : Has P w K mg base 1 "_law_kinds" 0 F_law_kinds := by
  obtain ⟨fa, fd, g, F⟩ := T.f_law_kinds
  have b := F.binds (ps := []) fun _ _ _ _ _ _ us hl => match us, hl with | [], _ => rfl
  refine ⟨fa, fd, _, g, F.kp, b, fn_ok F sc_law_kinds (by decide) fun cdv A outer s H E hr => ?_⟩
  exact (sms_one (sm_ret (em_f (ef_lst (am_e em_str (am_e em_str (am_e em_str (am_e em_str (am_e em_str (am_e em_str am_nil))))))))))
theorem sc_law_row : FnScope ["_law_cell_here", "_law_count", "_law_row_here", "_law_left", "_law_k", "_law_state"] ["_law_cell_here", "_law_count"] (defScope s_law_row) := ⟨rfl, rfl, rfl, by decide +kernel, rfl, by decide +kernel, by decide +kernel⟩
def m_law_row : SM' := (mSeq (mSetO 2 (mLst mNil))
  (mSeq (mSet 3 (mCall (g1 gAbs) (mArgB 0 mNil)))
  (mSeq (mIfS (mBinB (gIb fun i j => decide (j ≤ i)) (.n 3) (.e (mBin (gIc cPow fun i j => i ^ j.toNat) (.e (mC (.int 10))) (.e (mC (.int 18))))))
  (mSeq (mFor (mRng1 (mVar 1)) (gN 4)
  (mSeq (mApp 2 (mBin (gI fun i j => Builtin.bitAnd i j) (.n 3) (.e (mC (.int 255)))))
  (mSet 3 (mBin (gIc cNn fun i j => i / 2 ^ j.toNat) (.n 3) (.e (mC (.int 8)))))))
  (mRet (mVar 2)))
  mNx)
  (mSeq (mSet 5 (mBin gAdd (.e (mBin (gIc cPos fun i j => i % j) (.e (mCall (g1 gInt) (mArgB 3 mNil))) (.e (mC (.int 2147483629))))) (.e (mC (.int 1)))))
  (mSeq (mFor (mRng1 (mVar 1)) (gN 4)
  (mSeq (mSet 5 (mBin (gIc cPos fun i j => i % j) (.e (mCall (g1 gInt) (mArg (mBin gMul (.n 5) (.e (mC (.int 48271)))) mNil))) (.e (mC (.int 2147483647)))))
  (mApp 2 (mBin (gI fun i j => Builtin.bitAnd i j) (.e (mBin gAdd (.e (mBin (gIc cDiv fun i j => i / j) (.n 5) (.e (mC (.int 7))))) (.n 5))) (.e (mC (.int 255)))))))
  (mRet (mVar 2)))))))
def F_law_row : Fn := runF 2 6 m_law_row
theorem ok_law_row {P : Program} {w : World} {K : PySem.W.Frag} {mg : Str → Option Value} {base : Heap} (T : Txt w K mg) : Has P w K mg base 1 "_law_row" 2 F_law_row := by
  obtain ⟨fa, fd, g, F⟩ := T.f_law_row
  have b := F.binds (ps := ["_law_cell_here", "_law_count"]) fun _ _ _ _ _ _ us hl => match us, hl with | [_, _], _ => rfl
  refine ⟨fa, fd, _, g, F.kp, b, fn_ok F sc_law_row (by decide) fun cdv A outer s H E hr => ?_⟩
  exact (sms_cons (sm_setO (i := 2) sc_law_row.nd rfl (.inl rfl) (ef_lst am_nil))
  (sms_cons (sm_set (i := 3) sc_law_row.nd rfl (.inl rfl) (em_callR (fun _ h => pe_callB call_abs (by rfl) T.n_abs (by decide +kernel) h) p_abs (am_b (pv 0) am_nil)))
  (sms_cons (sm_if (tm_cmp op_ge p_Ib (om_n (pv 3)) (om_e (em_bin op_pow p_pow (om_e em_int) (om_e em_int))) (nomark _))
  (sms_cons (sm_for (js := [4]) PassesOwn.never rfl (im_range1 (by rfl) T.n_range (em_var 1 (pv 1))) (gm_name (i := 4) sc_law_row.nd rfl (.inl rfl) (by decide))
  (sms_cons (sm_app (i := 2) (pv 2) (em_bin op_and p_I (om_n (pv 3)) (om_e em_int)) (fun _ h => pe_bm PySem.F.plainAttrs_list PySem.F.slot_list_append PySem.F.type_list_append mt_append (pv 2) h))
  (sms_one (sm_set (i := 3) sc_law_row.nd rfl (.inl rfl) (em_bin op_shr p_shr (om_n (pv 3)) (om_e em_int))))))
  (sms_one (sm_ret (em_var 2 (pv 2)))))
  sms_nil)
  (sms_cons (sm_set (i := 5) sc_law_row.nd rfl (.inl rfl) (em_bin (op_add.or (op_add_str.or (op_catA.or op_cat))) p_add (om_e (em_bin op_mod p_mod (om_e (em_callR (fun _ h => pe_callTy call_int1 (by rfl) T.n_int (by decide +kernel) h) p_int (am_b (pv 3) am_nil))) (om_e em_int))) (om_e em_int)))
  (sms_cons (sm_for (js := [4]) PassesOwn.never rfl (im_range1 (by rfl) T.n_range (em_var 1 (pv 1))) (gm_name (i := 4) sc_law_row.nd rfl (.inl rfl) (by decide))
  (sms_cons (sm_set (i := 5) sc_law_row.nd rfl (.inl rfl) (em_bin op_mod p_mod (om_e (em_callR (fun _ h => pe_callTy call_int1 (by rfl) T.n_int (by decide +kernel) h) p_int (am_e (em_bin (op_mul.or op_rep) p_mul (om_n (pv 5)) (om_e em_int)) am_nil))) (om_e em_int)))
  (sms_one (sm_app (i := 2) (pv 2) (em_bin op_and p_I (om_e (em_bin (op_add.or (op_add_str.or (op_catA.or op_cat))) p_add (om_e (em_bin op_fdiv p_fdiv (om_n (pv 5)) (om_e em_int))) (om_n (pv 5)))) (om_e em_int)) (fun _ h => pe_bm PySem.F.plainAttrs_list PySem.F.slot_list_append PySem.F.type_list_append mt_append (pv 2) h)))))
  (sms_one (sm_ret (em_var 2 (pv 2)))))))))
theorem sc_law_acts : FnScope [] [] (defScope s_law_acts) := ⟨rfl, rfl, rfl, by decide +kernel, rfl, by decide +kernel, by decide +kernel⟩
def m_law_acts : SM' := (mRet (mLst (mArg (mC (.str "open")) (mArg (mC (.str "file")) (mArg (mC (.str "link")) (mArg (mC (.str "form")) (mArg (mC (.str "fetch")) (mArg (mC (.str "script")) mNil))))))))
def F_law_acts : Fn := runF 0 0 m_law_acts
theorem ok_law_acts {P : Program} {w : World} {K : PySem.W.Frag} {mg : Str → Option Value} {base : Heap} (T : Txt w K mg) : Has P w K mg base 1 "_law_acts" 0 F_law_acts := by
  obtain ⟨fa, fd, g, F⟩ := T.f_law_acts
  have b := F.binds (ps := []) fun _ _ _ _ _ _ us hl => match us, hl with | [], _ => rfl
  refine ⟨fa, fd, _, g, F.kp, b, fn_ok F sc_law_acts (by decide) fun cdv A outer s H E hr => ?_⟩
  exact (sms_one (sm_ret (em_f (ef_lst (am_e em_str (am_e em_str (am_e em_str (am_e em_str (am_e em_str (am_e em_str am_nil))))))))))
theorem sc_law_facts : FnScope ["_law_script", "_law_at", "_law_cell_here", "_law_kinds_here", "_law_kind", "_law_name", "_law_acts_here", "_law_size", "_law_byte"] ["_law_script", "_law_at"] (defScope s_law_facts) := ⟨rfl, rfl, rfl, by decide +kernel, rfl, by decide +kernel, by decide +kernel⟩
def m_law_facts : SM' := (mSeq (mSet 2 (mCall (g1 gAbs) (mArg (mDef F_law_cell (mArg (mVar 0) (mArg (mVar 1) mNil))) mNil)))
  (mSeq (mSetO 3 (mLst mNil))
  (mSeq (mIfS (mBinB (gIb fun i j => decide (j < i)) (.e (mBin (gIc cPos fun i j => i % j) (.e (mCall (g1 gInt) (mArgB 2 mNil))) (.e (mC (.int 5))))) (.e (mC (.int 0))))
  (mApp 3 (mBin gIx (.e (mDef F_law_kinds mNil)) (.e (mBin (gI fun i j => i - j) (.e (mBin (gIc cPos fun i j => i % j) (.e (mCall (g1 gInt) (mArgB 2 mNil))) (.e (mC (.int 5))))) (.e (mC (.int 1)))))))
  mNx)
  (mSeq (mIfS (mBinB gEq (.e (mBin (gI fun i j => Builtin.bitAnd i j) (.e (mCall (g1 gInt) (mArg (mBin (gIc cDiv fun i j => i / j) (.n 2) (.e (mC (.int 5)))) mNil))) (.e (mC (.int 1))))) (.e (mC (.int 1))))
  (mApp 3 (mC (.str "folio")))
  mNx)
  (mSeq (mIfS (mBinB gEq (.e (mBin (gI fun i j => Builtin.bitAnd i j) (.e (mCall (g1 gInt) (mArg (mBin (gIc cDiv fun i j => i / j) (.n 2) (.e (mC (.int 10)))) mNil))) (.e (mC (.int 1))))) (.e (mC (.int 1))))
  (mApp 3 (mC (.str "crate")))
  mNx)
  (mSeq (mSet 4 (mC (.str "")))
  (mSeq (mIfS (mBinB (gIb fun i j => decide (j < i)) (.e (mCall gLen' (mArgB 3 mNil))) (.e (mC (.int 0))))
  (mSet 4 (mBin gIx (.n 3) (.e (mC (.int 0)))))
  mNx)
  (mSeq (mIfS (mAndT (mBinB gEq (.n 3) (.e (mLst (mArg (mC (.str "folio")) (mArg (mC (.str "crate")) mNil))))) (mBinB gEq (.e (mBin (gI fun i j => Builtin.bitAnd i j) (.e (mCall (g1 gInt) (mArg (mBin (gIc cDiv fun i j => i / j) (.n 2) (.e (mC (.int 20)))) mNil))) (.e (mC (.int 1))))) (.e (mC (.int 1)))))
  (mSet 4 (mC (.str "crate")))
  mNx)
  (mSeq (mSet 5 (mCall (g1 gTupOf) (mArg (mLc [8] (mIt (mDef F_law_row (mArg (mDef F_law_cell (mArg (mVar 0) (mArg (mBin gAdd (.n 1) (.e (mC (.int 1)))) mNil))) (mArg (mBin (gIc cPos fun i j => i % j) (.e (mCall (g1 gInt) (mArg (mBin (gIc cDiv fun i j => i / j) (.n 2) (.e (mC (.int 40)))) mNil))) (.e (mC (.int 9)))) mNil)))) (gN 8) mYes (mBin gIx (.e (mLst (mArg (mC (.int 97)) (mArg (mC (.int 98)) (mArg (mC (.int 42)) (mArg (mC (.int 46)) (mArg (mC (.int 99)) mNil))))))) (.e (mBin (gIc cPos fun i j => i % j) (.e (mCall (g1 gInt) (mArgB 8 mNil))) (.e (mC (.int 5))))))) mNil)))
  (mSeq (mSet 6 (mCall (g1 gTupOf) (mArg (mLc [8] (mIt (mDef F_law_row (mArg (mDef F_law_cell (mArg (mVar 0) (mArg (mBin gAdd (.n 1) (.e (mC (.int 2)))) mNil))) (mArg (mBin (gIc cPos fun i j => i % j) (.e (mCall (g1 gInt) (mArg (mBin (gIc cDiv fun i j => i / j) (.n 2) (.e (mC (.int 360)))) mNil))) (.e (mC (.int 5)))) mNil)))) (gN 8) mYes (mBin gIx (.e (mDef F_law_acts mNil)) (.e (mBin (gIc cPos fun i j => i % j) (.e (mCall (g1 gInt) (mArgB 8 mNil))) (.e (mC (.int 6))))))) mNil)))
  (mSeq (mSet 7 (mBin gIx (.e (mLst (mArg (mBin (gIc cPos fun i j => i % j) (.e (mCall (g1 gInt) (mArg (mBin (gIc cDiv fun i j => i / j) (.n 2) (.e (mC (.int 1800)))) mNil))) (.e (mC (.int 12)))) (mArg (mC (.int 2147483647)) (mArg (mBin gAdd (.e (mC (.int 99))) (.e (mBin (gIc cPos fun i j => i % j) (.e (mCall (g1 gInt) (mArg (mBin (gIc cDiv fun i j => i / j) (.n 2) (.e (mC (.int 1800)))) mNil))) (.e (mC (.int 3)))))) mNil))))) (.e (mBin (gIc cPos fun i j => i % j) (.e (mCall (g1 gInt) (mArg (mBin (gIc cDiv fun i j => i / j) (.n 2) (.e (mC (.int 21600)))) mNil))) (.e (mC (.int 3)))))))
  (mRet (mTup (mArg (mVar 5) (mArg (mVar 7) (mArg (mVar 4) (mArg (mCall (g1 gTupOf) (mArgB 3 mNil)) (mArg (mBin (gIc cPos fun i j => i % j) (.e (mCall (g1 gInt) (mArg (mBin (gIc cDiv fun i j => i / j) (.n 2) (.e (mC (.int 64800)))) mNil))) (.e (mC (.int 9)))) (mArg (mVar 6) (mArg (mBin (gIc cPos fun i j => i % j) (.e (mCall (g1 gInt) (mArg (mBin (gIc cDiv fun i j => i / j) (.n 2) (.e (mC (.int 583200)))) mNil))) (.e (mC (.int 5)))) mNil))))))))))))))))))))
def F_law_facts : Fn := runF 2 9 m_law_facts
theorem ok_law_facts {P : Program} {w : World} {K : PySem.W.Frag} {mg : Str → Option Value} {base : Heap} (T : Txt w K mg) : Has P w K mg base 2 "_law_facts" 2 F_law_facts := by
  obtain ⟨fa, fd, g, F⟩ := T.f_law_facts
  have b := F.binds (ps := ["_law_script", "_law_at"]) fun _ _ _ _ _ _ us hl => match us, hl with | [_, _], _ => rfl
  refine ⟨fa, fd, _, g, F.kp, b, fn_ok F sc_law_facts (by decide) fun cdv A outer s H E hr => ?_⟩
  exact (sms_cons (sm_set (i := 2) sc_law_facts.nd rfl (.inl rfl) (em_callR (fun _ h => pe_callB call_abs (by rfl) T.n_abs (by decide +kernel) h) p_abs (am_e (em_defH (ok_law_cell T) (hr.mono (by decide)) (by rfl) (am_e (em_var 0 (pv 0)) (am_e (em_var 1 (pv 1)) am_nil)) (len_arg (len_arg len_nil))) am_nil)))
  (sms_cons (sm_setO (i := 3) sc_law_facts.nd rfl (.inl rfl) (ef_lst am_nil))
  (sms_cons (sm_if (tm_cmp op_gt p_Ib (om_e (em_bin op_mod p_mod (om_e (em_callR (fun _ h => pe_callTy call_int1 (by rfl) T.n_int (by decide +kernel) h) p_int (am_b (pv 2) am_nil))) (om_e em_int))) (om_e em_int) (nomark _))
  (sms_one (sm_app (i := 3) (pv 3) (em_ix ix_seq p_ix (om_e (em_defH0 (ok_law_kinds T) (hr.mono (by decide)) (by rfl))) (om_e (em_bin op_sub p_I (om_e (em_bin op_mod p_mod (om_e (em_callR (fun _ h => pe_callTy call_int1 (by rfl) T.n_int (by decide +kernel) h) p_int (am_b (pv 2) am_nil))) (om_e em_int))) (om_e em_int))) (fun _ _ => rfl)) (fun _ h => pe_bm PySem.F.plainAttrs_list PySem.F.slot_list_append PySem.F.type_list_append mt_append (pv 3) h)))
  sms_nil)
  (sms_cons (sm_if (tm_cmp (op_eq.or (op_eqD hr.units)) p_eq (om_e (em_bin op_and p_I (om_e (em_callR (fun _ h => pe_callTy call_int1 (by rfl) T.n_int (by decide +kernel) h) p_int (am_e (em_bin op_fdiv p_fdiv (om_n (pv 2)) (om_e em_int)) am_nil))) (om_e em_int))) (om_e em_int) (nomark _))
  (sms_one (sm_app (i := 3) (pv 3) em_str (fun _ h => pe_bm PySem.F.plainAttrs_list PySem.F.slot_list_append PySem.F.type_list_append mt_append (pv 3) h)))
  sms_nil)
  (sms_cons (sm_if (tm_cmp (op_eq.or (op_eqD hr.units)) p_eq (om_e (em_bin op_and p_I (om_e (em_callR (fun _ h => pe_callTy call_int1 (by rfl) T.n_int (by decide +kernel) h) p_int (am_e (em_bin op_fdiv p_fdiv (om_n (pv 2)) (om_e em_int)) am_nil))) (om_e em_int))) (om_e em_int) (nomark _))
  (sms_one (sm_app (i := 3) (pv 3) em_str (fun _ h => pe_bm PySem.F.plainAttrs_list PySem.F.slot_list_append PySem.F.type_list_append mt_append (pv 3) h)))
  sms_nil)
  (sms_cons (sm_set (i := 4) sc_law_facts.nd rfl (.inl rfl) em_str)
  (sms_cons (sm_if (tm_cmp op_gt p_Ib (om_e (em_callR (fun _ h => pe_callB (call_len_seq.or call_len_str) (by rfl) T.n_len (by decide +kernel) h) p_len (am_b (pv 3) am_nil))) (om_e em_int) (nomark _))
  (sms_one (sm_set (i := 4) sc_law_facts.nd rfl (.inl rfl) (em_ix ix_seq p_ix (om_n (pv 3)) (om_e em_int) (fun _ _ => rfl))))
  sms_nil)
  (sms_cons (sm_if (tm_w (wm_and (tm_cmp (op_eq.or (op_eqD hr.units)) p_eq (om_n (pv 3)) (om_e (em_f (ef_lst (am_e em_str (am_e em_str am_nil))))) (nomark _)) (wm_and1 (tm_cmp (op_eq.or (op_eqD hr.units)) p_eq (om_e (em_bin op_and p_I (om_e (em_callR (fun _ h => pe_callTy call_int1 (by rfl) T.n_int (by decide +kernel) h) p_int (am_e (em_bin op_fdiv p_fdiv (om_n (pv 2)) (om_e em_int)) am_nil))) (om_e em_int))) (om_e em_int) (nomark _)))))
  (sms_one (sm_set (i := 4) sc_law_facts.nd rfl (.inl rfl) em_str))
  sms_nil)
  (sms_cons (sm_set (i := 5) sc_law_facts.nd rfl (.inl rfl) (em_callR (fun _ h => pe_callTy call_tuple_of (by rfl) T.n_tuple (by decide +kernel) h) p_tupOf (am_e (em_f (ef_lc (own := [("_law_byte", 8)]) (js := [8]) rfl sc_law_facts.nd (im_seq (em_defH (ok_law_row T) (hr.mono (by decide)) (by rfl) (am_e (em_defH (ok_law_cell T) (hr.mono (by decide)) (by rfl) (am_e (em_var 0 (pv 0)) (am_e (em_bin (op_add.or (op_add_str.or (op_catA.or op_cat))) p_add (om_n (pv 1)) (om_e em_int)) am_nil)) (len_arg (len_arg len_nil))) (am_e (em_bin op_mod p_mod (om_e (em_callR (fun _ h => pe_callTy call_int1 (by rfl) T.n_int (by decide +kernel) h) p_int (am_e (em_bin op_fdiv p_fdiv (om_n (pv 2)) (om_e em_int)) am_nil))) (om_e em_int)) am_nil)) (len_arg (len_arg len_nil)))) (blkOk_by (N := ["_law_script", "_law_at", "_law_cell_here", "_law_kinds_here", "_law_kind", "_law_name", "_law_acts_here", "_law_size", "_law_byte"]) (sc := defScope s_law_facts) (by decide +kernel)) (by decide) (fun _ _ _ _ _ => (gm_name (i := 8) sc_law_facts.nd rfl (.inl rfl) (by decide))) (fun _ _ _ _ _ => tms_nil) (fun _ _ _ _ _ => (em_ix ix_seq p_ix (om_e (em_f (ef_lst (am_e em_int (am_e em_int (am_e em_int (am_e em_int (am_e em_int am_nil)))))))) (om_e (em_bin op_mod p_mod (om_e (em_callR (fun _ h => pe_callTy call_int1 (by rfl) T.n_int (by decide +kernel) h) p_int (am_b (pv 8) am_nil))) (om_e em_int))) (fun _ _ => rfl))))) am_nil)))
  (sms_cons (sm_set (i := 6) sc_law_facts.nd rfl (.inl rfl) (em_callR (fun _ h => pe_callTy call_tuple_of (by rfl) T.n_tuple (by decide +kernel) h) p_tupOf (am_e (em_f (ef_lc (own := [("_law_byte", 8)]) (js := [8]) rfl sc_law_facts.nd (im_seq (em_defH (ok_law_row T) (hr.mono (by decide)) (by rfl) (am_e (em_defH (ok_law_cell T) (hr.mono (by decide)) (by rfl) (am_e (em_var 0 (pv 0)) (am_e (em_bin (op_add.or (op_add_str.or (op_catA.or op_cat))) p_add (om_n (pv 1)) (om_e em_int)) am_nil)) (len_arg (len_arg len_nil))) (am_e (em_bin op_mod p_mod (om_e (em_callR (fun _ h => pe_callTy call_int1 (by rfl) T.n_int (by decide +kernel) h) p_int (am_e (em_bin op_fdiv p_fdiv (om_n (pv 2)) (om_e em_int)) am_nil))) (om_e em_int)) am_nil)) (len_arg (len_arg len_nil)))) (blkOk_by (N := ["_law_script", "_law_at", "_law_cell_here", "_law_kinds_here", "_law_kind", "_law_name", "_law_acts_here", "_law_size", "_law_byte"]) (sc := defScope s_law_facts) (by decide +kernel)) (by decide) (fun _ _ _ _ _ => (gm_name (i := 8) sc_law_facts.nd rfl (.inl rfl) (by decide))) (fun _ _ _ _ _ => tms_nil) (fun _ _ _ _ _ => (em_ix ix_seq p_ix (om_e (em_defH0 (ok_law_acts T) (hr.mono (by decide)) (by rfl))) (om_e (em_bin op_mod p_mod (om_e (em_callR (fun _ h => pe_callTy call_int1 (by rfl) T.n_int (by decide +kernel) h) p_int (am_b (pv 8) am_nil))) (om_e em_int))) (fun _ _ => rfl))))) am_nil)))
  (sms_cons (sm_set (i := 7) sc_law_facts.nd rfl (.inl rfl) (em_ix ix_seq p_ix (om_e (em_f (ef_lst (am_e (em_bin op_mod p_mod (om_e (em_callR (fun _ h => pe_callTy call_int1 (by rfl) T.n_int (by decide +kernel) h) p_int (am_e (em_bin op_fdiv p_fdiv (om_n (pv 2)) (om_e em_int)) am_nil))) (om_e em_int)) (am_e em_int (am_e (em_bin (op_add.or (op_add_str.or (op_catA.or op_cat))) p_add (om_e em_int) (om_e (em_bin op_mod p_mod (om_e (em_callR (fun _ h => pe_callTy call_int1 (by rfl) T.n_int (by decide +kernel) h) p_int (am_e (em_bin op_fdiv p_fdiv (om_n (pv 2)) (om_e em_int)) am_nil))) (om_e em_int)))) am_nil)))))) (om_e (em_bin op_mod p_mod (om_e (em_callR (fun _ h => pe_callTy call_int1 (by rfl) T.n_int (by decide +kernel) h) p_int (am_e (em_bin op_fdiv p_fdiv (om_n (pv 2)) (om_e em_int)) am_nil))) (om_e em_int))) (fun _ _ => rfl)))
  (sms_one (sm_ret (em_tup (am_e (em_var 5 (pv 5)) (am_e (em_var 7 (pv 7)) (am_e (em_var 4 (pv 4)) (am_e (em_callR (fun _ h => pe_callTy call_tuple_of (by rfl) T.n_tuple (by decide +kernel) h) p_tupOf (am_b (pv 3) am_nil)) (am_e (em_bin op_mod p_mod (om_e (em_callR (fun _ h => pe_callTy call_int1 (by rfl) T.n_int (by decide +kernel) h) p_int (am_e (em_bin op_fdiv p_fdiv (om_n (pv 2)) (om_e em_int)) am_nil))) (om_e em_int)) (am_e (em_var 6 (pv 6)) (am_e (em_bin op_mod p_mod (om_e (em_callR (fun _ h => pe_callTy call_int1 (by rfl) T.n_int (by decide +kernel) h) p_int (am_e (em_bin op_fdiv p_fdiv (om_n (pv 2)) (om_e em_int)) am_nil))) (om_e em_int)) am_nil)))))))))))))))))))))
theorem sc_law_long : FnScope ["_law_cell_here", "_law_most", "_law_signs", "_law_byte"] ["_law_cell_here", "_law_most", "_law_signs"] (defScope s_law_long) := ⟨rfl, rfl, rfl, by decide +kernel, rfl, by decide +kernel, by decide +kernel⟩
def m_law_long : SM' := (mRet (mCall (g1 gTupOf) (mArg (mLc [3] (mIt (mDef F_law_row (mArg (mBin (gIc cDiv fun i j => i / j) (.n 0) (.e (mC (.int 31)))) (mArg (mBin (gIc cPos fun i j => i % j) (.e (mCall (g1 gInt) (mArgB 0 mNil))) (.e (mBin gAdd (.n 1) (.e (mC (.int 1)))))) mNil)))) (gN 3) mYes (mBin gIx (.n 2) (.e (mBin (gIc cPos fun i j => i % j) (.e (mCall (g1 gInt) (mArgB 3 mNil))) (.e (mCall gLen' (mArgB 2 mNil))))))) mNil)))
def F_law_long : Fn := runF 3 4 m_law_long
theorem ok_law_long {P : Program} {w : World} {K : PySem.W.Frag} {mg : Str → Option Value} {base : Heap} (T : Txt w K mg) : Has P w K mg base 2 "_law_long" 3 F_law_long := by
  obtain ⟨fa, fd, g, F⟩ := T.f_law_long
  have b := F.binds (ps := ["_law_cell_here", "_law_most", "_law_signs"]) fun _ _ _ _ _ _ us hl => match us, hl with | [_, _, _], _ => rfl
  refine ⟨fa, fd, _, g, F.kp, b, fn_ok F sc_law_long (by decide) fun cdv A outer s H E hr => ?_⟩
  exact (sms_one (sm_ret (em_callR (fun _ h => pe_callTy call_tuple_of (by rfl) T.n_tuple (by decide +kernel) h) p_tupOf (am_e (em_f (ef_lc (own := [("_law_byte", 3)]) (js := [3]) rfl sc_law_long.nd (im_seq (em_defH (ok_law_row T) (hr.mono (by decide)) (by rfl) (am_e (em_bin op_fdiv p_fdiv (om_n (pv 0)) (om_e em_int)) (am_e (em_bin op_mod p_mod (om_e (em_callR (fun _ h => pe_callTy call_int1 (by rfl) T.n_int (by decide +kernel) h) p_int (am_b (pv 0) am_nil))) (om_e (em_bin (op_add.or (op_add_str.or (op_catA.or op_cat))) p_add (om_n (pv 1)) (om_e em_int)))) am_nil)) (len_arg (len_arg len_nil)))) (blkOk_by (N := ["_law_cell_here", "_law_most", "_law_signs", "_law_byte"]) (sc := defScope s_law_long) (by decide +kernel)) (by decide) (fun _ _ _ _ _ => (gm_name (i := 3) sc_law_long.nd rfl (.inl rfl) (by decide))) (fun _ _ _ _ _ => tms_nil) (fun _ _ _ _ _ => (em_ix ix_seq p_ix (om_n (pv 2)) (om_e (em_bin op_mod p_mod (om_e (em_callR (fun _ h => pe_callTy call_int1 (by rfl) T.n_int (by decide +kernel) h) p_int (am_b (pv 3) am_nil))) (om_e (em_callR (fun _ h => pe_callB (call_len_seq.or call_len_str) (by rfl) T.n_len (by decide +kernel) h) p_len (am_b (pv 2) am_nil))))) (fun _ _ => rfl))))) am_nil))))
theorem sc_law_pattern : FnScope ["_law_cell_here", "_law_row_here", "_law_byte"] ["_law_cell_here"] (defScope s_law_pattern) := ⟨rfl, rfl, rfl, by decide +kernel, rfl, by decide +kernel, by decide +kernel⟩
def m_law_pattern : SM' := (mSeq (mSet 1 (mDef F_law_row (mArg (mBin (gIc cDiv fun i j => i / j) (.n 0) (.e (mC (.int 6)))) (mArg (mBin (gIc cPos fun i j => i % j) (.e (mCall (g1 gInt) (mArgB 0 mNil))) (.e (mC (.int 6)))) mNil))))
  (mRet (mCall (g1 gTupOf) (mArg (mLc [2] (mIt (mVar 1)) (gN 2) mYes (mBin gIx (.e (mLst (mArg (mC (.int 97)) (mArg (mC (.int 98)) (mArg (mC (.int 42)) (mArg (mC (.int 42)) (mArg (mC (.int 46)) mNil))))))) (.e (mBin (gIc cPos fun i j => i % j) (.e (mCall (g1 gInt) (mArgB 2 mNil))) (.e (mC (.int 5))))))) mNil))))
def F_law_pattern : Fn := runF 1 3 m_law_pattern
theorem ok_law_pattern {P : Program} {w : World} {K : PySem.W.Frag} {mg : Str → Option Value} {base : Heap} (T : Txt w K mg) : Has P w K mg base 2 "_law_pattern" 1 F_law_pattern := by
  obtain ⟨fa, fd, g, F⟩ := T.f_law_pattern
  have b := F.binds (ps := ["_law_cell_here"]) fun _ _ _ _ _ _ us hl => match us, hl with | [_], _ => rfl
  refine ⟨fa, fd, _, g, F.kp, b, fn_ok F sc_law_pattern (by decide) fun cdv A outer s H E hr => ?_⟩
  exact (sms_cons (sm_set (i := 1) sc_law_pattern.nd rfl (.inl rfl) (em_defH (ok_law_row T) (hr.mono (by decide)) (by rfl) (am_e (em_bin op_fdiv p_fdiv (om_n (pv 0)) (om_e em_int)) (am_e (em_bin op_mod p_mod (om_e (em_callR (fun _ h => pe_callTy call_int1 (by rfl) T.n_int (by decide +kernel) h) p_int (am_b (pv 0) am_nil))) (om_e em_int)) am_nil)) (len_arg (len_arg len_nil))))
  (sms_one (sm_ret (em_callR (fun _ h => pe_callTy call_tuple_of (by rfl) T.n_tuple (by decide +kernel) h) p_tupOf (am_e (em_f (ef_lc (own := [("_law_byte", 2)]) (js := [2]) rfl sc_law_pattern.nd (im_seq (em_var 1 (pv 1))) (blkOk_by (N := ["_law_cell_here", "_law_row_here", "_law_byte"]) (sc := defScope s_law_pattern) (by decide +kernel)) (by decide) (fun _ _ _ _ _ => (gm_name (i := 2) sc_law_pattern.nd rfl (.inl rfl) (by decide))) (fun _ _ _ _ _ => tms_nil) (fun _ _ _ _ _ => (em_ix ix_seq p_ix (om_e (em_f (ef_lst (am_e em_int (am_e em_int (am_e em_int (am_e em_int (am_e em_int am_nil)))))))) (om_e (em_bin op_mod p_mod (om_e (em_callR (fun _ h => pe_callTy call_int1 (by rfl) T.n_int (by decide +kernel) h) p_int (am_b (pv 2) am_nil))) (om_e em_int))) (fun _ _ => rfl))))) am_nil)))))
theorem sc_law_body : FnScope ["_law_cell_here", "_law_which", "_law_left", "_law_number"] ["_law_cell_here"] (defScope s_law_body) := ⟨rfl, rfl, rfl, by decide +kernel, rfl, by decide +kernel, by decide +kernel⟩
def m_law_body : SM' := (mSeq (mSet 1 (mBin (gIc cPos fun i j => i % j) (.e (mCall (g1 gInt) (mArgB 0 mNil))) (.e (mC (.int 9)))))
  (mSeq (mSet 2 (mBin (gIc cDiv fun i j => i / j) (.n 0) (.e (mC (.int 9)))))
  (mSeq (mIfS (mBinB (gIb fun i j => decide (i < j)) (.n 1) (.e (mC (.int 4))))
  (mSeq (mSet 3 (mBin (gIc cPos fun i j => i % j) (.e (mCall (g1 gInt) (mArg (mBin (gIc cDiv fun i j => i / j) (.n 2) (.e (mC (.int 5)))) mNil))) (.e (mC (.int 12)))))
  (mSeq (mIfS (mAndT (mBinB gEq (.n 1) (.e (mC (.int 0)))) (mBinB gEq (.e (mBin (gIc cPos fun i j => i % j) (.e (mCall (g1 gInt) (mArg (mBin (gIc cDiv fun i j => i / j) (.n 2) (.e (mC (.int 60)))) mNil))) (.e (mC (.int 4))))) (.e (mC (.int 1)))))
  (mSet 3 (mBin gIx (.e (mLst (mArg (mC (.int 2147483647)) (mArg (mC (.int 100)) (mArg (mC (.int 99)) (mArg (mC (.int 0)) mNil)))))) (.e (mBin (gI fun i j => Builtin.bitAnd i j) (.e (mCall (g1 gInt) (mArg (mBin (gIc cDiv fun i j => i / j) (.n 2) (.e (mC (.int 240)))) mNil))) (.e (mC (.int 3)))))))
  mNx)
  (mSeq (mIfS (mAndT (mBinB (gIb fun i j => decide (j < i)) (.n 1) (.e (mC (.int 0)))) (mBinB gEq (.e (mBin (gIc cPos fun i j => i % j) (.e (mCall (g1 gInt) (mArg (mBin (gIc cDiv fun i j => i / j) (.n 2) (.e (mC (.int 60)))) mNil))) (.e (mC (.int 6))))) (.e (mC (.int 1)))))
  (mSet 3 (mBin gIx (.e (mLst (mArg (mC (.int 100)) (mArg (mC (.int 8)) (mArg (mC (.int 9)) (mArg (mC (.int 4)) mNil)))))) (.e (mBin (gI fun i j => Builtin.bitAnd i j) (.e (mCall (g1 gInt) (mArg (mBin (gIc cDiv fun i j => i / j) (.n 2) (.e (mC (.int 360)))) mNil))) (.e (mC (.int 3)))))))
  mNx)
  (mRet (mTup (mArg (mBin gIx (.e (mLst (mArg (mC (.str "size")) (mArg (mC (.str "pages")) (mArg (mC (.str "acts")) (mArg (mC (.str "depth")) mNil)))))) (.n 1)) (mArg (mBin gIx (.e (mLst (mArg (mC (.str "<")) (mArg (mC (.str "<=")) (mArg (mC (.str "=")) (mArg (mC (.str ">=")) (mArg (mC (.str ">")) mNil))))))) (.e (mBin (gIc cPos fun i j => i % j) (.e (mCall (g1 gInt) (mArgB 2 mNil))) (.e (mC (.int 5)))))) (mArg (mVar 3) mNil))))))))
  mNx)
  (mSeq (mIfS (mBinB gEq (.n 1) (.e (mC (.int 4))))
  (mRet (mTup (mArg (mC (.str "is")) (mArg (mBin gIx (.e (mBin gAdd (.e (mDef F_law_kinds mNil)) (.e (mLst (mArg (mC (.str "")) mNil))))) (.e (mBin (gIc cPos fun i j => i % j) (.e (mCall (g1 gInt) (mArgB 2 mNil))) (.e (mC (.int 7)))))) mNil))))
  mNx)
  (mSeq (mIfS (mBinB gEq (.n 1) (.e (mC (.int 5))))
  (mRet (mTup (mArg (mC (.str "could")) (mArg (mBin gIx (.e (mDef F_law_kinds mNil)) (.e (mBin (gIc cPos fun i j => i % j) (.e (mCall (g1 gInt) (mArgB 2 mNil))) (.e (mC (.int 6)))))) mNil))))
  mNx)
  (mSeq (mIfS (mBinB gEq (.n 1) (.e (mC (.int 6))))
  (mRet (mTup (mArg (mC (.str "act")) (mArg (mBin gIx (.e (mDef F_law_acts mNil)) (.e (mBin (gIc cPos fun i j => i % j) (.e (mCall (g1 gInt) (mArgB 2 mNil))) (.e (mC (.int 6)))))) mNil))))
  mNx)
  (mRet (mTup (mArg (mC (.str "name")) (mArg (mDef F_law_pattern (mArg (mVar 2) mNil)) mNil))))))))))
def F_law_body : Fn := runF 1 4 m_law_body
theorem ok_law_body {P : Program} {w : World} {K : PySem.W.Frag} {mg : Str → Option Value} {base : Heap} (T : Txt w K mg) : Has P w K mg base 3 "_law_body" 1 F_law_body := by
  obtain ⟨fa, fd, g, F⟩ := T.f_law_body
  have b := F.binds (ps := ["_law_cell_here"]) fun _ _ _ _ _ _ us hl => match us, hl with | [_], _ => rfl
  refine ⟨fa, fd, _, g, F.kp, b, fn_ok F sc_law_body (by decide) fun cdv A outer s H E hr => ?_⟩
  exact (sms_cons (sm_set (i := 1) sc_law_body.nd rfl (.inl rfl) (em_bin op_mod p_mod (om_e (em_callR (fun _ h => pe_callTy call_int1 (by rfl) T.n_int (by decide +kernel) h) p_int (am_b (pv 0) am_nil))) (om_e em_int)))
  (sms_cons (sm_set (i := 2) sc_law_body.nd rfl (.inl rfl) (em_bin op_fdiv p_fdiv (om_n (pv 0)) (om_e em_int)))
  (sms_cons (sm_if (tm_cmp op_lt p_Ib (om_n (pv 1)) (om_e em_int) (nomark _))
  (sms_cons (sm_set (i := 3) sc_law_body.nd rfl (.inl rfl) (em_bin op_mod p_mod (om_e (em_callR (fun _ h => pe_callTy call_int1 (by rfl) T.n_int (by decide +kernel) h) p_int (am_e (em_bin op_fdiv p_fdiv (om_n (pv 2)) (om_e em_int)) am_nil))) (om_e em_int)))
  (sms_cons (sm_if (tm_w (wm_and (tm_cmp (op_eq.or (op_eqD hr.units)) p_eq (om_n (pv 1)) (om_e em_int) (nomark _)) (wm_and1 (tm_cmp (op_eq.or (op_eqD hr.units)) p_eq (om_e (em_bin op_mod p_mod (om_e (em_callR (fun _ h => pe_callTy call_int1 (by rfl) T.n_int (by decide +kernel) h) p_int (am_e (em_bin op_fdiv p_fdiv (om_n (pv 2)) (om_e em_int)) am_nil))) (om_e em_int))) (om_e em_int) (nomark _)))))
  (sms_one (sm_set (i := 3) sc_law_body.nd rfl (.inl rfl) (em_ix ix_seq p_ix (om_e (em_f (ef_lst (am_e em_int (am_e em_int (am_e em_int (am_e em_int am_nil))))))) (om_e (em_bin op_and p_I (om_e (em_callR (fun _ h => pe_callTy call_int1 (by rfl) T.n_int (by decide +kernel) h) p_int (am_e (em_bin op_fdiv p_fdiv (om_n (pv 2)) (om_e em_int)) am_nil))) (om_e em_int))) (fun _ _ => rfl))))
  sms_nil)
  (sms_cons (sm_if (tm_w (wm_and (tm_cmp op_gt p_Ib (om_n (pv 1)) (om_e em_int) (nomark _)) (wm_and1 (tm_cmp (op_eq.or (op_eqD hr.units)) p_eq (om_e (em_bin op_mod p_mod (om_e (em_callR (fun _ h => pe_callTy call_int1 (by rfl) T.n_int (by decide +kernel) h) p_int (am_e (em_bin op_fdiv p_fdiv (om_n (pv 2)) (om_e em_int)) am_nil))) (om_e em_int))) (om_e em_int) (nomark _)))))
  (sms_one (sm_set (i := 3) sc_law_body.nd rfl (.inl rfl) (em_ix ix_seq p_ix (om_e (em_f (ef_lst (am_e em_int (am_e em_int (am_e em_int (am_e em_int am_nil))))))) (om_e (em_bin op_and p_I (om_e (em_callR (fun _ h => pe_callTy call_int1 (by rfl) T.n_int (by decide +kernel) h) p_int (am_e (em_bin op_fdiv p_fdiv (om_n (pv 2)) (om_e em_int)) am_nil))) (om_e em_int))) (fun _ _ => rfl))))
  sms_nil)
  (sms_one (sm_ret (em_tup (am_e (em_ix ix_seq p_ix (om_e (em_f (ef_lst (am_e em_str (am_e em_str (am_e em_str (am_e em_str am_nil))))))) (om_n (pv 1)) (fun _ _ => rfl)) (am_e (em_ix ix_seq p_ix (om_e (em_f (ef_lst (am_e em_str (am_e em_str (am_e em_str (am_e em_str (am_e em_str am_nil)))))))) (om_e (em_bin op_mod p_mod (om_e (em_callR (fun _ h => pe_callTy call_int1 (by rfl) T.n_int (by decide +kernel) h) p_int (am_b (pv 2) am_nil))) (om_e em_int))) (fun _ _ => rfl)) (am_e (em_var 3 (pv 3)) am_nil)))))))))
  sms_nil)
  (sms_cons (sm_if (tm_cmp (op_eq.or (op_eqD hr.units)) p_eq (om_n (pv 1)) (om_e em_int) (nomark _))
  (sms_one (sm_ret (em_tup (am_e em_str (am_e (em_ix ix_seq p_ix (om_e (em_bin (op_add.or (op_add_str.or (op_catA.or op_cat))) p_add (om_e (em_defH0 (ok_law_kinds T) (hr.mono (by decide)) (by rfl))) (om_e (em_f (ef_lst (am_e em_str am_nil)))))) (om_e (em_bin op_mod p_mod (om_e (em_callR (fun _ h => pe_callTy call_int1 (by rfl) T.n_int (by decide +kernel) h) p_int (am_b (pv 2) am_nil))) (om_e em_int))) (fun _ _ => rfl)) am_nil)))))
  sms_nil)
  (sms_cons (sm_if (tm_cmp (op_eq.or (op_eqD hr.units)) p_eq (om_n (pv 1)) (om_e em_int) (nomark _))
  (sms_one (sm_ret (em_tup (am_e em_str (am_e (em_ix ix_seq p_ix (om_e (em_defH0 (ok_law_kinds T) (hr.mono (by decide)) (by rfl))) (om_e (em_bin op_mod p_mod (om_e (em_callR (fun _ h => pe_callTy call_int1 (by rfl) T.n_int (by decide +kernel) h) p_int (am_b (pv 2) am_nil))) (om_e em_int))) (fun _ _ => rfl)) am_nil)))))
  sms_nil)
  (sms_cons (sm_if (tm_cmp (op_eq.or (op_eqD hr.units)) p_eq (om_n (pv 1)) (om_e em_int) (nomark _))
  (sms_one (sm_ret (em_tup (am_e em_str (am_e (em_ix ix_seq p_ix (om_e (em_defH0 (ok_law_acts T) (hr.mono (by decide)) (by rfl))) (om_e (em_bin op_mod p_mod (om_e (em_callR (fun _ h => pe_callTy call_int1 (by rfl) T.n_int (by decide +kernel) h) p_int (am_b (pv 2) am_nil))) (om_e em_int))) (fun _ _ => rfl)) am_nil)))))
  sms_nil)
  (sms_one (sm_ret (em_tup (am_e em_str (am_e (em_defH (ok_law_pattern T) (hr.mono (by decide)) (by rfl) (am_e (em_var 2 (pv 2)) am_nil) (len_arg len_nil)) am_nil)))))))))))
theorem sc_law_term : FnScope ["_law_cell_here"] ["_law_cell_here"] (defScope s_law_term) := ⟨rfl, rfl, rfl, by decide +kernel, rfl, by decide +kernel, by decide +kernel⟩
def m_law_term : SM' := (mRet (mTup (mArg (mBin (fun x y => (gEq x y).map T.bl) (.e (mBin (gIc cPos fun i j => i % j) (.e (mCall (g1 gInt) (mArgB 0 mNil))) (.e (mC (.int 3))))) (.e (mC (.int 1)))) (mArg (mDef F_law_body (mArg (mBin (gIc cDiv fun i j => i / j) (.n 0) (.e (mC (.int 3)))) mNil)) mNil))))
def F_law_term : Fn := runF 1 1 m_law_term
theorem ok_law_term {P : Program} {w : World} {K : PySem.W.Frag} {mg : Str → Option Value} {base : Heap} (T : Txt w K mg) : Has P w K mg base 4 "_law_term" 1 F_law_term := by
  obtain ⟨fa, fd, g, F⟩ := T.f_law_term
  have b := F.binds (ps := ["_law_cell_here"]) fun _ _ _ _ _ _ us hl => match us, hl with | [_], _ => rfl
  refine ⟨fa, fd, _, g, F.kp, b, fn_ok F sc_law_term (by decide) fun cdv A outer s H E hr => ?_⟩
  exact (sms_one (sm_ret (em_tup (am_e (em_cmp (op_eq.or (op_eqD hr.units)) p_eq (om_e (em_bin op_mod p_mod (om_e (em_callR (fun _ h => pe_callTy call_int1 (by rfl) T.n_int (by decide +kernel) h) p_int (am_b (pv 0) am_nil))) (om_e em_int))) (om_e em_int) (nomark _)) (am_e (em_defH (ok_law_body T) (hr.mono (by decide)) (by rfl) (am_e (em_bin op_fdiv p_fdiv (om_n (pv 0)) (om_e em_int)) am_nil) (len_arg len_nil)) am_nil)))))
theorem sc_law_policy : FnScope ["_law_script", "_law_at", "_law_rules", "_law_terms", "_law_cell_here", "_law_policy_here", "_law_used", "_law_k", "_law_body_here", "_law_j"] ["_law_script", "_law_at", "_law_rules", "_law_terms"] (defScope s_law_policy) := ⟨rfl, rfl, rfl, by decide +kernel, rfl, by decide +kernel, by decide +kernel⟩
def m_law_policy : SM' := (mSeq (mSet 4 (mCall (g1 gAbs) (mArg (mDef F_law_cell (mArg (mVar 0) (mArg (mVar 1) mNil))) mNil)))
  (mSeq (mSetO 5 (mLst mNil))
  (mSeq (mSet 6 (mBin gAdd (.n 1) (.e (mC (.int 1)))))
  (mSeq (mFor (mRng1 (mBin (gIc cPos fun i j => i % j) (.e (mCall (g1 gInt) (mArgB 4 mNil))) (.e (mBin gAdd (.n 2) (.e (mC (.int 1))))))) (gN 7)
  (mSeq (mSetO 8 (mLst mNil))
  (mSeq (mFor (mRng1 (mBin (gIc cPos fun i j => i % j) (.e (mCall (g1 gInt) (mArg (mBin (gIc cDiv fun i j => i / j) (.e (mBin (gIc cDiv fun i j => i / j) (.n 4) (.e (mC (.int 5))))) (.e (mBin gAdd (.e (mC (.int 1))) (.e (mBin gMul (.e (mC (.int 3))) (.n 7)))))) mNil))) (.e (mBin gAdd (.n 3) (.e (mC (.int 1))))))) (gN 9)
  (mSeq (mApp 8 (mDef F_law_term (mArg (mCall (g1 gAbs) (mArg (mDef F_law_cell (mArg (mVar 0) (mArg (mVar 6) mNil))) mNil)) mNil)))
  (mSet 6 (mBin gAdd (.n 6) (.e (mC (.int 1)))))))
  (mApp 5 (mTup (mArg (mBin gIx (.e (mLst (mArg (mC (.str "clean")) (mArg (mC (.str "hold")) (mArg (mC (.str "drop")) mNil))))) (.e (mBin (gIc cPos fun i j => i % j) (.e (mCall (g1 gInt) (mArg (mBin (gIc cDiv fun i j => i / j) (.e (mBin (gIc cDiv fun i j => i / j) (.n 4) (.e (mC (.int 11))))) (.e (mBin gAdd (.e (mC (.int 1))) (.n 7)))) mNil))) (.e (mC (.int 3)))))) (mArg (mCall (g1 gTupOf) (mArgB 8 mNil)) mNil)))))))
  (mRet (mCall (g1 gTupOf) (mArgB 5 mNil)))))))
def F_law_policy : Fn := runF 4 10 m_law_policy
theorem ok_law_policy {P : Program} {w : World} {K : PySem.W.Frag} {mg : Str → Option Value} {base : Heap} (T : Txt w K mg) : Has P w K mg base 5 "_law_policy" 4 F_law_policy := by
  obtain ⟨fa, fd, g, F⟩ := T.f_law_policy
  have b := F.binds (ps := ["_law_script", "_law_at", "_law_rules", "_law_terms"]) fun _ _ _ _ _ _ us hl => match us, hl with | [_, _, _, _], _ => rfl
  refine ⟨fa, fd, _, g, F.kp, b, fn_ok F sc_law_policy (by decide) fun cdv A outer s H E hr => ?_⟩
  exact (sms_cons (sm_set (i := 4) sc_law_policy.nd rfl (.inl rfl) (em_callR (fun _ h => pe_callB call_abs (by rfl) T.n_abs (by decide +kernel) h) p_abs (am_e (em_defH (ok_law_cell T) (hr.mono (by decide)) (by rfl) (am_e (em_var 0 (pv 0)) (am_e (em_var 1 (pv 1)) am_nil)) (len_arg (len_arg len_nil))) am_nil)))
  (sms_cons (sm_setO (i := 5) sc_law_policy.nd rfl (.inl rfl) (ef_lst am_nil))
  (sms_cons (sm_set (i := 6) sc_law_policy.nd rfl (.inl rfl) (em_bin (op_add.or (op_add_str.or (op_catA.or op_cat))) p_add (om_n (pv 1)) (om_e em_int)))
  (sms_cons (sm_for (js := [7]) PassesOwn.never rfl (im_range1 (by rfl) T.n_range (em_bin op_mod p_mod (om_e (em_callR (fun _ h => pe_callTy call_int1 (by rfl) T.n_int (by decide +kernel) h) p_int (am_b (pv 4) am_nil))) (om_e (em_bin (op_add.or (op_add_str.or (op_catA.or op_cat))) p_add (om_n (pv 2)) (om_e em_int))))) (gm_name (i := 7) sc_law_policy.nd rfl (.inl rfl) (by decide))
  (sms_cons (sm_setO (i := 8) sc_law_policy.nd rfl (.inl rfl) (ef_lst am_nil))
  (sms_cons (sm_for (js := [9]) PassesOwn.never rfl (im_range1 (by rfl) T.n_range (em_bin op_mod p_mod (om_e (em_callR (fun _ h => pe_callTy call_int1 (by rfl) T.n_int (by decide +kernel) h) p_int (am_e (em_bin op_fdiv p_fdiv (om_e (em_bin op_fdiv p_fdiv (om_n (pv 4)) (om_e em_int))) (om_e (em_bin (op_add.or (op_add_str.or (op_catA.or op_cat))) p_add (om_e em_int) (om_e (em_bin (op_mul.or op_rep) p_mul (om_e em_int) (om_n (pv 7))))))) am_nil))) (om_e (em_bin (op_add.or (op_add_str.or (op_catA.or op_cat))) p_add (om_n (pv 3)) (om_e em_int))))) (gm_name (i := 9) sc_law_policy.nd rfl (.inl rfl) (by decide))
  (sms_cons (sm_app (i := 8) (pv 8) (em_defH (ok_law_term T) (hr.mono (by decide)) (by rfl) (am_e (em_callR (fun _ h => pe_callB call_abs (by rfl) T.n_abs (by decide +kernel) h) p_abs (am_e (em_defH (ok_law_cell T) (hr.mono (by decide)) (by rfl) (am_e (em_var 0 (pv 0)) (am_e (em_var 6 (pv 6)) am_nil)) (len_arg (len_arg len_nil))) am_nil)) am_nil) (len_arg len_nil)) (fun _ h => pe_bm PySem.F.plainAttrs_list PySem.F.slot_list_append PySem.F.type_list_append mt_append (pv 8) h))
  (sms_one (sm_set (i := 6) sc_law_policy.nd rfl (.inl rfl) (em_bin (op_add.or (op_add_str.or (op_catA.or op_cat))) p_add (om_n (pv 6)) (om_e em_int))))))
  (sms_one (sm_app (i := 5) (pv 5) (em_tup (am_e (em_ix ix_seq p_ix (om_e (em_f (ef_lst (am_e em_str (am_e em_str (am_e em_str am_nil)))))) (om_e (em_bin op_mod p_mod (om_e (em_callR (fun _ h => pe_callTy call_int1 (by rfl) T.n_int (by decide +kernel) h) p_int (am_e (em_bin op_fdiv p_fdiv (om_e (em_bin op_fdiv p_fdiv (om_n (pv 4)) (om_e em_int))) (om_e (em_bin (op_add.or (op_add_str.or (op_catA.or op_cat))) p_add (om_e em_int) (om_n (pv 7))))) am_nil))) (om_e em_int))) (fun _ _ => rfl)) (am_e (em_callR (fun _ h => pe_callTy call_tuple_of (by rfl) T.n_tuple (by decide +kernel) h) p_tupOf (am_b (pv 8) am_nil)) am_nil))) (fun _ h => pe_bm PySem.F.plainAttrs_list PySem.F.slot_list_append PySem.F.type_list_append mt_append (pv 5) h))))))
  (sms_one (sm_ret (em_callR (fun _ h => pe_callTy call_tuple_of (by rfl) T.n_tuple (by decide +kernel) h) p_tupOf (am_b (pv 5) am_nil))))))))
theorem sc_stands : FnScope ["number", "sign", "other"] ["number", "sign", "other"] (defScope s_stands) := ⟨rfl, rfl, rfl, by decide +kernel, rfl, by decide +kernel, by decide +kernel⟩
def m_stands : SM' := (mSeq (mIfS (mBinB gEq (.n 1) (.e (mC (.str "="))))
  (mRet (mBin (fun x y => (gEq x y).map T.bl) (.n 0) (.n 2)))
  mNx)
  (mSeq (mIfS (mBinB gEq (.e (mBin gIx (.n 1) (.e (mC (.int 0))))) (.e (mC (.str "<"))))
  (mRet (mOrV (mBin (fun x y => ((gIb fun i j => decide (i < j)) x y).map T.bl) (.n 0) (.n 2)) (mAndV (mBin (fun x y => (gEq x y).map T.bl) (.n 1) (.e (mC (.str "<=")))) (mBin (fun x y => (gEq x y).map T.bl) (.n 0) (.n 2)))))
  mNx)
  (mRet (mOrV (mBin (fun x y => ((gIb fun i j => decide (j < i)) x y).map T.bl) (.n 0) (.n 2)) (mAndV (mBin (fun x y => (gEq x y).map T.bl) (.n 1) (.e (mC (.str ">=")))) (mBin (fun x y => (gEq x y).map T.bl) (.n 0) (.n 2)))))))
def F_stands : Fn := runF 3 3 m_stands
theorem ok_stands {P : Program} {w : World} {K : PySem.W.Frag} {mg : Str → Option Value} {base : Heap} (T : Txt w K mg) : Has P w K mg base 1 "stands" 3 F_stands := by
  obtain ⟨fa, fd, g, F⟩ := T.f_stands
  have b := F.binds (ps := ["number", "sign", "other"]) fun _ _ _ _ _ _ us hl => match us, hl with | [_, _, _], _ => rfl
  refine ⟨fa, fd, _, g, F.kp, b, fn_ok F sc_stands (by decide) fun cdv A outer s H E hr => ?_⟩
  exact (sms_cons (sm_if (tm_cmp (op_eq.or (op_eqD hr.units)) p_eq (om_n (pv 1)) (om_e em_str) (nomark _))
  (sms_one (sm_ret (em_cmp (op_eq.or (op_eqD hr.units)) p_eq (om_n (pv 0)) (om_n (pv 2)) (nomark _))))
  sms_nil)
  (sms_cons (sm_if (tm_cmp (op_eq.or (op_eqD hr.units)) p_eq (om_e (em_ix ix_seq p_ix (om_n (pv 1)) (om_e em_int) (fun _ _ => rfl))) (om_e em_str) (nomark _))
  (sms_one (sm_ret (em_or (em_cmp op_lt p_Ib (om_n (pv 0)) (om_n (pv 2)) (nomark _)) (em_one (em_and (em_cmp (op_eq.or (op_eqD hr.units)) p_eq (om_n (pv 1)) (om_e em_str) (nomark _)) (em_one (em_cmp (op_eq.or (op_eqD hr.units)) p_eq (om_n (pv 0)) (om_n (pv 2)) (nomark _))))))))
  sms_nil)
  (sms_one (sm_ret (em_or (em_cmp op_gt p_Ib (om_n (pv 0)) (om_n (pv 2)) (nomark _)) (em_one (em_and (em_cmp (op_eq.or (op_eqD hr.units)) p_eq (om_n (pv 1)) (om_e em_str) (nomark _)) (em_one (em_cmp (op_eq.or (op_eqD hr.units)) p_eq (om_n (pv 0)) (om_n (pv 2)) (nomark _))))))))))
theorem sc_number_of : FnScope ["fact", "facts"] ["fact", "facts"] (defScope s_number_of) := ⟨rfl, rfl, rfl, by decide +kernel, rfl, by decide +kernel, by decide +kernel⟩
def m_number_of : SM' := (mSeq (mIfS (mBinB gEq (.n 0) (.e (mC (.str "size"))))
  (mRet (mBin gIx (.n 1) (.e (mC (.int 1)))))
  mNx)
  (mSeq (mIfS (mBinB gEq (.n 0) (.e (mC (.str "pages"))))
  (mRet (mBin gIx (.n 1) (.e (mC (.int 4)))))
  mNx)
  (mSeq (mIfS (mBinB gEq (.n 0) (.e (mC (.str "acts"))))
  (mRet (mCall gLen' (mArg (mBin gIx (.n 1) (.e (mC (.int 5)))) mNil)))
  mNx)
  (mRet (mBin gIx (.n 1) (.e (mC (.int 6))))))))
def F_number_of : Fn := runF 2 2 m_number_of
theorem ok_number_of {P : Program} {w : World} {K : PySem.W.Frag} {mg : Str → Option Value} {base : Heap} (T : Txt w K mg) : Has P w K mg base 1 "number_of" 2 F_number_of := by
  obtain ⟨fa, fd, g, F⟩ := T.f_number_of
  have b := F.binds (ps := ["fact", "facts"]) fun _ _ _ _ _ _ us hl => match us, hl with | [_, _], _ => rfl
  refine ⟨fa, fd, _, g, F.kp, b, fn_ok F sc_number_of (by decide) fun cdv A outer s H E hr => ?_⟩
  exact (sms_cons (sm_if (tm_cmp (op_eq.or (op_eqD hr.units)) p_eq (om_n (pv 0)) (om_e em_str) (nomark _))
  (sms_one (sm_ret (em_ix ix_seq p_ix (om_n (pv 1)) (om_e em_int) (fun _ _ => rfl))))
  sms_nil)
  (sms_cons (sm_if (tm_cmp (op_eq.or (op_eqD hr.units)) p_eq (om_n (pv 0)) (om_e em_str) (nomark _))
  (sms_one (sm_ret (em_ix ix_seq p_ix (om_n (pv 1)) (om_e em_int) (fun _ _ => rfl))))
  sms_nil)
  (sms_cons (sm_if (tm_cmp (op_eq.or (op_eqD hr.units)) p_eq (om_n (pv 0)) (om_e em_str) (nomark _))
  (sms_one (sm_ret (em_callR (fun _ h => pe_callB (call_len_seq.or call_len_str) (by rfl) T.n_len (by decide +kernel) h) p_len (am_e (em_ix ix_seq p_ix (om_n (pv 1)) (om_e em_int) (fun _ _ => rfl)) am_nil))))
  sms_nil)
  (sms_one (sm_ret (em_ix ix_seq p_ix (om_n (pv 1)) (om_e em_int) (fun _ _ => rfl)))))))
theorem sc_opened : FnScope ["pattern", "places", "reached", "place"] ["pattern", "places"] (defScope s_opened) := ⟨rfl, rfl, rfl, by decide +kernel, rfl, by decide +kernel, by decide +kernel⟩
def m_opened : SM' := (mSeq (mSetO 2 mDnew)
  (mSeq (mFor (mIt (mVar 1)) (gN 3)
  (mSeq (mDput 2 (mVar 3) (mC (.bl true)))
  (mWhile 1000000 (mAndT (mBinB (gIb fun i j => decide (i < j)) (.n 3) (.e (mCall gLen' (mArgB 0 mNil)))) (mBinB gEq (.e (mBin gIx (.n 0) (.n 3))) (.e (mC (.int 42)))))
  (mSeq (mSet 3 (mBin gAdd (.n 3) (.e (mC (.int 1)))))
  (mDput 2 (mVar 3) (mC (.bl true)))))))
  (mRet (mCall (g1 gTupOf) (mArg (mCall gSorted' (mArgB 2 mNil)) mNil)))))
def F_opened : Fn := runF 2 4 m_opened
theorem ok_opened {P : Program} {w : World} {K : PySem.W.Frag} {mg : Str → Option Value} {base : Heap} (T : Txt w K mg) : Has P w K mg base 1 "opened" 2 F_opened := by
  obtain ⟨fa, fd, g, F⟩ := T.f_opened
  have b := F.binds (ps := ["pattern", "places"]) fun _ _ _ _ _ _ us hl => match us, hl with | [_, _], _ => rfl
  refine ⟨fa, fd, _, g, F.kp, b, fn_ok F sc_opened (by decide) fun cdv A outer s H E hr => ?_⟩
  exact (sms_cons (sm_setO (i := 2) sc_opened.nd rfl (.inl rfl) ef_dnew)
  (sms_cons (sm_for (js := [3]) PassesOwn.never rfl (im_seq (em_var 1 (pv 1))) (gm_name (i := 3) sc_opened.nd rfl (.inl rfl) (by decide))
  (sms_cons (sm_dput (i := 2) (hu_of hr) (pv 2) (em_var 3 (pv 3)) em_bl)
  (sms_one (sm_while PassesOwn.never (tm_w (wm_and (tm_cmp op_lt p_Ib (om_n (pv 3)) (om_e (em_callR (fun _ h => pe_callB (call_len_seq.or call_len_str) (by rfl) T.n_len (by decide +kernel) h) p_len (am_b (pv 0) am_nil))) (nomark _)) (wm_and1 (tm_cmp (op_eq.or (op_eqD hr.units)) p_eq (om_e (em_ix ix_seq p_ix (om_n (pv 0)) (om_n (pv 3)) (fun _ _ => rfl))) (om_e (em_gI T.c_STAR)) (nomark _)))))
  (sms_cons (sm_set (i := 3) sc_opened.nd rfl (.inl rfl) (em_bin (op_add.or (op_add_str.or (op_catA.or op_cat))) p_add (om_n (pv 3)) (om_e em_int)))
  (sms_one (sm_dput (i := 2) (hu_of hr) (pv 2) (em_var 3 (pv 3)) em_bl)))))))
  (sms_one (sm_ret (em_callR (fun _ h => pe_callTy call_tuple_of (by rfl) T.n_tuple (by decide +kernel) h) p_tupOf (am_e (em_f (ef_callR (fun _ h => pe_callB (cr_sorted.or (call_sortedDI rfl)) (by rfl) T.n_sorted (by decide +kernel) h) p_sortedA (am_b (pv 2) am_nil))) am_nil))))))
theorem sc_moved : FnScope ["pattern", "places", "byte", "reached", "place"] ["pattern", "places", "byte"] (defScope s_moved) := ⟨rfl, rfl, rfl, by decide +kernel, rfl, by decide +kernel, by decide +kernel⟩
def m_moved : SM' := (mSeq (mSetO 3 (mLst mNil))
  (mSeq (mFor (mIt (mVar 1)) (gN 4)
  (mIfS (mAndT (mBinB (gIb fun i j => decide (i < j)) (.n 4) (.e (mCall gLen' (mArgB 0 mNil)))) (mBinB gEq (.e (mBin gIx (.n 0) (.n 4))) (.e (mC (.int 42)))))
  (mApp 3 (mVar 4))
  (mIfS (mAndT (mBinB (gIb fun i j => decide (i < j)) (.n 4) (.e (mCall gLen' (mArgB 0 mNil)))) (mBinB gEq (.e (mBin gIx (.n 0) (.n 4))) (.n 2)))
  (mApp 3 (mBin gAdd (.n 4) (.e (mC (.int 1)))))
  mNx)))
  (mRet (mDef F_opened (mArg (mVar 0) (mArg (mVar 3) mNil))))))
def F_moved : Fn := runF 3 5 m_moved
theorem ok_moved {P : Program} {w : World} {K : PySem.W.Frag} {mg : Str → Option Value} {base : Heap} (T : Txt w K mg) : Has P w K mg base 2 "moved" 3 F_moved := by
  obtain ⟨fa, fd, g, F⟩ := T.f_moved
  have b := F.binds (ps := ["pattern", "places", "byte"]) fun _ _ _ _ _ _ us hl => match us, hl with | [_, _, _], _ => rfl
  refine ⟨fa, fd, _, g, F.kp, b, fn_ok F sc_moved (by decide) fun cdv A outer s H E hr => ?_⟩
  exact (sms_cons (sm_setO (i := 3) sc_moved.nd rfl (.inl rfl) (ef_lst am_nil))
  (sms_cons (sm_for (js := [4]) PassesOwn.never rfl (im_seq (em_var 1 (pv 1))) (gm_name (i := 4) sc_moved.nd rfl (.inl rfl) (by decide))
  (sms_one (sm_if (tm_w (wm_and (tm_cmp op_lt p_Ib (om_n (pv 4)) (om_e (em_callR (fun _ h => pe_callB (call_len_seq.or call_len_str) (by rfl) T.n_len (by decide +kernel) h) p_len (am_b (pv 0) am_nil))) (nomark _)) (wm_and1 (tm_cmp (op_eq.or (op_eqD hr.units)) p_eq (om_e (em_ix ix_seq p_ix (om_n (pv 0)) (om_n (pv 4)) (fun _ _ => rfl))) (om_e (em_gI T.c_STAR)) (nomark _)))))
  (sms_one (sm_app (i := 3) (pv 3) (em_var 4 (pv 4)) (fun _ h => pe_bm PySem.F.plainAttrs_list PySem.F.slot_list_append PySem.F.type_list_append mt_append (pv 3) h)))
  (sms_one (sm_if (tm_w (wm_and (tm_cmp op_lt p_Ib (om_n (pv 4)) (om_e (em_callR (fun _ h => pe_callB (call_len_seq.or call_len_str) (by rfl) T.n_len (by decide +kernel) h) p_len (am_b (pv 0) am_nil))) (nomark _)) (wm_and1 (tm_cmp (op_eq.or (op_eqD hr.units)) p_eq (om_e (em_ix ix_seq p_ix (om_n (pv 0)) (om_n (pv 4)) (fun _ _ => rfl))) (om_n (pv 2)) (nomark _)))))
  (sms_one (sm_app (i := 3) (pv 3) (em_bin (op_add.or (op_add_str.or (op_catA.or op_cat))) p_add (om_n (pv 4)) (om_e em_int)) (fun _ h => pe_bm PySem.F.plainAttrs_list PySem.F.slot_list_append PySem.F.type_list_append mt_append (pv 3) h)))
  sms_nil)))))
  (sms_one (sm_ret (em_defH (ok_opened T) (hr.mono (by decide)) (by rfl) (am_e (em_var 0 (pv 0)) (am_e (em_var 3 (pv 3)) am_nil)) (len_arg (len_arg len_nil)))))))
theorem sc_matches : FnScope ["pattern", "name", "places", "byte"] ["pattern", "name"] (defScope s_matches) := ⟨rfl, rfl, rfl, by decide +kernel, rfl, by decide +kernel, by decide +kernel⟩
def m_matches : SM' := (mSeq (mSet 2 (mDef F_opened (mArg (mVar 0) (mArg (mTup (mArg (mC (.int 0)) mNil)) mNil))))
  (mSeq (mFor (mIt (mVar 1)) (gN 3)
  (mSet 2 (mDef F_moved (mArg (mVar 0) (mArg (mVar 2) (mArg (mVar 3) mNil))))))
  (mRet (mBin (fun x y => ((gIn false) x y).map T.bl) (.e (mCall gLen' (mArgB 0 mNil))) (.n 2)))))
def F_matches : Fn := runF 2 4 m_matches
theorem ok_matches {P : Program} {w : World} {K : PySem.W.Frag} {mg : Str → Option Value} {base : Heap} (T : Txt w K mg) : Has P w K mg base 3 "matches" 2 F_matches := by
  obtain ⟨fa, fd, g, F⟩ := T.f_matches
  have b := F.binds (ps := ["pattern", "name"]) fun _ _ _ _ _ _ us hl => match us, hl with | [_, _], _ => rfl
  refine ⟨fa, fd, _, g, F.kp, b, fn_ok F sc_matches (by decide) fun cdv A outer s H E hr => ?_⟩
  exact (sms_cons (sm_set (i := 2) sc_matches.nd rfl (.inl rfl) (em_defH (ok_opened T) (hr.mono (by decide)) (by rfl) (am_e (em_var 0 (pv 0)) (am_e (em_tup (am_e em_int am_nil)) am_nil)) (len_arg (len_arg len_nil))))
  (sms_cons (sm_for (js := [3]) PassesOwn.never rfl (im_seq (em_var 1 (pv 1))) (gm_name (i := 3) sc_matches.nd rfl (.inl rfl) (by decide))
  (sms_one (sm_set (i := 2) sc_matches.nd rfl (.inl rfl) (em_defH (ok_moved T) (hr.mono (by decide)) (by rfl) (am_e (em_var 0 (pv 0)) (am_e (em_var 2 (pv 2)) (am_e (em_var 3 (pv 3)) am_nil))) (len_arg (len_arg (len_arg len_nil)))))))
  (sms_one (sm_ret (em_cmp op_in_seq p_in (om_e (em_callR (fun _ h => pe_callB (call_len_seq.or call_len_str) (by rfl) T.n_len (by decide +kernel) h) p_len (am_b (pv 0) am_nil))) (om_n (pv 2)) rfl)))))
theorem sc_holds : FnScope ["term", "facts", "negated", "body", "found"] ["term", "facts"] (defScope s_holds) := ⟨rfl, rfl, rfl, by decide +kernel, rfl, by decide +kernel, by decide +kernel⟩
def m_holds : SM' := (mSeq (mAsg (mVar 0) (gT 2 (gsCons (gN 2) (gsCons (gN 3) gsNil))))
  (mSeq (mIfS (mTB (mUn (fun t => (gKin ks_MOST no_MOST t).map T.bl) (mBin gIx (.n 3) (.e (mC (.int 0))))))
  (mSet 4 (mDef F_stands (mArg (mDef F_number_of (mArg (mBin gIx (.n 3) (.e (mC (.int 0)))) (mArg (mVar 1) mNil))) (mArg (mBin gIx (.n 3) (.e (mC (.int 1)))) (mArg (mBin gIx (.n 3) (.e (mC (.int 2)))) mNil)))))
  (mIfS (mBinB gEq (.e (mBin gIx (.n 3) (.e (mC (.int 0))))) (.e (mC (.str "is"))))
  (mSet 4 (mBin (fun x y => (gEq x y).map T.bl) (.e (mBin gIx (.n 1) (.e (mC (.int 2))))) (.e (mBin gIx (.n 3) (.e (mC (.int 1)))))))
  (mIfS (mBinB gEq (.e (mBin gIx (.n 3) (.e (mC (.int 0))))) (.e (mC (.str "could"))))
  (mSet 4 (mBin (fun x y => ((gIn false) x y).map T.bl) (.e (mBin gIx (.n 3) (.e (mC (.int 1))))) (.e (mBin gIx (.n 1) (.e (mC (.int 3)))))))
  (mIfS (mBinB gEq (.e (mBin gIx (.n 3) (.e (mC (.int 0))))) (.e (mC (.str "act"))))
  (mSet 4 (mBin (fun x y => ((gIn false) x y).map T.bl) (.e (mBin gIx (.n 3) (.e (mC (.int 1))))) (.e (mBin gIx (.n 1) (.e (mC (.int 5)))))))
  (mSet 4 (mDef F_matches (mArg (mBin gIx (.n 3) (.e (mC (.int 1)))) (mArg (mBin gIx (.n 1) (.e (mC (.int 0)))) mNil))))))))
  (mRet (mBin (fun x y => (gNe x y).map T.bl) (.n 4) (.n 2)))))
def F_holds : Fn := runF 2 5 m_holds
theorem ok_holds {P : Program} {w : World} {K : PySem.W.Frag} {mg : Str → Option Value} {base : Heap} (T : Txt w K mg) : Has P w K mg base 4 "holds" 2 F_holds := by
  obtain ⟨fa, fd, g, F⟩ := T.f_holds
  have b := F.binds (ps := ["term", "facts"]) fun _ _ _ _ _ _ us hl => match us, hl with | [_, _], _ => rfl
  refine ⟨fa, fd, _, g, F.kp, b, fn_ok F sc_holds (by decide) fun cdv A outer s H E hr => ?_⟩
  exact (sms_cons (sm_asg (js := [2, 3]) (em_var 0 (pv 0)) (gm_tup rfl (gms_cons (gm_name (i := 2) sc_holds.nd rfl (.inl rfl) (by decide)) (gms_cons (gm_name (i := 3) sc_holds.nd rfl (.inl rfl) (by decide)) gms_nil))))
  (sms_cons (sm_if (tm_kin T.c_MOST (em_ix ix_seq p_ix (om_n (pv 3)) (om_e em_int) (fun _ _ => rfl)))
  (sms_one (sm_set (i := 4) sc_holds.nd rfl (.inl rfl) (em_defH (ok_stands T) (hr.mono (by decide)) (by rfl) (am_e (em_defH (ok_number_of T) (hr.mono (by decide)) (by rfl) (am_e (em_ix ix_seq p_ix (om_n (pv 3)) (om_e em_int) (fun _ _ => rfl)) (am_e (em_var 1 (pv 1)) am_nil)) (len_arg (len_arg len_nil))) (am_e (em_ix ix_seq p_ix (om_n (pv 3)) (om_e em_int) (fun _ _ => rfl)) (am_e (em_ix ix_seq p_ix (om_n (pv 3)) (om_e em_int) (fun _ _ => rfl)) am_nil))) (len_arg (len_arg (len_arg len_nil))))))
  (sms_one (sm_if (tm_cmp (op_eq.or (op_eqD hr.units)) p_eq (om_e (em_ix ix_seq p_ix (om_n (pv 3)) (om_e em_int) (fun _ _ => rfl))) (om_e em_str) (nomark _))
  (sms_one (sm_set (i := 4) sc_holds.nd rfl (.inl rfl) (em_cmp (op_eq.or (op_eqD hr.units)) p_eq (om_e (em_ix ix_seq p_ix (om_n (pv 1)) (om_e em_int) (fun _ _ => rfl))) (om_e (em_ix ix_seq p_ix (om_n (pv 3)) (om_e em_int) (fun _ _ => rfl))) (nomark _))))
  (sms_one (sm_if (tm_cmp (op_eq.or (op_eqD hr.units)) p_eq (om_e (em_ix ix_seq p_ix (om_n (pv 3)) (om_e em_int) (fun _ _ => rfl))) (om_e em_str) (nomark _))
  (sms_one (sm_set (i := 4) sc_holds.nd rfl (.inl rfl) (em_cmp op_in_seq p_in (om_e (em_ix ix_seq p_ix (om_n (pv 3)) (om_e em_int) (fun _ _ => rfl))) (om_e (em_ix ix_seq p_ix (om_n (pv 1)) (om_e em_int) (fun _ _ => rfl))) rfl)))
  (sms_one (sm_if (tm_cmp (op_eq.or (op_eqD hr.units)) p_eq (om_e (em_ix ix_seq p_ix (om_n (pv 3)) (om_e em_int) (fun _ _ => rfl))) (om_e em_str) (nomark _))
  (sms_one (sm_set (i := 4) sc_holds.nd rfl (.inl rfl) (em_cmp op_in_seq p_in (om_e (em_ix ix_seq p_ix (om_n (pv 3)) (om_e em_int) (fun _ _ => rfl))) (om_e (em_ix ix_seq p_ix (om_n (pv 1)) (om_e em_int) (fun _ _ => rfl))) rfl)))
  (sms_one (sm_set (i := 4) sc_holds.nd rfl (.inl rfl) (em_defH (ok_matches T) (hr.mono (by decide)) (by rfl) (am_e (em_ix ix_seq p_ix (om_n (pv 3)) (om_e em_int) (fun _ _ => rfl)) (am_e (em_ix ix_seq p_ix (om_n (pv 1)) (om_e em_int) (fun _ _ => rfl)) am_nil)) (len_arg (len_arg len_nil))))))))))))
  (sms_one (sm_ret (em_cmp (op_ne.or (op_neD hr.units)) p_ne (om_n (pv 4)) (om_n (pv 2)) (nomark _))))))
theorem sc_judge : FnScope ["policy", "facts", "at", "verdict", "terms", "term"] ["policy", "facts"] (defScope s_judge) := ⟨rfl, rfl, rfl, by decide +kernel, rfl, by decide +kernel, by decide +kernel⟩
def m_judge : SM' := (mSeq (mFor (mEnum (mVar 0)) (gT 2 (gsCons (gN 2) (gsCons (gT 2 (gsCons (gN 3) (gsCons (gN 4) gsNil))) gsNil)))
  (mIfS (mTB (mCall (g1 gAll) (mArg (mLc [5] (mIt (mVar 4)) (gN 5) mYes (mDef F_holds (mArg (mVar 5) (mArg (mVar 1) mNil)))) mNil)))
  (mRet (mTup (mArg (mVar 3) (mArg (mVar 2) mNil))))
  mNx))
  (mRet (mTup (mArg (mC (.str "hold")) (mArg (mUn gNeg (mC (.int 1))) mNil)))))
def F_judge : Fn := runF 2 6 m_judge
theorem ok_judge {P : Program} {w : World} {K : PySem.W.Frag} {mg : Str → Option Value} {base : Heap} (T : Txt w K mg) : Has P w K mg base 5 "judge" 2 F_judge := by
  obtain ⟨fa, fd, g, F⟩ := T.f_judge
  have b := F.binds (ps := ["policy", "facts"]) fun _ _ _ _ _ _ us hl => match us, hl with | [_, _], _ => rfl
  refine ⟨fa, fd, _, g, F.kp, b, fn_ok F sc_judge (by decide) fun cdv A outer s H E hr => ?_⟩
  exact (sms_cons (sm_for (js := [2, 3, 4]) PassesOwn.never rfl (im_enum (by rfl) T.n_enumerate (em_var 0 (pv 0))) (gm_tup rfl (gms_cons (gm_name (i := 2) sc_judge.nd rfl (.inl rfl) (by decide)) (gms_cons (gm_tup rfl (gms_cons (gm_name (i := 3) sc_judge.nd rfl (.inl rfl) (by decide)) (gms_cons (gm_name (i := 4) sc_judge.nd rfl (.inl rfl) (by decide)) gms_nil))) gms_nil)))
  (sms_one (sm_if (tm_val (em_callR (fun _ h => pe_callB (cr_all rfl) (by rfl) T.n_all (by decide +kernel) h) p_all (am_e (em_f (ef_lc (own := [("term", 5)]) (js := [5]) rfl sc_judge.nd (im_seq (em_var 4 (pv 4))) (blkOk_by (N := ["policy", "facts", "at", "verdict", "terms", "term"]) (sc := defScope s_judge) (by decide +kernel)) (by decide) (fun _ _ _ _ _ => (gm_name (i := 5) sc_judge.nd rfl (.inl rfl) (by decide))) (fun _ _ _ _ _ => tms_nil) (fun _ _ _ _ _ => (em_defH (ok_holds T) (hr.mono (by decide)) (by rfl) (am_e (em_var 5 (pv 5)) (am_e (em_var 1 (pv 1)) am_nil)) (len_arg (len_arg len_nil)))))) am_nil)))
  (sms_one (sm_ret (em_tup (am_e (em_var 3 (pv 3)) (am_e (em_var 2 (pv 2)) am_nil)))))
  sms_nil)))
  (sms_one (sm_ret (em_tup (am_e em_str (am_e (em_un un_neg p_neg em_int) am_nil))))))
theorem sc_law_is_integer : FnScope ["_law_actual"] ["_law_actual"] (defScope s_law_is_integer) := ⟨rfl, rfl, rfl, by decide +kernel, rfl, by decide +kernel, by decide +kernel⟩
def m_law_is_integer : SM' := (mRet (mAndV (mUn (gIsi "int") (mVar 0)) (mNotV (mUn (gIsi "bool") (mVar 0)))))
def F_law_is_integer : Fn := runF 1 1 m_law_is_integer
theorem ok_law_is_integer {P : Program} {w : World} {K : PySem.W.Frag} {mg : Str → Option Value} {base : Heap} (T : Txt w K mg) : Has P w K mg base 1 "_law_is_integer" 1 F_law_is_integer := by
  obtain ⟨fa, fd, g, F⟩ := T.f_law_is_integer
  have b := F.binds (ps := ["_law_actual"]) fun _ _ _ _ _ _ us hl => match us, hl with | [_], _ => rfl
  refine ⟨fa, fd, _, g, F.kp, b, fn_ok F sc_law_is_integer (by decide) fun cdv A outer s H E hr => ?_⟩
  exact (sms_one (sm_ret (em_and (em_isi kitOk_int (by rfl) T.n_isinstance (by decide +kernel) (em_var 0 (pv 0)) (pe_bltn (by rfl) T.n_int (by decide +kernel) rfl)) (em_one (em_not (em_isi kitOk_bool (by rfl) T.n_isinstance (by decide +kernel) (em_var 0 (pv 0)) (pe_bltn (by rfl) T.n_bool (by decide +kernel) rfl)))))))
theorem sc_law_says : FnScope ["_law_actual", "_law_expected"] ["_law_actual", "_law_expected"] (defScope s_law_says) := ⟨rfl, rfl, rfl, by decide +kernel, rfl, by decide +kernel, by decide +kernel⟩
def m_law_says : SM' := (mSeq (mIfS (mTB (mVar 1))
  (mRet (mBin (fun x y => (gIsB x y).map T.bl) (.n 0) (.e (mC (.bl true)))))
  mNx)
  (mRet (mBin (fun x y => (gIsB x y).map T.bl) (.n 0) (.e (mC (.bl false))))))
def F_law_says : Fn := runF 2 2 m_law_says
theorem ok_law_says {P : Program} {w : World} {K : PySem.W.Frag} {mg : Str → Option Value} {base : Heap} (T : Txt w K mg) : Has P w K mg base 1 "_law_says" 2 F_law_says := by
  obtain ⟨fa, fd, g, F⟩ := T.f_law_says
  have b := F.binds (ps := ["_law_actual", "_law_expected"]) fun _ _ _ _ _ _ us hl => match us, hl with | [_, _], _ => rfl
  refine ⟨fa, fd, _, g, F.kp, b, fn_ok F sc_law_says (by decide) fun cdv A outer s H E hr => ?_⟩
  exact (sms_cons (sm_if (tm_val (em_var 1 (pv 1)))
  (sms_one (sm_ret (em_cmp op_isBl p_isB (om_n (pv 0)) (om_e em_bl) (nomark _))))
  sms_nil)
  (sms_one (sm_ret (em_cmp op_isBl p_isB (om_n (pv 0)) (om_e em_bl) (nomark _)))))
theorem sc_law_match : FnScope ["_law_pattern_here", "_law_name", "_law_row_here", "_law_byte", "_law_behind", "_law_open_yet", "_law_k"] ["_law_pattern_here", "_law_name"] (defScope s_law_match) := ⟨rfl, rfl, rfl, by decide +kernel, rfl, by decide +kernel, by decide +kernel⟩
def m_law_match : SM' := (mSeq (mSetO 2 (mBin gRep (.e (mLst (mArg (mC (.bl false)) mNil))) (.e (mBin gAdd (.e (mCall gLen' (mArgB 1 mNil))) (.e (mC (.int 1)))))))
  (mSeq (mSub 2 (mC (.int 0)) (mC (.bl true)))
  (mSeq (mFor (mIt (mVar 0)) (gN 3)
  (mSeq (mSetO 4 (mBin gRep (.e (mLst (mArg (mC (.bl false)) mNil))) (.e (mBin gAdd (.e (mCall gLen' (mArgB 1 mNil))) (.e (mC (.int 1)))))))
  (mSeq (mIfS (mBinB gEq (.n 3) (.e (mC (.int 42))))
  (mSeq (mSet 5 (mC (.bl false)))
  (mFor (mRng1 (mBin gAdd (.e (mCall gLen' (mArgB 1 mNil))) (.e (mC (.int 1))))) (gN 6)
  (mSeq (mSet 5 (mOrV (mVar 5) (mBin gIx (.n 2) (.n 6))))
  (mSub 4 (mVar 6) (mVar 5)))))
  (mFor (mRng1 (mCall gLen' (mArgB 1 mNil))) (gN 6)
  (mSub 4 (mBin gAdd (.n 6) (.e (mC (.int 1)))) (mAndV (mBin gIx (.n 2) (.n 6)) (mBin (fun x y => (gEq x y).map T.bl) (.e (mBin gIx (.n 1) (.n 6))) (.n 3))))))
  (mSet 2 (mVar 4)))))
  (mRet (mBin gIx (.n 2) (.e (mCall gLen' (mArgB 1 mNil))))))))
def F_law_match : Fn := runF 2 7 m_law_match
theorem ok_law_match {P : Program} {w : World} {K : PySem.W.Frag} {mg : Str → Option Value} {base : Heap} (T : Txt w K mg) : Has P w K mg base 1 "_law_match" 2 F_law_match := by
  obtain ⟨fa, fd, g, F⟩ := T.f_law_match
  have b := F.binds (ps := ["_law_pattern_here", "_law_name"]) fun _ _ _ _ _ _ us hl => match us, hl with | [_, _], _ => rfl
  refine ⟨fa, fd, _, g, F.kp, b, fn_ok F sc_law_match (by decide) fun cdv A outer s H E hr => ?_⟩
  exact (sms_cons (sm_setO (i := 2) sc_law_match.nd rfl (.inl rfl) (ef_bin op_rep p_repF (om_e (em_f (ef_lst (am_e em_bl am_nil)))) (om_e (em_bin (op_add.or (op_add_str.or (op_catA.or op_cat))) p_add (om_e (em_callR (fun _ h => pe_callB (call_len_seq.or call_len_str) (by rfl) T.n_len (by decide +kernel) h) p_len (am_b (pv 1) am_nil))) (om_e em_int)))))
  (sms_cons (sm_sub (i := 2) (pv 2) em_int em_bl)
  (sms_cons (sm_for (js := [3]) PassesOwn.never rfl (im_seq (em_var 0 (pv 0))) (gm_name (i := 3) sc_law_match.nd rfl (.inl rfl) (by decide))
  (sms_cons (sm_setO (i := 4) sc_law_match.nd rfl (.inl rfl) (ef_bin op_rep p_repF (om_e (em_f (ef_lst (am_e em_bl am_nil)))) (om_e (em_bin (op_add.or (op_add_str.or (op_catA.or op_cat))) p_add (om_e (em_callR (fun _ h => pe_callB (call_len_seq.or call_len_str) (by rfl) T.n_len (by decide +kernel) h) p_len (am_b (pv 1) am_nil))) (om_e em_int)))))
  (sms_cons (sm_if (tm_cmp (op_eq.or (op_eqD hr.units)) p_eq (om_n (pv 3)) (om_e em_int) (nomark _))
  (sms_cons (sm_set (i := 5) sc_law_match.nd rfl (.inl rfl) em_bl)
  (sms_one (sm_for (js := [6]) PassesOwn.never rfl (im_range1 (by rfl) T.n_range (em_bin (op_add.or (op_add_str.or (op_catA.or op_cat))) p_add (om_e (em_callR (fun _ h => pe_callB (call_len_seq.or call_len_str) (by rfl) T.n_len (by decide +kernel) h) p_len (am_b (pv 1) am_nil))) (om_e em_int))) (gm_name (i := 6) sc_law_match.nd rfl (.inl rfl) (by decide))
  (sms_cons (sm_set (i := 5) sc_law_match.nd rfl (.inl rfl) (em_or (em_var 5 (pv 5)) (em_one (em_ix ix_seq p_ix (om_n (pv 2)) (om_n (pv 6)) (fun _ _ => rfl)))))
  (sms_one (sm_sub (i := 4) (pv 4) (em_var 6 (pv 6)) (em_var 5 (pv 5))))))))
  (sms_one (sm_for (js := [6]) PassesOwn.never rfl (im_range1 (by rfl) T.n_range (em_callR (fun _ h => pe_callB (call_len_seq.or call_len_str) (by rfl) T.n_len (by decide +kernel) h) p_len (am_b (pv 1) am_nil))) (gm_name (i := 6) sc_law_match.nd rfl (.inl rfl) (by decide))
  (sms_one (sm_sub (i := 4) (pv 4) (em_bin (op_add.or (op_add_str.or (op_catA.or op_cat))) p_add (om_n (pv 6)) (om_e em_int)) (em_and (em_ix ix_seq p_ix (om_n (pv 2)) (om_n (pv 6)) (fun _ _ => rfl)) (em_one (em_cmp (op_eq.or (op_eqD hr.units)) p_eq (om_e (em_ix ix_seq p_ix (om_n (pv 1)) (om_n (pv 6)) (fun _ _ => rfl))) (om_n (pv 3)) (nomark _)))))))))
  (sms_one (sm_set (i := 2) sc_law_match.nd rfl (.inl rfl) (em_var 4 (pv 4)))))))
  (sms_one (sm_ret (em_ix ix_seq p_ix (om_n (pv 2)) (om_e (em_callR (fun _ h => pe_callB (call_len_seq.or call_len_str) (by rfl) T.n_len (by decide +kernel) h) p_len (am_b (pv 1) am_nil))) (fun _ _ => rfl)))))))
theorem sc_law_stands : FnScope ["_law_number", "_law_sign", "_law_other"] ["_law_number", "_law_sign", "_law_other"] (defScope s_law_stands) := ⟨rfl, rfl, rfl, by decide +kernel, rfl, by decide +kernel, by decide +kernel⟩
def m_law_stands : SM' := (mSeq (mIfS (mBinB gEq (.n 1) (.e (mC (.str "<"))))
  (mRet (mBin (fun x y => ((gIb fun i j => decide (i < j)) x y).map T.bl) (.n 0) (.n 2)))
  mNx)
  (mSeq (mIfS (mBinB gEq (.n 1) (.e (mC (.str "<="))))
  (mRet (mBin (fun x y => ((gIb fun i j => decide (i ≤ j)) x y).map T.bl) (.n 0) (.n 2)))
  mNx)
  (mSeq (mIfS (mBinB gEq (.n 1) (.e (mC (.str "="))))
  (mRet (mBin (fun x y => (gEq x y).map T.bl) (.n 0) (.n 2)))
  mNx)
  (mSeq (mIfS (mBinB gEq (.n 1) (.e (mC (.str ">="))))
  (mRet (mBin (fun x y => ((gIb fun i j => decide (j ≤ i)) x y).map T.bl) (.n 0) (.n 2)))
  mNx)
  (mRet (mBin (fun x y => ((gIb fun i j => decide (j < i)) x y).map T.bl) (.n 0) (.n 2)))))))
def F_law_stands : Fn := runF 3 3 m_law_stands
theorem ok_law_stands {P : Program} {w : World} {K : PySem.W.Frag} {mg : Str → Option Value} {base : Heap} (T : Txt w K mg) : Has P w K mg base 1 "_law_stands" 3 F_law_stands := by
  obtain ⟨fa, fd, g, F⟩ := T.f_law_stands
  have b := F.binds (ps := ["_law_number", "_law_sign", "_law_other"]) fun _ _ _ _ _ _ us hl => match us, hl with | [_, _, _], _ => rfl
  refine ⟨fa, fd, _, g, F.kp, b, fn_ok F sc_law_stands (by decide) fun cdv A outer s H E hr => ?_⟩
  exact (sms_cons (sm_if (tm_cmp (op_eq.or (op_eqD hr.units)) p_eq (om_n (pv 1)) (om_e em_str) (nomark _))
  (sms_one (sm_ret (em_cmp op_lt p_Ib (om_n (pv 0)) (om_n (pv 2)) (nomark _))))
  sms_nil)
  (sms_cons (sm_if (tm_cmp (op_eq.or (op_eqD hr.units)) p_eq (om_n (pv 1)) (om_e em_str) (nomark _))
  (sms_one (sm_ret (em_cmp op_le p_Ib (om_n (pv 0)) (om_n (pv 2)) (nomark _))))
  sms_nil)
  (sms_cons (sm_if (tm_cmp (op_eq.or (op_eqD hr.units)) p_eq (om_n (pv 1)) (om_e em_str) (nomark _))
  (sms_one (sm_ret (em_cmp (op_eq.or (op_eqD hr.units)) p_eq (om_n (pv 0)) (om_n (pv 2)) (nomark _))))
  sms_nil)
  (sms_cons (sm_if (tm_cmp (op_eq.or (op_eqD hr.units)) p_eq (om_n (pv 1)) (om_e em_str) (nomark _))
  (sms_one (sm_ret (em_cmp op_ge p_Ib (om_n (pv 0)) (om_n (pv 2)) (nomark _))))
  sms_nil)
  (sms_one (sm_ret (em_cmp op_gt p_Ib (om_n (pv 0)) (om_n (pv 2)) (nomark _))))))))
theorem sc_law_holds : FnScope ["_law_term_here", "_law_facts_here", "_law_negated", "_law_body_here", "_law_found", "_law_numbers"] ["_law_term_here", "_law_facts_here"] (defScope s_law_holds) := ⟨rfl, rfl, rfl, by decide +kernel, rfl, by decide +kernel, by decide +kernel⟩
def m_law_holds : SM' := (mSeq (mAsg (mVar 0) (gT 2 (gsCons (gN 2) (gsCons (gN 3) gsNil))))
  (mSeq (mIfS (mBinB gEq (.e (mBin gIx (.n 3) (.e (mC (.int 0))))) (.e (mC (.str "is"))))
  (mSet 4 (mBin (fun x y => (gEq x y).map T.bl) (.e (mBin gIx (.n 1) (.e (mC (.int 2))))) (.e (mBin gIx (.n 3) (.e (mC (.int 1)))))))
  (mIfS (mBinB gEq (.e (mBin gIx (.n 3) (.e (mC (.int 0))))) (.e (mC (.str "could"))))
  (mSet 4 (mBin (fun x y => ((gIn false) x y).map T.bl) (.e (mBin gIx (.n 3) (.e (mC (.int 1))))) (.e (mBin gIx (.n 1) (.e (mC (.int 3)))))))
  (mIfS (mBinB gEq (.e (mBin gIx (.n 3) (.e (mC (.int 0))))) (.e (mC (.str "act"))))
  (mSet 4 (mBin (fun x y => ((gIn false) x y).map T.bl) (.e (mBin gIx (.n 3) (.e (mC (.int 1))))) (.e (mBin gIx (.n 1) (.e (mC (.int 5)))))))
  (mIfS (mBinB gEq (.e (mBin gIx (.n 3) (.e (mC (.int 0))))) (.e (mC (.str "name"))))
  (mSet 4 (mDef F_law_match (mArg (mBin gIx (.n 3) (.e (mC (.int 1)))) (mArg (mBin gIx (.n 1) (.e (mC (.int 0)))) mNil))))
  (mSeq (mSet 5 (mDisp (mDcons (mC (.str "size")) (mBin gIx (.n 1) (.e (mC (.int 1)))) (mDcons (mC (.str "pages")) (mBin gIx (.n 1) (.e (mC (.int 4)))) (mDcons (mC (.str "acts")) (mCall gLen' (mArg (mBin gIx (.n 1) (.e (mC (.int 5)))) mNil)) (mDcons (mC (.str "depth")) (mBin gIx (.n 1) (.e (mC (.int 6)))) mDnil))))))
  (mSet 4 (mDef F_law_stands (mArg (mBin gDix (.n 5) (.e (mBin gIx (.n 3) (.e (mC (.int 0)))))) (mArg (mBin gIx (.n 3) (.e (mC (.int 1)))) (mArg (mBin gIx (.n 3) (.e (mC (.int 2)))) mNil))))))))))
  (mRet (mBin (fun x y => (gNe x y).map T.bl) (.n 4) (.n 2)))))
def F_law_holds : Fn := runF 2 6 m_law_holds
theorem ok_law_holds {P : Program} {w : World} {K : PySem.W.Frag} {mg : Str → Option Value} {base : Heap} (T : Txt w K mg) : Has P w K mg base 2 "_law_holds" 2 F_law_holds := by
  obtain ⟨fa, fd, g, F⟩ := T.f_law_holds
  have b := F.binds (ps := ["_law_term_here", "_law_facts_here"]) fun _ _ _ _ _ _ us hl => match us, hl with | [_, _], _ => rfl
  refine ⟨fa, fd, _, g, F.kp, b, fn_ok F sc_law_holds (by decide) fun cdv A outer s H E hr => ?_⟩
  exact (sms_cons (sm_asg (js := [2, 3]) (em_var 0 (pv 0)) (gm_tup rfl (gms_cons (gm_name (i := 2) sc_law_holds.nd rfl (.inl rfl) (by decide)) (gms_cons (gm_name (i := 3) sc_law_holds.nd rfl (.inl rfl) (by decide)) gms_nil))))
  (sms_cons (sm_if (tm_cmp (op_eq.or (op_eqD hr.units)) p_eq (om_e (em_ix ix_seq p_ix (om_n (pv 3)) (om_e em_int) (fun _ _ => rfl))) (om_e em_str) (nomark _))
  (sms_one (sm_set (i := 4) sc_law_holds.nd rfl (.inl rfl) (em_cmp (op_eq.or (op_eqD hr.units)) p_eq (om_e (em_ix ix_seq p_ix (om_n (pv 1)) (om_e em_int) (fun _ _ => rfl))) (om_e (em_ix ix_seq p_ix (om_n (pv 3)) (om_e em_int) (fun _ _ => rfl))) (nomark _))))
  (sms_one (sm_if (tm_cmp (op_eq.or (op_eqD hr.units)) p_eq (om_e (em_ix ix_seq p_ix (om_n (pv 3)) (om_e em_int) (fun _ _ => rfl))) (om_e em_str) (nomark _))
  (sms_one (sm_set (i := 4) sc_law_holds.nd rfl (.inl rfl) (em_cmp op_in_seq p_in (om_e (em_ix ix_seq p_ix (om_n (pv 3)) (om_e em_int) (fun _ _ => rfl))) (om_e (em_ix ix_seq p_ix (om_n (pv 1)) (om_e em_int) (fun _ _ => rfl))) rfl)))
  (sms_one (sm_if (tm_cmp (op_eq.or (op_eqD hr.units)) p_eq (om_e (em_ix ix_seq p_ix (om_n (pv 3)) (om_e em_int) (fun _ _ => rfl))) (om_e em_str) (nomark _))
  (sms_one (sm_set (i := 4) sc_law_holds.nd rfl (.inl rfl) (em_cmp op_in_seq p_in (om_e (em_ix ix_seq p_ix (om_n (pv 3)) (om_e em_int) (fun _ _ => rfl))) (om_e (em_ix ix_seq p_ix (om_n (pv 1)) (om_e em_int) (fun _ _ => rfl))) rfl)))
  (sms_one (sm_if (tm_cmp (op_eq.or (op_eqD hr.units)) p_eq (om_e (em_ix ix_seq p_ix (om_n (pv 3)) (om_e em_int) (fun _ _ => rfl))) (om_e em_str) (nomark _))
  (sms_one (sm_set (i := 4) sc_law_holds.nd rfl (.inl rfl) (em_defH (ok_law_match T) (hr.mono (by decide)) (by rfl) (am_e (em_ix ix_seq p_ix (om_n (pv 3)) (om_e em_int) (fun _ _ => rfl)) (am_e (em_ix ix_seq p_ix (om_n (pv 1)) (om_e em_int) (fun _ _ => rfl)) am_nil)) (len_arg (len_arg len_nil)))))
  (sms_cons (sm_set (i := 5) sc_law_holds.nd rfl (.inl rfl) (em_f (ef_disp (pm_cons em_str (em_ix ix_seq p_ix (om_n (pv 1)) (om_e em_int) (fun _ _ => rfl)) (pm_cons em_str (em_ix ix_seq p_ix (om_n (pv 1)) (om_e em_int) (fun _ _ => rfl)) (pm_cons em_str (em_callR (fun _ h => pe_callB (call_len_seq.or call_len_str) (by rfl) T.n_len (by decide +kernel) h) p_len (am_e (em_ix ix_seq p_ix (om_n (pv 1)) (om_e em_int) (fun _ _ => rfl)) am_nil)) (pm_cons em_str (em_ix ix_seq p_ix (om_n (pv 1)) (om_e em_int) (fun _ _ => rfl)) pm_nil)))) (by rfl) (by rfl) (fun z => by cases z) (by decide))))
  (sms_one (sm_set (i := 4) sc_law_holds.nd rfl (.inl rfl) (em_defH (ok_law_stands T) (hr.mono (by decide)) (by rfl) (am_e (em_dix (hu_of hr) (om_n (pv 5)) (om_e (em_ix ix_seq p_ix (om_n (pv 3)) (om_e em_int) (fun _ _ => rfl)))) (am_e (em_ix ix_seq p_ix (om_n (pv 3)) (om_e em_int) (fun _ _ => rfl)) (am_e (em_ix ix_seq p_ix (om_n (pv 3)) (om_e em_int) (fun _ _ => rfl)) am_nil))) (len_arg (len_arg (len_arg len_nil))))))))))))))
  (sms_one (sm_ret (em_cmp (op_ne.or (op_neD hr.units)) p_ne (om_n (pv 4)) (om_n (pv 2)) (nomark _))))))
theorem sc_law_judged : FnScope ["_law_policy_here", "_law_facts_here", "_law_k", "_law_term_here"] ["_law_policy_here", "_law_facts_here"] (defScope s_law_judged) := ⟨rfl, rfl, rfl, by decide +kernel, rfl, by decide +kernel, by decide +kernel⟩
def m_law_judged : SM' := (mSeq (mFor (mRng1 (mCall gLen' (mArgB 0 mNil))) (gN 2)
  (mIfS (mBinB gEq (.e (mCall gLen' (mArg (mLc [3] (mIt (mBin gIx (.e (mBin gIx (.n 0) (.n 2))) (.e (mC (.int 1))))) (gN 3) (mNotT (mTB (mDef F_law_holds (mArg (mVar 3) (mArg (mVar 1) mNil))))) (mVar 3)) mNil))) (.e (mC (.int 0))))
  (mRet (mTup (mArg (mBin gIx (.e (mBin gIx (.n 0) (.n 2))) (.e (mC (.int 0)))) (mArg (mVar 2) mNil))))
  mNx))
  (mRet (mTup (mArg (mC (.str "hold")) (mArg (mUn gNeg (mC (.int 1))) mNil)))))
def F_law_judged : Fn := runF 2 4 m_law_judged
theorem ok_law_judged {P : Program} {w : World} {K : PySem.W.Frag} {mg : Str → Option Value} {base : Heap} (T : Txt w K mg) : Has P w K mg base 3 "_law_judged" 2 F_law_judged := by
  obtain ⟨fa, fd, g, F⟩ := T.f_law_judged
  have b := F.binds (ps := ["_law_policy_here", "_law_facts_here"]) fun _ _ _ _ _ _ us hl => match us, hl with | [_, _], _ => rfl
  refine ⟨fa, fd, _, g, F.kp, b, fn_ok F sc_law_judged (by decide) fun cdv A outer s H E hr => ?_⟩
  exact (sms_cons (sm_for (js := [2]) PassesOwn.never rfl (im_range1 (by rfl) T.n_range (em_callR (fun _ h => pe_callB (call_len_seq.or call_len_str) (by rfl) T.n_len (by decide +kernel) h) p_len (am_b (pv 0) am_nil))) (gm_name (i := 2) sc_law_judged.nd rfl (.inl rfl) (by decide))
  (sms_one (sm_if (tm_cmp (op_eq.or (op_eqD hr.units)) p_eq (om_e (em_callR (fun _ h => pe_callB (call_len_seq.or call_len_str) (by rfl) T.n_len (by decide +kernel) h) p_len (am_e (em_f (ef_lc (own := [("_law_term_here", 3)]) (js := [3]) rfl sc_law_judged.nd (im_seq (em_ix ix_seq p_ix (om_e (em_ix ix_seq p_ix (om_n (pv 0)) (om_n (pv 2)) (fun _ _ => rfl))) (om_e em_int) (fun _ _ => rfl))) (blkOk_by (N := ["_law_policy_here", "_law_facts_here", "_law_k", "_law_term_here"]) (sc := defScope s_law_judged) (by decide +kernel)) (by decide) (fun _ _ _ _ _ => (gm_name (i := 3) sc_law_judged.nd rfl (.inl rfl) (by decide))) (fun _ _ _ _ _ => (tms_one (tm_not (tm_val (em_defH (ok_law_holds T) (hr.mono (by decide)) (by rfl) (am_e (em_var 3 (pv 3)) (am_e (em_var 1 (pv 1)) am_nil)) (len_arg (len_arg len_nil))))))) (fun _ _ _ _ _ => (em_var 3 (pv 3))))) am_nil))) (om_e em_int) (nomark _))
  (sms_one (sm_ret (em_tup (am_e (em_ix ix_seq p_ix (om_e (em_ix ix_seq p_ix (om_n (pv 0)) (om_n (pv 2)) (fun _ _ => rfl))) (om_e em_int) (fun _ _ => rfl)) (am_e (em_var 2 (pv 2)) am_nil)))))
  sms_nil)))
  (sms_one (sm_ret (em_tup (am_e em_str (am_e (em_un un_neg p_neg em_int) am_nil))))))
theorem sc_law : FnScope ["_law_script", "_law_facts_here", "_law_k", "_law_term_here", "_law_pattern_here", "_law_name", "_law_whole", "_law_text", "_law_policy_here", "_law_found", "_law_byte"] ["_law_script"] (defScope s_law) := ⟨rfl, rfl, rfl, by decide +kernel, rfl, by decide +kernel, by decide +kernel⟩
def m_law : SM' := (mSeq (mSet 1 (mDef F_law_facts (mArg (mVar 0) (mArg (mC (.int 0)) mNil))))
  (mSeq (mFor (mRng1 (mC (.int 4))) (gN 2)
  (mSeq (mSet 3 (mDef F_law_term (mArg (mCall (g1 gAbs) (mArg (mDef F_law_cell (mArg (mVar 0) (mArg (mBin gAdd (.e (mC (.int 3))) (.n 2)) mNil))) mNil)) mNil)))
  (mSeq (mIfS (mNotT (mTB (mDef F_law_says (mArg (mDef F_holds (mArg (mVar 3) (mArg (mVar 1) mNil))) (mArg (mDef F_law_holds (mArg (mVar 3) (mArg (mVar 1) mNil))) mNil)))))
  (mRet (mC (.bl false)))
  mNx)
  (mIfS (mNotT (mTB (mDef F_law_says (mArg (mDef F_holds (mArg (mTup (mArg (mNotV (mBin gIx (.n 3) (.e (mC (.int 0))))) (mArg (mBin gIx (.n 3) (.e (mC (.int 1)))) mNil))) (mArg (mVar 1) mNil))) (mArg (mNotV (mDef F_law_holds (mArg (mVar 3) (mArg (mVar 1) mNil)))) mNil)))))
  (mRet (mC (.bl false)))
  mNx))))
  (mSeq (mSet 4 (mDef F_law_long (mArg (mCall (g1 gAbs) (mArg (mDef F_law_cell (mArg (mVar 0) (mArg (mC (.int 7)) mNil))) mNil)) (mArg (mC (.int 20)) (mArg (mLst (mArg (mC (.int 97)) (mArg (mC (.int 42)) (mArg (mC (.int 98)) (mArg (mC (.int 97)) (mArg (mC (.int 0)) mNil)))))) mNil)))))
  (mSeq (mSet 5 (mDef F_law_long (mArg (mCall (g1 gAbs) (mArg (mDef F_law_cell (mArg (mVar 0) (mArg (mC (.int 8)) mNil))) mNil)) (mArg (mC (.int 30)) (mArg (mLst (mArg (mC (.int 97)) (mArg (mC (.int 98)) (mArg (mC (.int 97)) (mArg (mC (.int 42)) (mArg (mC (.int 0)) mNil)))))) mNil)))))
  (mSeq (mSet 6 (mCall (g1 gTupOf) (mArg (mLc [10] (mIt (mVar 4)) (gN 10) (mBinB gNe (.n 10) (.e (mC (.int 42)))) (mVar 10)) mNil)))
  (mSeq (mFor (mIt (mLst (mArg (mVar 5) (mArg (mVar 6) (mArg (mBin gAdd (.n 6) (.e (mTup (mArg (mC (.int 97)) mNil)))) (mArg (mTup mNil) mNil)))))) (gN 7)
  (mIfS (mNotT (mTB (mDef F_law_says (mArg (mDef F_matches (mArg (mVar 4) (mArg (mVar 7) mNil))) (mArg (mDef F_law_match (mArg (mVar 4) (mArg (mVar 7) mNil))) mNil)))))
  (mRet (mC (.bl false)))
  mNx))
  (mSeq (mSet 8 (mDef F_law_policy (mArg (mVar 0) (mArg (mC (.int 9)) (mArg (mC (.int 4)) (mArg (mC (.int 3)) mNil))))))
  (mSeq (mSet 9 (mDef F_judge (mArg (mVar 8) (mArg (mVar 1) mNil))))
  (mRet (mAndV (mUn (gIsi "tuple") (mVar 9)) (mAndV (mDef F_law_is_integer (mArg (mBin gIx (.n 9) (.e (mC (.int 1)))) mNil)) (mBin (fun x y => (gEq x y).map T.bl) (.n 9) (.e (mDef F_law_judged (mArg (mVar 8) (mArg (mVar 1) mNil))))))))))))))))
def F_law : Fn := runF 1 11 m_law
theorem fn_law {P : Program} {w : World} {K : PySem.W.Frag} {mg : Str → Option Value} {base : Heap} (T : Txt w K mg) {fa : Addr} {fd : FuncData} (F : Fun K "law" "law" s_law fa fd) : FnOk P w K mg base CX0 6 fa fd ["_law_script"] (spP K 1 F_law) := by
  refine fn_ok F sc_law (by decide) fun cdv A outer s H E hr => ?_
  exact (sms_cons (sm_set (i := 1) sc_law.nd rfl (.inl rfl) (em_defH (ok_law_facts T) (hr.mono (by decide)) (by rfl) (am_e (em_var 0 (pv 0)) (am_e em_int am_nil)) (len_arg (len_arg len_nil))))
  (sms_cons (sm_for (js := [2]) PassesOwn.never rfl (im_range1 (by rfl) T.n_range em_int) (gm_name (i := 2) sc_law.nd rfl (.inl rfl) (by decide))
  (sms_cons (sm_set (i := 3) sc_law.nd rfl (.inl rfl) (em_defH (ok_law_term T) (hr.mono (by decide)) (by rfl) (am_e (em_callR (fun _ h => pe_callB call_abs (by rfl) T.n_abs (by decide +kernel) h) p_abs (am_e (em_defH (ok_law_cell T) (hr.mono (by decide)) (by rfl) (am_e (em_var 0 (pv 0)) (am_e (em_bin (op_add.or (op_add_str.or (op_catA.or op_cat))) p_add (om_e em_int) (om_n (pv 2))) am_nil)) (len_arg (len_arg len_nil))) am_nil)) am_nil) (len_arg len_nil)))
  (sms_cons (sm_if (tm_not (tm_val (em_defH (ok_law_says T) (hr.mono (by decide)) (by rfl) (am_e (em_defH (ok_holds T) (hr.mono (by decide)) (by rfl) (am_e (em_var 3 (pv 3)) (am_e (em_var 1 (pv 1)) am_nil)) (len_arg (len_arg len_nil))) (am_e (em_defH (ok_law_holds T) (hr.mono (by decide)) (by rfl) (am_e (em_var 3 (pv 3)) (am_e (em_var 1 (pv 1)) am_nil)) (len_arg (len_arg len_nil))) am_nil)) (len_arg (len_arg len_nil)))))
  (sms_one (sm_ret em_bl))
  sms_nil)
  (sms_one (sm_if (tm_not (tm_val (em_defH (ok_law_says T) (hr.mono (by decide)) (by rfl) (am_e (em_defH (ok_holds T) (hr.mono (by decide)) (by rfl) (am_e (em_tup (am_e (em_not (em_ix ix_seq p_ix (om_n (pv 3)) (om_e em_int) (fun _ _ => rfl))) (am_e (em_ix ix_seq p_ix (om_n (pv 3)) (om_e em_int) (fun _ _ => rfl)) am_nil))) (am_e (em_var 1 (pv 1)) am_nil)) (len_arg (len_arg len_nil))) (am_e (em_not (em_defH (ok_law_holds T) (hr.mono (by decide)) (by rfl) (am_e (em_var 3 (pv 3)) (am_e (em_var 1 (pv 1)) am_nil)) (len_arg (len_arg len_nil)))) am_nil)) (len_arg (len_arg len_nil)))))
  (sms_one (sm_ret em_bl))
  sms_nil)))))
  (sms_cons (sm_set (i := 4) sc_law.nd rfl (.inl rfl) (em_defH (ok_law_long T) (hr.mono (by decide)) (by rfl) (am_e (em_callR (fun _ h => pe_callB call_abs (by rfl) T.n_abs (by decide +kernel) h) p_abs (am_e (em_defH (ok_law_cell T) (hr.mono (by decide)) (by rfl) (am_e (em_var 0 (pv 0)) (am_e em_int am_nil)) (len_arg (len_arg len_nil))) am_nil)) (am_e em_int (am_e (em_f (ef_lst (am_e em_int (am_e em_int (am_e em_int (am_e em_int (am_e em_int am_nil))))))) am_nil))) (len_arg (len_arg (len_arg len_nil)))))
  (sms_cons (sm_set (i := 5) sc_law.nd rfl (.inl rfl) (em_defH (ok_law_long T) (hr.mono (by decide)) (by rfl) (am_e (em_callR (fun _ h => pe_callB call_abs (by rfl) T.n_abs (by decide +kernel) h) p_abs (am_e (em_defH (ok_law_cell T) (hr.mono (by decide)) (by rfl) (am_e (em_var 0 (pv 0)) (am_e em_int am_nil)) (len_arg (len_arg len_nil))) am_nil)) (am_e em_int (am_e (em_f (ef_lst (am_e em_int (am_e em_int (am_e em_int (am_e em_int (am_e em_int am_nil))))))) am_nil))) (len_arg (len_arg (len_arg len_nil)))))
  (sms_cons (sm_set (i := 6) sc_law.nd rfl (.inl rfl) (em_callR (fun _ h => pe_callTy call_tuple_of (by rfl) T.n_tuple (by decide +kernel) h) p_tupOf (am_e (em_f (ef_lc (own := [("_law_byte", 10)]) (js := [10]) rfl sc_law.nd (im_seq (em_var 4 (pv 4))) (blkOk_by (N := ["_law_script", "_law_facts_here", "_law_k", "_law_term_here", "_law_pattern_here", "_law_name", "_law_whole", "_law_text", "_law_policy_here", "_law_found", "_law_byte"]) (sc := defScope s_law) (by decide +kernel)) (by decide) (fun _ _ _ _ _ => (gm_name (i := 10) sc_law.nd rfl (.inl rfl) (by decide))) (fun _ _ _ _ _ => (tms_one (tm_cmp (op_ne.or (op_neD hr.units)) p_ne (om_n (pv 10)) (om_e em_int) (nomark _)))) (fun _ _ _ _ _ => (em_var 10 (pv 10))))) am_nil)))
  (sms_cons (sm_for (js := [7]) PassesOwn.never rfl (im_seq (em_f (ef_lst (am_e (em_var 5 (pv 5)) (am_e (em_var 6 (pv 6)) (am_e (em_bin (op_add.or (op_add_str.or (op_catA.or op_cat))) p_add (om_n (pv 6)) (om_e (em_tup (am_e em_int am_nil)))) (am_e (em_tup am_nil) am_nil))))))) (gm_name (i := 7) sc_law.nd rfl (.inl rfl) (by decide))
  (sms_one (sm_if (tm_not (tm_val (em_defH (ok_law_says T) (hr.mono (by decide)) (by rfl) (am_e (em_defH (ok_matches T) (hr.mono (by decide)) (by rfl) (am_e (em_var 4 (pv 4)) (am_e (em_var 7 (pv 7)) am_nil)) (len_arg (len_arg len_nil))) (am_e (em_defH (ok_law_match T) (hr.mono (by decide)) (by rfl) (am_e (em_var 4 (pv 4)) (am_e (em_var 7 (pv 7)) am_nil)) (len_arg (len_arg len_nil))) am_nil)) (len_arg (len_arg len_nil)))))
  (sms_one (sm_ret em_bl))
  sms_nil)))
  (sms_cons (sm_set (i := 8) sc_law.nd rfl (.inl rfl) (em_defH (ok_law_policy T) (hr.mono (by decide)) (by rfl) (am_e (em_var 0 (pv 0)) (am_e em_int (am_e em_int (am_e em_int am_nil)))) (len_arg (len_arg (len_arg (len_arg len_nil))))))
  (sms_cons (sm_set (i := 9) sc_law.nd rfl (.inl rfl) (em_defH (ok_judge T) (hr.mono (by decide)) (by rfl) (am_e (em_var 8 (pv 8)) (am_e (em_var 1 (pv 1)) am_nil)) (len_arg (len_arg len_nil))))
  (sms_one (sm_ret (em_and (em_isi kitOk_tuple (by rfl) T.n_isinstance (by decide +kernel) (em_var 9 (pv 9)) (pe_bltn (by rfl) T.n_tuple (by decide +kernel) rfl)) (em_and (em_defH (ok_law_is_integer T) (hr.mono (by decide)) (by rfl) (am_e (em_ix ix_seq p_ix (om_n (pv 9)) (om_e em_int) (fun _ _ => rfl)) am_nil) (len_arg len_nil)) (em_one (em_cmp (op_eq.or (op_eqD hr.units)) p_eq (om_n (pv 9)) (om_e (em_defH (ok_law_judged T) (hr.mono (by decide)) (by rfl) (am_e (em_var 8 (pv 8)) (am_e (em_var 1 (pv 1)) am_nil)) (len_arg (len_arg len_nil)))) (nomark _)))))))))))))))
theorem txt_mk {w : World} {K : PySem.W.Frag} {h : Heap} {mg : Str → Option Value} (X : K.In h) (G : h.Ns mainGlobals mg)
    {t_STAR : Tok}
    {p_MOST : Addr} {es_MOST : Array DictEntry} {n_MOST : Nat}
    {u_MOST0 : Value}
    {u_MOST1 : Value}
    {u_MOST2 : Value}
    {u_MOST3 : Value}
    {b_law_cell : Addr} {od_law_cell an_law_cell : Option Addr} {sl_law_cell : Array (Option Value)} {oc_law_cell kV_law_cell dc_law_cell pm_law_cell cd_law_cell ct_law_cell : Value}
    {b_law_kinds : Addr} {od_law_kinds an_law_kinds : Option Addr} {sl_law_kinds : Array (Option Value)} {oc_law_kinds kV_law_kinds dc_law_kinds pm_law_kinds cd_law_kinds ct_law_kinds : Value}
    {b_law_row : Addr} {od_law_row an_law_row : Option Addr} {sl_law_row : Array (Option Value)} {oc_law_row kV_law_row dc_law_row pm_law_row cd_law_row ct_law_row : Value}
    {b_law_acts : Addr} {od_law_acts an_law_acts : Option Addr} {sl_law_acts : Array (Option Value)} {oc_law_acts kV_law_acts dc_law_acts pm_law_acts cd_law_acts ct_law_acts : Value}
    {b_law_facts : Addr} {od_law_facts an_law_facts : Option Addr} {sl_law_facts : Array (Option Value)} {oc_law_facts kV_law_facts dc_law_facts pm_law_facts cd_law_facts ct_law_facts : Value}
    {b_law_long : Addr} {od_law_long an_law_long : Option Addr} {sl_law_long : Array (Option Value)} {oc_law_long kV_law_long dc_law_long pm_law_long cd_law_long ct_law_long : Value}
    {b_law_pattern : Addr} {od_law_pattern an_law_pattern : Option Addr} {sl_law_pattern : Array (Option Value)} {oc_law_pattern kV_law_pattern dc_law_pattern pm_law_pattern cd_law_pattern ct_law_pattern : Value}
    {b_law_body : Addr} {od_law_body an_law_body : Option Addr} {sl_law_body : Array (Option Value)} {oc_law_body kV_law_body dc_law_body pm_law_body cd_law_body ct_law_body : Value}
    {b_law_term : Addr} {od_law_term an_law_term : Option Addr} {sl_law_term : Array (Option Value)} {oc_law_term kV_law_term dc_law_term pm_law_term cd_law_term ct_law_term : Value}
    {b_law_policy : Addr} {od_law_policy an_law_policy : Option Addr} {sl_law_policy : Array (Option Value)} {oc_law_policy kV_law_policy dc_law_policy pm_law_policy cd_law_policy ct_law_policy : Value}
    {b_stands : Addr} {od_stands an_stands : Option Addr} {sl_stands : Array (Option Value)} {oc_stands kV_stands dc_stands pm_stands cd_stands ct_stands : Value}
    {b_number_of : Addr} {od_number_of an_number_of : Option Addr} {sl_number_of : Array (Option Value)} {oc_number_of kV_number_of dc_number_of pm_number_of cd_number_of ct_number_of : Value}
    {b_opened : Addr} {od_opened an_opened : Option Addr} {sl_opened : Array (Option Value)} {oc_opened kV_opened dc_opened pm_opened cd_opened ct_opened : Value}
    {b_moved : Addr} {od_moved an_moved : Option Addr} {sl_moved : Array (Option Value)} {oc_moved kV_moved dc_moved pm_moved cd_moved ct_moved : Value}
    {b_matches : Addr} {od_matches an_matches : Option Addr} {sl_matches : Array (Option Value)} {oc_matches kV_matches dc_matches pm_matches cd_matches ct_matches : Value}
    {b_holds : Addr} {od_holds an_holds : Option Addr} {sl_holds : Array (Option Value)} {oc_holds kV_holds dc_holds pm_holds cd_holds ct_holds : Value}
    {b_judge : Addr} {od_judge an_judge : Option Addr} {sl_judge : Array (Option Value)} {oc_judge kV_judge dc_judge pm_judge cd_judge ct_judge : Value}
    {b_law_is_integer : Addr} {od_law_is_integer an_law_is_integer : Option Addr} {sl_law_is_integer : Array (Option Value)} {oc_law_is_integer kV_law_is_integer dc_law_is_integer pm_law_is_integer cd_law_is_integer ct_law_is_integer : Value}
    {b_law_says : Addr} {od_law_says an_law_says : Option Addr} {sl_law_says : Array (Option Value)} {oc_law_says kV_law_says dc_law_says pm_law_says cd_law_says ct_law_says : Value}
    {b_law_match : Addr} {od_law_match an_law_match : Option Addr} {sl_law_match : Array (Option Value)} {oc_law_match kV_law_match dc_law_match pm_law_match cd_law_match ct_law_match : Value}
    {b_law_stands : Addr} {od_law_stands an_law_stands : Option Addr} {sl_law_stands : Array (Option Value)} {oc_law_stands kV_law_stands dc_law_stands pm_law_stands cd_law_stands ct_law_stands : Value}
    {b_law_holds : Addr} {od_law_holds an_law_holds : Option Addr} {sl_law_holds : Array (Option Value)} {oc_law_holds kV_law_holds dc_law_holds pm_law_holds cd_law_holds ct_law_holds : Value}
    {b_law_judged : Addr} {od_law_judged an_law_judged : Option Addr} {sl_law_judged : Array (Option Value)} {oc_law_judged kV_law_judged dc_law_judged pm_law_judged cd_law_judged ct_law_judged : Value}
    {b_law : Addr} {od_law an_law : Option Addr} {sl_law : Array (Option Value)} {oc_law kV_law dc_law pm_law cd_law ct_law : Value}
    (z_len : PySem.W.nsIn K mainGlobals "len" = some none)
    (z_int : PySem.W.nsIn K mainGlobals "int" = some none)
    (z_range : PySem.W.nsIn K mainGlobals "range" = some none)
    (z_abs : PySem.W.nsIn K mainGlobals "abs" = some none)
    (z_tuple : PySem.W.nsIn K mainGlobals "tuple" = some none)
    (z_sorted : PySem.W.nsIn K mainGlobals "sorted" = some none)
    (z_enumerate : PySem.W.nsIn K mainGlobals "enumerate" = some none)
    (z_all : PySem.W.nsIn K mainGlobals "all" = some none)
    (z_isinstance : PySem.W.nsIn K mainGlobals "isinstance" = some none)
    (z_bool : PySem.W.nsIn K mainGlobals "bool" = some none)
    (a_STAR : PySem.W.nsIn K mainGlobals "STAR" = some (some (Value.int 42 t_STAR)))
    (a_MOST : PySem.W.nsIn K mainGlobals "MOST" = some (some (.ref p_MOST))) (l_MOST : K.lookup p_MOST = some ⟨.type "dict", none, .dict es_MOST n_MOST, #[]⟩) (s_MOST : (p_MOST == sysModules) = false) (h_MOST : PySem.W.KeysLit w.params es_MOST.toList)
    (k_MOST0 : PySem.W.nsIn K p_MOST "size" = some (some u_MOST0))
    (k_MOST1 : PySem.W.nsIn K p_MOST "pages" = some (some u_MOST1))
    (k_MOST2 : PySem.W.nsIn K p_MOST "acts" = some (some u_MOST2))
    (k_MOST3 : PySem.W.nsIn K p_MOST "depth" = some (some u_MOST3))
    (m_MOST0 : PySem.W.nsIn K p_MOST "is" = some none)
    (m_MOST1 : PySem.W.nsIn K p_MOST "could" = some none)
    (m_MOST2 : PySem.W.nsIn K p_MOST "act" = some none)
    (m_MOST3 : PySem.W.nsIn K p_MOST "name" = some none)
    (a_law_cell : PySem.W.nsIn K mainGlobals "_law_cell" = some (some (.ref b_law_cell))) (l_law_cell : K.lookup b_law_cell = some ⟨oc_law_cell, od_law_cell, .func (PySem.W.fnOf "_law_cell" "_law_cell" (defArgs s_law_cell) (defBody s_law_cell) (defScope s_law_cell) .none kV_law_cell dc_law_cell pm_law_cell an_law_cell cd_law_cell ct_law_cell), sl_law_cell⟩) (c_law_cell : PySem.W.codeIn K cd_law_cell "_law_cell" = true) (k_law_cell : PySem.W.keepIn K (.ref b_law_cell) = true)
    (a_law_kinds : PySem.W.nsIn K mainGlobals "_law_kinds" = some (some (.ref b_law_kinds))) (l_law_kinds : K.lookup b_law_kinds = some ⟨oc_law_kinds, od_law_kinds, .func (PySem.W.fnOf "_law_kinds" "_law_kinds" (defArgs s_law_kinds) (defBody s_law_kinds) (defScope s_law_kinds) .none kV_law_kinds dc_law_kinds pm_law_kinds an_law_kinds cd_law_kinds ct_law_kinds), sl_law_kinds⟩) (c_law_kinds : PySem.W.codeIn K cd_law_kinds "_law_kinds" = true) (k_law_kinds : PySem.W.keepIn K (.ref b_law_kinds) = true)
    (a_law_row : PySem.W.nsIn K mainGlobals "_law_row" = some (some (.ref b_law_row))) (l_law_row : K.lookup b_law_row = some ⟨oc_law_row, od_law_row, .func (PySem.W.fnOf "_law_row" "_law_row" (defArgs s_law_row) (defBody s_law_row) (defScope s_law_row) .none kV_law_row dc_law_row pm_law_row an_law_row cd_law_row ct_law_row), sl_law_row⟩) (c_law_row : PySem.W.codeIn K cd_law_row "_law_row" = true) (k_law_row : PySem.W.keepIn K (.ref b_law_row) = true)
    (a_law_acts : PySem.W.nsIn K mainGlobals "_law_acts" = some (some (.ref b_law_acts))) (l_law_acts : K.lookup b_law_acts = some ⟨oc_law_acts, od_law_acts, .func (PySem.W.fnOf "_law_acts" "_law_acts" (defArgs s_law_acts) (defBody s_law_acts) (defScope s_law_acts) .none kV_law_acts dc_law_acts pm_law_acts an_law_acts cd_law_acts ct_law_acts), sl_law_acts⟩) (c_law_acts : PySem.W.codeIn K cd_law_acts "_law_acts" = true) (k_law_acts : PySem.W.keepIn K (.ref b_law_acts) = true)
    (a_law_facts : PySem.W.nsIn K mainGlobals "_law_facts" = some (some (.ref b_law_facts))) (l_law_facts : K.lookup b_law_facts = some ⟨oc_law_facts, od_law_facts, .func (PySem.W.fnOf "_law_facts" "_law_facts" (defArgs s_law_facts) (defBody s_law_facts) (defScope s_law_facts) .none kV_law_facts dc_law_facts pm_law_facts an_law_facts cd_law_facts ct_law_facts), sl_law_facts⟩) (c_law_facts : PySem.W.codeIn K cd_law_facts "_law_facts" = true) (k_law_facts : PySem.W.keepIn K (.ref b_law_facts) = true)
    (a_law_long : PySem.W.nsIn K mainGlobals "_law_long" = some (some (.ref b_law_long))) (l_law_long : K.lookup b_law_long = some ⟨oc_law_long, od_law_long, .func (PySem.W.fnOf "_law_long" "_law_long" (defArgs s_law_long) (defBody s_law_long) (defScope s_law_long) .none kV_law_long dc_law_long pm_law_long an_law_long cd_law_long ct_law_long), sl_law_long⟩) (c_law_long : PySem.W.codeIn K cd_law_long "_law_long" = true) (k_law_long : PySem.W.keepIn K (.ref b_law_long) = true)
    (a_law_pattern : PySem.W.nsIn K mainGlobals "_law_pattern" = some (some (.ref b_law_pattern))) (l_law_pattern : K.lookup b_law_pattern = some ⟨oc_law_pattern, od_law_pattern, .func (PySem.W.fnOf "_law_pattern" "_law_pattern" (defArgs s_law_pattern) (defBody s_law_pattern) (defScope s_law_pattern) .none kV_law_pattern dc_law_pattern pm_law_pattern an_law_pattern cd_law_pattern ct_law_pattern), sl_law_pattern⟩) (c_law_pattern : PySem.W.codeIn K cd_law_pattern "_law_pattern" = true) (k_law_pattern : PySem.W.keepIn K (.ref b_law_pattern) = true)
    (a_law_body : PySem.W.nsIn K mainGlobals "_law_body" = some (some (.ref b_law_body))) (l_law_body : K.lookup b_law_body = some ⟨oc_law_body, od_law_body, .func (PySem.W.fnOf "_law_body" "_law_body" (defArgs s_law_body) (defBody s_law_body) (defScope s_law_body) .none kV_law_body dc_law_body pm_law_body an_law_body cd_law_body ct_law_body), sl_law_body⟩) (c_law_body : PySem.W.codeIn K cd_law_body "_law_body" = true) (k_law_body : PySem.W.keepIn K (.ref b_law_body) = true)
    (a_law_term : PySem.W.nsIn K mainGlobals "_law_term" = some (some (.ref b_law_term))) (l_law_term : K.lookup b_law_term = some ⟨oc_law_term, od_law_term, .func (PySem.W.fnOf "_law_term" "_law_term" (defArgs s_law_term) (defBody s_law_term) (defScope s_law_term) .none kV_law_term dc_law_term pm_law_term an_law_term cd_law_term ct_law_term), sl_law_term⟩) (c_law_term : PySem.W.codeIn K cd_law_term "_law_term" = true) (k_law_term : PySem.W.keepIn K (.ref b_law_term) = true)
    (a_law_policy : PySem.W.nsIn K mainGlobals "_law_policy" = some (some (.ref b_law_policy))) (l_law_policy : K.lookup b_law_policy = some ⟨oc_law_policy, od_law_policy, .func (PySem.W.fnOf "_law_policy" "_law_policy" (defArgs s_law_policy) (defBody s_law_policy) (defScope s_law_policy) .none kV_law_policy dc_law_policy pm_law_policy an_law_policy cd_law_policy ct_law_policy), sl_law_policy⟩) (c_law_policy : PySem.W.codeIn K cd_law_policy "_law_policy" = true) (k_law_policy : PySem.W.keepIn K (.ref b_law_policy) = true)
    (a_stands : PySem.W.nsIn K mainGlobals "stands" = some (some (.ref b_stands))) (l_stands : K.lookup b_stands = some ⟨oc_stands, od_stands, .func (PySem.W.fnOf "stands" "stands" (defArgs s_stands) (defBody s_stands) (defScope s_stands) .none kV_stands dc_stands pm_stands an_stands cd_stands ct_stands), sl_stands⟩) (c_stands : PySem.W.codeIn K cd_stands "stands" = true) (k_stands : PySem.W.keepIn K (.ref b_stands) = true)
    (a_number_of : PySem.W.nsIn K mainGlobals "number_of" = some (some (.ref b_number_of))) (l_number_of : K.lookup b_number_of = some ⟨oc_number_of, od_number_of, .func (PySem.W.fnOf "number_of" "number_of" (defArgs s_number_of) (defBody s_number_of) (defScope s_number_of) .none kV_number_of dc_number_of pm_number_of an_number_of cd_number_of ct_number_of), sl_number_of⟩) (c_number_of : PySem.W.codeIn K cd_number_of "number_of" = true) (k_number_of : PySem.W.keepIn K (.ref b_number_of) = true)
    (a_opened : PySem.W.nsIn K mainGlobals "opened" = some (some (.ref b_opened))) (l_opened : K.lookup b_opened = some ⟨oc_opened, od_opened, .func (PySem.W.fnOf "opened" "opened" (defArgs s_opened) (defBody s_opened) (defScope s_opened) .none kV_opened dc_opened pm_opened an_opened cd_opened ct_opened), sl_opened⟩) (c_opened : PySem.W.codeIn K cd_opened "opened" = true) (k_opened : PySem.W.keepIn K (.ref b_opened) = true)
    (a_moved : PySem.W.nsIn K mainGlobals "moved" = some (some (.ref b_moved))) (l_moved : K.lookup b_moved = some ⟨oc_moved, od_moved, .func (PySem.W.fnOf "moved" "moved" (defArgs s_moved) (defBody s_moved) (defScope s_moved) .none kV_moved dc_moved pm_moved an_moved cd_moved ct_moved), sl_moved⟩) (c_moved : PySem.W.codeIn K cd_moved "moved" = true) (k_moved : PySem.W.keepIn K (.ref b_moved) = true)
    (a_matches : PySem.W.nsIn K mainGlobals "matches" = some (some (.ref b_matches))) (l_matches : K.lookup b_matches = some ⟨oc_matches, od_matches, .func (PySem.W.fnOf "matches" "matches" (defArgs s_matches) (defBody s_matches) (defScope s_matches) .none kV_matches dc_matches pm_matches an_matches cd_matches ct_matches), sl_matches⟩) (c_matches : PySem.W.codeIn K cd_matches "matches" = true) (k_matches : PySem.W.keepIn K (.ref b_matches) = true)
    (a_holds : PySem.W.nsIn K mainGlobals "holds" = some (some (.ref b_holds))) (l_holds : K.lookup b_holds = some ⟨oc_holds, od_holds, .func (PySem.W.fnOf "holds" "holds" (defArgs s_holds) (defBody s_holds) (defScope s_holds) .none kV_holds dc_holds pm_holds an_holds cd_holds ct_holds), sl_holds⟩) (c_holds : PySem.W.codeIn K cd_holds "holds" = true) (k_holds : PySem.W.keepIn K (.ref b_holds) = true)
    (a_judge : PySem.W.nsIn K mainGlobals "judge" = some (some (.ref b_judge))) (l_judge : K.lookup b_judge = some ⟨oc_judge, od_judge, .func (PySem.W.fnOf "judge" "judge" (defArgs s_judge) (defBody s_judge) (defScope s_judge) .none kV_judge dc_judge pm_judge an_judge cd_judge ct_judge), sl_judge⟩) (c_judge : PySem.W.codeIn K cd_judge "judge" = true) (k_judge : PySem.W.keepIn K (.ref b_judge) = true)
    (a_law_is_integer : PySem.W.nsIn K mainGlobals "_law_is_integer" = some (some (.ref b_law_is_integer))) (l_law_is_integer : K.lookup b_law_is_integer = some ⟨oc_law_is_integer, od_law_is_integer, .func (PySem.W.fnOf "_law_is_integer" "_law_is_integer" (defArgs s_law_is_integer) (defBody s_law_is_integer) (defScope s_law_is_integer) .none kV_law_is_integer dc_law_is_integer pm_law_is_integer an_law_is_integer cd_law_is_integer ct_law_is_integer), sl_law_is_integer⟩) (c_law_is_integer : PySem.W.codeIn K cd_law_is_integer "_law_is_integer" = true) (k_law_is_integer : PySem.W.keepIn K (.ref b_law_is_integer) = true)
    (a_law_says : PySem.W.nsIn K mainGlobals "_law_says" = some (some (.ref b_law_says))) (l_law_says : K.lookup b_law_says = some ⟨oc_law_says, od_law_says, .func (PySem.W.fnOf "_law_says" "_law_says" (defArgs s_law_says) (defBody s_law_says) (defScope s_law_says) .none kV_law_says dc_law_says pm_law_says an_law_says cd_law_says ct_law_says), sl_law_says⟩) (c_law_says : PySem.W.codeIn K cd_law_says "_law_says" = true) (k_law_says : PySem.W.keepIn K (.ref b_law_says) = true)
    (a_law_match : PySem.W.nsIn K mainGlobals "_law_match" = some (some (.ref b_law_match))) (l_law_match : K.lookup b_law_match = some ⟨oc_law_match, od_law_match, .func (PySem.W.fnOf "_law_match" "_law_match" (defArgs s_law_match) (defBody s_law_match) (defScope s_law_match) .none kV_law_match dc_law_match pm_law_match an_law_match cd_law_match ct_law_match), sl_law_match⟩) (c_law_match : PySem.W.codeIn K cd_law_match "_law_match" = true) (k_law_match : PySem.W.keepIn K (.ref b_law_match) = true)
    (a_law_stands : PySem.W.nsIn K mainGlobals "_law_stands" = some (some (.ref b_law_stands))) (l_law_stands : K.lookup b_law_stands = some ⟨oc_law_stands, od_law_stands, .func (PySem.W.fnOf "_law_stands" "_law_stands" (defArgs s_law_stands) (defBody s_law_stands) (defScope s_law_stands) .none kV_law_stands dc_law_stands pm_law_stands an_law_stands cd_law_stands ct_law_stands), sl_law_stands⟩) (c_law_stands : PySem.W.codeIn K cd_law_stands "_law_stands" = true) (k_law_stands : PySem.W.keepIn K (.ref b_law_stands) = true)
    (a_law_holds : PySem.W.nsIn K mainGlobals "_law_holds" = some (some (.ref b_law_holds))) (l_law_holds : K.lookup b_law_holds = some ⟨oc_law_holds, od_law_holds, .func (PySem.W.fnOf "_law_holds" "_law_holds" (defArgs s_law_holds) (defBody s_law_holds) (defScope s_law_holds) .none kV_law_holds dc_law_holds pm_law_holds an_law_holds cd_law_holds ct_law_holds), sl_law_holds⟩) (c_law_holds : PySem.W.codeIn K cd_law_holds "_law_holds" = true) (k_law_holds : PySem.W.keepIn K (.ref b_law_holds) = true)
    (a_law_judged : PySem.W.nsIn K mainGlobals "_law_judged" = some (some (.ref b_law_judged))) (l_law_judged : K.lookup b_law_judged = some ⟨oc_law_judged, od_law_judged, .func (PySem.W.fnOf "_law_judged" "_law_judged" (defArgs s_law_judged) (defBody s_law_judged) (defScope s_law_judged) .none kV_law_judged dc_law_judged pm_law_judged an_law_judged cd_law_judged ct_law_judged), sl_law_judged⟩) (c_law_judged : PySem.W.codeIn K cd_law_judged "_law_judged" = true) (k_law_judged : PySem.W.keepIn K (.ref b_law_judged) = true)
    (a_law : PySem.W.nsIn K mainGlobals "law" = some (some (.ref b_law))) (l_law : K.lookup b_law = some ⟨oc_law, od_law, .func (PySem.W.fnOf "law" "law" (defArgs s_law) (defBody s_law) (defScope s_law) .none kV_law dc_law pm_law an_law cd_law ct_law), sl_law⟩) (c_law : PySem.W.codeIn K cd_law "law" = true) (k_law : PySem.W.keepIn K (.ref b_law) = true) : Txt w K mg :=
  { n_len := PySem.W.mg_none_of X G z_len
    n_int := PySem.W.mg_none_of X G z_int
    n_range := PySem.W.mg_none_of X G z_range
    n_abs := PySem.W.mg_none_of X G z_abs
    n_tuple := PySem.W.mg_none_of X G z_tuple
    n_sorted := PySem.W.mg_none_of X G z_sorted
    n_enumerate := PySem.W.mg_none_of X G z_enumerate
    n_all := PySem.W.mg_none_of X G z_all
    n_isinstance := PySem.W.mg_none_of X G z_isinstance
    n_bool := PySem.W.mg_none_of X G z_bool
    c_STAR := ⟨_, PySem.W.mg_of X G a_STAR⟩
    c_MOST := ⟨p_MOST, PySem.W.mg_of X G a_MOST, s_MOST, fun z hz => by
      simp only [ks_MOST, List.mem_cons, List.not_mem_nil, or_false] at hz
      rcases hz with rfl | rfl | rfl | rfl
      · exact ⟨es_MOST, n_MOST, _, l_MOST, h_MOST, k_MOST0, rfl⟩
      · exact ⟨es_MOST, n_MOST, _, l_MOST, h_MOST, k_MOST1, rfl⟩
      · exact ⟨es_MOST, n_MOST, _, l_MOST, h_MOST, k_MOST2, rfl⟩
      · exact ⟨es_MOST, n_MOST, _, l_MOST, h_MOST, k_MOST3, rfl⟩, fun z hz => by
      simp only [no_MOST, List.mem_cons, List.not_mem_nil, or_false] at hz
      rcases hz with rfl | rfl | rfl | rfl
      · exact ⟨es_MOST, n_MOST, _, l_MOST, h_MOST, m_MOST0, rfl⟩
      · exact ⟨es_MOST, n_MOST, _, l_MOST, h_MOST, m_MOST1, rfl⟩
      · exact ⟨es_MOST, n_MOST, _, l_MOST, h_MOST, m_MOST2, rfl⟩
      · exact ⟨es_MOST, n_MOST, _, l_MOST, h_MOST, m_MOST3, rfl⟩⟩
    f_law_cell := ⟨_, _, PySem.W.mg_of X G a_law_cell, fun_mk (st := s_law_cell) l_law_cell c_law_cell k_law_cell⟩
    f_law_kinds := ⟨_, _, PySem.W.mg_of X G a_law_kinds, fun_mk (st := s_law_kinds) l_law_kinds c_law_kinds k_law_kinds⟩
    f_law_row := ⟨_, _, PySem.W.mg_of X G a_law_row, fun_mk (st := s_law_row) l_law_row c_law_row k_law_row⟩
    f_law_acts := ⟨_, _, PySem.W.mg_of X G a_law_acts, fun_mk (st := s_law_acts) l_law_acts c_law_acts k_law_acts⟩
    f_law_facts := ⟨_, _, PySem.W.mg_of X G a_law_facts, fun_mk (st := s_law_facts) l_law_facts c_law_facts k_law_facts⟩
    f_law_long := ⟨_, _, PySem.W.mg_of X G a_law_long, fun_mk (st := s_law_long) l_law_long c_law_long k_law_long⟩
    f_law_pattern := ⟨_, _, PySem.W.mg_of X G a_law_pattern, fun_mk (st := s_law_pattern) l_law_pattern c_law_pattern k_law_pattern⟩
    f_law_body := ⟨_, _, PySem.W.mg_of X G a_law_body, fun_mk (st := s_law_body) l_law_body c_law_body k_law_body⟩
    f_law_term := ⟨_, _, PySem.W.mg_of X G a_law_term, fun_mk (st := s_law_term) l_law_term c_law_term k_law_term⟩
    f_law_policy := ⟨_, _, PySem.W.mg_of X G a_law_policy, fun_mk (st := s_law_policy) l_law_policy c_law_policy k_law_policy⟩
    f_stands := ⟨_, _, PySem.W.mg_of X G a_stands, fun_mk (st := s_stands) l_stands c_stands k_stands⟩
    f_number_of := ⟨_, _, PySem.W.mg_of X G a_number_of, fun_mk (st := s_number_of) l_number_of c_number_of k_number_of⟩
    f_opened := ⟨_, _, PySem.W.mg_of X G a_opened, fun_mk (st := s_opened) l_opened c_opened k_opened⟩
    f_moved := ⟨_, _, PySem.W.mg_of X G a_moved, fun_mk (st := s_moved) l_moved c_moved k_moved⟩
    f_matches := ⟨_, _, PySem.W.mg_of X G a_matches, fun_mk (st := s_matches) l_matches c_matches k_matches⟩
    f_holds := ⟨_, _, PySem.W.mg_of X G a_holds, fun_mk (st := s_holds) l_holds c_holds k_holds⟩
    f_judge := ⟨_, _, PySem.W.mg_of X G a_judge, fun_mk (st := s_judge) l_judge c_judge k_judge⟩
    f_law_is_integer := ⟨_, _, PySem.W.mg_of X G a_law_is_integer, fun_mk (st := s_law_is_integer) l_law_is_integer c_law_is_integer k_law_is_integer⟩
    f_law_says := ⟨_, _, PySem.W.mg_of X G a_law_says, fun_mk (st := s_law_says) l_law_says c_law_says k_law_says⟩
    f_law_match := ⟨_, _, PySem.W.mg_of X G a_law_match, fun_mk (st := s_law_match) l_law_match c_law_match k_law_match⟩
    f_law_stands := ⟨_, _, PySem.W.mg_of X G a_law_stands, fun_mk (st := s_law_stands) l_law_stands c_law_stands k_law_stands⟩
    f_law_holds := ⟨_, _, PySem.W.mg_of X G a_law_holds, fun_mk (st := s_law_holds) l_law_holds c_law_holds k_law_holds⟩
    f_law_judged := ⟨_, _, PySem.W.mg_of X G a_law_judged, fun_mk (st := s_law_judged) l_law_judged c_law_judged k_law_judged⟩
    f_law := ⟨_, _, PySem.W.mg_of X G a_law, fun_mk (st := s_law) l_law c_law k_law⟩ }
theorem end_law {P : Program} {w : World} {K : PySem.W.Frag} {mg : Str → Option Value} {fa : Addr} (T : Txt w K mg) (hmg : mg "law" = some (.ref fa)) :
    ∃ fd : FuncData, (∀ (s : Shared) (u : Value), BindsTo s fd ⟨[u], []⟩ [("_law_script", u)]) ∧ ∀ base : Heap, K.In base → base.Ns mainGlobals mg → FnOk P w K mg base CX0 6 fa fd ["_law_script"] (spP K 1 F_law) := by
  obtain ⟨fa', fd, g, F⟩ := T.f_law
  rw [hmg] at g
  cases g
  refine ⟨fd, fun s u => ?_, fun base _ _ => fn_law T F⟩
  obtain ⟨oc, od, kV, doc, pm, an, cdv, ct, osl, rfl, _, _⟩ := F.ex
  exact .of_eq rfl
end Pu
set_option Elab.async false
set_option linter.all false
set_option maxRecDepth 100000
namespace Pu
open PySem PySem.Spec PyProof.Rows L2
local macro_rules | `(tactic| walk_at "py") => `(tactic| simp (decide := true) [*, wp_seq, wp_nx, wp_set, wp_setO, wp_ret, wp_if, wp_for, wpl_nil, sqQ_nx, sqQ_rt, loQ_nx, loQ_rt, setW_some, retW_some, ifW_some, forW_some, retQ, nxR_nx, mBinB, mBin, mO, mO2, peek, mCall, mArgB, mNil, nows, g1_one, g2_two, items, mArg, mC, okP, mVar, noP_0, noP_s, npb_u, npb_i, npb_o, goW_some, whW_some, slotsA, bIx, noDup, upE, mUn, gNeg, mTup, mLst, vals, lim, mTB_b, tbK_some, mVB, mAndT_b, andK_some, mOrT_b, orK_some, mNotT, mAndV, mOrV, mNotV, gNe, mDef, gN_b, mIf_b, ifK_some, mIt, mYes, gTupOf, gI_int, gIb_int, gIc_int, gAdd_int, gMul_int, gInt_int, gAbs_int, gEq_int, gEq_str, gEq_bl, gLen_lst, gLen_rl, gLen_tup, gIx_lst, gIx_rl, gIx_tup, cPos_t, cDiv_t, cNn_t, cMul_r, cMul_l, mRng1, wp_app, wp_sub, wp_asg, wp_dput, oW_some, mApp, mSub, mAsg, ownT, putT, isLst, mLc, wipeE_0, wipeE_1, ifW_ite, retW_ite, setW_ite, whW_ite, andK_ite, orK_ite, ifK_ite, omap_ite, tbK_ite])
theorem t_cell (ns : List Int) (k : Int) (hk : 0 ≤ k) : F_law_cell [.i (.rl (ns.map T.int)), .i (.int k)] = some (.int (ns.getD k.toNat 0), [.i (.rl (ns.map T.int)), .i (.int k)]) := by
  suffices h : Fp F_law_cell [.i (.rl (ns.map T.int)), .i (.int k)] (fun t s => t = .int (ns.getD k.toNat 0) ∧ s = [.i (.rl (ns.map T.int)), .i (.int k)]) by
    obtain ⟨r, e, h1, h2⟩ := h
    rw [e, ← h1, ← h2]
  refine fp_run ?_
  obtain ⟨n, rfl⟩ := Int.eq_ofNat_of_zero_le hk
  by_cases h : n < ns.length
  · have e : atI (ns.map T.int) (n : Int) = some (.int (ns.getD n 0)) := by
      apply atI_nat
      simp [h]
    unfold m_law_cell
    walk_at "py"
  · have e : ns.getD n 0 = 0 := by simp [h]
    unfold m_law_cell
    walk_at "py"
theorem t_kinds : F_law_kinds [] = some (.lst [.str "still", .str "picture", .str "film", .str "sheet", .str "folio", .str "crate"], []) := rfl
theorem t_acts : F_law_acts [] = some (.lst [.str "open", .str "file", .str "link", .str "form", .str "fetch", .str "script"], []) := rfl
example : (("is" : Str) = "could") = False := by simp (decide := true)
theorem t_row (c : Int) (n : Nat) (hn : n ≤ 60) : ∃ bs : List Int, bs.length = n ∧ ∃ s, F_law_row [.i (.int c), .i (.int n)] = some (.lst (bs.map .int), s) := by
  suffices h : Fp F_law_row [.i (.int c), .i (.int n)] (fun t _ => ∃ bs : List Int, bs.length = n ∧ t = .lst (bs.map .int)) by
    obtain ⟨⟨t, s⟩, e, bs, h1, rfl⟩ := h
    exact ⟨bs, h1, s, e⟩
  refine fp_run ?_
  unfold m_law_row
  have hs : small62 (n : Int) = true := nat62 (by omega)
  by_cases h : (1000000000000000000 : Int) ≤ absI c
  · walk_at "py"
    refine wpl_upTo 0 n (fun k ρ => ∃ (bs : List Int) (x : Int) (s4 : Sl), bs.length = k ∧ npb s4 = true ∧ ρ = [.i (.int c), .i (.int n), .o (.lst (bs.map .int)), .i (.int x), s4, .u]) ?_ ?_ ⟨[], absI c, .u, rfl, rfl, rfl⟩
    · rintro k ρ hk ⟨bs, x, s4, hb, h4, rfl⟩
      have hl : k < 1000000 := by omega
      walk_at "py"
      exact ⟨bs ++ [Builtin.bitAnd x 255], by simp [hb], x / 256, .i (.int k), rfl, by simp, rfl, rfl⟩
    · rintro ρ ⟨bs, x, s4, hb, h4, rfl⟩
      walk_at "py"
      exact ⟨bs, hb, rfl⟩
  · walk_at "py"
    refine wpl_upTo 0 n (fun k ρ => ∃ (bs : List Int) (x : Int) (s4 : Sl), bs.length = k ∧ npb s4 = true ∧ ρ = [.i (.int c), .i (.int n), .o (.lst (bs.map .int)), .i (.int (absI c)), s4, .i (.int x)]) ?_ ?_ ⟨[], _, .u, rfl, rfl, rfl⟩
    · rintro k ρ hk ⟨bs, x, s4, hb, h4, rfl⟩
      have hl : k < 1000000 := by omega
      walk_at "py"
      exact ⟨bs ++ [Builtin.bitAnd (x * 48271 % 2147483647 / 7 + x * 48271 % 2147483647) 255], by simp [hb], _, .i (.int k), rfl, by simp, rfl, rfl⟩
    · rintro ρ ⟨bs, x, s4, hb, h4, rfl⟩
      walk_at "py"
      exact ⟨bs, hb, rfl⟩
end Pu
set_option Elab.async false
set_option linter.all false
set_option maxRecDepth 100000
namespace Pu
open PySem PySem.Spec PyProof.Rows L2
local macro_rules | `(tactic| walk_at "py") => `(tactic| simp (decide := true) [*, wp_seq, wp_nx, wp_set, wp_setO, wp_ret, wp_if, wp_for, wpl_nil, sqQ_nx, sqQ_rt, loQ_nx, loQ_rt, setW_some, retW_some, ifW_some, forW_some, retQ, nxR_nx, mBinB, mBin, mO, mO2, peek, mCall, mArgB, mNil, nows, g1_one, g2_two, items, mArg, mC, okP, mVar, noP_0, noP_s, npb_u, npb_i, npb_o, goW_some, whW_some, slotsA, bIx, noDup, upE, mUn, gNeg, mTup, mLst, vals, lim, mTB_b, tbK_some, mVB, mAndT_b, andK_some, mOrT_b, orK_some, mNotT, mAndV, mOrV, mNotV, gNe, mDef, gN_b, mIf_b, ifK_some, mIt, mYes, gTupOf, gI_int, gIb_int, gIc_int, gAdd_int, gMul_int, gInt_int, gAbs_int, gEq_int, gEq_str, gEq_bl, gLen_lst, gLen_rl, gLen_tup, gIx_lst, gIx_rl, gIx_tup, cPos_t, cDiv_t, cNn_t, cMul_r, cMul_l, mRng1, wp_app, wp_sub, wp_asg, wp_dput, oW_some, mApp, mSub, mAsg, ownT, putT, isLst, mLc, wipeE_0, wipeE_1, ifW_ite, retW_ite, setW_ite, whW_ite, andK_ite, orK_ite, ifK_ite, omap_ite, tbK_ite])
theorem nn_mod {c : Int} {k : Nat} (h : 0 < k) : ∃ m : Nat, m < k ∧ c % (k : Int) = (m : Int) := by
  have h1 : 0 ≤ c % (k : Int) := Int.emod_nonneg _ (by omega)
  have h2 : c % (k : Int) < (k : Int) := Int.emod_lt_of_pos _ (by omega)
  obtain ⟨m, e⟩ := Int.eq_ofNat_of_zero_le h1
  exact ⟨m, by omega, e⟩
theorem ex_ints {bs : List Int} {h : Int → Int} {m : Nat} (hb : bs.length ≤ m) : ∃ r : List Int, r.length ≤ m ∧ bs.map (fun x => T.int (h x)) = r.map T.int := ⟨bs.map h, by simpa using hb, by simp⟩
theorem ex_strs {bs : List Int} {h : Int → Str} {m : Nat} (hb : bs.length ≤ m) : ∃ r : List Str, r.length ≤ m ∧ bs.map (fun x => T.str (h x)) = r.map T.str := ⟨bs.map h, by simpa using hb, by simp⟩
theorem t_long (c : Int) (m : Nat) (a0 a1 a2 a3 a4 : Int) (hm : m ≤ 50) : ∃ bs : List Int, bs.length ≤ m ∧ ∃ s, F_law_long [.i (.int c), .i (.int m), .i (.lst [.int a0, .int a1, .int a2, .int a3, .int a4])] = some (.tup (bs.map .int), s) := by
  suffices h : Fp F_law_long [.i (.int c), .i (.int m), .i (.lst [.int a0, .int a1, .int a2, .int a3, .int a4])] (fun t _ => ∃ bs : List Int, bs.length ≤ m ∧ t = .tup (bs.map .int)) by
    obtain ⟨⟨t, s⟩, e, bs, h1, rfl⟩ := h
    exact ⟨bs, h1, s, e⟩
  refine fp_run ?_
  unfold m_law_long
  obtain ⟨n, hn, en⟩ := nn_mod (c := c) (k := m + 1) (by omega)
  have en : c % ((m : Int) + 1) = (n : Int) := by simpa using en
  obtain ⟨bs, hb, s, e⟩ := t_row (c / 31) n (by omega)
  have hp : 0 < (m : Int) + 1 := by omega
  have hl : n ≤ 1000000 := by omega
  have hk : ∀ x : Int, atI [T.int a0, .int a1, .int a2, .int a3, .int a4] (x % 5) = some (.int ([a0, a1, a2, a3, a4].getD (x % 5).toNat 0)) := fun x => atI_pick T.int [a0, a1, a2, a3, a4] 0 5 x rfl (by decide)
  walk_at "py"
  rw [lc_all (fun x => T.int ([a0, a1, a2, a3, a4].getD (x % 5).toNat 0))]
  · have hb2 : bs.length ≤ 1000000 := by omega
    walk_at "py"
    exact ex_ints (by omega)
  · walk_at "py"
  · intro x hx
    walk_at "py"
theorem t_pattern (c : Int) : ∃ bs : List Int, bs.length ≤ 5 ∧ ∃ s, F_law_pattern [.i (.int c)] = some (.tup (bs.map .int), s) := by
  suffices h : Fp F_law_pattern [.i (.int c)] (fun t _ => ∃ bs : List Int, bs.length ≤ 5 ∧ t = .tup (bs.map .int)) by
    obtain ⟨⟨t, s⟩, e, bs, h1, rfl⟩ := h
    exact ⟨bs, h1, s, e⟩
  refine fp_run ?_
  unfold m_law_pattern
  obtain ⟨n, hn, en⟩ := nn_mod (c := c) (k := 6) (by omega)
  have en : c % 6 = (n : Int) := by simpa using en
  obtain ⟨bs, hb, s, e⟩ := t_row (c / 6) n (by omega)
  have hl : n ≤ 1000000 := by omega
  have hk : ∀ x : Int, atI [T.int 97, .int 98, .int 42, .int 42, .int 46] (x % 5) = some (.int ([97, 98, 42, 42, 46].getD (x % 5).toNat 0)) := fun x => atI_pick T.int [97, 98, 42, 42, 46] 0 5 x rfl (by decide)
  walk_at "py"
  rw [lc_all (fun x => T.int ([97, 98, 42, 42, 46].getD (x % 5).toNat 0))]
  · have hb2 : bs.length ≤ 1000000 := by omega
    walk_at "py"
    exact ex_ints (by omega)
  · walk_at "py"
  · intro x hx
    walk_at "py"
/-- the terms of a policy -/
inductive BodyOk : T → Prop where
  | num (f sg : Str) (n : Int) (hf : f = "size" ∨ f = "pages" ∨ f = "acts" ∨ f = "depth") (hs : sg = "<" ∨ sg = "<=" ∨ sg = "=" ∨ sg = ">=" ∨ sg = ">") : BodyOk (.tup [.str f, .str sg, .int n])
  | is (x : Str) : BodyOk (.tup [.str "is", .str x])
  | could (x : Str) : BodyOk (.tup [.str "could", .str x])
  | act (x : Str) : BodyOk (.tup [.str "act", .str x])
  | name (bs : List Int) (h : bs.length ≤ 5) : BodyOk (.tup [.str "name", .tup (bs.map .int)])
theorem t_body (c : Int) (hc : 0 ≤ c) : ∃ b, BodyOk b ∧ ∃ s, F_law_body [.i (.int c)] = some (b, s) := by
  suffices h : Fp F_law_body [.i (.int c)] (fun t _ => BodyOk t) by
    obtain ⟨⟨t, s⟩, e, hb⟩ := h
    exact ⟨t, hb, s, e⟩
  refine fp_run ?_
  unfold m_law_body
  obtain ⟨n, hn, en⟩ := nn_mod (c := c) (k := 9) (by omega)
  have en : c % 9 = (n : Int) := by simpa using en
  generalize hq : c / 9 = q
  have k1 : ∀ x : Int, atI [T.int 2147483647, .int 100, .int 99, .int 0] (Builtin.bitAnd x 3) = some (.int ([2147483647, 100, 99, 0].getD (x % 4).toNat 0)) := fun x => by
    rw [bitAnd_m2]
    exact atI_pick T.int [2147483647, 100, 99, 0] 0 4 x rfl (by decide)
  have k2 : ∀ x : Int, atI [T.int 100, .int 8, .int 9, .int 4] (Builtin.bitAnd x 3) = some (.int ([100, 8, 9, 4].getD (x % 4).toNat 0)) := fun x => by
    rw [bitAnd_m2]
    exact atI_pick T.int [100, 8, 9, 4] 0 4 x rfl (by decide)
  obtain ⟨sg, hsg, k3⟩ : ∃ sg : Str, (sg = "<" ∨ sg = "<=" ∨ sg = "=" ∨ sg = ">=" ∨ sg = ">") ∧ atI [T.str "<", .str "<=", .str "=", .str ">=", .str ">"] (q % 5) = some (.str sg) := by
    obtain ⟨m, hm, em⟩ := nn_mod (c := q) (k := 5) (by omega)
    have em : q % 5 = (m : Int) := by simpa using em
    rw [em]
    have : m = 0 ∨ m = 1 ∨ m = 2 ∨ m = 3 ∨ m = 4 := by omega
    rcases this with rfl | rfl | rfl | rfl | rfl <;> exact ⟨_, by decide, rfl⟩
  have k5 : ∀ x : Int, atI [T.str "still", .str "picture", .str "film", .str "sheet", .str "folio", .str "crate", .str ""] (x % 7) = some (.str ((["still", "picture", "film", "sheet", "folio", "crate", ""] : List Str).getD (x % 7).toNat "")) := fun x => atI_pick T.str ["still", "picture", "film", "sheet", "folio", "crate", ""] "" 7 x rfl (by decide)
  have k6 : ∀ x : Int, atI [T.str "still", .str "picture", .str "film", .str "sheet", .str "folio", .str "crate"] (x % 6) = some (.str ((["still", "picture", "film", "sheet", "folio", "crate"] : List Str).getD (x % 6).toNat "")) := fun x => atI_pick T.str ["still", "picture", "film", "sheet", "folio", "crate"] "" 6 x rfl (by decide)
  have k7 : ∀ x : Int, atI [T.str "open", .str "file", .str "link", .str "form", .str "fetch", .str "script"] (x % 6) = some (.str ((["open", "file", "link", "form", "fetch", "script"] : List Str).getD (x % 6).toNat "")) := fun x => atI_pick T.str ["open", "file", "link", "form", "fetch", "script"] "" 6 x rfl (by decide)
  have e1 := t_kinds
  have e2 := t_acts
  obtain ⟨bs, hb, s, e⟩ := t_pattern q
  have hcat : ∀ xs ys : List T, gAdd (.lst xs) (.lst ys) = if xs.length + ys.length ≤ lim then some (.lst (xs ++ ys)) else none := fun xs ys => rfl
  by_cases h4 : n < 4
  · have h4' : (n : Int) < 4 := by omega
    obtain ⟨f, hf, k4⟩ : ∃ f : Str, (f = "size" ∨ f = "pages" ∨ f = "acts" ∨ f = "depth") ∧ atI [T.str "size", .str "pages", .str "acts", .str "depth"] (n : Int) = some (.str f) := by
      have : n = 0 ∨ n = 1 ∨ n = 2 ∨ n = 3 := by omega
      rcases this with rfl | rfl | rfl | rfl <;> exact ⟨_, by decide, rfl⟩
    walk_at "py"
    repeat' split
    all_goals exact .num f sg _ hf hsg
  · have h4' : ¬ (n : Int) < 4 := by omega
    walk_at "py"
    repeat' split
    · exact .is _
    · exact .could _
    · exact .act _
    · exact .name bs hb
theorem t_term (c : Int) (hc : 0 ≤ c) : ∃ neg b, BodyOk b ∧ ∃ s, F_law_term [.i (.int c)] = some (.tup [.bl neg, b], s) := by
  suffices h : Fp F_law_term [.i (.int c)] (fun t _ => ∃ neg b, BodyOk b ∧ t = .tup [.bl neg, b]) by
    obtain ⟨⟨t, s⟩, e, neg, b, hb, rfl⟩ := h
    exact ⟨neg, b, hb, s, e⟩
  refine fp_run ?_
  unfold m_law_term
  obtain ⟨b, hb, s, e⟩ := t_body (c / 3) (by omega)
  walk_at "py"
  exact (Classical.em _).symm
end Pu
set_option Elab.async false
set_option linter.all false
set_option maxRecDepth 100000
namespace Pu
open PySem PySem.Spec PyProof.Rows L2
local macro_rules | `(tactic| walk_at "py") => `(tactic| simp (decide := true) [*, wp_seq, wp_nx, wp_set, wp_setO, wp_ret, wp_if, wp_for, wpl_nil, sqQ_nx, sqQ_rt, loQ_nx, loQ_rt, setW_some, retW_some, ifW_some, forW_some, retQ, nxR_nx, mBinB, mBin, mO, mO2, peek, mCall, mArgB, mNil, nows, g1_one, g2_two, items, mArg, mC, okP, mVar, noP_0, noP_s, npb_u, npb_i, npb_o, goW_some, whW_some, slotsA, bIx, noDup, upE, mUn, gNeg, mTup, mLst, vals, lim, mTB_b, tbK_some, mVB, mAndT_b, andK_some, mOrT_b, orK_some, mNotT, mAndV, mOrV, mNotV, gNe, mDef, gN_b, mIf_b, ifK_some, mIt, mYes, gTupOf, gI_int, gIb_int, gIc_int, gAdd_int, gMul_int, gInt_int, gAbs_int, gEq_int, gEq_str, gEq_bl, gLen_lst, gLen_rl, gLen_tup, gIx_lst, gIx_rl, gIx_tup, cPos_t, cDiv_t, cNn_t, cMul_r, cMul_l, mRng1, wp_app, wp_sub, wp_asg, wp_dput, oW_some, mApp, mSub, mAsg, ownT, putT, isLst, mLc, wipeE_0, wipeE_1, ifW_ite, retW_ite, setW_ite, whW_ite, andK_ite, orK_ite, ifK_ite, omap_ite, tbK_ite])
/-- the facts of a text -/
def fT (name : List Int) (size : Int) (kind : Str) (kinds : List Str) (pages : Int) (acts : List Str) (depth : Int) : T := .tup [.tup (name.map .int), .int size, .str kind, .tup (kinds.map .str), .int pages, .tup (acts.map .str), .int depth]
theorem eqvAll_strs : ∀ xs ys : List Str, ∃ b, PyData.eqvAll (xs.map .str) (ys.map .str) = b
  | _, _ => ⟨_, rfl⟩
theorem lay_strs : ∀ {xs : List Str}, (∀ x ∈ xs, PyData.strOk x = true) → PyData.canLayAll0 (xs.map .str) = true
  | [], _ => rfl
  | x :: xs, h => by
    rw [List.map_cons, PyData.canLayAll0, PyData.canLay0, h x List.mem_cons_self, lay_strs fun y hy => h y (List.mem_cons_of_mem _ hy)]
    rfl
theorem dep_strs : ∀ xs : List Str, PyData.depthAll (xs.map .str) = 0
  | [] => rfl
  | x :: xs => by
    rw [List.map_cons, PyData.depthAll, PyData.depth, dep_strs xs]
    rfl
theorem shaped_strs {xs : List Str} (h : ∀ x ∈ xs, PyData.strOk x = true) : SeqAt.shaped (.list (xs.map .str)) = true := by
  unfold SeqAt.shaped
  rw [PyData.canLay0, lay_strs h, PyData.depth, dep_strs]
  rfl
theorem gEq_strs {xs ys : List Str} (h : ∀ x ∈ xs, PyData.strOk x = true) (h2 : ∀ x ∈ ys, PyData.strOk x = true) : ∃ b, gEq (.lst (xs.map .str)) (.lst (ys.map .str)) = some b := by
  refine ⟨PyData.eqv (.list (xs.map .str)) (.list (ys.map .str)), ?_⟩
  show gEqD (.lst (xs.map .str)) (.lst (ys.map .str)) = _
  unfold gEqD
  simp only [toP, toPs_str, Option.map_some]
  rw [shaped_strs h, shaped_strs h2]
  rfl
theorem t_facts (ns : List Int) : ∃ name size kind kinds pages acts depth, name.length ≤ 8 ∧ kinds.length ≤ 3 ∧ acts.length ≤ 4 ∧ ∃ s, F_law_facts [.i (.rl (ns.map .int)), .i (.int 0)] = some (fT name size kind kinds pages acts depth, s) := by
  suffices h : Fp F_law_facts [.i (.rl (ns.map .int)), .i (.int 0)] (fun t _ => ∃ name size kind kinds pages acts depth, name.length ≤ 8 ∧ kinds.length ≤ 3 ∧ acts.length ≤ 4 ∧ t = fT name size kind kinds pages acts depth) by
    obtain ⟨⟨t, s⟩, e, a1, a2, a3, a4, a5, a6, a7, h1, h2, h3, rfl⟩ := h
    exact ⟨a1, a2, a3, a4, a5, a6, a7, h1, h2, h3, s, e⟩
  refine fp_run ?_
  unfold m_law_facts
  have e0 := t_cell ns 0 (by omega)
  have e1 := t_cell ns 1 (by omega)
  have e2 := t_cell ns 2 (by omega)
  generalize ns.getD (0 : Int).toNat 0 = c0 at *
  generalize ns.getD (1 : Int).toNat 0 = c1 at *
  generalize ns.getD (2 : Int).toNat 0 = c2 at *
  have f1 := t_kinds
  have f2 := t_acts
  generalize hc : absI c0 = c
  have k0 : 0 ≤ c := hc ▸ absI_nn c0
  refine wp_cut (fun ρ => ρ = [.i (.rl (ns.map .int)), .i (.int 0), .i (.int c), .u, .u, .u, .u, .u, .u]) ?_ fun ρ1 h1 => ?_
  · walk_at "py"
  subst h1
  refine wp_cut (fun ρ => ρ = [.i (.rl (ns.map .int)), .i (.int 0), .i (.int c), .o (.lst []), .u, .u, .u, .u, .u]) ?_ fun ρ1 h1 => ?_
  · walk_at "py"
  subst h1
  refine wp_cut (fun ρ => ∃ ks : List Str, ks.length ≤ 1 ∧ (∀ x ∈ ks, PyData.strOk x = true) ∧ ρ = [.i (.rl (ns.map .int)), .i (.int 0), .i (.int c), .o (.lst (ks.map .str)), .u, .u, .u, .u, .u]) ?_ fun ρ1 h1 => ?_
  · by_cases h : 0 < c % 5
    · obtain ⟨m, hm, em⟩ := nn_mod (c := c) (k := 5) (by omega)
      have em : c % 5 = (m : Int) := by simpa using em
      obtain ⟨x, hx, e3⟩ : ∃ x : Str, PyData.strOk x = true ∧ atI [T.str "still", .str "picture", .str "film", .str "sheet", .str "folio", .str "crate"] ((m : Int) - 1) = some (.str x) := by
        have : m = 1 ∨ m = 2 ∨ m = 3 ∨ m = 4 := by omega
        rcases this with rfl | rfl | rfl | rfl <;> exact ⟨_, by decide +kernel, rfl⟩
      have hm0 : 0 < m := by omega
      walk_at "py"
      exact ⟨[x], by simp, by simpa using hx, rfl⟩
    · walk_at "py"
  obtain ⟨ks, l1, ok1, rfl⟩ := h1
  refine wp_cut (fun ρ => ∃ ks : List Str, ks.length ≤ 2 ∧ (∀ x ∈ ks, PyData.strOk x = true) ∧ ρ = [.i (.rl (ns.map .int)), .i (.int 0), .i (.int c), .o (.lst (ks.map .str)), .u, .u, .u, .u, .u]) ?_ fun ρ1 h1 => ?_
  · have l2 : ks.length < 1000000 := by omega
    walk_at "py"
    split
    · refine ⟨ks ++ [("folio" : Str)], by simp; omega, ?_, by simp⟩
      intro x hx
      rcases List.mem_append.mp hx with h | h
      · exact ok1 x h
      · rw [List.mem_singleton.mp h]
        decide +kernel
    · exact ⟨ks, by omega, ok1, rfl⟩
  clear l1 ok1
  obtain ⟨ks, l1, ok1, rfl⟩ := h1
  refine wp_cut (fun ρ => ∃ ks : List Str, ks.length ≤ 3 ∧ (∀ x ∈ ks, PyData.strOk x = true) ∧ ρ = [.i (.rl (ns.map .int)), .i (.int 0), .i (.int c), .o (.lst (ks.map .str)), .u, .u, .u, .u, .u]) ?_ fun ρ1 h1 => ?_
  · have l2 : ks.length < 1000000 := by omega
    walk_at "py"
    split
    · refine ⟨ks ++ [("crate" : Str)], by simp; omega, ?_, by simp⟩
      intro x hx
      rcases List.mem_append.mp hx with h | h
      · exact ok1 x h
      · rw [List.mem_singleton.mp h]
        decide +kernel
    · exact ⟨ks, by omega, ok1, rfl⟩
  clear l1 ok1
  obtain ⟨ks, l1, ok1, rfl⟩ := h1
  refine wp_cut (fun ρ => ρ = [.i (.rl (ns.map .int)), .i (.int 0), .i (.int c), .o (.lst (ks.map .str)), .i (.str ""), .u, .u, .u, .u]) ?_ fun ρ1 h1 => ?_
  · walk_at "py"
  subst h1
  refine wp_cut (fun ρ => ∃ x : Str, ρ = [.i (.rl (ns.map .int)), .i (.int 0), .i (.int c), .o (.lst (ks.map .str)), .i (.str x), .u, .u, .u, .u]) ?_ fun ρ1 h1 => ?_
  · cases ks with
    | nil => walk_at "py"
    | cons y ys =>
      have e4 : atI (T.str y :: ys.map T.str) 0 = some (.str y) := atI_nat (j := 0) rfl
      have e5 : (0 : Int) < (ys.length : Int) + 1 := by omega
      walk_at "py"
  obtain ⟨x, rfl⟩ := h1
  refine wp_cut (fun ρ => ∃ x : Str, ρ = [.i (.rl (ns.map .int)), .i (.int 0), .i (.int c), .o (.lst (ks.map .str)), .i (.str x), .u, .u, .u, .u]) ?_ fun ρ1 h1 => ?_
  · obtain ⟨b, eb⟩ := gEq_strs (ys := ["folio", "crate"]) ok1 (by decide +kernel)
    have eb : gEq (.lst (ks.map .str)) (.lst [.str "folio", .str "crate"]) = some b := eb
    walk_at "py"
    repeat' split
    all_goals exact ⟨_, rfl⟩
  obtain ⟨x, rfl⟩ := h1
  refine wp_cut (fun ρ => ∃ bs : List Int, bs.length ≤ 8 ∧ ρ = [.i (.rl (ns.map .int)), .i (.int 0), .i (.int c), .o (.lst (ks.map .str)), .i (.str x), .i (.tup (bs.map .int)), .u, .u, .u]) ?_ fun ρ1 h1 => ?_
  · obtain ⟨n, hn, en⟩ := nn_mod (c := c / 40) (k := 9) (by omega)
    have en : c / 40 % 9 = (n : Int) := by simpa using en
    obtain ⟨bs, hb, s, e⟩ := t_row c1 n (by omega)
    have hl : bs.length ≤ 1000000 := by omega
    have hl2 : n ≤ 1000000 := by omega
    have hk : ∀ x : Int, atI [T.int 97, .int 98, .int 42, .int 46, .int 99] (x % 5) = some (.int ([97, 98, 42, 46, 99].getD (x % 5).toNat 0)) := fun x => atI_pick T.int [97, 98, 42, 46, 99] 0 5 x rfl (by decide)
    walk_at "py"
    rw [lc_all (fun x => T.int ([97, 98, 42, 46, 99].getD (x % 5).toNat 0))]
    · walk_at "py"
      exact ex_ints (by omega)
    · walk_at "py"
    · intro x hx
      walk_at "py"
  obtain ⟨nm, hnm, rfl⟩ := h1
  refine wp_cut (fun ρ => ∃ bs : List Str, bs.length ≤ 4 ∧ ρ = [.i (.rl (ns.map .int)), .i (.int 0), .i (.int c), .o (.lst (ks.map .str)), .i (.str x), .i (.tup (nm.map .int)), .i (.tup (bs.map .str)), .u, .u]) ?_ fun ρ1 h1 => ?_
  · obtain ⟨n, hn, en⟩ := nn_mod (c := c / 360) (k := 5) (by omega)
    have en : c / 360 % 5 = (n : Int) := by simpa using en
    obtain ⟨bs, hb, s, e⟩ := t_row c2 n (by omega)
    have hl : bs.length ≤ 1000000 := by omega
    have hl2 : n ≤ 1000000 := by omega
    have hk : ∀ x : Int, atI [T.str "open", .str "file", .str "link", .str "form", .str "fetch", .str "script"] (x % 6) = some (.str ((["open", "file", "link", "form", "fetch", "script"] : List Str).getD (x % 6).toNat "")) := fun x => atI_pick T.str ["open", "file", "link", "form", "fetch", "script"] "" 6 x rfl (by decide)
    walk_at "py"
    rw [lc_all (fun x => T.str ((["open", "file", "link", "form", "fetch", "script"] : List Str).getD (x % 6).toNat ""))]
    · walk_at "py"
      exact ex_strs (by omega)
    · walk_at "py"
    · intro x hx
      walk_at "py"
  obtain ⟨as, has, rfl⟩ := h1
  refine wp_cut (fun ρ => ∃ z : Int, ρ = [.i (.rl (ns.map .int)), .i (.int 0), .i (.int c), .o (.lst (ks.map .str)), .i (.str x), .i (.tup (nm.map .int)), .i (.tup (as.map .str)), .i (.int z), .u]) ?_ fun ρ1 h1 => ?_
  · have hk : ∀ x y : Int, atI [T.int x, .int 2147483647, .int y] (c / 21600 % 3) = some (.int ([x, 2147483647, y].getD (c / 21600 % 3).toNat 0)) := fun x y => atI_pick T.int [x, 2147483647, y] 0 3 (c / 21600) rfl (by decide)
    walk_at "py"
  obtain ⟨z, rfl⟩ := h1
  have l2 : ks.length ≤ 1000000 := by omega
  walk_at "py"
  exact ⟨nm, hnm, z, x, ks, l1, _, as, has, _, rfl⟩
end Pu
set_option Elab.async false
set_option linter.all false
set_option maxRecDepth 100000
namespace Pu
open PySem PySem.Spec PyProof.Rows L2
local macro_rules | `(tactic| walk_at "py") => `(tactic| simp (decide := true) [*, wp_seq, wp_nx, wp_set, wp_setO, wp_ret, wp_if, wp_for, wpl_nil, sqQ_nx, sqQ_rt, loQ_nx, loQ_rt, setW_some, retW_some, ifW_some, forW_some, retQ, nxR_nx, mBinB, mBin, mO, mO2, peek, mCall, mArgB, mNil, nows, g1_one, g2_two, items, mArg, mC, okP, mVar, noP_0, noP_s, npb_u, npb_i, npb_o, goW_some, whW_some, slotsA, bIx, noDup, upE, mUn, gNeg, mTup, mLst, vals, lim, mTB_b, tbK_some, mVB, mAndT_b, andK_some, mOrT_b, orK_some, mNotT, mAndV, mOrV, mNotV, gNe, mDef, gN_b, mIf_b, ifK_some, mIt, mYes, gTupOf, gI_int, gIb_int, gIc_int, gAdd_int, gMul_int, gInt_int, gAbs_int, gEq_int, gEq_str, gEq_bl, gLen_lst, gLen_rl, gLen_tup, gIx_lst, gIx_rl, gIx_tup, cPos_t, cDiv_t, cNn_t, cMul_r, cMul_l, mRng1, wp_app, wp_sub, wp_asg, wp_dput, oW_some, mApp, mSub, mAsg, ownT, putT, isLst, mLc, wipeE_0, wipeE_1, ifW_ite, retW_ite, setW_ite, whW_ite, andK_ite, orK_ite, ifK_ite, omap_ite, tbK_ite])
/-- the first j of the pattern take the first k of the name -/
def MM (pat name : List Int) : Nat → Nat → Bool
  | 0, k => k == 0
  | j + 1, 0 => decide (pat[j]? = some 42) && MM pat name j 0
  | j + 1, k + 1 => if pat[j]? = some 42 then MM pat name (j + 1) k || MM pat name j (k + 1) else MM pat name j k && decide (name[k]? = pat[j]?)
  termination_by j k => (j, k)
theorem MM_0 (pat name : List Int) (k : Nat) : MM pat name 0 k = (k == 0) := by rw [MM]
theorem MM_s0 (pat name : List Int) (j : Nat) : MM pat name (j + 1) 0 = (decide (pat[j]? = some 42) && MM pat name j 0) := by rw [MM]
theorem MM_ss (pat name : List Int) (j k : Nat) : MM pat name (j + 1) (k + 1) = if pat[j]? = some 42 then MM pat name (j + 1) k || MM pat name j (k + 1) else MM pat name j k && decide (name[k]? = pat[j]?) := by rw [MM]
/-! rows of bools -/
def bL (n : Nat) (P : Nat → Bool) : List T := (List.range n).map fun i => T.bl (P i)
theorem bL_len {n : Nat} {P : Nat → Bool} : (bL n P).length = n := by simp [bL]
theorem bL_get {n i : Nat} {P : Nat → Bool} (h : i < n) : (bL n P)[i]? = some (.bl (P i)) := by simp [bL, h]
theorem bL_at {n i : Nat} {P : Nat → Bool} (h : i < n) : atI (bL n P) (i : Int) = some (.bl (P i)) := atI_nat (bL_get h)
theorem bL_congr {n : Nat} {P P' : Nat → Bool} (h : ∀ i, i < n → P i = P' i) : bL n P = bL n P' := by
  apply List.ext_getElem?
  intro i
  by_cases c : i < n
  · rw [bL_get c, bL_get c, h i c]
  · rw [List.getElem?_eq_none (by rw [bL_len]; omega), List.getElem?_eq_none (by rw [bL_len]; omega)]
theorem bL_set {n k : Nat} {P : Nat → Bool} {b : Bool} : (bL n P).set k (.bl b) = bL n fun i => if i = k then b else P i := by
  apply List.ext_getElem?
  intro i
  by_cases c : i < n
  · rw [bL_get c, List.getElem?_set]
    by_cases e : k = i
    · subst e
      simp [bL_len, c]
    · rw [if_neg e, bL_get c, if_neg (fun z => e z.symm)]
  · rw [List.getElem?_eq_none (by rw [List.length_set, bL_len]; omega), List.getElem?_eq_none (by rw [bL_len]; omega)]
theorem bL_rep (n : Nat) : (List.replicate n [T.bl false]).flatten = bL n fun _ => false := by
  induction n with
  | zero => rfl
  | succ n ih =>
    rw [List.replicate_succ', List.flatten_append, ih]
    unfold bL
    rw [List.range_succ, List.map_append]
    rfl
theorem ixN_nat {n k : Nat} (h : k < n) : ixN n (k : Int) = some k := by
  unfold ixN
  rw [if_pos (by omega), if_pos (by omega)]
  simp
def opM (pat name : List Int) (j : Nat) : Nat → Bool
  | 0 => false
  | k + 1 => MM pat name (j + 1) k
theorem opM_or {pat name : List Int} {j : Nat} (k : Nat) (st : pat[j]? = some 42) : (opM pat name j k || MM pat name j k) = MM pat name (j + 1) k := by
  cases k with
  | zero => rw [MM_s0]; simp [st, opM]
  | succ k => rw [MM_ss, if_pos st]; rfl
theorem t_law_match (pat name : List Int) (hn : name.length ≤ 60) : ∃ s, F_law_match [.i (.tup (pat.map .int)), .i (.tup (name.map .int))] = some (.bl (MM pat name pat.length name.length), s) := by
  suffices h : Fp F_law_match [.i (.tup (pat.map .int)), .i (.tup (name.map .int))] (fun t _ => t = .bl (MM pat name pat.length name.length)) by
    obtain ⟨⟨t, s⟩, e, rfl⟩ := h
    exact ⟨s, e⟩
  refine fp_run ?_
  unfold m_law_match
  generalize hN : name.length = n at *
  have htn : ((n : Int) + 1).toNat = n + 1 := by omega
  have hc : -(2 ^ 63) ≤ ((n : Int) + 1) ∧ ((n : Int) + 1) < 2 ^ 63 ∧ [T.bl false].length * ((n : Int) + 1).toNat ≤ lim := by
    refine ⟨by omega, by omega, ?_⟩
    have : lim = 1000000 := rfl
    rw [this, htn, List.length_singleton]
    omega
  have hrep2 : gRep (.lst [.bl false]) (.int ((n : Int) + 1)) = some (.lst (bL (n + 1) fun _ => false)) := by
    unfold gRep
    simp only [hc, and_self, if_true]
    rw [htn, bL_rep]
  have hx0 : ixN (n + 1) 0 = some 0 := ixN_nat (k := 0) (by omega)
  have hlen := @bL_len
  have hs1 : small62 ((n : Int) + 1) = true := small62_t (by omega) (by omega)
  have hs2 : small62 (n : Int) = true := small62_t (by omega) (by omega)
  walk_at "py"
  refine wpl_map pat (fun j ρ => ∃ s2 s3 s4 s5 s6, (s2 = .o (.lst (bL (n + 1) (MM pat name j))) ∨ s2 = .i (.lst (bL (n + 1) (MM pat name j)))) ∧ npb s3 = true ∧ npb s4 = true ∧ npb s5 = true ∧ npb s6 = true ∧ ρ = [.i (.tup (pat.map .int)), .i (.tup (name.map .int)), s2, s3, s4, s5, s6]) ?_ ?_ ?_
  · rintro j x ρ hx ⟨s2, s3, s4, s5, s6, h2, h3, h4, h5, h6, rfl⟩
    have hbs : ∀ (P : Nat → Bool) (k : Nat) (b : Bool), (bL (n + 1) P).set k (.bl b) = bL (n + 1) fun i => if i = k then b else P i := fun P k b => bL_set
    have fin : ∀ (s2 s3 s5 s6 : Sl) (P : Nat → Bool), (∀ i, i < n + 1 → P i = MM pat name (j + 1) i) → npb s2 = true → npb s3 = true → npb s5 = true → npb s6 = true → ∀ Q : Out → Prop, (∀ s2 s3 s4 s5 s6, (s2 = .o (.lst (bL (n + 1) (MM pat name (j + 1)))) ∨ s2 = .i (.lst (bL (n + 1) (MM pat name (j + 1))))) → npb s3 = true → npb s4 = true → npb s5 = true → npb s6 = true → Q (.nx [.i (.tup (pat.map .int)), .i (.tup (name.map .int)), s2, s3, s4, s5, s6])) →
        Wp (mSet 2 (mVar 4)) [.i (.tup (pat.map .int)), .i (.tup (name.map .int)), s2, s3, .o (.lst (bL (n + 1) P)), s5, s6] Q := by
      intro s2 s3 s5 s6 P hP h2 h3 h5 h6 Q k
      rw [bL_congr hP]
      have k := k (.i (.lst (bL (n + 1) (MM pat name (j + 1))))) s3 (.i (.lst (bL (n + 1) (MM pat name (j + 1))))) s5 s6 (.inr rfl) h3 rfl h5 h6
      walk_at "py"
    have q2 : npb s2 = true := by rcases h2 with rfl | rfl <;> rfl
    by_cases hst : x = 42
    · have st : pat[j]? = some 42 := by rw [hx, hst]
      walk_at "py"
      refine wpl_upTo 0 (n + 1) (fun k ρ => ∃ s6, npb s6 = true ∧ ρ = [.i (.tup (pat.map .int)), .i (.tup (name.map .int)), s2, .i (.int 42), .o (.lst (bL (n + 1) fun i => decide (i < k) && MM pat name (j + 1) i)), .i (.bl (opM pat name j k)), s6]) ?_ ?_ ?_
      · rintro k ρ hk ⟨s6, h6, rfl⟩
        have a1 : atI (bL (n + 1) (MM pat name j)) (k : Int) = some (.bl (MM pat name j k)) := bL_at hk
        have a2 : ixN (n + 1) (k : Int) = some k := ixN_nat hk
        have a3 : (bL (n + 1) fun i => if i = k then MM pat name (j + 1) k else decide (i < k) && MM pat name (j + 1) i) = bL (n + 1) fun i => decide (i < k + 1) && MM pat name (j + 1) i := by
          refine bL_congr fun i hi => ?_
          by_cases c : i = k
          · subst c
            simp
          · have : decide (i < k + 1) = decide (i < k) := eq_dec (by omega)
            simp [c, this]
        have a4 := opM_or (name := name) k st
        have a5 : opM pat name j (k + 1) = MM pat name (j + 1) k := rfl
        generalize opM pat name j k = o at *
        rcases h2 with rfl | rfl
        all_goals cases o
        all_goals simp only [Bool.false_or, Bool.true_or] at a4
        all_goals walk_at "py"
        all_goals refine ⟨.i (.int k), rfl, ?_, rfl⟩
        all_goals exact a3
      · rintro ρ ⟨s6, h6, rfl⟩
        refine fin _ _ _ _ _ (fun i hi => ?_) q2 rfl rfl h6 _ ?_
        · simp [hi]
        · intro s2 s3 s4 s5 s6 h2 h3 h4 h5 h6
          rcases h2 with rfl | rfl
          · walk_at "py"
            exact ⟨_, h3, _, h4, _, h5, _, h6, rfl, rfl, rfl, rfl⟩
          · walk_at "py"
            exact ⟨_, h3, _, h4, _, h5, _, h6, rfl, rfl, rfl, rfl⟩
      · exact ⟨s6, h6, rfl⟩
    · have st : ¬ pat[j]? = some 42 := by
        rw [hx]
        simpa using hst
      walk_at "py"
      refine wpl_upTo 0 n (fun k ρ => ∃ s6, npb s6 = true ∧ ρ = [.i (.tup (pat.map .int)), .i (.tup (name.map .int)), s2, .i (.int x), .o (.lst (bL (n + 1) fun i => decide (i ≤ k) && MM pat name (j + 1) i)), s5, s6]) ?_ ?_ ?_
      · rintro k ρ hk ⟨s6, h6, rfl⟩
        have hk2 : k < name.length := by omega
        have a1 : atI (bL (n + 1) (MM pat name j)) (k : Int) = some (.bl (MM pat name j k)) := bL_at (by omega)
        have a0 : atI (name.map T.int) (k : Int) = some (.int name[k]) := atI_nat (by simp [hk2])
        have a2 : ixN (n + 1) ((k : Int) + 1) = some (k + 1) := ixN_nat (k := k + 1) (by omega)
        have a4 : MM pat name (j + 1) (k + 1) = (MM pat name j k && decide (name[k] = x)) := by
          rw [MM_ss, if_neg st, hx, List.getElem?_eq_getElem hk2]
          simp
        have a3 : (bL (n + 1) fun i => if i = k + 1 then MM pat name (j + 1) (k + 1) else decide (i ≤ k) && MM pat name (j + 1) i) = bL (n + 1) fun i => decide (i ≤ k + 1) && MM pat name (j + 1) i := by
          refine bL_congr fun i hi => ?_
          by_cases c : i = k + 1
          · subst c
            simp
          · have : decide (i ≤ k + 1) = decide (i ≤ k) := eq_dec (by omega)
            simp [c, this]
        rw [a4] at a3
        generalize name[k] = y at *
        generalize MM pat name j k = o at *
        rcases h2 with rfl | rfl
        all_goals cases o
        all_goals simp only [Bool.false_and, Bool.true_and] at a3
        all_goals walk_at "py"
        all_goals simpa using a3
      · rintro ρ ⟨s6, h6, rfl⟩
        refine fin _ _ _ _ _ (fun i hi => ?_) q2 rfl h5 h6 _ ?_
        · have : i ≤ n := by omega
          simp [this]
        · intro s2 s3 s4 s5 s6 h2 h3 h4 h5 h6
          rcases h2 with rfl | rfl
          · walk_at "py"
            exact ⟨_, h3, _, h4, _, h5, _, h6, rfl, rfl, rfl, rfl⟩
          · walk_at "py"
            exact ⟨_, h3, _, h4, _, h5, _, h6, rfl, rfl, rfl, rfl⟩
      · refine ⟨s6, h6, ?_⟩
        have : (bL (n + 1) fun i => decide (i ≤ 0) && MM pat name (j + 1) i) = bL (n + 1) fun _ => false := by
          refine bL_congr fun i hi => ?_
          cases i with
          | zero => rw [MM_s0]; simp [st]
          | succ i => simp
        rw [this]
  · rintro ρ ⟨s2, s3, s4, s5, s6, h2, h3, h4, h5, h6, rfl⟩
    have e : atI (bL (n + 1) (MM pat name pat.length)) (n : Int) = some (.bl (MM pat name pat.length n)) := bL_at (by omega)
    rcases h2 with rfl | rfl <;> walk_at "py"
  · have e : (bL (n + 1) fun _ => false).set 0 (.bl true) = bL (n + 1) (MM pat name 0) := by
      rw [bL_set]
      refine bL_congr fun i hi => ?_
      rw [MM_0]
      cases i <;> rfl
    rw [e]
    exact ⟨_, .u, .u, .u, .u, .inl rfl, rfl, rfl, rfl, rfl, rfl⟩
end Pu
set_option Elab.async false
set_option linter.all false
set_option maxRecDepth 100000
namespace Pu
open PySem PySem.Spec PyProof.Rows L2
local macro_rules | `(tactic| walk_at "py") => `(tactic| simp (decide := true) [*, wp_seq, wp_nx, wp_set, wp_setO, wp_ret, wp_if, wp_for, wpl_nil, sqQ_nx, sqQ_rt, loQ_nx, loQ_rt, setW_some, retW_some, ifW_some, forW_some, retQ, nxR_nx, mBinB, mBin, mO, mO2, peek, mCall, mArgB, mNil, nows, g1_one, g2_two, items, mArg, mC, okP, mVar, noP_0, noP_s, npb_u, npb_i, npb_o, goW_some, whW_some, slotsA, bIx, noDup, upE, mUn, gNeg, mTup, mLst, vals, lim, mTB_b, tbK_some, mVB, mAndT_b, andK_some, mOrT_b, orK_some, mNotT, mAndV, mOrV, mNotV, gNe, mDef, gN_b, mIf_b, ifK_some, mIt, mYes, gTupOf, gI_int, gIb_int, gIc_int, gAdd_int, gMul_int, gInt_int, gAbs_int, gEq_int, gEq_str, gEq_bl, gLen_lst, gLen_rl, gLen_tup, gIx_lst, gIx_rl, gIx_tup, cPos_t, cDiv_t, cNn_t, cMul_r, cMul_l, mRng1, wp_app, wp_sub, wp_asg, wp_dput, oW_some, mApp, mSub, mAsg, ownT, putT, isLst, mLc, wipeE_0, wipeE_1, ifW_ite, retW_ite, setW_ite, whW_ite, andK_ite, orK_ite, ifK_ite, omap_ite, tbK_ite])
/-! the places of the other road -/
def Rch (pat : List Int) (p j : Nat) : Prop := p ≤ j ∧ ∀ i, p ≤ i → i < j → pat[i]? = some 42
theorem rch_self (pat : List Int) (p : Nat) : Rch pat p p := ⟨Nat.le_refl _, fun i h1 h2 => by omega⟩
theorem rch_s (pat : List Int) (p j : Nat) : Rch pat p (j + 1) ↔ p = j + 1 ∨ (Rch pat p j ∧ pat[j]? = some 42) := by
  constructor
  · rintro ⟨h1, h2⟩
    by_cases c : p = j + 1
    · exact .inl c
    · exact .inr ⟨⟨by omega, fun i a b => h2 i a (by omega)⟩, h2 j (by omega) (by omega)⟩
  · rintro (rfl | ⟨⟨h1, h2⟩, h3⟩)
    · exact rch_self _ _
    · refine ⟨by omega, fun i a b => ?_⟩
      by_cases c : i = j
      · subst c; exact h3
      · exact h2 i a (by omega)
theorem rch_0 (pat : List Int) (p : Nat) : Rch pat p 0 ↔ p = 0 := ⟨fun h => by have := h.1; omega, fun h => h ▸ rch_self _ _⟩
def NN (pat name : List Int) (j k : Nat) : Bool := if pat[j]? = some 42 then MM pat name (j + 1) k else MM pat name j k
theorem cl_0 (pat name : List Int) : ∀ j, Rch pat 0 j ↔ j ≤ pat.length ∧ NN pat name j 0 = true
  | 0 => by
    rw [rch_0]
    unfold NN
    rw [MM_s0, MM_0]
    split <;> simp [*]
  | j + 1 => by
    rw [rch_s, cl_0 pat name j]
    have e : NN pat name (j + 1) 0 = MM pat name (j + 1) 0 := by
      unfold NN
      split
      · rw [MM_s0]; simp [*]
      · rfl
    rw [e, MM_s0]
    have e2 : pat[j]? = some 42 → NN pat name j 0 = MM pat name j 0 := fun h => by
      unfold NN
      rw [if_pos h, MM_s0]
      simp [h]
    constructor
    · rintro (h | ⟨⟨h1, h2⟩, h3⟩)
      · omega
      · have := (List.getElem?_eq_some_iff.mp h3).1
        rw [e2 h3] at h2
        exact ⟨by omega, by simp [h2, h3]⟩
    · rintro ⟨h1, h2⟩
      rw [Bool.and_eq_true] at h2
      have h3 := of_decide_eq_true h2.1
      exact .inr ⟨⟨by omega, by rw [e2 h3]; exact h2.2⟩, h3⟩
theorem cl_s (pat name : List Int) (k : Nat) (y : Int) (hy : name[k]? = some y) (ps rs : List Nat) (hp : ∀ j, j ∈ ps ↔ j ≤ pat.length ∧ NN pat name j k = true)
    (hr : ∀ r, r ∈ rs ↔ (r ∈ ps ∧ pat[r]? = some 42) ∨ ∃ p, p ∈ ps ∧ r = p + 1 ∧ ¬ pat[p]? = some 42 ∧ pat[p]? = some y) :
    ∀ j, (∃ r, r ∈ rs ∧ Rch pat r j) ↔ j ≤ pat.length ∧ NN pat name j (k + 1) = true
  | 0 => by
    have e : (∃ r, r ∈ rs ∧ Rch pat r 0) ↔ 0 ∈ rs := ⟨fun ⟨r, h, q⟩ => (rch_0 _ _).mp q ▸ h, fun h => ⟨0, h, rch_self _ _⟩⟩
    rw [e, hr, hp]
    unfold NN
    by_cases c : pat[0]? = some 42
    · rw [if_pos c, if_pos c, MM_ss, if_pos c]
      simp [MM_0, c]
    · rw [if_neg c, if_neg c]
      simp [MM_0, c]
  | j + 1 => by
    have ih := cl_s pat name k y hy ps rs hp hr j
    have e : (∃ r, r ∈ rs ∧ Rch pat r (j + 1)) ↔ j + 1 ∈ rs ∨ ((∃ r, r ∈ rs ∧ Rch pat r j) ∧ pat[j]? = some 42) := by
      constructor
      · rintro ⟨r, h, q⟩
        rcases (rch_s _ _ _).mp q with rfl | ⟨q1, q2⟩
        · exact .inl h
        · exact .inr ⟨⟨r, h, q1⟩, q2⟩
      · rintro (h | ⟨⟨r, h, q1⟩, q2⟩)
        · exact ⟨_, h, rch_self _ _⟩
        · exact ⟨r, h, (rch_s _ _ _).mpr (.inr ⟨q1, q2⟩)⟩
    rw [e, ih, hr, hp]
    have hA : MM pat name (j + 1) (k + 1) = if pat[j]? = some 42 then NN pat name j (k + 1) else (NN pat name j k && decide (some y = pat[j]?)) := by
      by_cases c : pat[j]? = some 42
      · rw [if_pos c]
        unfold NN
        rw [if_pos c]
      · rw [if_neg c, MM_ss, if_neg c, hy]
        unfold NN
        rw [if_neg c]
    have hB : NN pat name (j + 1) (k + 1) = if pat[j + 1]? = some 42 then (NN pat name (j + 1) k || MM pat name (j + 1) (k + 1)) else MM pat name (j + 1) (k + 1) := by
      by_cases c : pat[j + 1]? = some 42
      · rw [if_pos c]
        unfold NN
        rw [if_pos c, if_pos c, MM_ss, if_pos c]
      · rw [if_neg c]
        unfold NN
        rw [if_neg c]
    rw [hB, hA]
    have l1 : pat[j]? = some 42 → j + 1 ≤ pat.length := fun h => by have := (List.getElem?_eq_some_iff.mp h).1; omega
    have l2 : pat[j]? = some y → j + 1 ≤ pat.length := fun h => by have := (List.getElem?_eq_some_iff.mp h).1; omega
    have l3 : pat[j + 1]? = some 42 → j + 1 ≤ pat.length := fun h => by have := (List.getElem?_eq_some_iff.mp h).1; omega
    have e2 : (∃ p, p ∈ ps ∧ j + 1 = p + 1 ∧ ¬ pat[p]? = some 42 ∧ pat[p]? = some y) ↔ (j ≤ pat.length ∧ NN pat name j k = true) ∧ ¬ pat[j]? = some 42 ∧ pat[j]? = some y := by
      constructor
      · rintro ⟨p, h1, h2, h3⟩
        have : j = p := by omega
        subst this
        exact ⟨(hp _).mp h1, h3⟩
      · rintro ⟨h1, h2⟩
        exact ⟨j, (hp _).mpr h1, rfl, h2⟩
    rw [e2]
    have sy : (some y = pat[j]?) ↔ pat[j]? = some y := ⟨Eq.symm, Eq.symm⟩
    by_cases c1 : pat[j]? = some 42 <;> by_cases c2 : pat[j + 1]? = some 42 <;> by_cases c3 : pat[j]? = some y
    all_goals simp only [c1, c2, c3, sy, if_true, if_false, Bool.or_eq_true, Bool.and_eq_true, decide_eq_true_eq, not_true, not_false_eq_true, and_true, true_and, and_false, false_and, or_false, false_or]
    all_goals grind
end Pu
set_option Elab.async false
set_option linter.all false
set_option maxRecDepth 100000
namespace Pu
open PySem PySem.Spec PyProof.Rows L2
local macro_rules | `(tactic| walk_at "py") => `(tactic| simp (decide := true) [*, wp_seq, wp_nx, wp_set, wp_setO, wp_ret, wp_if, wp_for, wpl_nil, sqQ_nx, sqQ_rt, loQ_nx, loQ_rt, setW_some, retW_some, ifW_some, forW_some, retQ, nxR_nx, mBinB, mBin, mO, mO2, peek, mCall, mArgB, mNil, nows, g1_one, g2_two, items, mArg, mC, okP, mVar, noP_0, noP_s, npb_u, npb_i, npb_o, goW_some, whW_some, slotsA, bIx, noDup, upE, mUn, gNeg, mTup, mLst, vals, lim, mTB_b, tbK_some, mVB, mAndT_b, andK_some, mOrT_b, orK_some, mNotT, mAndV, mOrV, mNotV, gNe, mDef, gN_b, mIf_b, ifK_some, mIt, mYes, gTupOf, gI_int, gIb_int, gIc_int, gAdd_int, gMul_int, gInt_int, gAbs_int, gEq_int, gEq_str, gEq_bl, gLen_lst, gLen_rl, gLen_tup, gIx_lst, gIx_rl, gIx_tup, cPos_t, cDiv_t, cNn_t, cMul_r, cMul_l, mRng1, wp_while, wp_app, wp_sub, wp_asg, wp_dput, oW_some, mApp, mSub, mAsg, ownT, putT, isLst, mLc, wipeE_0, wipeE_1, ifW_ite, retW_ite, setW_ite, whW_ite, andK_ite, orK_ite, ifK_ite, omap_ite, tbK_ite])
/-! a dict used as a set of numbers -/
def nT (i : Nat) : T := .int (i : Int)
def kN (i : Nat) : Key := .inl (i : Int)
def dT (l : List Nat) : T := .dk (l.map kN) (List.replicate l.length (.bl true))
def addN (l : List Nat) (j : Nat) : List Nat := if j ∈ l then l else l ++ [j]
theorem mem_addN {l : List Nat} {i j : Nat} : i ∈ addN l j ↔ i ∈ l ∨ i = j := by
  unfold addN
  split
  · constructor
    · exact .inl
    · rintro (h | rfl) <;> assumption
  · simp
theorem nodup_addN {l : List Nat} {j : Nat} (h : l.Nodup) : (addN l j).Nodup := by
  unfold addN
  split
  · exact h
  · rename_i c
    rw [List.nodup_append]
    refine ⟨h, by simp, fun a ha b hb => ?_⟩
    rw [List.mem_singleton.mp hb]
    rintro rfl
    exact c ha
theorem kN_inj {i j : Nat} : kN i = kN j ↔ i = j := by
  constructor
  · intro h
    injection h with h
    omega
  · rintro rfl; rfl
theorem put2_n (j : Nat) : ∀ l : List Nat, put2 (l.map kN) (List.replicate l.length (T.bl true)) (kN j) (.bl true) = ((addN l j).map kN, List.replicate (addN l j).length (T.bl true))
  | [] => rfl
  | i :: l => by
    rw [List.map_cons, List.length_cons, List.replicate_succ, put2]
    by_cases c : i = j
    · subst c
      rw [if_pos rfl]
      have : addN (i :: l) i = i :: l := by simp [addN]
      rw [this]
      rfl
    · rw [if_neg (fun h => c (kN_inj.mp h)), put2_n j l]
      have : addN (i :: l) j = i :: addN l j := by
        unfold addN
        by_cases d : j ∈ l
        · simp [d]
        · have : j ≠ i := fun h => c h.symm
          simp [d, this]
      rw [this]
      rfl
theorem nodupK_n : ∀ {l : List Nat}, l.Nodup → nodupK (l.map kN) = true
  | [], _ => rfl
  | i :: l, h => by
    rw [List.map_cons, nodupK, nodupK_n (List.nodup_cons.mp h).2, Bool.and_true]
    have : ((l.map kN).any fun j => decide (j = kN i)) = false := by
      rw [Bool.eq_false_iff]
      intro z
      obtain ⟨x, hx, e⟩ := List.any_eq_true.mp z
      obtain ⟨y, hy, rfl⟩ := List.mem_map.mp hx
      have := kN_inj.mp (of_decide_eq_true e)
      subst this
      exact (List.nodup_cons.mp h).1 hy
    rw [this]
    rfl
theorem dput_n {a b : Sl} {l : List Nat} {j : Nat} (h : l.Nodup) (hl : l.length < 1000000) : mDput 2 (mVar 3) (mC (.bl true)) [a, b, .o (dT l), .i (.int (j : Int))] = some (.nx [a, b, .o (dT (addN l j)), .i (.int (j : Int))]) := by
  have e := nodupK_n h
  have e2 := put2_n j l
  have e3 : (l.map kN).length = (List.replicate l.length (T.bl true)).length := by simp
  have e4 : keyT (.int (j : Int)) = some (kN j) := rfl
  simp [mDput, mC, mVar, ownT, dT, keyT, e, lim, hl, putT]
  rw [show (Sum.inl (j : Int) : Key) = kN j from rfl, e2]
  exact ⟨rfl, rfl⟩
theorem intKeys_n : ∀ l : List Nat, intKeys (l.map kN) = some (l.map fun i : Nat => (i : Int))
  | [] => rfl
  | i :: l => by
    rw [List.map_cons]
    show (intKeys (l.map kN)).map (fun is => (i : Int) :: is) = _
    rw [intKeys_n l]
    rfl
theorem sorted_n (l : List Nat) (h : l.length < 64) : ∃ r : List Nat, (∀ j, j ∈ r ↔ j ∈ l) ∧ r.length = l.length ∧ gSorted' [dT l] = some (.lst (r.map nT)) := by
  refine ⟨(isort (l.map fun i : Nat => (i : Int))).map Int.toNat, fun j => ?_, ?_, ?_⟩
  · have p := isort_perm (l.map fun i : Nat => (i : Int))
    constructor
    · intro hj
      obtain ⟨x, hx, rfl⟩ := List.mem_map.mp hj
      obtain ⟨y, hy, rfl⟩ := List.mem_map.mp (p.mem_iff.mp hx)
      simpa using hy
    · intro hj
      exact List.mem_map.mpr ⟨(j : Int), p.mem_iff.mpr (List.mem_map.mpr ⟨j, hj, rfl⟩), by simp⟩
  · rw [List.length_map, (isort_perm _).length_eq, List.length_map]
  · have e : gSorted' [dT l] = gSortedD (dT l) := rfl
    rw [e]
    show ((intKeys (l.map kN)).bind fun is => if is.length < 64 then some (T.lst ((isort is).map .int)) else none) = _
    rw [intKeys_n]
    simp only [Option.bind_some, List.length_map, h, if_true]
    congr 2
    apply List.ext_getElem?
    intro i
    rw [List.getElem?_map, List.getElem?_map, List.getElem?_map]
    cases hx : (isort (l.map fun i : Nat => (i : Int)))[i]? with
    | none => rfl
    | some x =>
      have hm := (isort_perm (l.map fun i : Nat => (i : Int))).mem_iff.mp (List.mem_of_getElem? hx)
      obtain ⟨y, hy, rfl⟩ := List.mem_map.mp hm
      rfl
theorem nodup_le : ∀ {n : Nat} {l : List Nat}, l.Nodup → (∀ j, j ∈ l → j < n) → l.length ≤ n
  | 0, [], _, _ => Nat.le_refl _
  | 0, i :: l, _, hb => absurd (hb i List.mem_cons_self) (by omega)
  | n + 1, l, h, hb => by
    have := nodup_le (n := n) (l := l.erase n) (h.erase n) fun j hj => by
      have h1 := (List.Nodup.mem_erase_iff h).mp hj
      have := hb j h1.2
      have := h1.1
      omega
    have e := List.length_erase (a := n) (l := l)
    split at e <;> omega
theorem t_opened (pat : List Int) (ps : List Nat) (t : T) (ht : items t = some (ps.map nT)) (hn : pat.length ≤ 60) (hp : ∀ p, p ∈ ps → p ≤ pat.length) : ∃ l : List Nat, (∀ j, j ∈ l ↔ ∃ p, p ∈ ps ∧ Rch pat p j) ∧ l.length ≤ pat.length + 1 ∧
    ∃ s, F_opened [.i (.tup (pat.map .int)), .i t] = some (.tup (l.map nT), s) := by
  suffices h : Fp F_opened [.i (.tup (pat.map .int)), .i t] (fun u _ => ∃ l : List Nat, (∀ j, j ∈ l ↔ ∃ p, p ∈ ps ∧ Rch pat p j) ∧ l.length ≤ pat.length + 1 ∧ u = .tup (l.map nT)) by
    obtain ⟨⟨u, s⟩, e, l, h1, h2, rfl⟩ := h
    exact ⟨l, h1, h2, s, e⟩
  refine fp_run ?_
  unfold m_opened
  have hd : ∀ ρ, mDnew ρ = some (dT [], ρ) := fun _ => rfl
  simp only [items] at ht
  have hln : nT = fun i : Nat => T.int (i : Int) := rfl
  generalize hN : pat.length = n at *
  walk_at "py"
  rw [← hln]
  refine wpl_map ps (fun k ρ => ∃ (l : List Nat) (s3 : Sl), npb s3 = true ∧ l.Nodup ∧ (∀ j, j ∈ l → j < n + 1) ∧ (∀ j, j ∈ l ↔ ∃ p, p ∈ ps.take k ∧ Rch pat p j) ∧ ρ = [.i (.tup (pat.map .int)), .i t, .o (dT l), s3]) ?_ ?_ ?_
  · rintro k p ρ hx ⟨l, s3, h3, hnd, hb, hm, rfl⟩
    have hpn := hp p (List.mem_of_getElem? hx)
    have e1 := dput_n (a := .i (.tup (pat.map .int))) (b := .i t) (j := p) hnd (by have := nodup_le hnd hb; omega)
    have e0 : nT p = .int (p : Int) := rfl
    walk_at "py"
    have hk : ∀ j, (∃ q, q ∈ ps.take (k + 1) ∧ Rch pat q j) ↔ (∃ q, q ∈ ps.take k ∧ Rch pat q j) ∨ Rch pat p j := by
      intro j
      rw [List.take_succ, hx]
      simp only [Option.toList_some, List.mem_append, List.mem_singleton]
      constructor
      · rintro ⟨q, h | rfl, h2⟩
        · exact .inl ⟨q, h, h2⟩
        · exact .inr h2
      · rintro (⟨q, h, h2⟩ | h2)
        · exact ⟨q, .inl h, h2⟩
        · exact ⟨p, .inr rfl, h2⟩
    refine wpw_inv (fun m ρ => ∃ (l : List Nat) (cur : Nat), cur ≤ n ∧ Rch pat p cur ∧ l.Nodup ∧ (∀ j, j ∈ l → j < n + 1) ∧ (∀ j, j ∈ l ↔ (∃ q, q ∈ ps.take k ∧ Rch pat q j) ∨ (p ≤ j ∧ j ≤ cur)) ∧ m = n - cur ∧ ρ = [.i (.tup (pat.map .int)), .i t, .o (dT l), .i (.int (cur : Int))]) ?_ (n - p) 1000000 _ (by omega) ?_
    · rintro m ρ ⟨l, cur, hc, hr, hnd, hb, hm, rfl, rfl⟩
      have stop : ¬ pat[cur]? = some 42 → ∀ j, j ∈ l ↔ ∃ q, q ∈ ps.take (k + 1) ∧ Rch pat q j := by
        intro hst j
        rw [hk, hm]
        constructor
        · rintro (h | ⟨h1, h2⟩)
          · exact .inl h
          · exact .inr ⟨h1, fun i a b => hr.2 i a (by omega)⟩
        · rintro (h | h)
          · exact .inl h
          · refine .inr ⟨h.1, ?_⟩
            by_cases c : j ≤ cur
            · exact c
            · exact absurd (h.2 cur hr.1 (by omega)) hst
      by_cases c : cur < n
      · have e : atI (pat.map T.int) (cur : Int) = some (.int (pat[cur]'(by omega))) := atI_nat (by simp [hN, c])
        by_cases st : pat[cur]'(by omega) = 42
        · have e2 := dput_n (a := .i (.tup (pat.map .int))) (b := .i t) (j := cur + 1) hnd (by have := nodup_le hnd hb; omega)
          have e3 : (((cur + 1 : Nat)) : Int) = (cur : Int) + 1 := rfl
          rw [e3] at e2
          walk_at "py"
          refine ⟨n - (cur + 1), by omega, addN l (cur + 1), cur + 1, by omega, (rch_s _ _ _).mpr (.inr ⟨hr, by simp [hN, c, st]⟩), nodup_addN hnd, ?_, ?_, rfl, rfl, rfl⟩
          · intro j hj
            rcases mem_addN.mp hj with h | rfl
            · exact hb j h
            · omega
          · intro j
            rw [mem_addN, hm]
            have := hr.1
            constructor
            · rintro ((h | h) | rfl)
              · exact .inl h
              · exact .inr ⟨h.1, by omega⟩
              · exact .inr ⟨by omega, by omega⟩
            · rintro (h | h)
              · exact .inl (.inl h)
              · by_cases d : j = cur + 1
                · exact .inr d
                · exact .inl (.inr ⟨h.1, by omega⟩)
        · have := stop (by simp [hN, c, st])
          walk_at "py"
          exact ⟨l, .i (.int (cur : Int)), rfl, hnd, hb, fun j => (this j).trans (hk j), rfl, rfl⟩
      · have := stop (by
          rw [List.getElem?_eq_none (by omega)]
          exact fun z => nomatch z)
        walk_at "py"
        exact ⟨l, .i (.int (cur : Int)), rfl, hnd, hb, fun j => (this j).trans (hk j), rfl, rfl⟩
    · refine ⟨addN l p, p, hpn, rch_self _ _, nodup_addN hnd, ?_, ?_, rfl, rfl⟩
      · intro j hj
        rcases mem_addN.mp hj with h | rfl
        · exact hb j h
        · omega
      · intro j
        rw [mem_addN, hm]
        constructor
        · rintro (h | rfl)
          · exact .inl h
          · exact .inr ⟨Nat.le_refl _, Nat.le_refl _⟩
        · rintro (h | h)
          · exact .inl h
          · exact .inr (by omega)
  · rintro ρ ⟨l, s3, h3, hnd, hb, hm, rfl⟩
    have hl := nodup_le hnd hb
    obtain ⟨r, h1, h2, h4⟩ := sorted_n l (by omega)
    have h5 : (l.length ≤ 1000000) := by omega
    walk_at "py"
    refine ⟨r, ?_, by omega, rfl⟩
    intro j
    rw [h1, hm, List.take_length]
  · exact ⟨[], .u, rfl, by simp, by simp, by simp, rfl⟩
theorem t_moved (pat name : List Int) (ps : List Nat) (k : Nat) (y : Int) (hy : name[k]? = some y) (hn : pat.length ≤ 60) (hp : ∀ j, j ∈ ps ↔ j ≤ pat.length ∧ NN pat name j k = true) (hl : ps.length ≤ 1000) : ∃ l : List Nat, (∀ j, j ∈ l ↔ j ≤ pat.length ∧ NN pat name j (k + 1) = true) ∧ l.length ≤ pat.length + 1 ∧
    ∃ s, F_moved [.i (.tup (pat.map .int)), .i (.tup (ps.map nT)), .i (.int y)] = some (.tup (l.map nT), s) := by
  suffices h : Fp F_moved [.i (.tup (pat.map .int)), .i (.tup (ps.map nT)), .i (.int y)] (fun u _ => ∃ l : List Nat, (∀ j, j ∈ l ↔ j ≤ pat.length ∧ NN pat name j (k + 1) = true) ∧ l.length ≤ pat.length + 1 ∧ u = .tup (l.map nT)) by
    obtain ⟨⟨u, s⟩, e, l, h1, h2, rfl⟩ := h
    exact ⟨l, h1, h2, s, e⟩
  refine fp_run ?_
  unfold m_moved
  have hpl : ∀ p, p ∈ ps → p ≤ pat.length := fun p h => ((hp p).mp h).1
  generalize hN : pat.length = n at *
  walk_at "py"
  refine wpl_map ps (fun i ρ => ∃ (rs : List Nat) (s4 : Sl), npb s4 = true ∧ rs.length ≤ i ∧ (∀ r, r ∈ rs ↔ (r ∈ ps.take i ∧ pat[r]? = some 42) ∨ ∃ p, p ∈ ps.take i ∧ r = p + 1 ∧ ¬ pat[p]? = some 42 ∧ pat[p]? = some y) ∧ ρ = [.i (.tup (pat.map .int)), .i (.tup (ps.map nT)), .i (.int y), .o (.lst (rs.map nT)), s4]) ?_ ?_ ?_
  · rintro i p ρ hx ⟨rs, s4, h4, hrl, hr, rfl⟩
    have hpn := hpl p (List.mem_of_getElem? hx)
    have hi := (List.getElem?_eq_some_iff.mp hx).1
    have e0 : nT p = .int (p : Int) := rfl
    have hlim : rs.length < 1000000 := by omega
    have hk : ∀ q, q ∈ ps.take (i + 1) ↔ q ∈ ps.take i ∨ q = p := by
      intro q
      rw [List.take_succ, hx]
      simp
    by_cases c : p < n
    · have e : atI (pat.map T.int) (p : Int) = some (.int (pat[p]'(by omega))) := atI_nat (by simp [hN, c])
      have hg : pat[p]? = some (pat[p]'(by omega)) := List.getElem?_eq_getElem (by omega)
      by_cases st : pat[p]'(by omega) = 42
      · walk_at "py"
        refine ⟨rs ++ [p], .i (.int (p : Int)), rfl, by simp; omega, ?_, by simp [nT], rfl⟩
        intro r
        rw [List.mem_append, List.mem_singleton, hr]
        grind
      · by_cases st2 : pat[p]'(by omega) = y
        · have hy2 : ¬ y = 42 := st2 ▸ st
          walk_at "py"
          refine ⟨rs ++ [p + 1], .i (.int (p : Int)), rfl, by simp; omega, ?_, by simp [nT], rfl⟩
          intro r
          rw [List.mem_append, List.mem_singleton, hr]
          grind
        · walk_at "py"
          refine ⟨rs, .i (.int (p : Int)), rfl, by omega, ?_, rfl, rfl⟩
          intro r
          rw [hr]
          grind
    · have hg : pat[p]? = none := List.getElem?_eq_none (by omega)
      walk_at "py"
      refine ⟨rs, .i (.int (p : Int)), rfl, by omega, ?_, rfl, rfl⟩
      intro r
      rw [hr]
      grind
  · rintro ρ ⟨rs, s4, h4, hrl, hr, rfl⟩
    have hr2 : ∀ r, r ∈ rs ↔ (r ∈ ps ∧ pat[r]? = some 42) ∨ ∃ p, p ∈ ps ∧ r = p + 1 ∧ ¬ pat[p]? = some 42 ∧ pat[p]? = some y := by
      intro r
      rw [hr, List.take_length]
    obtain ⟨l, h1, h2, s, e⟩ := t_opened pat rs (.lst (rs.map nT)) rfl (by omega) fun p h => by
      rcases (hr2 p).mp h with h | ⟨q, h1, rfl, h2, h3⟩
      · have := hpl p h.1; omega
      · have := (List.getElem?_eq_some_iff.mp h3).1
        omega
    have cl := cl_s pat name k y hy ps rs (by rw [hN]; exact hp) hr2
    rw [hN] at cl h2
    walk_at "py"
    exact ⟨l, fun j => (h1 j).trans (cl j), h2, rfl⟩
  · exact ⟨[], .u, rfl, by simp, by simp, by simp⟩
theorem t_matches (pat name : List Int) (hn : pat.length ≤ 60) : ∃ s, F_matches [.i (.tup (pat.map .int)), .i (.tup (name.map .int))] = some (.bl (MM pat name pat.length name.length), s) := by
  suffices h : Fp F_matches [.i (.tup (pat.map .int)), .i (.tup (name.map .int))] (fun u _ => u = .bl (MM pat name pat.length name.length)) by
    obtain ⟨⟨u, s⟩, e, rfl⟩ := h
    exact ⟨s, e⟩
  refine fp_run ?_
  unfold m_matches
  obtain ⟨l0, h1, h2, s, e⟩ := t_opened pat [0] (.tup [.int 0]) rfl hn (by simp)
  have hl : ∀ j, j ∈ l0 ↔ j ≤ pat.length ∧ NN pat name j 0 = true := by
    intro j
    rw [h1, ← cl_0 pat name j]
    simp
  walk_at "py"
  refine wpl_map name (fun k ρ => ∃ (l : List Nat) (s3 : Sl), npb s3 = true ∧ (∀ j, j ∈ l ↔ j ≤ pat.length ∧ NN pat name j k = true) ∧ l.length ≤ pat.length + 1 ∧ ρ = [.i (.tup (pat.map .int)), .i (.tup (name.map .int)), .i (.tup (l.map nT)), s3]) ?_ ?_ ?_
  · rintro k y ρ hx ⟨l, s3, h3, hl, hll, rfl⟩
    obtain ⟨r, h1, h2, s, e⟩ := t_moved pat name l k y hx hn hl (by omega)
    walk_at "py"
    exact ⟨r, .i (.int y), rfl, h1, h2, rfl, rfl⟩
  · rintro ρ ⟨l, s3, h3, hl, hll, rfl⟩
    have e2 : gIn false (.int (pat.length : Int)) (.tup (l.map nT)) = some (MM pat name pat.length name.length) := by
      have ha : (l.map nT).all flatT = true := by
        rw [List.all_map]
        exact List.all_eq_true.mpr fun _ _ => rfl
      have hi : inT (.int (pat.length : Int)) (l.map nT) = MM pat name pat.length name.length := by
        have h4 := hl pat.length
        have h5 : NN pat name pat.length name.length = MM pat name pat.length name.length := by
          unfold NN
          rw [if_neg]
          rw [List.getElem?_eq_none (Nat.le_refl _)]
          exact fun z => nomatch z
        rw [h5] at h4
        unfold inT
        rw [List.any_map]
        apply Bool.eq_iff_iff.mpr
        rw [List.any_eq_true]
        constructor
        · rintro ⟨x, hx, e⟩
          have e : ((x : Int) == (pat.length : Int)) = true := e
          have : x = pat.length := by
            have := eq_of_beq e
            omega
          subst this
          exact (h4.mp hx).2
        · intro h
          exact ⟨pat.length, h4.mpr ⟨Nat.le_refl _, h⟩, by simp [nT, eqT]⟩
      unfold gIn
      simp only [items, Option.bind_some, ha, flatT, Bool.and_self, if_true]
      rw [hi]
      rfl
    walk_at "py"
  · exact ⟨l0, .u, rfl, hl, h2, rfl⟩
end Pu
set_option Elab.async false
set_option linter.all false
set_option maxRecDepth 100000
namespace Pu
open PySem PySem.Spec PyProof.Rows L2
local macro_rules | `(tactic| walk_at "py") => `(tactic| simp (decide := true) [*, wp_seq, wp_nx, wp_set, wp_setO, wp_ret, wp_if, wp_for, wpl_nil, sqQ_nx, sqQ_rt, loQ_nx, loQ_rt, setW_some, retW_some, ifW_some, forW_some, retQ, nxR_nx, mBinB, mBin, mO, mO2, peek, mCall, mArgB, mNil, nows, g1_one, g2_two, items, mArg, mC, okP, mVar, noP_0, noP_s, npb_u, npb_i, npb_o, goW_some, whW_some, slotsA, bIx, noDup, upE, mUn, gNeg, mTup, mLst, vals, lim, mTB_b, tbK_some, mVB, mAndT_b, andK_some, mOrT_b, orK_some, mNotT, mAndV, mOrV, mNotV, gNe, mDef, gN_b, mIf_b, ifK_some, mIt, mYes, gTupOf, gI_int, gIb_int, gIc_int, gAdd_int, gMul_int, gInt_int, gAbs_int, gEq_int, gEq_str, gEq_bl, gLen_lst, gLen_rl, gLen_tup, gIx_lst, gIx_rl, gIx_tup, cPos_t, cDiv_t, cNn_t, cMul_r, cMul_l, mRng1, wp_while, wp_app, wp_sub, wp_asg, wp_dput, oW_some, mApp, mSub, mAsg, ownT, putT, isLst, mLc, wipeE_0, wipeE_1, ifW_ite, retW_ite, setW_ite, whW_ite, andK_ite, orK_ite, ifK_ite, omap_ite, tbK_ite, gT, gsCons, gsNil, mDisp, mDcons, mDnil, gDix, keyT, look, mEnum, atI_0, atI_1, atI_2, atI_3, atI_4, atI_5, atI_6, atI_7])
theorem c_lt : gIx (.str "<") (.int 0) = some (.str "<") := by rfl
theorem c_le : gIx (.str "<=") (.int 0) = some (.str "<") := by rfl
theorem c_gt : gIx (.str ">") (.int 0) = some (.str ">") := by rfl
theorem c_ge : gIx (.str ">=") (.int 0) = some (.str ">") := by rfl
theorem c_eq : gIx (.str "=") (.int 0) = some (.str "=") := by rfl
theorem t_stands (sg : Str) (hs : sg = "<" ∨ sg = "<=" ∨ sg = "=" ∨ sg = ">=" ∨ sg = ">") (a b : Int) : ∃ v : Bool, (∃ s, F_stands [.i (.int a), .i (.str sg), .i (.int b)] = some (.bl v, s)) ∧ ∃ s, F_law_stands [.i (.int a), .i (.str sg), .i (.int b)] = some (.bl v, s) := by
  suffices h : ∃ v : Bool, Fp F_stands [.i (.int a), .i (.str sg), .i (.int b)] (fun t _ => t = .bl v) ∧ Fp F_law_stands [.i (.int a), .i (.str sg), .i (.int b)] (fun t _ => t = .bl v) by
    obtain ⟨v, ⟨⟨t, s⟩, e, rfl⟩, ⟨⟨t2, s2⟩, e2, rfl⟩⟩ := h
    exact ⟨v, ⟨s, e⟩, ⟨s2, e2⟩⟩
  have c1 := c_lt
  have c2 := c_le
  have c3 := c_gt
  have c4 := c_ge
  have c5 := c_eq
  rcases Int.lt_trichotomy a b with h | h | h
  · have h1 : ¬ a = b := by omega
    have h2 : ¬ b < a := by omega
    have h3 : a ≤ b := by omega
    have h4 : ¬ b ≤ a := by omega
    rcases hs with rfl | rfl | rfl | rfl | rfl
    · refine ⟨true, fp_run (by unfold m_stands; walk_at "py"), fp_run (by unfold m_law_stands; walk_at "py")⟩
    · refine ⟨true, fp_run (by unfold m_stands; walk_at "py"), fp_run (by unfold m_law_stands; walk_at "py")⟩
    · refine ⟨false, fp_run (by unfold m_stands; walk_at "py"), fp_run (by unfold m_law_stands; walk_at "py")⟩
    · refine ⟨false, fp_run (by unfold m_stands; walk_at "py"), fp_run (by unfold m_law_stands; walk_at "py")⟩
    · refine ⟨false, fp_run (by unfold m_stands; walk_at "py"), fp_run (by unfold m_law_stands; walk_at "py")⟩
  · have h1 : ¬ a < b := by omega
    have h2 : ¬ b < a := by omega
    have h3 : a ≤ b := by omega
    have h4 : b ≤ a := by omega
    subst h
    rcases hs with rfl | rfl | rfl | rfl | rfl
    · refine ⟨false, fp_run (by unfold m_stands; walk_at "py"), fp_run (by unfold m_law_stands; walk_at "py")⟩
    · refine ⟨true, fp_run (by unfold m_stands; walk_at "py"), fp_run (by unfold m_law_stands; walk_at "py")⟩
    · refine ⟨true, fp_run (by unfold m_stands; walk_at "py"), fp_run (by unfold m_law_stands; walk_at "py")⟩
    · refine ⟨true, fp_run (by unfold m_stands; walk_at "py"), fp_run (by unfold m_law_stands; walk_at "py")⟩
    · refine ⟨false, fp_run (by unfold m_stands; walk_at "py"), fp_run (by unfold m_law_stands; walk_at "py")⟩
  · have h1 : ¬ a = b := by omega
    have h2 : ¬ a < b := by omega
    have h3 : b ≤ a := by omega
    have h4 : ¬ a ≤ b := by omega
    rcases hs with rfl | rfl | rfl | rfl | rfl
    · refine ⟨false, fp_run (by unfold m_stands; walk_at "py"), fp_run (by unfold m_law_stands; walk_at "py")⟩
    · refine ⟨false, fp_run (by unfold m_stands; walk_at "py"), fp_run (by unfold m_law_stands; walk_at "py")⟩
    · refine ⟨false, fp_run (by unfold m_stands; walk_at "py"), fp_run (by unfold m_law_stands; walk_at "py")⟩
    · refine ⟨true, fp_run (by unfold m_stands; walk_at "py"), fp_run (by unfold m_law_stands; walk_at "py")⟩
    · refine ⟨true, fp_run (by unfold m_stands; walk_at "py"), fp_run (by unfold m_law_stands; walk_at "py")⟩
theorem t_says (b : Bool) : ∃ s, F_law_says [.i (.bl b), .i (.bl b)] = some (.bl true, s) := by cases b <;> exact ⟨_, rfl⟩
theorem kin_facts : gKin ks_MOST no_MOST (.str "size") = some true ∧ gKin ks_MOST no_MOST (.str "pages") = some true ∧ gKin ks_MOST no_MOST (.str "acts") = some true ∧ gKin ks_MOST no_MOST (.str "depth") = some true ∧
    gKin ks_MOST no_MOST (.str "is") = some false ∧ gKin ks_MOST no_MOST (.str "could") = some false ∧ gKin ks_MOST no_MOST (.str "act") = some false ∧ gKin ks_MOST no_MOST (.str "name") = some false := by decide +kernel
theorem sf0 : (("size" : Str) = "pages") = False := eq_false (by decide +kernel)
theorem sf1 : (("size" : Str) = "acts") = False := eq_false (by decide +kernel)
theorem sf2 : (("size" : Str) = "depth") = False := eq_false (by decide +kernel)
theorem sf3 : (("size" : Str) = "is") = False := eq_false (by decide +kernel)
theorem sf4 : (("size" : Str) = "could") = False := eq_false (by decide +kernel)
theorem sf5 : (("size" : Str) = "act") = False := eq_false (by decide +kernel)
theorem sf6 : (("size" : Str) = "name") = False := eq_false (by decide +kernel)
theorem sf7 : (("pages" : Str) = "size") = False := eq_false (by decide +kernel)
theorem sf8 : (("pages" : Str) = "acts") = False := eq_false (by decide +kernel)
theorem sf9 : (("pages" : Str) = "depth") = False := eq_false (by decide +kernel)
theorem sf10 : (("pages" : Str) = "is") = False := eq_false (by decide +kernel)
theorem sf11 : (("pages" : Str) = "could") = False := eq_false (by decide +kernel)
theorem sf12 : (("pages" : Str) = "act") = False := eq_false (by decide +kernel)
theorem sf13 : (("pages" : Str) = "name") = False := eq_false (by decide +kernel)
theorem sf14 : (("acts" : Str) = "size") = False := eq_false (by decide +kernel)
theorem sf15 : (("acts" : Str) = "pages") = False := eq_false (by decide +kernel)
theorem sf16 : (("acts" : Str) = "depth") = False := eq_false (by decide +kernel)
theorem sf17 : (("acts" : Str) = "is") = False := eq_false (by decide +kernel)
theorem sf18 : (("acts" : Str) = "could") = False := eq_false (by decide +kernel)
theorem sf19 : (("acts" : Str) = "act") = False := eq_false (by decide +kernel)
theorem sf20 : (("acts" : Str) = "name") = False := eq_false (by decide +kernel)
theorem sf21 : (("depth" : Str) = "size") = False := eq_false (by decide +kernel)
theorem sf22 : (("depth" : Str) = "pages") = False := eq_false (by decide +kernel)
theorem sf23 : (("depth" : Str) = "acts") = False := eq_false (by decide +kernel)
theorem sf24 : (("depth" : Str) = "is") = False := eq_false (by decide +kernel)
theorem sf25 : (("depth" : Str) = "could") = False := eq_false (by decide +kernel)
theorem sf26 : (("depth" : Str) = "act") = False := eq_false (by decide +kernel)
theorem sf27 : (("depth" : Str) = "name") = False := eq_false (by decide +kernel)
theorem sf28 : (("is" : Str) = "size") = False := eq_false (by decide +kernel)
theorem sf29 : (("is" : Str) = "pages") = False := eq_false (by decide +kernel)
theorem sf30 : (("is" : Str) = "acts") = False := eq_false (by decide +kernel)
theorem sf31 : (("is" : Str) = "depth") = False := eq_false (by decide +kernel)
theorem sf32 : (("is" : Str) = "could") = False := eq_false (by decide +kernel)
theorem sf33 : (("is" : Str) = "act") = False := eq_false (by decide +kernel)
theorem sf34 : (("is" : Str) = "name") = False := eq_false (by decide +kernel)
theorem sf35 : (("could" : Str) = "size") = False := eq_false (by decide +kernel)
theorem sf36 : (("could" : Str) = "pages") = False := eq_false (by decide +kernel)
theorem sf37 : (("could" : Str) = "acts") = False := eq_false (by decide +kernel)
theorem sf38 : (("could" : Str) = "depth") = False := eq_false (by decide +kernel)
theorem sf39 : (("could" : Str) = "is") = False := eq_false (by decide +kernel)
theorem sf40 : (("could" : Str) = "act") = False := eq_false (by decide +kernel)
theorem sf41 : (("could" : Str) = "name") = False := eq_false (by decide +kernel)
theorem sf42 : (("act" : Str) = "size") = False := eq_false (by decide +kernel)
theorem sf43 : (("act" : Str) = "pages") = False := eq_false (by decide +kernel)
theorem sf44 : (("act" : Str) = "acts") = False := eq_false (by decide +kernel)
theorem sf45 : (("act" : Str) = "depth") = False := eq_false (by decide +kernel)
theorem sf46 : (("act" : Str) = "is") = False := eq_false (by decide +kernel)
theorem sf47 : (("act" : Str) = "could") = False := eq_false (by decide +kernel)
theorem sf48 : (("act" : Str) = "name") = False := eq_false (by decide +kernel)
theorem sf49 : (("name" : Str) = "size") = False := eq_false (by decide +kernel)
theorem sf50 : (("name" : Str) = "pages") = False := eq_false (by decide +kernel)
theorem sf51 : (("name" : Str) = "acts") = False := eq_false (by decide +kernel)
theorem sf52 : (("name" : Str) = "depth") = False := eq_false (by decide +kernel)
theorem sf53 : (("name" : Str) = "is") = False := eq_false (by decide +kernel)
theorem sf54 : (("name" : Str) = "could") = False := eq_false (by decide +kernel)
theorem sf55 : (("name" : Str) = "act") = False := eq_false (by decide +kernel)
local macro_rules | `(tactic| walk_at "py") => `(tactic| simp [*, wp_seq, wp_nx, wp_set, wp_setO, wp_ret, wp_if, wp_for, wpl_nil, sqQ_nx, sqQ_rt, loQ_nx, loQ_rt, setW_some, retW_some, ifW_some, forW_some, retQ, nxR_nx, mBinB, mBin, mO, mO2, peek, mCall, mArgB, mNil, nows, g1_one, g2_two, items, mArg, mC, okP, mVar, noP_0, noP_s, npb_u, npb_i, npb_o, goW_some, whW_some, slotsA, bIx, noDup, upE, mUn, gNeg, mTup, mLst, vals, lim, mTB_b, tbK_some, mVB, mAndT_b, andK_some, mOrT_b, orK_some, mNotT, mAndV, mOrV, mNotV, gNe, mDef, gN_b, mIf_b, ifK_some, mIt, mYes, gTupOf, gI_int, gIb_int, gIc_int, gAdd_int, gMul_int, gInt_int, gAbs_int, gEq_int, gEq_str, gEq_bl, gLen_lst, gLen_rl, gLen_tup, gIx_lst, gIx_rl, gIx_tup, cPos_t, cDiv_t, cNn_t, cMul_r, cMul_l, mRng1, wp_while, wp_app, wp_sub, wp_asg, wp_dput, oW_some, mApp, mSub, mAsg, ownT, putT, isLst, mLc, wipeE_0, wipeE_1, ifW_ite, retW_ite, setW_ite, whW_ite, andK_ite, orK_ite, ifK_ite, omap_ite, tbK_ite, gT, gsCons, gsNil, mDisp, mDcons, mDnil, gDix, keyT, look, mEnum, atI_0, atI_1, atI_2, atI_3, atI_4, atI_5, atI_6, atI_7, Sum.inr.injEq, sf0, sf1, sf2, sf3, sf4, sf5, sf6, sf7, sf8, sf9, sf10, sf11, sf12, sf13, sf14, sf15, sf16, sf17, sf18, sf19, sf20, sf21, sf22, sf23, sf24, sf25, sf26, sf27, sf28, sf29, sf30, sf31, sf32, sf33, sf34, sf35, sf36, sf37, sf38, sf39, sf40, sf41, sf42, sf43, sf44, sf45, sf46, sf47, sf48, sf49, sf50, sf51, sf52, sf53, sf54, sf55])
theorem t_number (f : Str) (hf : f = "size" ∨ f = "pages" ∨ f = "acts" ∨ f = "depth") (nm : List Int) (sz : Int) (kd : Str) (ks : List Str) (pg : Int) (as : List Str) (dp : Int) : ∃ v : Int, (∃ s, F_number_of [.i (.str f), .i (fT nm sz kd ks pg as dp)] = some (.int v, s)) ∧
    ((f = "size" ∧ v = sz) ∨ (f = "pages" ∧ v = pg) ∨ (f = "acts" ∧ v = as.length) ∨ (f = "depth" ∧ v = dp)) := by
  suffices h : ∃ v : Int, (Fp F_number_of [.i (.str f), .i (fT nm sz kd ks pg as dp)] fun t _ => t = .int v) ∧ ((f = "size" ∧ v = sz) ∨ (f = "pages" ∧ v = pg) ∨ (f = "acts" ∧ v = as.length) ∨ (f = "depth" ∧ v = dp)) by
    obtain ⟨v, ⟨⟨t, s⟩, e, rfl⟩, h2⟩ := h
    exact ⟨v, ⟨s, e⟩, h2⟩
  unfold fT
  rcases hf with rfl | rfl | rfl | rfl
  · exact ⟨sz, fp_run (by unfold m_number_of; walk_at "py"), .inl ⟨rfl, rfl⟩⟩
  · exact ⟨pg, fp_run (by unfold m_number_of; walk_at "py"), .inr (.inl ⟨rfl, rfl⟩)⟩
  · exact ⟨as.length, fp_run (by unfold m_number_of; walk_at "py"), .inr (.inr (.inl ⟨rfl, rfl⟩))⟩
  · exact ⟨dp, fp_run (by unfold m_number_of; walk_at "py"), .inr (.inr (.inr ⟨rfl, rfl⟩))⟩
theorem nod_facts : nodupK [.inr ("size" : Str), .inr ("pages" : Str), .inr ("acts" : Str), .inr ("depth" : Str)] = true := by decide +kernel
theorem t_holds_is (nm : List Int) (sz : Int) (kd : Str) (ks : List Str) (pg : Int) (as : List Str) (dp : Int) (x : Str) (neg : Bool) : Fp F_holds [.i (.tup [.bl neg, .tup [.str "is", .str x]]), .i (fT nm sz kd ks pg as dp)] (fun t _ => t = .bl (!decide (decide (kd = x) = neg))) := by
  obtain ⟨y0, y1, y2, y3, y4, y5, y6, y7⟩ := kin_facts
  unfold fT
  refine fp_run ?_
  unfold m_holds
  walk_at "py"
theorem t_law_holds_is (nm : List Int) (sz : Int) (kd : Str) (ks : List Str) (pg : Int) (as : List Str) (dp : Int) (x : Str) (neg : Bool) : Fp F_law_holds [.i (.tup [.bl neg, .tup [.str "is", .str x]]), .i (fT nm sz kd ks pg as dp)] (fun t _ => t = .bl (!decide (decide (kd = x) = neg))) := by
  obtain ⟨y0, y1, y2, y3, y4, y5, y6, y7⟩ := kin_facts
  unfold fT
  refine fp_run ?_
  unfold m_law_holds
  walk_at "py"
theorem t_holds_could (nm : List Int) (sz : Int) (kd : Str) (ks : List Str) (pg : Int) (as : List Str) (dp : Int) (x : Str) (neg : Bool) : Fp F_holds [.i (.tup [.bl neg, .tup [.str "could", .str x]]), .i (fT nm sz kd ks pg as dp)] (fun t _ => t = .bl (!decide (inT (.str x) (ks.map .str) = neg))) := by
  obtain ⟨y0, y1, y2, y3, y4, y5, y6, y7⟩ := kin_facts
  have e := gIn_strs x ks
  unfold fT
  refine fp_run ?_
  unfold m_holds
  walk_at "py"
theorem t_law_holds_could (nm : List Int) (sz : Int) (kd : Str) (ks : List Str) (pg : Int) (as : List Str) (dp : Int) (x : Str) (neg : Bool) : Fp F_law_holds [.i (.tup [.bl neg, .tup [.str "could", .str x]]), .i (fT nm sz kd ks pg as dp)] (fun t _ => t = .bl (!decide (inT (.str x) (ks.map .str) = neg))) := by
  obtain ⟨y0, y1, y2, y3, y4, y5, y6, y7⟩ := kin_facts
  have e := gIn_strs x ks
  unfold fT
  refine fp_run ?_
  unfold m_law_holds
  walk_at "py"
theorem t_holds_act (nm : List Int) (sz : Int) (kd : Str) (ks : List Str) (pg : Int) (as : List Str) (dp : Int) (x : Str) (neg : Bool) : Fp F_holds [.i (.tup [.bl neg, .tup [.str "act", .str x]]), .i (fT nm sz kd ks pg as dp)] (fun t _ => t = .bl (!decide (inT (.str x) (as.map .str) = neg))) := by
  obtain ⟨y0, y1, y2, y3, y4, y5, y6, y7⟩ := kin_facts
  have e := gIn_strs x as
  unfold fT
  refine fp_run ?_
  unfold m_holds
  walk_at "py"
theorem t_law_holds_act (nm : List Int) (sz : Int) (kd : Str) (ks : List Str) (pg : Int) (as : List Str) (dp : Int) (x : Str) (neg : Bool) : Fp F_law_holds [.i (.tup [.bl neg, .tup [.str "act", .str x]]), .i (fT nm sz kd ks pg as dp)] (fun t _ => t = .bl (!decide (inT (.str x) (as.map .str) = neg))) := by
  obtain ⟨y0, y1, y2, y3, y4, y5, y6, y7⟩ := kin_facts
  have e := gIn_strs x as
  unfold fT
  refine fp_run ?_
  unfold m_law_holds
  walk_at "py"
theorem t_holds_name (nm : List Int) (sz : Int) (kd : Str) (ks : List Str) (pg : Int) (as : List Str) (dp : Int) (bs : List Int) (h : bs.length ≤ 5) (hnm : nm.length ≤ 60) (neg : Bool) : Fp F_holds [.i (.tup [.bl neg, .tup [.str "name", .tup (bs.map .int)]]), .i (fT nm sz kd ks pg as dp)] (fun t _ => t = .bl (!decide (MM bs nm bs.length nm.length = neg))) := by
  obtain ⟨y0, y1, y2, y3, y4, y5, y6, y7⟩ := kin_facts
  obtain ⟨s, e⟩ := t_matches bs nm (by omega)
  generalize MM bs nm bs.length nm.length = v at *
  unfold fT
  refine fp_run ?_
  unfold m_holds
  generalize F_matches = f at *
  walk_at "py"
theorem u1 (f : Fn) (p q : T) (v neg : Bool) (s2 : List Sl) (sz pg dp : Int) (kd : Str) (ks as : T) (e2 : f [Sl.i p, Sl.i q] = some (T.bl v, s2)) : Wp
    (mSet 4
      (mDef f (mArg (mBin gIx (Op.n 3) (Op.e (mC (T.int 1)))) (mArg (mBin gIx (Op.n 1) (Op.e (mC (T.int 0)))) mNil))))
    [Sl.i (T.tup [T.bl neg, T.tup [T.str "name", p]]),
      Sl.i (T.tup [q, T.int sz, T.str kd, ks, T.int pg, as, T.int dp]),
      Sl.i (T.bl neg), Sl.i (T.tup [T.str "name", p]), Sl.u, Sl.u]
    (nxR fun ρ =>
      ρ =
        [Sl.i (T.tup [T.bl neg, T.tup [T.str "name", p]]),
          Sl.i (T.tup [q, T.int sz, T.str kd, ks, T.int pg, as, T.int dp]),
          Sl.i (T.bl neg), Sl.i (T.tup [T.str "name", p]), Sl.i (T.bl v), Sl.u]) := by
  walk_at "py"
theorem t_law_holds_name (nm : List Int) (sz : Int) (kd : Str) (ks : List Str) (pg : Int) (as : List Str) (dp : Int) (bs : List Int) (h : bs.length ≤ 5) (hnm : nm.length ≤ 60) (neg : Bool) : Fp F_law_holds [.i (.tup [.bl neg, .tup [.str "name", .tup (bs.map .int)]]), .i (fT nm sz kd ks pg as dp)] (fun t _ => t = .bl (!decide (MM bs nm bs.length nm.length = neg))) := by
  obtain ⟨y0, y1, y2, y3, y4, y5, y6, y7⟩ := kin_facts
  obtain ⟨s2, e2⟩ := t_law_match bs nm (by omega)
  clear y0 y1 y2 y3 y4 y5 y6 y7 h hnm
  unfold fT
  refine fp_run ?_
  unfold m_law_holds
  refine wp_cut (fun ρ => ρ = [.i (.tup [.bl neg, .tup [.str "name", .tup (bs.map .int)]]), .i (T.tup [T.tup (nm.map .int), .int sz, .str kd, .tup (ks.map .str), .int pg, .tup (as.map .str), .int dp]), .i (.bl neg), .i (.tup [.str "name", .tup (bs.map .int)]), .u, .u]) ?_ fun ρ1 h1 => ?_
  · walk_at "py"
  subst h1
  refine wp_cut (fun ρ => ρ = [.i (.tup [.bl neg, .tup [.str "name", .tup (bs.map .int)]]), .i (T.tup [T.tup (nm.map .int), .int sz, .str kd, .tup (ks.map .str), .int pg, .tup (as.map .str), .int dp]), .i (.bl neg), .i (.tup [.str "name", .tup (bs.map .int)]), .i (.bl (MM bs nm bs.length nm.length)), .u]) ?_ fun ρ1 h1 => ?_
  · rw [wp_if]
    simp only [mBinB, mBin, mO, mC, peek, mO2, gIx_tup, atI_0, atI_1, Option.map_some, List.getElem?_cons_succ, List.getElem?_cons_zero, gEq_str, sf46, sf47,sf48,sf49, sf50, sf51, sf52, sf53, sf54, sf55, decide_false, Option.bind_some, ifW_f, wp_if, decide_true, ifW_t]
    exact u1 F_law_match _ _ _ _ _ _ _ _ _ _ _ e2
  subst h1
  walk_at "py"
theorem t_holds_size (nm : List Int) (sz : Int) (kd : Str) (ks : List Str) (pg : Int) (as : List Str) (dp : Int) (sg : Str) (n : Int) (B : Bool) (s s2 s3 : List Sl) (e : F_number_of [.i (.str "size"), .i (fT nm sz kd ks pg as dp)] = some (.int sz, s)) (e2 : F_stands [.i (.int sz), .i (.str sg), .i (.int n)] = some (.bl B, s2)) (e3 : F_law_stands [.i (.int sz), .i (.str sg), .i (.int n)] = some (.bl B, s3)) (neg : Bool) : Fp F_holds [.i (.tup [.bl neg, .tup [.str "size", .str sg, .int n]]), .i (fT nm sz kd ks pg as dp)] (fun t _ => t = .bl (!decide (B = neg))) := by
  obtain ⟨y0, y1, y2, y3, y4, y5, y6, y7⟩ := kin_facts
  have nod := nod_facts
  unfold fT at e
  unfold fT
  refine fp_run ?_
  unfold m_holds
  walk_at "py"
theorem t_law_holds_size (nm : List Int) (sz : Int) (kd : Str) (ks : List Str) (pg : Int) (as : List Str) (dp : Int) (sg : Str) (n : Int) (B : Bool) (s s2 s3 : List Sl) (e : F_number_of [.i (.str "size"), .i (fT nm sz kd ks pg as dp)] = some (.int sz, s)) (e2 : F_stands [.i (.int sz), .i (.str sg), .i (.int n)] = some (.bl B, s2)) (e3 : F_law_stands [.i (.int sz), .i (.str sg), .i (.int n)] = some (.bl B, s3)) (neg : Bool) : Fp F_law_holds [.i (.tup [.bl neg, .tup [.str "size", .str sg, .int n]]), .i (fT nm sz kd ks pg as dp)] (fun t _ => t = .bl (!decide (B = neg))) := by
  obtain ⟨y0, y1, y2, y3, y4, y5, y6, y7⟩ := kin_facts
  have nod := nod_facts
  unfold fT at e
  unfold fT
  refine fp_run ?_
  unfold m_law_holds
  walk_at "py"
theorem t_holds_pages (nm : List Int) (sz : Int) (kd : Str) (ks : List Str) (pg : Int) (as : List Str) (dp : Int) (sg : Str) (n : Int) (B : Bool) (s s2 s3 : List Sl) (e : F_number_of [.i (.str "pages"), .i (fT nm sz kd ks pg as dp)] = some (.int pg, s)) (e2 : F_stands [.i (.int pg), .i (.str sg), .i (.int n)] = some (.bl B, s2)) (e3 : F_law_stands [.i (.int pg), .i (.str sg), .i (.int n)] = some (.bl B, s3)) (neg : Bool) : Fp F_holds [.i (.tup [.bl neg, .tup [.str "pages", .str sg, .int n]]), .i (fT nm sz kd ks pg as dp)] (fun t _ => t = .bl (!decide (B = neg))) := by
  obtain ⟨y0, y1, y2, y3, y4, y5, y6, y7⟩ := kin_facts
  have nod := nod_facts
  unfold fT at e
  unfold fT
  refine fp_run ?_
  unfold m_holds
  walk_at "py"
theorem t_law_holds_pages (nm : List Int) (sz : Int) (kd : Str) (ks : List Str) (pg : Int) (as : List Str) (dp : Int) (sg : Str) (n : Int) (B : Bool) (s s2 s3 : List Sl) (e : F_number_of [.i (.str "pages"), .i (fT nm sz kd ks pg as dp)] = some (.int pg, s)) (e2 : F_stands [.i (.int pg), .i (.str sg), .i (.int n)] = some (.bl B, s2)) (e3 : F_law_stands [.i (.int pg), .i (.str sg), .i (.int n)] = some (.bl B, s3)) (neg : Bool) : Fp F_law_holds [.i (.tup [.bl neg, .tup [.str "pages", .str sg, .int n]]), .i (fT nm sz kd ks pg as dp)] (fun t _ => t = .bl (!decide (B = neg))) := by
  obtain ⟨y0, y1, y2, y3, y4, y5, y6, y7⟩ := kin_facts
  have nod := nod_facts
  unfold fT at e
  unfold fT
  refine fp_run ?_
  unfold m_law_holds
  walk_at "py"
theorem t_holds_acts (nm : List Int) (sz : Int) (kd : Str) (ks : List Str) (pg : Int) (as : List Str) (dp : Int) (sg : Str) (n : Int) (B : Bool) (s s2 s3 : List Sl) (e : F_number_of [.i (.str "acts"), .i (fT nm sz kd ks pg as dp)] = some (.int (as.length : Int), s)) (e2 : F_stands [.i (.int (as.length : Int)), .i (.str sg), .i (.int n)] = some (.bl B, s2)) (e3 : F_law_stands [.i (.int (as.length : Int)), .i (.str sg), .i (.int n)] = some (.bl B, s3)) (neg : Bool) : Fp F_holds [.i (.tup [.bl neg, .tup [.str "acts", .str sg, .int n]]), .i (fT nm sz kd ks pg as dp)] (fun t _ => t = .bl (!decide (B = neg))) := by
  obtain ⟨y0, y1, y2, y3, y4, y5, y6, y7⟩ := kin_facts
  have nod := nod_facts
  unfold fT at e
  unfold fT
  refine fp_run ?_
  unfold m_holds
  walk_at "py"
theorem t_law_holds_acts (nm : List Int) (sz : Int) (kd : Str) (ks : List Str) (pg : Int) (as : List Str) (dp : Int) (sg : Str) (n : Int) (B : Bool) (s s2 s3 : List Sl) (e : F_number_of [.i (.str "acts"), .i (fT nm sz kd ks pg as dp)] = some (.int (as.length : Int), s)) (e2 : F_stands [.i (.int (as.length : Int)), .i (.str sg), .i (.int n)] = some (.bl B, s2)) (e3 : F_law_stands [.i (.int (as.length : Int)), .i (.str sg), .i (.int n)] = some (.bl B, s3)) (neg : Bool) : Fp F_law_holds [.i (.tup [.bl neg, .tup [.str "acts", .str sg, .int n]]), .i (fT nm sz kd ks pg as dp)] (fun t _ => t = .bl (!decide (B = neg))) := by
  obtain ⟨y0, y1, y2, y3, y4, y5, y6, y7⟩ := kin_facts
  have nod := nod_facts
  unfold fT at e
  unfold fT
  refine fp_run ?_
  unfold m_law_holds
  walk_at "py"
theorem t_holds_depth (nm : List Int) (sz : Int) (kd : Str) (ks : List Str) (pg : Int) (as : List Str) (dp : Int) (sg : Str) (n : Int) (B : Bool) (s s2 s3 : List Sl) (e : F_number_of [.i (.str "depth"), .i (fT nm sz kd ks pg as dp)] = some (.int dp, s)) (e2 : F_stands [.i (.int dp), .i (.str sg), .i (.int n)] = some (.bl B, s2)) (e3 : F_law_stands [.i (.int dp), .i (.str sg), .i (.int n)] = some (.bl B, s3)) (neg : Bool) : Fp F_holds [.i (.tup [.bl neg, .tup [.str "depth", .str sg, .int n]]), .i (fT nm sz kd ks pg as dp)] (fun t _ => t = .bl (!decide (B = neg))) := by
  obtain ⟨y0, y1, y2, y3, y4, y5, y6, y7⟩ := kin_facts
  have nod := nod_facts
  unfold fT at e
  unfold fT
  refine fp_run ?_
  unfold m_holds
  walk_at "py"
theorem t_law_holds_depth (nm : List Int) (sz : Int) (kd : Str) (ks : List Str) (pg : Int) (as : List Str) (dp : Int) (sg : Str) (n : Int) (B : Bool) (s s2 s3 : List Sl) (e : F_number_of [.i (.str "depth"), .i (fT nm sz kd ks pg as dp)] = some (.int dp, s)) (e2 : F_stands [.i (.int dp), .i (.str sg), .i (.int n)] = some (.bl B, s2)) (e3 : F_law_stands [.i (.int dp), .i (.str sg), .i (.int n)] = some (.bl B, s3)) (neg : Bool) : Fp F_law_holds [.i (.tup [.bl neg, .tup [.str "depth", .str sg, .int n]]), .i (fT nm sz kd ks pg as dp)] (fun t _ => t = .bl (!decide (B = neg))) := by
  obtain ⟨y0, y1, y2, y3, y4, y5, y6, y7⟩ := kin_facts
  have nod := nod_facts
  unfold fT at e
  unfold fT
  refine fp_run ?_
  unfold m_law_holds
  walk_at "py"
theorem fp_ex {f : Fn} {as : List Sl} {v : T} (h : Fp f as (fun t _ => t = v)) : ∃ s, f as = some (v, s) := by
  obtain ⟨⟨t, s⟩, e, rfl⟩ := h
  exact ⟨s, e⟩
theorem t_holds (body : T) (hb : BodyOk body) (nm : List Int) (sz : Int) (kd : Str) (ks : List Str) (pg : Int) (as : List Str) (dp : Int) (hnm : nm.length ≤ 60) : ∃ B : Bool, ∀ neg, (∃ s, F_holds [.i (.tup [.bl neg, body]), .i (fT nm sz kd ks pg as dp)] = some (.bl (!decide (B = neg)), s)) ∧ ∃ s, F_law_holds [.i (.tup [.bl neg, body]), .i (fT nm sz kd ks pg as dp)] = some (.bl (!decide (B = neg)), s) := by
  cases hb with
  | num f sg n hf hs =>
    obtain ⟨v, ⟨s, e⟩, hv⟩ := t_number f hf nm sz kd ks pg as dp
    obtain ⟨B, ⟨s2, e2⟩, ⟨s3, e3⟩⟩ := t_stands sg hs v n
    refine ⟨B, fun neg => ?_⟩
    rcases hv with ⟨rfl, rfl⟩ | ⟨rfl, rfl⟩ | ⟨rfl, rfl⟩ | ⟨rfl, rfl⟩
    · exact ⟨fp_ex (t_holds_size _ _ _ _ _ _ _ _ _ _ _ _ _ e e2 e3 _), fp_ex (t_law_holds_size _ _ _ _ _ _ _ _ _ _ _ _ _ e e2 e3 _)⟩
    · exact ⟨fp_ex (t_holds_pages _ _ _ _ _ _ _ _ _ _ _ _ _ e e2 e3 _), fp_ex (t_law_holds_pages _ _ _ _ _ _ _ _ _ _ _ _ _ e e2 e3 _)⟩
    · exact ⟨fp_ex (t_holds_acts _ _ _ _ _ _ _ _ _ _ _ _ _ e e2 e3 _), fp_ex (t_law_holds_acts _ _ _ _ _ _ _ _ _ _ _ _ _ e e2 e3 _)⟩
    · exact ⟨fp_ex (t_holds_depth _ _ _ _ _ _ _ _ _ _ _ _ _ e e2 e3 _), fp_ex (t_law_holds_depth _ _ _ _ _ _ _ _ _ _ _ _ _ e e2 e3 _)⟩
  | is x => exact ⟨_, fun neg => ⟨fp_ex (t_holds_is _ _ _ _ _ _ _ x neg), fp_ex (t_law_holds_is _ _ _ _ _ _ _ x neg)⟩⟩
  | could x => exact ⟨_, fun neg => ⟨fp_ex (t_holds_could _ _ _ _ _ _ _ x neg), fp_ex (t_law_holds_could _ _ _ _ _ _ _ x neg)⟩⟩
  | act x => exact ⟨_, fun neg => ⟨fp_ex (t_holds_act _ _ _ _ _ _ _ x neg), fp_ex (t_law_holds_act _ _ _ _ _ _ _ x neg)⟩⟩
  | name bs h => exact ⟨_, fun neg => ⟨fp_ex (t_holds_name _ _ _ _ _ _ _ bs h hnm neg), fp_ex (t_law_holds_name _ _ _ _ _ _ _ bs h hnm neg)⟩⟩
end Pu
set_option Elab.async false
set_option linter.all false
set_option maxRecDepth 100000
namespace Pu
open PySem PySem.Spec PyProof.Rows L2
local macro_rules | `(tactic| walk_at "py") => `(tactic| simp (decide := true) [*, wp_seq, wp_nx, wp_set, wp_setO, wp_ret, wp_if, wp_for, wpl_nil, sqQ_nx, sqQ_rt, loQ_nx, loQ_rt, setW_some, retW_some, ifW_some, forW_some, retQ, nxR_nx, mBinB, mBin, mO, mO2, peek, mCall, mArgB, mNil, nows, g1_one, g2_two, items, mArg, mC, okP, mVar, noP_0, noP_s, npb_u, npb_i, npb_o, goW_some, whW_some, slotsA, bIx, noDup, upE, mUn, gNeg, mTup, mLst, vals, lim, mTB_b, tbK_some, mVB, mAndT_b, andK_some, mOrT_b, orK_some, mNotT, mAndV, mOrV, mNotV, gNe, mDef, gN_b, mIf_b, ifK_some, mIt, mYes, gTupOf, gI_int, gIb_int, gIc_int, gAdd_int, gMul_int, gInt_int, gAbs_int, gEq_int, gEq_str, gEq_bl, gLen_lst, gLen_rl, gLen_tup, gIx_lst, gIx_rl, gIx_tup, cPos_t, cDiv_t, cNn_t, cMul_r, cMul_l, mRng1, wp_while, wp_app, wp_sub, wp_asg, wp_dput, oW_some, mApp, mSub, mAsg, ownT, putT, isLst, mLc, wipeE_0, wipeE_1, ifW_ite, retW_ite, setW_ite, whW_ite, andK_ite, orK_ite, ifK_ite, omap_ite, tbK_ite, gT, gsCons, gsNil, mDisp, mDcons, mDnil, gDix, keyT, look, mEnum, atI_0, atI_1, atI_2, atI_3, atI_4, atI_5, atI_6, atI_7])
def termT (x : Bool × T) : T := .tup [.bl x.1, x.2]
def ruleT (r : Str × List (Bool × T)) : T := .tup [.str r.1, .tup (r.2.map termT)]
def hv (fc t : T) : Bool := match F_law_holds [.i t, .i fc] with
  | some (.bl b, _) => b
  | _ => false
/-- facts that are sound -/
def FcOk (fc : T) : Prop := ∃ nm sz kd ks pg as dp, nm.length ≤ 60 ∧ fc = fT nm sz kd ks pg as dp
theorem holds_hv {fc : T} (hf : FcOk fc) {x : Bool × T} (hb : BodyOk x.2) : (∃ s, F_holds [.i (termT x), .i fc] = some (.bl (hv fc (termT x)), s)) ∧ ∃ s, F_law_holds [.i (termT x), .i fc] = some (.bl (hv fc (termT x)), s) := by
  obtain ⟨nm, sz, kd, ks, pg, as, dp, h, rfl⟩ := hf
  obtain ⟨B, hB⟩ := t_holds x.2 hb nm sz kd ks pg as dp h
  obtain ⟨⟨s, e⟩, ⟨s2, e2⟩⟩ := hB x.1
  have : hv (fT nm sz kd ks pg as dp) (termT x) = !decide (B = x.1) := by
    unfold hv termT
    rw [e2]
  rw [this]
  exact ⟨⟨s, e⟩, ⟨s2, e2⟩⟩
theorem bools_map {α : Type} (p : α → Bool) : ∀ xs : List α, bools (xs.map fun x => T.bl (p x)) = some (xs.map p)
  | [] => rfl
  | x :: xs => by
    rw [List.map_cons, bools, bools_map p xs]
    rfl
theorem gAll_map {α : Type} (p : α → Bool) (xs : List α) : gAll (.lst (xs.map fun x => T.bl (p x))) = some (.bl (xs.all p)) := by
  unfold gAll
  simp only [items, Option.bind_some, bools_map]
  simp [List.all_map]
def allR (fc : T) (r : Str × List (Bool × T)) : Bool := r.2.all fun x => hv fc (termT x)
def NoJ (fc : T) (rules : List (Str × List (Bool × T))) (k : Nat) : Prop := ∀ j, j < k → ∀ r, rules[j]? = some r → allR fc r = false
def JQ (fc : T) (rules : List (Str × List (Bool × T))) (t : T) : Prop :=
  (∃ (k : Nat) (r : Str × List (Bool × T)), rules[k]? = some r ∧ allR fc r = true ∧ NoJ fc rules k ∧ t = .tup [.str r.1, .int (k : Int)]) ∨
  (NoJ fc rules rules.length ∧ t = .tup [.str "hold", .int (-1)])
theorem NoJ_s {fc : T} {rules : List (Str × List (Bool × T))} {k : Nat} {r : Str × List (Bool × T)} (h : NoJ fc rules k) (hr : rules[k]? = some r) (e : allR fc r = false) : NoJ fc rules (k + 1) := by
  intro j hj r2 h2
  by_cases c : j = k
  · subst c
    rw [hr] at h2
    cases h2
    exact e
  · exact h j (by omega) r2 h2
theorem JQ_one {fc : T} {rules : List (Str × List (Bool × T))} {t u : T} (h : JQ fc rules t) (h2 : JQ fc rules u) : t = u := by
  have lt : ∀ {k : Nat} {r : Str × List (Bool × T)}, rules[k]? = some r → k < rules.length := fun h => (List.getElem?_eq_some_iff.mp h).1
  rcases h with ⟨k, r, e1, e2, e3, rfl⟩ | ⟨e1, rfl⟩
  · rcases h2 with ⟨j, w, f1, f2, f3, rfl⟩ | ⟨f1, rfl⟩
    · have : j = k := by
        rcases Nat.lt_trichotomy j k with c | c | c
        · have := e3 j c _ f1
          rw [f2] at this
          cases this
        · exact c
        · have := f3 k c _ e1
          rw [e2] at this
          cases this
      subst this
      rw [e1] at f1
      cases f1
      rfl
    · have := f1 k (lt e1) _ e1
      rw [e2] at this
      cases this
  · rcases h2 with ⟨j, w, f1, f2, f3, rfl⟩ | ⟨f1, rfl⟩
    · have := e1 j (lt f1) _ f1
      rw [f2] at this
      cases this
    · rfl
theorem t_judge {fc : T} (hf : FcOk fc) (rules : List (Str × List (Bool × T))) (ok : ∀ r ∈ rules, r.2.length ≤ 1000 ∧ ∀ x ∈ r.2, BodyOk x.2) : ∃ t, JQ fc rules t ∧ ∃ s, F_judge [.i (.tup (rules.map ruleT)), .i fc] = some (t, s) := by
  suffices h : Fp F_judge [.i (.tup (rules.map ruleT)), .i fc] (fun t _ => JQ fc rules t) by
    obtain ⟨⟨t, s⟩, e, h⟩ := h
    exact ⟨t, h, s, e⟩
  refine fp_run ?_
  unfold m_judge
  walk_at "py"
  refine wpl_numd rules (fun k ρ => ∃ s2 s3 s4 s5, npb s2 = true ∧ npb s3 = true ∧ npb s4 = true ∧ npb s5 = true ∧ NoJ fc rules k ∧ ρ = [.i (.tup (rules.map ruleT)), .i fc, s2, s3, s4, s5]) ?_ ?_ ?_
  · rintro k ⟨v, ts⟩ ρ hx ⟨s2, s3, s4, s5, h2, h3, h4, h5, hj, rfl⟩
    obtain ⟨hl, hb⟩ := ok _ (List.mem_of_getElem? hx)
    have e0 : ruleT (v, ts) = .tup [.str v, .tup (ts.map termT)] := rfl
    have hl2 : ts.length ≤ 1000000 := by
      have : ts.length ≤ 1000 := hl
      omega
    walk_at "py"
    rw [lc_all (fun x => T.bl (hv fc (termT x)))]
    · have ea : gAll (.lst (ts.map fun x => T.bl (hv fc (termT x)))) = some (.bl (allR fc (v, ts))) := gAll_map (fun x => hv fc (termT x)) ts
      by_cases c : allR fc (v, ts) = true
      · have stop : JQ fc rules (.tup [.str v, .int (k : Int)]) := .inl ⟨k, (v, ts), hx, c, hj, rfl⟩
        walk_at "py"
      · have c : allR fc (v, ts) = false := by simpa using c
        have hs := NoJ_s hj hx c
        walk_at "py"
        exact ⟨_, rfl, _, rfl, _, rfl, _, rfl, rfl, rfl, rfl, rfl⟩
    · walk_at "py"
    · intro x hx
      obtain ⟨⟨s, e⟩, _⟩ := holds_hv hf (hb x hx)
      walk_at "py"
  · rintro ρ ⟨s2, s3, s4, s5, h2, h3, h4, h5, hj, rfl⟩
    have stop : JQ fc rules (.tup [.str "hold", .int (-1)]) := .inr ⟨hj, rfl⟩
    walk_at "py"
  · exact ⟨.u, .u, .u, .u, rfl, rfl, rfl, rfl, (fun j h => absurd h (Nat.not_lt_zero j) : NoJ fc rules 0), rfl⟩
theorem t_judged {fc : T} (hf : FcOk fc) (rules : List (Str × List (Bool × T))) (hn : rules.length ≤ 1000) (ok : ∀ r ∈ rules, r.2.length ≤ 1000 ∧ ∀ x ∈ r.2, BodyOk x.2) : ∃ t, JQ fc rules t ∧ ∃ s, F_law_judged [.i (.tup (rules.map ruleT)), .i fc] = some (t, s) := by
  suffices h : Fp F_law_judged [.i (.tup (rules.map ruleT)), .i fc] (fun t _ => JQ fc rules t) by
    obtain ⟨⟨t, s⟩, e, h⟩ := h
    exact ⟨t, h, s, e⟩
  refine fp_run ?_
  unfold m_law_judged
  have hs : small62 (rules.length : Int) = true := nat62 (by omega)
  walk_at "py"
  refine wpl_upTo 0 rules.length (fun k ρ => ∃ s2 s3, npb s2 = true ∧ npb s3 = true ∧ NoJ fc rules k ∧ ρ = [.i (.tup (rules.map ruleT)), .i fc, s2, s3]) ?_ ?_ ?_
  · rintro k ρ hk ⟨s2, s3, h2, h3, hj, rfl⟩
    obtain ⟨⟨v, ts⟩, hx⟩ : ∃ r, rules[k]? = some r := ⟨_, List.getElem?_eq_getElem hk⟩
    obtain ⟨hl, hb⟩ := ok _ (List.mem_of_getElem? hx)
    have e0 : atI (rules.map ruleT) (k : Int) = some (.tup [.str v, .tup (ts.map termT)]) := atI_nat (by rw [List.getElem?_map, hx]; rfl)
    have hl2 : ts.length ≤ 1000000 := by
      have : ts.length ≤ 1000 := hl
      omega
    walk_at "py"
    rw [lc_map (fun x => !hv fc (termT x)) termT]
    · have ef : ((ts.filter fun x => !hv fc (termT x)).length = 0) ↔ allR fc (v, ts) = true := by
        unfold allR
        rw [List.length_eq_zero_iff, List.filter_eq_nil_iff, List.all_eq_true]
        simp
      generalize (ts.filter fun x => !hv fc (termT x)) = fl at *
      by_cases c : allR fc (v, ts) = true
      · have stop : JQ fc rules (.tup [.str v, .int (k : Int)]) := .inl ⟨k, (v, ts), hx, c, hj, rfl⟩
        have c2 := ef.mpr c
        clear ef
        walk_at "py"
      · have c2 : ¬ fl.length = 0 := fun z => c (ef.mp z)
        have c : allR fc (v, ts) = false := by simpa using c
        have hs := NoJ_s hj hx c
        clear ef
        walk_at "py"
    · walk_at "py"
    · intro x hx
      obtain ⟨_, ⟨s, e⟩⟩ := holds_hv hf (hb x hx)
      generalize hv fc (termT x) = b at *
      cases b <;> walk_at "py"
  · rintro ρ ⟨s2, s3, h2, h3, hj, rfl⟩
    have stop : JQ fc rules (.tup [.str "hold", .int (-1)]) := .inr ⟨hj, rfl⟩
    walk_at "py"
  · exact ⟨.u, .u, rfl, rfl, (fun j h => absurd h (Nat.not_lt_zero j) : NoJ fc rules 0), rfl⟩
def TmsOk (ts : List (Bool × T)) : Prop := ∀ x ∈ ts, BodyOk x.2
def RulesOk (rules : List (Str × List (Bool × T))) : Prop := ∀ r ∈ rules, PyData.strOk r.1 = true ∧ r.2.length ≤ 1000 ∧ TmsOk r.2
theorem t_policy (ns : List Int) : ∃ rules : List (Str × List (Bool × T)), rules.length ≤ 4 ∧ RulesOk rules ∧
    ∃ s, F_law_policy [.i (.rl (ns.map .int)), .i (.int 9), .i (.int 4), .i (.int 3)] = some (.tup (rules.map ruleT), s) := by
  suffices h : Fp F_law_policy [.i (.rl (ns.map .int)), .i (.int 9), .i (.int 4), .i (.int 3)] (fun t _ => ∃ rules : List (Str × List (Bool × T)), rules.length ≤ 4 ∧ RulesOk rules ∧ t = .tup (rules.map ruleT)) by
    obtain ⟨⟨t, s⟩, e, rules, h1, h2, rfl⟩ := h
    exact ⟨rules, h1, h2, s, e⟩
  refine fp_run ?_
  unfold m_law_policy
  have e0 := t_cell ns 9 (by omega)
  generalize ns.getD (9 : Int).toNat 0 = c0 at *
  generalize hc : absI c0 = c
  have k0 : 0 ≤ c := hc ▸ absI_nn c0
  obtain ⟨n, hn, en⟩ := nn_mod (c := c) (k := 5) (by omega)
  have en : c % 5 = (n : Int) := by simpa using en
  have hs : small62 (n : Int) = true := nat62 (by omega)
  walk_at "py"
  refine wpl_upTo 0 n (fun k ρ => ∃ (rules : List (Str × List (Bool × T))) (u : Int) (s7 s8 s9 : Sl), rules.length = k ∧ RulesOk rules ∧ 0 ≤ u ∧ npb s7 = true ∧ npb s8 = true ∧ npb s9 = true ∧ ρ = [.i (.rl (ns.map .int)), .i (.int 9), .i (.int 4), .i (.int 3), .i (.int c), .o (.lst (rules.map ruleT)), .i (.int u), s7, s8, s9]) ?_ ?_ ?_
  · rintro k ρ hk ⟨rules, u, s7, s8, s9, hl, ok, hu, h7, h8, h9, rfl⟩
    have d1 : (0 : Int) < 1 + 3 * (k : Int) := by omega
    have d2 : 1 + 3 * (k : Int) < 1073741824 := by omega
    have d3 : (0 : Int) < 1 + (k : Int) := by omega
    have d4 : 1 + (k : Int) < 1073741824 := by omega
    obtain ⟨m, hm, em⟩ := nn_mod (c := c / 5 / (1 + 3 * (k : Int))) (k := 4) (by omega)
    have em : c / 5 / (1 + 3 * (k : Int)) % 4 = (m : Int) := by simpa using em
    have hs2 : small62 (m : Int) = true := nat62 (by omega)
    obtain ⟨vd, hvd, ev⟩ : ∃ x : Str, PyData.strOk x = true ∧ atI [T.str "clean", .str "hold", .str "drop"] (c / 11 / (1 + (k : Int)) % 3) = some (.str x) := by
      obtain ⟨q, hq, eq⟩ := nn_mod (c := c / 11 / (1 + (k : Int))) (k := 3) (by omega)
      have eq : c / 11 / (1 + (k : Int)) % 3 = (q : Int) := by simpa using eq
      rw [eq]
      have : q = 0 ∨ q = 1 ∨ q = 2 := by omega
      rcases this with rfl | rfl | rfl <;> exact ⟨_, by decide +kernel, rfl⟩
    walk_at "py"
    refine wpl_upTo 0 m (fun j ρ => ∃ (ts : List (Bool × T)) (u : Int) (s9 : Sl), ts.length = j ∧ TmsOk ts ∧ 0 ≤ u ∧ npb s9 = true ∧ ρ = [.i (.rl (ns.map .int)), .i (.int 9), .i (.int 4), .i (.int 3), .i (.int c), .o (.lst (rules.map ruleT)), .i (.int u), .i (.int (k : Int)), .o (.lst (ts.map termT)), s9]) ?_ ?_ ?_
    · rintro j ρ hj ⟨ts, u, s9, htl, htm, hu, h9, rfl⟩
      have e1 := t_cell ns u hu
      obtain ⟨neg, b, hb, s, e2⟩ := t_term (absI (ns.getD u.toNat 0)) (absI_nn _)
      generalize ns.getD u.toNat 0 = x at *
      have hlim : j < 1000000 := by omega
      have hu2 : 0 ≤ u + 1 := by omega
      walk_at "py"
      refine ⟨ts ++ [(neg, b)], by simp [htl], ?_, u + 1, hu2, .i (.int (j : Int)), rfl, rfl, by simp [termT], rfl⟩
      intro y hy
      rcases List.mem_append.mp hy with h | h
      · exact htm y h
      · rw [List.mem_singleton.mp h]
        exact hb
    · rintro ρ ⟨ts, u, s9, htl, htm, hu, h9, rfl⟩
      have hlim : m ≤ 1000000 := by omega
      have hlim2 : k < 1000000 := by omega
      walk_at "py"
      refine ⟨rules ++ [(vd, ts)], by simp [hl], ?_, u, hu, .i (.int (k : Int)), rfl, .o (.lst (ts.map termT)), rfl, s9, h9, by simp [ruleT], rfl, rfl, rfl, rfl⟩
      intro r hr
      rcases List.mem_append.mp hr with h | h
      · exact ok r h
      · rw [List.mem_singleton.mp h]
        exact ⟨hvd, by show ts.length ≤ 1000; omega, htm⟩
    · exact ⟨[], u, s9, rfl, (fun r h => nomatch h : TmsOk []), hu, h9, rfl⟩
  · rintro ρ ⟨rules, u, s7, s8, s9, hl, ok, hu, h7, h8, h9, rfl⟩
    have hl2 : n ≤ 1000000 := by omega
    walk_at "py"
    exact ⟨rules, by omega, ok, rfl⟩
  · exact ⟨[], 9 + 1, .u, .u, .u, rfl, (fun r h => nomatch h : RulesOk []), by omega, rfl, rfl, rfl, rfl⟩
end Pu
set_option Elab.async false
set_option linter.all false
set_option maxRecDepth 100000
namespace Pu
open PySem PySem.Spec PyProof.Rows L2
local macro_rules | `(tactic| walk_at "py") => `(tactic| simp (decide := true) [*, wp_seq, wp_nx, wp_set, wp_setO, wp_ret, wp_if, wp_for, wpl_nil, sqQ_nx, sqQ_rt, loQ_nx, loQ_rt, setW_some, retW_some, ifW_some, forW_some, retQ, nxR_nx, mBinB, mBin, mO, mO2, peek, mCall, mArgB, mNil, nows, g1_one, g2_two, items, mArg, mC, okP, mVar, noP_0, noP_s, npb_u, npb_i, npb_o, goW_some, whW_some, slotsA, bIx, noDup, upE, mUn, gNeg, mTup, mLst, vals, lim, mTB_b, tbK_some, mVB, mAndT_b, andK_some, mOrT_b, orK_some, mNotT, mAndV, mOrV, mNotV, gNe, mDef, gN_b, mIf_b, ifK_some, mIt, mYes, gTupOf, gI_int, gIb_int, gIc_int, gAdd_int, gMul_int, gInt_int, gAbs_int, gEq_int, gEq_str, gEq_bl, gLen_lst, gLen_rl, gLen_tup, gIx_lst, gIx_rl, gIx_tup, cPos_t, cDiv_t, cNn_t, cMul_r, cMul_l, mRng1, wp_while, wp_app, wp_sub, wp_asg, wp_dput, oW_some, mApp, mSub, mAsg, ownT, putT, isLst, mLc, wipeE_0, wipeE_1, ifW_ite, retW_ite, setW_ite, whW_ite, andK_ite, orK_ite, ifK_ite, omap_ite, tbK_ite, gT, gsCons, gsNil, mDisp, mDcons, mDnil, gDix, keyT, look, mEnum, atI_0, atI_1, atI_2, atI_3, atI_4, atI_5, atI_6, atI_7])
theorem t_is_integer (i : Int) : ∃ s, F_law_is_integer [.i (.int i)] = some (.bl true, s) := ⟨_, rfl⟩
theorem JQ_shape {fc : T} {rules : List (Str × List (Bool × T))} {t : T} (h : JQ fc rules t) (ok : RulesOk rules) : ∃ (x : Str) (i : Int), PyData.strOk x = true ∧ t = .tup [.str x, .int i] := by
  rcases h with ⟨k, r, e1, _, _, rfl⟩ | ⟨_, rfl⟩
  · exact ⟨r.1, _, (ok r (List.mem_of_getElem? e1)).1, rfl⟩
  · exact ⟨_, _, by decide +kernel, rfl⟩
theorem gEq_pair {x : Str} {i : Int} (h : PyData.strOk x = true) : gEq (.tup [.str x, .int i]) (.tup [.str x, .int i]) = some true := by
  have hs : SeqAt.shaped (.tuple [.str x, .int i]) = true := by
    unfold SeqAt.shaped
    simp [PyData.canLay0, PyData.canLayAll0, PyData.depth, PyData.depthAll, h]
  show gEqD (.tup [.str x, .int i]) (.tup [.str x, .int i]) = _
  unfold gEqD
  simp [toP, toPs, hs, PyData.eqv, PyData.eqvAll]
theorem bne_flip (B n : Bool) : (!decide (B = !n)) = !(!decide (B = n)) := by cases B <;> cases n <;> rfl
def tupI (l : List Int) : T := .tup (l.map .int)
theorem gAdd_tup (xs ys : List T) : gAdd (.tup xs) (.tup ys) = if xs.length + ys.length ≤ lim then some (.tup (xs ++ ys)) else none := by
  show (if xs.length + ys.length ≤ lim then some (T.tup (xs ++ ys)) else none).or none = _
  split <;> rfl
theorem aux5 (fm fl fs : Fn) (n0 fc : T) (s7 s8 : Sl) (pat nam who : List Int) (hn : nam.length ≤ 60) (hw : who.length ≤ 50)
    (hm3 : ∀ l : List Int, l.length ≤ 60 → ∃ (b : Bool) (s s2 : List Sl), fm [.i (tupI pat), .i (tupI l)] = some (.bl b, s) ∧ fl [.i (tupI pat), .i (tupI l)] = some (.bl b, s2))
    (hs : ∀ b : Bool, ∃ s, fs [.i (.bl b), .i (.bl b)] = some (.bl true, s)) :
    Wp (mFor (mIt (mLst (mArg (mVar 5) (mArg (mVar 6) (mArg (mBin gAdd (.n 6) (.e (mTup (mArg (mC (.int 97)) mNil)))) (mArg (mTup mNil) mNil)))))) (gN 7)
  (mIfS (mNotT (mTB (mDef fs (mArg (mDef fm (mArg (mVar 4) (mArg (mVar 7) mNil))) (mArg (mDef fl (mArg (mVar 4) (mArg (mVar 7) mNil))) mNil)))))
  (mRet (mC (.bl false)))
  mNx)) [.i n0, .i fc, s7, s8, .i (tupI pat), .i (tupI nam), .i (tupI who), .u, .u, .u, .u] (nxR fun ρ => ∃ s9, npb s9 = true ∧ ρ = [.i n0, .i fc, s7, s8, .i (tupI pat), .i (tupI nam), .i (tupI who), s9, .u, .u, .u]) := by
  have ea : gAdd (tupI who) (.tup [.int 97]) = some (tupI (who ++ [97])) := by
    have : (who.map T.int).length + [T.int 97].length ≤ lim := by
      have hlim : lim = 1000000 := rfl
      rw [hlim]
      simp
      omega
    unfold tupI
    rw [gAdd_tup, if_pos this]
    simp
  have em : T.tup [] = tupI [] := rfl
  walk_at "py"
  have e4 : [tupI nam, tupI who, tupI (who ++ [97]), tupI []] = [nam, who, who ++ [97], []].map tupI := rfl
  rw [e4]
  refine wpl_map [nam, who, who ++ [97], []] (fun k ρ => ∃ s9, npb s9 = true ∧ ρ = [.i n0, .i fc, s7, s8, .i (tupI pat), .i (tupI nam), .i (tupI who), s9, .u, .u, .u]) ?_ ?_ ?_
  · rintro k l ρ hk ⟨s9, h9, rfl⟩
    have hl : l.length ≤ 60 := by
      have := List.mem_of_getElem? hk
      simp only [List.mem_cons, List.not_mem_nil, or_false] at this
      rcases this with rfl | rfl | rfl | rfl
      · omega
      · omega
      · simp; omega
      · simp
    obtain ⟨b, s, s2, e, e2⟩ := hm3 l hl
    obtain ⟨s12, e10⟩ := hs b
    clear hm3 e4 ea em hs
    walk_at "py"
  · rintro ρ ⟨s9, h9, rfl⟩
    exact ⟨s9, h9, rfl⟩
  · exact ⟨.u, rfl, rfl⟩
theorem aux6 (fp fj fl fi : Fn) (n0 fc : T) (s7 s8 s9 : Sl) (tp tn tw rl : T) (x : Str) (i : Int) (s3 s4 s5 s6 : List Sl)
    (er : fp [.i n0, .i (.int 9), .i (.int 4), .i (.int 3)] = some (rl, s3)) (ej : fj [.i rl, .i fc] = some (.tup [.str x, .int i], s4)) (el : fl [.i rl, .i fc] = some (.tup [.str x, .int i], s5)) (ei : fi [.i (.int i)] = some (.bl true, s6))
    (eq : gEq (.tup [.str x, .int i]) (.tup [.str x, .int i]) = some true) :
    Wp (mSeq (mSet 8 (mDef fp (mArg (mVar 0) (mArg (mC (.int 9)) (mArg (mC (.int 4)) (mArg (mC (.int 3)) mNil))))))
  (mSeq (mSet 9 (mDef fj (mArg (mVar 8) (mArg (mVar 1) mNil))))
  (mRet (mAndV (mUn (gIsi "tuple") (mVar 9)) (mAndV (mDef fi (mArg (mBin gIx (.n 9) (.e (mC (.int 1)))) mNil)) (mBin (fun x y => (gEq x y).map T.bl) (.n 9) (.e (mDef fl (mArg (mVar 8) (mArg (mVar 1) mNil)))))))))) [.i n0, .i fc, s7, s8, .i tp, .i tn, .i tw, s9, .u, .u, .u] (retQ [.i n0] 1 fun t _ => t = .bl true) := by
  have et : gIsi "tuple" (.tup [.str x, .int i]) = some (.bl true) := rfl
  walk_at "py"
theorem law_true (ns : List Int) (h : ns.length ≤ 63) : ∃ s, F_law [.i (.rl (ns.map T.int))] = some (.bl true, s) := by
  suffices h : Fp F_law [.i (.rl (ns.map .int))] (fun t _ => t = .bl true) by
    obtain ⟨⟨t, s⟩, e, rfl⟩ := h
    exact ⟨s, e⟩
  refine fp_run ?_
  unfold m_law
  obtain ⟨nm, sz, kd, ks, pg, as, dp, hnm, hks, has, s0, ef⟩ := t_facts ns
  have hf : FcOk (fT nm sz kd ks pg as dp) := ⟨nm, sz, kd, ks, pg, as, dp, by omega, rfl⟩
  have hh := fun (b : T) (hb : BodyOk b) => t_holds b hb nm sz kd ks pg as dp (by omega)
  generalize fT nm sz kd ks pg as dp = fc at *
  have e7 : F_law_cell [.i (.rl (ns.map .int)), .i (.int 7)] = some (.int (ns.getD 7 0), [.i (.rl (ns.map .int)), .i (.int 7)]) := t_cell ns 7 (by omega)
  have e8 : F_law_cell [.i (.rl (ns.map .int)), .i (.int 8)] = some (.int (ns.getD 8 0), [.i (.rl (ns.map .int)), .i (.int 8)]) := t_cell ns 8 (by omega)
  generalize ns.getD 7 0 = x7 at *
  generalize ns.getD 8 0 = x8 at *
  obtain ⟨pat, hpl, s1, ep⟩ := t_long (absI x7) 20 97 42 98 97 0 (by omega)
  obtain ⟨nam, hnl, s2, en⟩ := t_long (absI x8) 30 97 98 97 42 0 (by omega)
  have ep : F_law_long [.i (.int (absI x7)), .i (.int 20), .i (.lst [.int 97, .int 42, .int 98, .int 97, .int 0])] = some (.tup (pat.map .int), s1) := ep
  have en : F_law_long [.i (.int (absI x8)), .i (.int 30), .i (.lst [.int 97, .int 98, .int 97, .int 42, .int 0])] = some (.tup (nam.map .int), s2) := en
  obtain ⟨rules, hrl, hro, s3, er⟩ := t_policy ns
  obtain ⟨t1, j1, s4, ej⟩ := t_judge hf rules (fun r hr => (hro r hr).2)
  obtain ⟨t2, j2, s5, el⟩ := t_judged hf rules (by omega) (fun r hr => (hro r hr).2)
  have := JQ_one j1 j2
  subst this
  obtain ⟨x, i, hx, rfl⟩ := JQ_shape j1 hro
  have eq := gEq_pair (i := i) hx
  obtain ⟨s6, ei⟩ := t_is_integer i
  refine wp_cut (fun ρ => ρ = [.i (.rl (ns.map .int)), .i fc, .u, .u, .u, .u, .u, .u, .u, .u, .u]) ?_ fun ρ1 h1 => ?_
  · walk_at "py"
  subst h1
  refine wp_cut (fun ρ => ∃ s2 s3, npb s2 = true ∧ npb s3 = true ∧ ρ = [.i (.rl (ns.map .int)), .i fc, s2, s3, .u, .u, .u, .u, .u, .u, .u]) ?_ fun ρ1 h1 => ?_
  · have q4 : small62 4 = true := rfl
    walk_at "py"
    refine wpl_upTo 0 4 (fun k ρ => ∃ s2 s3, npb s2 = true ∧ npb s3 = true ∧ ρ = [.i (.rl (ns.map .int)), .i fc, s2, s3, .u, .u, .u, .u, .u, .u, .u]) ?_ ?_ ?_
    · rintro k ρ hk ⟨s2, s3, h2, h3, rfl⟩
      have e1 := t_cell ns (3 + (k : Int)) (by omega)
      obtain ⟨neg, b, hb, s, e2⟩ := t_term (absI (ns.getD (3 + (k : Int)).toNat 0)) (absI_nn _)
      generalize ns.getD (3 + (k : Int)).toNat 0 = x at *
      obtain ⟨B, hB⟩ := hh b hb
      obtain ⟨⟨s7, e3⟩, ⟨s8, e4⟩⟩ := hB neg
      obtain ⟨⟨s9, e5⟩, ⟨s10, e6⟩⟩ := hB (!neg)
      rw [bne_flip] at e5 e6
      obtain ⟨s11, e9⟩ := t_says (!decide (B = neg))
      obtain ⟨s12, e10⟩ := t_says (!(!decide (B = neg)))
      generalize (!decide (B = neg)) = bb at *
      walk_at "py"
    · rintro ρ ⟨s2, s3, h2, h3, rfl⟩
      exact ⟨s2, h2, s3, h3, rfl⟩
    · exact ⟨.u, .u, rfl, rfl, rfl⟩
  obtain ⟨s7, s8, h7, h8, rfl⟩ := h1
  refine wp_cut (fun ρ => ρ = [.i (.rl (ns.map .int)), .i fc, s7, s8, .i (tupI pat), .u, .u, .u, .u, .u, .u]) ?_ fun ρ1 h1 => ?_
  · unfold tupI
    walk_at "py"
  subst h1
  refine wp_cut (fun ρ => ρ = [.i (.rl (ns.map .int)), .i fc, s7, s8, .i (tupI pat), .i (tupI nam), .u, .u, .u, .u, .u]) ?_ fun ρ1 h1 => ?_
  · generalize tupI pat = tp at *
    unfold tupI
    walk_at "py"
  subst h1
  refine wp_cut (fun ρ => ∃ who : List Int, who.length ≤ 20 ∧ ρ = [.i (.rl (ns.map .int)), .i fc, s7, s8, .i (tupI pat), .i (tupI nam), .i (tupI who), .u, .u, .u, .u]) ?_ fun ρ1 h1 => ?_
  · have hl : pat.length ≤ 1000000 := by omega
    have et : tupI pat = .tup (pat.map .int) := rfl
    generalize tupI nam = tn at *
    rw [et]
    walk_at "py"
    rw [lc_map (fun x => !decide (x = 42)) T.int]
    · have hfl : (pat.filter fun x => !decide (x = 42)).length ≤ pat.length := List.length_filter_le _ _
      generalize (pat.filter fun x => !decide (x = 42)) = fl at *
      have hl2 : fl.length ≤ 1000000 := by omega
      walk_at "py"
      exact ⟨fl, by omega, rfl⟩
    · walk_at "py"
    · intro x hx
      by_cases c : x = 42 <;> walk_at "py"
  obtain ⟨who, hw, rfl⟩ := h1
  refine wp_cut (fun ρ => ∃ s9, npb s9 = true ∧ ρ = [.i (.rl (ns.map .int)), .i fc, s7, s8, .i (tupI pat), .i (tupI nam), .i (tupI who), s9, .u, .u, .u]) ?_ fun ρ1 h1 => ?_
  · refine aux5 F_matches F_law_match F_law_says _ _ _ _ pat nam who (by omega) (by omega) ?_ t_says
    intro l hl
    obtain ⟨s, e⟩ := t_matches pat l (by omega)
    obtain ⟨s2, e2⟩ := t_law_match pat l hl
    exact ⟨_, s, s2, e, e2⟩
  obtain ⟨s9, h9, rfl⟩ := h1
  exact aux6 F_law_policy F_judge F_law_judged F_law_is_integer _ _ _ _ _ _ _ _ _ _ _ _ _ _ _ er ej el ei eq
end Pu
open PySem PySem.W PyProof.Rows
set_option maxHeartbeats 0 in
theorem PySem.Challenge.cw_stillroom_k72_terms_and_judging_holds : PySem.Challenge.rw_stillroom_k72_terms_and_judging.Holds := by
  w_on; o_law; k_head; (case hw => w_witness2)
  k_fill
  refine L2.walk_of (l := PySem.Challenge.rw_stillroom_k72_terms_and_judging) (n := 63) (k := 6) (x := "_law_script") (CX := fun _ => L2.CX0) (sp := fun w => Pu.spP _ 1 Pu.F_law) rfl (by decide) rfl ⟨rfl, by decide, by decide⟩ (fun w h Y => PySem.W.kIn_of Y) ?F (fun _ _ a ns hl _ hS => Pu.sp_law hS (Pu.law_true ns hl)) (fun _ _ _ _ _ h => h)
  case F =>
    intro w mg fa h KX G hmg
    refine Pu.end_law ?T hmg
    refine' Pu.txt_mk KX G ?z_len ?z_int ?z_range ?z_abs ?z_tuple ?z_sorted ?z_enumerate ?z_all ?z_isinstance ?z_bool ?a_STAR ?a_MOST ?l_MOST ?s_MOST ?h_MOST ?k_MOST0 ?k_MOST1 ?k_MOST2 ?k_MOST3 ?m_MOST0 ?m_MOST1 ?m_MOST2 ?m_MOST3 ?a_law_cell ?l_law_cell ?c_law_cell ?k_law_cell ?a_law_kinds ?l_law_kinds ?c_law_kinds ?k_law_kinds ?a_law_row ?l_law_row ?c_law_row ?k_law_row ?a_law_acts ?l_law_acts ?c_law_acts ?k_law_acts ?a_law_facts ?l_law_facts ?c_law_facts ?k_law_facts ?a_law_long ?l_law_long ?c_law_long ?k_law_long ?a_law_pattern ?l_law_pattern ?c_law_pattern ?k_law_pattern ?a_law_body ?l_law_body ?c_law_body ?k_law_body ?a_law_term ?l_law_term ?c_law_term ?k_law_term ?a_law_policy ?l_law_policy ?c_law_policy ?k_law_policy ?a_stands ?l_stands ?c_stands ?k_stands ?a_number_of ?l_number_of ?c_number_of ?k_number_of ?a_opened ?l_opened ?c_opened ?k_opened ?a_moved ?l_moved ?c_moved ?k_moved ?a_matches ?l_matches ?c_matches ?k_matches ?a_holds ?l_holds ?c_holds ?k_holds ?a_judge ?l_judge ?c_judge ?k_judge ?a_law_is_integer ?l_law_is_integer ?c_law_is_integer ?k_law_is_integer ?a_law_says ?l_law_says ?c_law_says ?k_law_says ?a_law_match ?l_law_match ?c_law_match ?k_law_match ?a_law_stands ?l_law_stands ?c_law_stands ?k_law_stands ?a_law_holds ?l_law_holds ?c_law_holds ?k_law_holds ?a_law_judged ?l_law_judged ?c_law_judged ?k_law_judged ?a_law ?l_law ?c_law ?k_law
    (case z_len => first | k_is | decide +kernel | (simp [PySem.W.KeysLit] <;> decide +kernel))
    (case z_int => first | k_is | decide +kernel | (simp [PySem.W.KeysLit] <;> decide +kernel))
    (case z_range => first | k_is | decide +kernel | (simp [PySem.W.KeysLit] <;> decide +kernel))
    (case z_abs => first | k_is | decide +kernel | (simp [PySem.W.KeysLit] <;> decide +kernel))
    (case z_tuple => first | k_is | decide +kernel | (simp [PySem.W.KeysLit] <;> decide +kernel))
    (case z_sorted => first | k_is | decide +kernel | (simp [PySem.W.KeysLit] <;> decide +kernel))
    (case z_enumerate => first | k_is | decide +kernel | (simp [PySem.W.KeysLit] <;> decide +kernel))
    (case z_all => first | k_is | decide +kernel | (simp [PySem.W.KeysLit] <;> decide +kernel))
    (case z_isinstance => first | k_is | decide +kernel | (simp [PySem.W.KeysLit] <;> decide +kernel))
    (case z_bool => first | k_is | decide +kernel | (simp [PySem.W.KeysLit] <;> decide +kernel))
    (case a_STAR => first | k_is | decide +kernel | (simp [PySem.W.KeysLit] <;> decide +kernel))
    (case a_MOST => first | k_is | decide +kernel | (simp [PySem.W.KeysLit] <;> decide +kernel))
    (case l_MOST => first | k_is | decide +kernel | (simp [PySem.W.KeysLit] <;> decide +kernel))
    (case s_MOST => first | k_is | decide +kernel | (simp [PySem.W.KeysLit] <;> decide +kernel))
    (case h_MOST => first | k_is | decide +kernel | (simp [PySem.W.KeysLit] <;> decide +kernel))
    (case k_MOST0 => first | k_is | decide +kernel | (simp [PySem.W.KeysLit] <;> decide +kernel))
    (case k_MOST1 => first | k_is | decide +kernel | (simp [PySem.W.KeysLit] <;> decide +kernel))
    (case k_MOST2 => first | k_is | decide +kernel | (simp [PySem.W.KeysLit] <;> decide +kernel))
    (case k_MOST3 => first | k_is | decide +kernel | (simp [PySem.W.KeysLit] <;> decide +kernel))
    (case m_MOST0 => first | k_is | decide +kernel | (simp [PySem.W.KeysLit] <;> decide +kernel))
    (case m_MOST1 => first | k_is | decide +kernel | (simp [PySem.W.KeysLit] <;> decide +kernel))
    (case m_MOST2 => first | k_is | decide +kernel | (simp [PySem.W.KeysLit] <;> decide +kernel))
    (case m_MOST3 => first | k_is | decide +kernel | (simp [PySem.W.KeysLit] <;> decide +kernel))
    (case a_law_cell => first | k_is | decide +kernel | (simp [PySem.W.KeysLit] <;> decide +kernel))
    (case l_law_cell => first | k_is | decide +kernel | (simp [PySem.W.KeysLit] <;> decide +kernel))
    (case c_law_cell => first | k_is | decide +kernel | (simp [PySem.W.KeysLit] <;> decide +kernel))
    (case k_law_cell => first | k_is | decide +kernel | (simp [PySem.W.KeysLit] <;> decide +kernel))
    (case a_law_kinds => first | k_is | decide +kernel | (simp [PySem.W.KeysLit] <;> decide +kernel))
    (case l_law_kinds => first | k_is | decide +kernel | (simp [PySem.W.KeysLit] <;> decide +kernel))
    (case c_law_kinds => first | k_is | decide +kernel | (simp [PySem.W.KeysLit] <;> decide +kernel))
    (case k_law_kinds => first | k_is | decide +kernel | (simp [PySem.W.KeysLit] <;> decide +kernel))
    (case a_law_row => first | k_is | decide +kernel | (simp [PySem.W.KeysLit] <;> decide +kernel))
    (case l_law_row => first | k_is | decide +kernel | (simp [PySem.W.KeysLit] <;> decide +kernel))
    (case c_law_row => first | k_is | decide +kernel | (simp [PySem.W.KeysLit] <;> decide +kernel))
    (case k_law_row => first | k_is | decide +kernel | (simp [PySem.W.KeysLit] <;> decide +kernel))
    (case a_law_acts => first | k_is | decide +kernel | (simp [PySem.W.KeysLit] <;> decide +kernel))
    (case l_law_acts => first | k_is | decide +kernel | (simp [PySem.W.KeysLit] <;> decide +kernel))
    (case c_law_acts => first | k_is | decide +kernel | (simp [PySem.W.KeysLit] <;> decide +kernel))
    (case k_law_acts => first | k_is | decide +kernel | (simp [PySem.W.KeysLit] <;> decide +kernel))
    (case a_law_facts => first | k_is | decide +kernel | (simp [PySem.W.KeysLit] <;> decide +kernel))
    (case l_law_facts => first | k_is | decide +kernel | (simp [PySem.W.KeysLit] <;> decide +kernel))
    (case c_law_facts => first | k_is | decide +kernel | (simp [PySem.W.KeysLit] <;> decide +kernel))
    (case k_law_facts => first | k_is | decide +kernel | (simp [PySem.W.KeysLit] <;> decide +kernel))
    (case a_law_long => first | k_is | decide +kernel | (simp [PySem.W.KeysLit] <;> decide +kernel))
    (case l_law_long => first | k_is | decide +kernel | (simp [PySem.W.KeysLit] <;> decide +kernel))
    (case c_law_long => first | k_is | decide +kernel | (simp [PySem.W.KeysLit] <;> decide +kernel))
    (case k_law_long => first | k_is | decide +kernel | (simp [PySem.W.KeysLit] <;> decide +kernel))
    (case a_law_pattern => first | k_is | decide +kernel | (simp [PySem.W.KeysLit] <;> decide +kernel))
    (case l_law_pattern => first | k_is | decide +kernel | (simp [PySem.W.KeysLit] <;> decide +kernel))
    (case c_law_pattern => first | k_is | decide +kernel | (simp [PySem.W.KeysLit] <;> decide +kernel))
    (case k_law_pattern => first | k_is | decide +kernel | (simp [PySem.W.KeysLit] <;> decide +kernel))
    (case a_law_body => first | k_is | decide +kernel | (simp [PySem.W.KeysLit] <;> decide +kernel))
    (case l_law_body => first | k_is | decide +kernel | (simp [PySem.W.KeysLit] <;> decide +kernel))
    (case c_law_body => first | k_is | decide +kernel | (simp [PySem.W.KeysLit] <;> decide +kernel))
    (case k_law_body => first | k_is | decide +kernel | (simp [PySem.W.KeysLit] <;> decide +kernel))
    (case a_law_term => first | k_is | decide +kernel | (simp [PySem.W.KeysLit] <;> decide +kernel))
    (case l_law_term => first | k_is | decide +kernel | (simp [PySem.W.KeysLit] <;> decide +kernel))
    (case c_law_term => first | k_is | decide +kernel | (simp [PySem.W.KeysLit] <;> decide +kernel))
    (case k_law_term => first | k_is | decide +kernel | (simp [PySem.W.KeysLit] <;> decide +kernel))
    (case a_law_policy => first | k_is | decide +kernel | (simp [PySem.W.KeysLit] <;> decide +kernel))
    (case l_law_policy => first | k_is | decide +kernel | (simp [PySem.W.KeysLit] <;> decide +kernel))
    (case c_law_policy => first | k_is | decide +kernel | (simp [PySem.W.KeysLit] <;> decide +kernel))
    (case k_law_policy => first | k_is | decide +kernel | (simp [PySem.W.KeysLit] <;> decide +kernel))
    (case a_stands => first | k_is | decide +kernel | (simp [PySem.W.KeysLit] <;> decide +kernel))
    (case l_stands => first | k_is | decide +kernel | (simp [PySem.W.KeysLit] <;> decide +kernel))
    (case c_stands => first | k_is | decide +kernel | (simp [PySem.W.KeysLit] <;> decide +kernel))
    (case k_stands => first | k_is | decide +kernel | (simp [PySem.W.KeysLit] <;> decide +kernel))
    (case a_number_of => first | k_is | decide +kernel | (simp [PySem.W.KeysLit] <;> decide +kernel))
    (case l_number_of => first | k_is | decide +kernel | (simp [PySem.W.KeysLit] <;> decide +kernel))
    (case c_number_of => first | k_is | decide +kernel | (simp [PySem.W.KeysLit] <;> decide +kernel))
    (case k_number_of => first | k_is | decide +kernel | (simp [PySem.W.KeysLit] <;> decide +kernel))
    (case a_opened => first | k_is | decide +kernel | (simp [PySem.W.KeysLit] <;> decide +kernel))
    (case l_opened => first | k_is | decide +kernel | (simp [PySem.W.KeysLit] <;> decide +kernel))
    (case c_opened => first | k_is | decide +kernel | (simp [PySem.W.KeysLit] <;> decide +kernel))
    (case k_opened => first | k_is | decide +kernel | (simp [PySem.W.KeysLit] <;> decide +kernel))
    (case a_moved => first | k_is | decide +kernel | (simp [PySem.W.KeysLit] <;> decide +kernel))
    (case l_moved => first | k_is | decide +kernel | (simp [PySem.W.KeysLit] <;> decide +kernel))
    (case c_moved => first | k_is | decide +kernel | (simp [PySem.W.KeysLit] <;> decide +kernel))
    (case k_moved => first | k_is | decide +kernel | (simp [PySem.W.KeysLit] <;> decide +kernel))
    (case a_matches => first | k_is | decide +kernel | (simp [PySem.W.KeysLit] <;> decide +kernel))
    (case l_matches => first | k_is | decide +kernel | (simp [PySem.W.KeysLit] <;> decide +kernel))
    (case c_matches => first | k_is | decide +kernel | (simp [PySem.W.KeysLit] <;> decide +kernel))
    (case k_matches => first | k_is | decide +kernel | (simp [PySem.W.KeysLit] <;> decide +kernel))
    (case a_holds => first | k_is | decide +kernel | (simp [PySem.W.KeysLit] <;> decide +kernel))
    (case l_holds => first | k_is | decide +kernel | (simp [PySem.W.KeysLit] <;> decide +kernel))
    (case c_holds => first | k_is | decide +kernel | (simp [PySem.W.KeysLit] <;> decide +kernel))
    (case k_holds => first | k_is | decide +kernel | (simp [PySem.W.KeysLit] <;> decide +kernel))
    (case a_judge => first | k_is | decide +kernel | (simp [PySem.W.KeysLit] <;> decide +kernel))
    (case l_judge => first | k_is | decide +kernel | (simp [PySem.W.KeysLit] <;> decide +kernel))
    (case c_judge => first | k_is | decide +kernel | (simp [PySem.W.KeysLit] <;> decide +kernel))
    (case k_judge => first | k_is | decide +kernel | (simp [PySem.W.KeysLit] <;> decide +kernel))
    (case a_law_is_integer => first | k_is | decide +kernel | (simp [PySem.W.KeysLit] <;> decide +kernel))
    (case l_law_is_integer => first | k_is | decide +kernel | (simp [PySem.W.KeysLit] <;> decide +kernel))
    (case c_law_is_integer => first | k_is | decide +kernel | (simp [PySem.W.KeysLit] <;> decide +kernel))
    (case k_law_is_integer => first | k_is | decide +kernel | (simp [PySem.W.KeysLit] <;> decide +kernel))
    (case a_law_says => first | k_is | decide +kernel | (simp [PySem.W.KeysLit] <;> decide +kernel))
    (case l_law_says => first | k_is | decide +kernel | (simp [PySem.W.KeysLit] <;> decide +kernel))
    (case c_law_says => first | k_is | decide +kernel | (simp [PySem.W.KeysLit] <;> decide +kernel))
    (case k_law_says => first | k_is | decide +kernel | (simp [PySem.W.KeysLit] <;> decide +kernel))
    (case a_law_match => first | k_is | decide +kernel | (simp [PySem.W.KeysLit] <;> decide +kernel))
    (case l_law_match => first | k_is | decide +kernel | (simp [PySem.W.KeysLit] <;> decide +kernel))
    (case c_law_match => first | k_is | decide +kernel | (simp [PySem.W.KeysLit] <;> decide +kernel))
    (case k_law_match => first | k_is | decide +kernel | (simp [PySem.W.KeysLit] <;> decide +kernel))
    (case a_law_stands => first | k_is | decide +kernel | (simp [PySem.W.KeysLit] <;> decide +kernel))
    (case l_law_stands => first | k_is | decide +kernel | (simp [PySem.W.KeysLit] <;> decide +kernel))
    (case c_law_stands => first | k_is | decide +kernel | (simp [PySem.W.KeysLit] <;> decide +kernel))
    (case k_law_stands => first | k_is | decide +kernel | (simp [PySem.W.KeysLit] <;> decide +kernel))
    (case a_law_holds => first | k_is | decide +kernel | (simp [PySem.W.KeysLit] <;> decide +kernel))
    (case l_law_holds => first | k_is | decide +kernel | (simp [PySem.W.KeysLit] <;> decide +kernel))
    (case c_law_holds => first | k_is | decide +kernel | (simp [PySem.W.KeysLit] <;> decide +kernel))
    (case k_law_holds => first | k_is | decide +kernel | (simp [PySem.W.KeysLit] <;> decide +kernel))
    (case a_law_judged => first | k_is | decide +kernel | (simp [PySem.W.KeysLit] <;> decide +kernel))
    (case l_law_judged => first | k_is | decide +kernel | (simp [PySem.W.KeysLit] <;> decide +kernel))
    (case c_law_judged => first | k_is | decide +kernel | (simp [PySem.W.KeysLit] <;> decide +kernel))
    (case k_law_judged => first | k_is | decide +kernel | (simp [PySem.W.KeysLit] <;> decide +kernel))
    (case a_law => first | k_is | decide +kernel | (simp [PySem.W.KeysLit] <;> decide +kernel))
    (case l_law => first | k_is | decide +kernel | (simp [PySem.W.KeysLit] <;> decide +kernel))
    (case c_law => first | k_is | decide +kernel | (simp [PySem.W.KeysLit] <;> decide +kernel))
    (case k_law => first | k_is | decide +kernel | (simp [PySem.W.KeysLit] <;> decide +kernel))
