import PyProof.Rows.All
import Wide.All
import OpenK.AllK
import Wide.FinOn
import HandS.ForMost
import HandS.Wide
import HandS.Defaults
import HandS.Exc
import HandS.TryOnly
import HandS.ExcOwn
import HandS.WordsExc
import HandS.IsInst
import HandS.Zip
import HandS.Star
import HandS.HeadHook4
import HandS.Deep
import HandS.TupAny
import HandS.TupLe
import HandS.Property
import HandS.MakeKwOnly
import HandS.DictComp
import HandS.Strs
import HandS.Head0
import HandS.Head1
import HandS.Head2
import HandS.HeadEnd
import PySem.Challenge.RW_lastshown_k69_calls_by_name
set_option Elab.async false
set_option linter.all false
set_option maxRecDepth 100000
set_option maxHeartbeats 4000000
/-! PL: values as trees, slots, what is owned. -/
namespace PL
open PySem PySem.Spec PyProof.Rows L2

inductive D where
  | non | bl (b : Bool) | int (i : Int) | str (x : Str) | adr (a : Addr) | ty (n : String)
  | tup (ds : List D) | lst (ds : List D) | obj (C : Str) (ns : List Str) (ds : List D) | dic (ks : List Key) (ds : List D)
  /-- a list that is read (the script, a list of the top) -/
  | seq (ds : List D)
  /-- some value, unknown -/
  | any
  /-- an instance at a known place -/
  | oba (a : Addr) (C : Str) (ns : List Str) (ds : List D)
inductive M where
  | d (x : D)
  | lst (ms : List M) | obj (C : Str) (ns : List Str) (ms : List M) | dic (ks : List Key) (ms : List M)
  /-- things at known places, of which the first is meant -/
  | box (a : Addr) (as : List Addr) (ms : List M)
instance : Inhabited D := ⟨.non⟩
instance : Inhabited M := ⟨.d .non⟩

section
variable (K : PySem.W.Frag) (G : Hp)
mutual
def Rp : D → V → Prop
  | .non, v => v = .non
  | .bl b, v => v = .bl b
  | .int i, v => v = .int i
  | .str x, v => v = .str x
  | .adr a, v => v = .ref a
  | .ty n, v => v = .ty n
  | .tup ds, v => ∃ p xs, v = .ref p ∧ SqT K G p xs ∧ RpL ds xs
  | .lst ds, v => ∃ p xs, v = .ref p ∧ G p = some (.lst xs) ∧ RpL ds xs
  | .seq ds, v => ∃ p xs, v = .ref p ∧ SqL K G p xs ∧ RpL ds xs
  | .obj C ns ds, v => ∃ p dx xs, v = .ref p ∧ G p = some (.ins (He.ga K C) dx (ns.zip xs)) ∧ ns.length = xs.length ∧ RpL ds xs
  | .dic ks ds, v => ∃ p xs, v = .ref p ∧ G p = some (.dK (ks.zip xs)) ∧ ks.length = xs.length ∧ RpL ds xs
  | .any, _ => True
  | .oba a C ns ds, v => ∃ dx xs, v = .ref a ∧ G a = some (.ins (He.ga K C) dx (ns.zip xs)) ∧ ns.length = xs.length ∧ RpL ds xs
def RpL : List D → List V → Prop
  | [], xs => xs = []
  | d :: ds, xs => ∃ y ys, xs = y :: ys ∧ Rp d y ∧ RpL ds ys
end
variable (H : Hp)
mutual
/-- an owned thing: its cells stand in H, at f -/
def RM : M → V → List Addr → Prop
  | .d x, v, f => Rp K G x v ∧ f = []
  | .lst ms, v, f => ∃ p xs q, v = .ref p ∧ H p = some (.lst xs) ∧ RML ms xs q ∧ f = p :: q
  | .obj C ns ms, v, f => ∃ p dx xs q, v = .ref p ∧ H p = some (.ins (He.ga K C) dx (ns.zip xs)) ∧ ns.length = xs.length ∧ RML ms xs q ∧ f = p :: q
  | .dic ks ms, v, f => ∃ p xs q, v = .ref p ∧ H p = some (.dK (ks.zip xs)) ∧ ks.length = xs.length ∧ RML ms xs q ∧ f = p :: q
  | .box a as ms, v, f => v = .ref a ∧ RML ms (as.map V.ref) f
def RML : List M → List V → List Addr → Prop
  | [], xs, f => xs = [] ∧ f = []
  | m :: ms, xs, f => ∃ y ys f1 f2, xs = y :: ys ∧ RM m y f1 ∧ RML ms ys f2 ∧ f = f1 ++ f2
end
end
section
variable {K : PySem.W.Frag} {G G' H H' : Hp}
theorem sqt_mono {a : Addr} {xs : List V} (e : Same G G') (h : SqT K G a xs) : SqT K G' a xs := by
  rcases h with (h | ⟨o, h⟩) | h
  · exact .inl (.inl (e _ _ h))
  · exact .inl (.inr ⟨o, e _ _ h⟩)
  · exact .inr h
mutual
theorem Rp.mono (e : Same G G') : ∀ (d : D) (v : V), Rp K G d v → Rp K G' d v
  | .non, _, h => by simp only [Rp] at h ⊢; exact h
  | .bl _, _, h => by simp only [Rp] at h ⊢; exact h
  | .int _, _, h => by simp only [Rp] at h ⊢; exact h
  | .str _, _, h => by simp only [Rp] at h ⊢; exact h
  | .adr _, _, h => by simp only [Rp] at h ⊢; exact h
  | .ty _, _, h => by simp only [Rp] at h ⊢; exact h
  | .tup ds, _, h => by
    simp only [Rp] at h ⊢
    obtain ⟨p, xs, h1, h2, h3⟩ := h
    exact ⟨p, xs, h1, sqt_mono e h2, RpL.mono e ds xs h3⟩
  | .lst ds, _, h => by
    simp only [Rp] at h ⊢
    obtain ⟨p, xs, h1, h2, h3⟩ := h
    exact ⟨p, xs, h1, e _ _ h2, RpL.mono e ds xs h3⟩
  | .seq ds, _, h => by
    simp only [Rp] at h ⊢
    obtain ⟨p, xs, h1, h2, h3⟩ := h
    exact ⟨p, xs, h1, e.seq h2, RpL.mono e ds xs h3⟩
  | .obj C ns ds, _, h => by
    simp only [Rp] at h ⊢
    obtain ⟨p, dx, xs, h1, h2, h4, h3⟩ := h
    exact ⟨p, dx, xs, h1, e _ _ h2, h4, RpL.mono e ds xs h3⟩
  | .dic ks ds, _, h => by
    simp only [Rp] at h ⊢
    obtain ⟨p, xs, h1, h2, h4, h3⟩ := h
    exact ⟨p, xs, h1, e _ _ h2, h4, RpL.mono e ds xs h3⟩
  | .any, _, h => by simp only [Rp]
  | .oba a C ns ds, _, h => by
    simp only [Rp] at h ⊢
    obtain ⟨dx, xs, h1, h2, h4, h3⟩ := h
    exact ⟨dx, xs, h1, e _ _ h2, h4, RpL.mono e ds xs h3⟩
theorem RpL.mono (e : Same G G') : ∀ (ds : List D) (xs : List V), RpL K G ds xs → RpL K G' ds xs
  | [], _, h => by simp only [RpL] at h ⊢; exact h
  | d :: ds, _, h => by
    simp only [RpL] at h ⊢
    obtain ⟨y, ys, h1, h2, h3⟩ := h
    exact ⟨y, ys, h1, Rp.mono e d y h2, RpL.mono e ds ys h3⟩
end
mutual
theorem RM.frame (e : Same G G') : ∀ (m : M) (v : V) (f : List Addr), RM K G H m v f → (∀ a ∈ f, H' a = H a) → RM K G' H' m v f
  | .d x, v, f, h, _ => by
    simp only [RM] at h ⊢
    exact ⟨Rp.mono e _ _ h.1, h.2⟩
  | .lst ms, v, f, h, k => by
    simp only [RM] at h ⊢
    obtain ⟨p, xs, q, h1, h2, h3, h4⟩ := h
    subst h4
    exact ⟨p, xs, q, h1, by rw [k p (by simp)]; exact h2, RML.frame e ms xs q h3 (fun a ha => k a (by simp [ha])), rfl⟩
  | .obj C ns ms, v, f, h, k => by
    simp only [RM] at h ⊢
    obtain ⟨p, dx, xs, q, h1, h2, h5, h3, h4⟩ := h
    subst h4
    exact ⟨p, dx, xs, q, h1, by rw [k p (by simp)]; exact h2, h5, RML.frame e ms xs q h3 (fun a ha => k a (by simp [ha])), rfl⟩
  | .dic ks ms, v, f, h, k => by
    simp only [RM] at h ⊢
    obtain ⟨p, xs, q, h1, h2, h5, h3, h4⟩ := h
    subst h4
    exact ⟨p, xs, q, h1, by rw [k p (by simp)]; exact h2, h5, RML.frame e ms xs q h3 (fun a ha => k a (by simp [ha])), rfl⟩
  | .box a as ms, v, f, h, k => by
    simp only [RM] at h ⊢
    exact ⟨h.1, RML.frame e ms _ f h.2 k⟩
theorem RML.frame (e : Same G G') : ∀ (ms : List M) (xs : List V) (f : List Addr), RML K G H ms xs f → (∀ a ∈ f, H' a = H a) → RML K G' H' ms xs f
  | [], _, _, h, _ => by simp only [RML] at h ⊢; exact h
  | m :: ms, _, _, h, k => by
    simp only [RML] at h ⊢
    obtain ⟨y, ys, f1, f2, h1, h2, h3, h4⟩ := h
    subst h4
    exact ⟨y, ys, f1, f2, h1, RM.frame e m y f1 h2 (fun a ha => k a (by simp [ha])), RML.frame e ms ys f2 h3 (fun a ha => k a (by simp [ha])), rfl⟩
end
mutual
theorem RM.there : ∀ (m : M) (v : V) (f : List Addr), RM K G H m v f → ∀ a ∈ f, H a ≠ none
  | .d x, v, f, h => by
    simp only [RM] at h
    obtain ⟨_, rfl⟩ := h
    simp
  | .lst ms, v, f, h => by
    simp only [RM] at h
    obtain ⟨p, xs, q, h1, h2, h3, h4⟩ := h
    subst h4
    intro a ha
    rcases List.mem_cons.mp ha with rfl | ha
    · rw [h2]; simp
    · exact RML.there ms xs q h3 a ha
  | .obj C ns ms, v, f, h => by
    simp only [RM] at h
    obtain ⟨p, dx, xs, q, h1, h2, h5, h3, h4⟩ := h
    subst h4
    intro a ha
    rcases List.mem_cons.mp ha with rfl | ha
    · rw [h2]; simp
    · exact RML.there ms xs q h3 a ha
  | .dic ks ms, v, f, h => by
    simp only [RM] at h
    obtain ⟨p, xs, q, h1, h2, h5, h3, h4⟩ := h
    subst h4
    intro a ha
    rcases List.mem_cons.mp ha with rfl | ha
    · rw [h2]; simp
    · exact RML.there ms xs q h3 a ha
  | .box a as ms, v, f, h => by
    simp only [RM] at h
    exact RML.there ms _ f h.2
theorem RML.there : ∀ (ms : List M) (xs : List V) (f : List Addr), RML K G H ms xs f → ∀ a ∈ f, H a ≠ none
  | [], _, _, h => by
    simp only [RML] at h
    obtain ⟨_, rfl⟩ := h
    simp
  | m :: ms, _, _, h => by
    simp only [RML] at h
    obtain ⟨y, ys, f1, f2, h1, h2, h3, h4⟩ := h
    subst h4
    intro a ha
    rcases List.mem_append.mp ha with ha | ha
    · exact RM.there m y f1 h2 a ha
    · exact RML.there ms ys f2 h3 a ha
end
end

/-! ### slots -/
inductive B where
  | no | d (x : D) | o (k : Option Nat) (m : M)
/-- the entry of a def: its heap, what persists, the cells that it may change, its arguments -/
structure Cg where
  H0 : Hp
  G0 : Hp
  PS : List Addr
  PP : Nat → List Addr
  VS : List V
structure Stp (ps : List Addr) (G H G' H' : Hp) : Prop where
  g : Same G G'
  gh : Same G' H'
  nw : ∀ a, H a ≠ none → G a = none → G' a = none
  kp : ∀ a o, H a = some o → a ∉ ps → H' a = some o
  dm : ∀ a, H a ≠ none → H' a ≠ none
section
variable (K : PySem.W.Frag) (c : Cg) (G H : Hp)
def RB : B → Option V → List Addr → Prop
  | .no, _, f => f = []
  | .d x, s, f => f = [] ∧ ∃ v, s = some v ∧ Rp K G x v
  | .o k m, s, f => ∃ v, s = some v ∧ RM K G H m v f ∧ (match k with | none => ∀ a ∈ f, c.H0 a = none | some j => c.VS[j]? = some v ∧ ∀ a ∈ f, a ∈ c.PP j ∨ c.H0 a = none)
def RE : List B → L2.St → List Addr → Prop
  | [], σ, f => σ = [] ∧ f = []
  | b :: bs, σ, f => ∃ s σ' f1 f2, σ = s :: σ' ∧ RB K c G H b s f1 ∧ RE bs σ' f2 ∧ f = f1 ++ f2
def RT : List (M × V) → List Addr → Prop
  | [], f => f = []
  | t :: T, f => ∃ f1 f2, RM K G H t.1 t.2 f1 ∧ (∀ a ∈ f1, c.H0 a = none) ∧ RT T f2 ∧ f = f1 ++ f2
structure Iv (σ : L2.St) (b : List B) (T : List (M × V)) : Prop where
  st : Stp c.PS c.G0 c.H0 G H
  fp : ∃ f1 f2, RE K c G H b σ f1 ∧ RT K c G H T f2 ∧ (f1 ++ f2).Nodup ∧ ∀ a ∈ f1 ++ f2, G a = none ∧ (a ∈ c.PS ∨ c.H0 a = none)
end
section
variable {K : PySem.W.Frag} {c : Cg} {G G' H H' : Hp} {σ : L2.St} {b : List B} {T T1 : List (M × V)} {p : Addr} {o : HO} {d : D} {v : V} {m : M}
theorem RB.frame (e : Same G G') : ∀ {b : B} {s : Option V} {f : List Addr}, RB K c G H b s f → (∀ a ∈ f, H' a = H a) → RB K c G' H' b s f
  | .no, _, _, h, _ => h
  | .d x, _, _, ⟨h1, v, h2, h3⟩, _ => ⟨h1, v, h2, Rp.mono e _ _ h3⟩
  | .o k m, _, _, ⟨v, h1, h2, h3⟩, q => ⟨v, h1, RM.frame e _ _ _ h2 q, h3⟩
theorem RE.frame (e : Same G G') : ∀ {b : List B} {σ : L2.St} {f : List Addr}, RE K c G H b σ f → (∀ a ∈ f, H' a = H a) → RE K c G' H' b σ f
  | [], _, _, h, _ => h
  | b :: bs, _, _, ⟨s, σ', f1, f2, h1, h2, h3, h4⟩, q => by
    subst h4
    exact ⟨s, σ', f1, f2, h1, h2.frame e (fun a ha => q a (by simp [ha])), h3.frame e (fun a ha => q a (by simp [ha])), rfl⟩
theorem RT.frame (e : Same G G') : ∀ {T : List (M × V)} {f : List Addr}, RT K c G H T f → (∀ a ∈ f, H' a = H a) → RT K c G' H' T f
  | [], _, h, _ => h
  | t :: T, _, ⟨f1, f2, h1, h2, h3, h4⟩, q => by
    subst h4
    exact ⟨f1, f2, RM.frame e _ _ _ h1 (fun a ha => q a (by simp [ha])), h2, h3.frame e (fun a ha => q a (by simp [ha])), rfl⟩
theorem RB.there : ∀ {b : B} {s : Option V} {f : List Addr}, RB K c G H b s f → ∀ a ∈ f, H a ≠ none
  | .no, _, _, h => by
    have h : _ = [] := h
    subst h; simp
  | .d x, _, _, ⟨h1, _⟩ => by subst h1; simp
  | .o k m, _, _, ⟨v, h1, h2, h3⟩ => RM.there _ _ _ h2
theorem RE.there : ∀ {b : List B} {σ : L2.St} {f : List Addr}, RE K c G H b σ f → ∀ a ∈ f, H a ≠ none
  | [], _, _, ⟨_, h⟩ => by subst h; simp
  | b :: bs, _, _, ⟨s, σ', f1, f2, h1, h2, h3, h4⟩ => by
    subst h4
    intro a ha
    rcases List.mem_append.mp ha with ha | ha
    · exact h2.there a ha
    · exact h3.there a ha
theorem RT.there : ∀ {T : List (M × V)} {f : List Addr}, RT K c G H T f → ∀ a ∈ f, H a ≠ none
  | [], _, h => by
    have h : _ = [] := h
    subst h; simp
  | t :: T, _, ⟨f1, f2, h1, h2, h3, h4⟩ => by
    subst h4
    intro a ha
    rcases List.mem_append.mp ha with ha | ha
    · exact RM.there _ _ _ h1 a ha
    · exact h3.there a ha
theorem RE.len : ∀ {b : List B} {σ : L2.St} {f : List Addr}, RE K c G H b σ f → σ.length = b.length
  | [], _, _, ⟨h, _⟩ => by subst h; rfl
  | b :: bs, _, _, ⟨s, σ', f1, f2, h1, h2, h3, h4⟩ => by subst h1; simp [h3.len]

theorem Stp.refl (h : Same G H) : Stp [] G H G H := ⟨fun _ _ h => h, h, fun _ _ h => h, fun _ _ h _ => h, fun _ h => h⟩
/-- a step behind a step -/
theorem Stp.trans {ps f : List Addr} {G0 H0 : Hp} (s1 : Stp ps G0 H0 G H) (s2 : Stp f G H G' H') (hf : ∀ a ∈ f, a ∈ ps ∨ H0 a = none) : Stp ps G0 H0 G' H' where
  g := s1.g.trans s2.g
  gh := s2.gh
  nw := fun a h1 h2 => s2.nw a (s1.dm a h1) (s1.nw a h1 h2)
  kp := fun a o h1 h2 => s2.kp a o (s1.kp a o h1 h2) (fun hm => by
    rcases hf a hm with h | h
    · exact h2 h
    · rw [h] at h1; cases h1)
  dm := fun a h => s2.dm a (s1.dm a h)

theorem Iv.pushD (I : Iv K c G H σ b T) (h : Rp K G d v) : Iv K c G H σ b ((.d d, v) :: T) := by
  obtain ⟨st, f1, f2, h1, h2, h3, h4⟩ := I
  exact ⟨st, f1, f2, h1, ⟨[], f2, by simp only [RM, and_true]; exact h, by simp, h2, rfl⟩, h3, h4⟩
theorem Iv.drop {t : M × V} (I : Iv K c G H σ b (t :: T)) : Iv K c G H σ b T := by
  obtain ⟨st, f1, f2, h1, ⟨g1, g2, h2, h5, h6, h7⟩, h3, h4⟩ := I
  subst h7
  refine ⟨st, f1, g2, h1, h6, ?_, fun a ha => h4 a ?_⟩
  · simp only [List.nodup_append, List.mem_append] at h3 ⊢
    refine ⟨h3.1, h3.2.1.2.1, fun a ha b hb => h3.2.2 a ha b (.inr hb)⟩
  · simp only [List.mem_append] at ha ⊢
    grind
theorem Iv.topD (I : Iv K c G H σ b ((.d d, v) :: T)) : Rp K G d v := by
  obtain ⟨st, f1, f2, h1, ⟨g1, g2, h2, h5, h6, h7⟩, h3, h4⟩ := I
  simp only [RM] at h2
  exact h2.1
theorem Iv.sl (I : Iv K c G H σ b T) : σ.length = b.length := by
  obtain ⟨st, f1, f2, h1, _⟩ := I
  exact h1.len
end
end PL

namespace PL
open PySem PySem.Spec PyProof.Rows L2
section
variable {K : PySem.W.Frag} {c : Cg} {G G' H H' : Hp} {σ : L2.St} {b : List B} {T T1 : List (M × V)} {p : Addr} {o : HO} {d : D} {v : V} {m : M}

theorem Iv.ext (I : Iv K c G H σ b T) (e : Same G G') (gh : Same G' H') (k : Same H H') (nw : ∀ a, H a ≠ none → G a = none → G' a = none) : Iv K c G' H' σ b T := by
  obtain ⟨st, f1, f2, h1, h2, h3, h4⟩ := I
  have kk : ∀ a, H a ≠ none → H' a = H a := fun a ha => by
    cases q : H a with
    | none => exact absurd q ha
    | some o => exact k a o q
  refine ⟨st.trans (f := []) ⟨e, gh, nw, fun a o h _ => k a o h, fun a h => by rw [kk a h]; exact h⟩ (by simp), f1, f2, h1.frame e (fun a ha => kk a (h1.there a ha)), h2.frame e (fun a ha => kk a (h2.there a ha)), h3, fun a ha => ⟨?_, (h4 a ha).2⟩⟩
  refine nw a ?_ (h4 a ha).1
  rcases List.mem_append.mp ha with ha | ha
  · exact h1.there a ha
  · exact h2.there a ha
theorem same_upd (h : H p = none) : Same H (upd H p o) := fun a u e => by
  rw [upd_ne (ne_of_none e h)]; exact e
theorem same_upd2 (h : Same G H) (hp : H p = none) : Same (upd G p o) (upd H p o) := fun a u e => by
  by_cases q : a = p
  · subst q; rw [upd_same] at e ⊢; exact e
  · rw [upd_ne q] at e ⊢; exact h a u e
theorem Iv.newD (I : Iv K c G H σ b T) (hp : H p = none) : Iv K c (upd G p o) (upd H p o) σ b T := by
  have gp : G p = none := I.st.gh.free hp
  refine I.ext (same_upd gp) (same_upd2 I.st.gh hp) (same_upd hp) fun a h1 h2 => ?_
  rw [upd_ne (fun q : a = p => h1 (by rw [q]; exact hp))]; exact h2
/-- new, forgotten -/
theorem Iv.junk (I : Iv K c G H σ b T) (hp : H p = none) : Iv K c G (upd H p o) σ b T :=
  I.ext (Same.refl _) (I.st.gh.trans (same_upd hp)) (same_upd hp) fun _ _ h => h

theorem RE.split : ∀ {b : List B} {σ : L2.St} {f : List Addr} {i : Nat} {bi : B}, RE K c G H b σ f → b[i]? = some bi → ∃ s fi fr, σ[i]? = some s ∧ RB K c G H bi s fi ∧ f.Perm (fi ++ fr) ∧
    ∀ G' H' nb ns fn, Same G G' → (∀ a ∈ fr, H' a = H a) → RB K c G' H' nb ns fn → ∃ f', RE K c G' H' (b.set i nb) (σ.set i ns) f' ∧ f'.Perm (fn ++ fr)
  | [], _, _, _, _, _, e => by simp at e
  | b :: bs, _, _, 0, bi, ⟨s, σ', f1, f2, h1, h2, h3, h4⟩, e => by
    have e : b = bi := by simpa using e
    subst e h1 h4
    refine ⟨s, f1, f2, rfl, h2, List.Perm.refl _, fun G' H' nb ns fn g k r => ⟨fn ++ f2, ⟨ns, σ', fn, f2, rfl, r, h3.frame g k, rfl⟩, List.Perm.refl _⟩⟩
  | b :: bs, _, _, i + 1, bi, ⟨s, σ', f1, f2, h1, h2, h3, h4⟩, e => by
    subst h1 h4
    obtain ⟨s', fi, fr, e1, e2, e3, e4⟩ := h3.split (i := i) (by simpa using e)
    refine ⟨s', fi, f1 ++ fr, by simpa using e1, e2, ?_, fun G' H' nb ns fn g k r => ?_⟩
    · exact (List.Perm.append_left f1 e3).trans (by
        rw [← List.append_assoc, ← List.append_assoc]
        exact List.Perm.append_right fr List.perm_append_comm)
    · obtain ⟨f', q1, q2⟩ := e4 G' H' nb ns fn g (fun a ha => k a (by simp [ha])) r
      refine ⟨f1 ++ f', ⟨s, σ'.set i ns, f1, f', rfl, h2.frame g (fun a ha => k a (by simp [ha])), q1, rfl⟩, ?_⟩
      exact (List.Perm.append_left f1 q2).trans (by
        rw [← List.append_assoc, ← List.append_assoc]
        exact List.Perm.append_right fr List.perm_append_comm)
theorem RT.app : ∀ {T1 T : List (M × V)} {f : List Addr}, RT K c G H (T1 ++ T) f ↔ ∃ f1 f2, RT K c G H T1 f1 ∧ RT K c G H T f2 ∧ f = f1 ++ f2
  | [], T, f => ⟨fun h => ⟨[], f, rfl, h, rfl⟩, fun ⟨f1, f2, h1, h2, h3⟩ => by
      have h1 : f1 = [] := h1
      subst h1 h3; exact h2⟩
  | t :: T1, T, f => by
    constructor
    · rintro ⟨f1, f2, h1, h2, h3, h4⟩
      obtain ⟨g1, g2, q1, q2, q3⟩ := RT.app.mp h3
      subst q3 h4
      exact ⟨f1 ++ g1, g2, ⟨f1, g1, h1, h2, q1, rfl⟩, q2, by simp⟩
    · rintro ⟨f1, f2, ⟨g1, g2, h1, h2, h3, h4⟩, h5, h6⟩
      subst h4 h6
      exact ⟨g1, g2 ++ f2, h1, h2, RT.app.mpr ⟨g2, f2, h3, h5, rfl⟩, by simp⟩
theorem RT.old : ∀ {T : List (M × V)} {f : List Addr}, RT K c G H T f → ∀ a ∈ f, c.H0 a = none
  | [], _, h => by
    have h : _ = [] := h
    subst h; simp
  | t :: T, _, ⟨f1, f2, h1, h2, h3, h4⟩ => by
    subst h4
    intro a ha
    rcases List.mem_append.mp ha with ha | ha
    · exact h2 a ha
    · exact h3.old a ha
theorem nodup3 {a b c d : List Addr} (h : (a ++ b ++ c).Nodup) (hd : d.Nodup) (h2 : ∀ x ∈ d, x ∉ c) : (d ++ c).Nodup := by
  simp only [List.nodup_append] at h ⊢
  exact ⟨hd, h.2.1, fun x hx y hy e => h2 x hx (e ▸ hy)⟩
/-- THE STEP at a slot, with some temporaries -/
theorem Iv.slot {i : Nat} {bi : B} (I : Iv K c G H σ b (T1 ++ T)) (hb : b[i]? = some bi) : ∃ s fi ft, σ[i]? = some s ∧ RB K c G H bi s fi ∧ RT K c G H T1 ft ∧ (fi ++ ft).Nodup ∧ (∀ a ∈ fi ++ ft, G a = none) ∧ (∀ a ∈ ft, c.H0 a = none) ∧
    ∀ G' H' nb ns fn T1' fm, Stp (fi ++ ft) G H G' H' → RB K c G' H' nb ns fn → RT K c G' H' T1' fm → (fn ++ fm).Nodup → (∀ a ∈ fn ++ fm, a ∈ fi ∨ a ∈ ft ∨ H a = none) → (∀ a ∈ fn ++ fm, G' a = none) →
      Iv K c G' H' (σ.set i ns) (b.set i nb) (T1' ++ T) := by
  obtain ⟨st, f1, f2, h1, h2, h3, h4⟩ := I
  obtain ⟨ft, f3, t1, t2, t3⟩ := RT.app.mp h2
  subst t3
  obtain ⟨s, fi, fr, e1, e2, e3, e4⟩ := h1.split hb
  have P : (f1 ++ (ft ++ f3)).Perm ((fi ++ ft) ++ (fr ++ f3)) := by
    refine (List.Perm.append_right _ e3).trans ?_
    simp only [List.append_assoc]
    refine List.Perm.append_left fi ?_
    rw [← List.append_assoc, ← List.append_assoc]
    exact List.Perm.append_right f3 List.perm_append_comm
  have N := P.nodup_iff.mp h3
  have M1 : ∀ a, a ∈ (fi ++ ft) ++ (fr ++ f3) → a ∈ f1 ++ (ft ++ f3) := fun a ha => P.mem_iff.mpr ha
  refine ⟨s, fi, ft, e1, e2, t1, (List.nodup_append.mp N).1, fun a ha => (h4 a (M1 a (by simp at ha ⊢; grind))).1, t1.old, fun G' H' nb ns fn T1' fm S rb rt nd old gn => ?_⟩
  have there : ∀ a ∈ fr ++ f3, H a ≠ none := fun a ha => by
    rcases List.mem_append.mp ha with ha | ha
    · exact h1.there a (e3.mem_iff.mpr (by simp [ha]))
    · exact t2.there a ha
  have out : ∀ a ∈ fr ++ f3, a ∉ fi ++ ft := fun a ha hm => (List.nodup_append.mp N).2.2 a hm a ha rfl
  have same : ∀ a ∈ fr ++ f3, H' a = H a := fun a ha => by
    cases q : H a with
    | none => exact absurd q (there a ha)
    | some o => exact S.kp a o q (out a ha)
  obtain ⟨f', q1, q2⟩ := e4 G' H' nb ns fn S.g (fun a ha => same a (by simp [ha])) rb
  have hin : ∀ a ∈ fi ++ ft, a ∈ c.PS ∨ c.H0 a = none := fun a ha => (h4 a (M1 a (by simp at ha ⊢; grind))).2
  have hnew : ∀ a ∈ fn ++ fm, a ∈ c.PS ∨ c.H0 a = none := fun a ha => by
    rcases old a ha with z | z | z
    · exact hin a (by simp [z])
    · exact hin a (by simp [z])
    · right
      cases q : c.H0 a with
      | none => rfl
      | some o => exact absurd z (st.dm a (by rw [q]; simp))
  have hout : ∀ a ∈ fn ++ fm, a ∉ fr ++ f3 := fun a ha hm => by
    rcases old a ha with z | z | z
    · exact out a hm (by simp [z])
    · exact out a hm (by simp [z])
    · exact there a hm z
  have P2 : (f' ++ (fm ++ f3)).Perm ((fn ++ fm) ++ (fr ++ f3)) := by
    refine (List.Perm.append_right _ q2).trans ?_
    simp only [List.append_assoc]
    refine List.Perm.append_left fn ?_
    rw [← List.append_assoc, ← List.append_assoc]
    exact List.Perm.append_right f3 List.perm_append_comm
  refine ⟨st.trans S hin, f', fm ++ f3, q1, RT.app.mpr ⟨fm, f3, rt, t2.frame S.g (fun a ha => same a (by simp [ha])), rfl⟩, ?_, fun a ha => ?_⟩
  · rw [P2.nodup_iff]
    exact List.nodup_append.mpr ⟨nd, (List.nodup_append.mp N).2.1, fun x hx y hy e => hout x hx (e ▸ hy)⟩
  · rcases List.mem_append.mp (P2.mem_iff.mp ha) with z | z
    · exact ⟨gn a z, hnew a z⟩
    · have h5 := h4 a (M1 a (by simp at z ⊢; grind))
      exact ⟨S.nw a (there a z) h5.1, h5.2⟩
/-- .. with temporaries alone -/
theorem Iv.tmp (I : Iv K c G H σ b (T1 ++ T)) : ∃ ft, RT K c G H T1 ft ∧ ft.Nodup ∧ (∀ a ∈ ft, G a = none) ∧ (∀ a ∈ ft, c.H0 a = none) ∧
    ∀ G' H' T1' fm, Stp ft G H G' H' → RT K c G' H' T1' fm → fm.Nodup → (∀ a ∈ fm, a ∈ ft ∨ H a = none) → (∀ a ∈ fm, G' a = none) → Iv K c G' H' σ b (T1' ++ T) := by
  obtain ⟨st, f1, f2, h1, h2, h3, h4⟩ := I
  obtain ⟨ft, f3, t1, t2, t3⟩ := RT.app.mp h2
  subst t3
  have P : (f1 ++ (ft ++ f3)).Perm (ft ++ (f1 ++ f3)) := by
    rw [← List.append_assoc, ← List.append_assoc]
    exact List.Perm.append_right f3 List.perm_append_comm
  have N := P.nodup_iff.mp h3
  have M1 : ∀ a, a ∈ ft ++ (f1 ++ f3) → a ∈ f1 ++ (ft ++ f3) := fun a ha => P.mem_iff.mpr ha
  refine ⟨ft, t1, (List.nodup_append.mp N).1, fun a ha => (h4 a (M1 a (by simp [ha]))).1, t1.old, fun G' H' T1' fm S rt nd old gn => ?_⟩
  have there : ∀ a ∈ f1 ++ f3, H a ≠ none := fun a ha => by
    rcases List.mem_append.mp ha with ha | ha
    · exact h1.there a ha
    · exact t2.there a ha
  have out : ∀ a ∈ f1 ++ f3, a ∉ ft := fun a ha hm => (List.nodup_append.mp N).2.2 a hm a ha rfl
  have same : ∀ a ∈ f1 ++ f3, H' a = H a := fun a ha => by
    cases q : H a with
    | none => exact absurd q (there a ha)
    | some o => exact S.kp a o q (out a ha)
  have hin : ∀ a ∈ ft, a ∈ c.PS ∨ c.H0 a = none := fun a ha => (h4 a (M1 a (by simp [ha]))).2
  have P2 : (f1 ++ (fm ++ f3)).Perm (fm ++ (f1 ++ f3)) := by
    rw [← List.append_assoc, ← List.append_assoc]
    exact List.Perm.append_right f3 List.perm_append_comm
  refine ⟨st.trans S hin, f1, fm ++ f3, h1.frame S.g (fun a ha => same a (by simp [ha])), RT.app.mpr ⟨fm, f3, rt, t2.frame S.g (fun a ha => same a (by simp [ha])), rfl⟩, ?_, fun a ha => ?_⟩
  · rw [P2.nodup_iff]
    refine List.nodup_append.mpr ⟨nd, (List.nodup_append.mp N).2.1, fun x hx y hy e => ?_⟩
    subst e
    rcases old x hx with z | z
    · exact out x hy z
    · exact there x hy z
  · rcases List.mem_append.mp (P2.mem_iff.mp ha) with z | z
    · refine ⟨gn a z, ?_⟩
      rcases old a z with z | z
      · exact hin a z
      · right
        cases q : c.H0 a with
        | none => rfl
        | some o => exact absurd z (st.dm a (by rw [q]; simp))
    · have h5 := h4 a (M1 a (by simp at z ⊢; grind))
      exact ⟨S.nw a (there a z) h5.1, h5.2⟩
theorem RT.perm : ∀ {T T' : List (M × V)}, T.Perm T' → ∀ {f : List Addr}, RT K c G H T f → ∃ f', RT K c G H T' f' ∧ f.Perm f' := by
  intro T T' P
  induction P with
  | nil => intro f h; exact ⟨f, h, List.Perm.refl _⟩
  | cons t P ih =>
    rintro f ⟨f1, f2, h1, h2, h3, h4⟩
    obtain ⟨f', q1, q2⟩ := ih h3
    subst h4
    exact ⟨f1 ++ f', ⟨f1, f', h1, h2, q1, rfl⟩, List.Perm.append_left f1 q2⟩
  | swap t u l =>
    rintro f ⟨f1, f2, h1, h2, ⟨f3, f4, h5, h6, h7, h8⟩, h4⟩
    subst h8 h4
    refine ⟨f3 ++ (f1 ++ f4), ⟨f3, f1 ++ f4, h5, h6, ⟨f1, f4, h1, h2, h7, rfl⟩, rfl⟩, ?_⟩
    rw [← List.append_assoc, ← List.append_assoc]
    exact List.Perm.append_right f4 List.perm_append_comm
  | trans P1 P2 ih1 ih2 =>
    intro f h
    obtain ⟨f', q1, q2⟩ := ih1 h
    obtain ⟨f'', q3, q4⟩ := ih2 q1
    exact ⟨f'', q3, q2.trans q4⟩
theorem Iv.perm {T' : List (M × V)} (I : Iv K c G H σ b T) (P : T.Perm T') : Iv K c G H σ b T' := by
  obtain ⟨st, f1, f2, h1, h2, h3, h4⟩ := I
  obtain ⟨f', q1, q2⟩ := h2.perm P
  have Q : (f1 ++ f2).Perm (f1 ++ f') := List.Perm.append_left f1 q2
  exact ⟨st, f1, f', h1, q1, Q.nodup_iff.mp h3, fun a ha => h4 a (Q.mem_iff.mpr ha)⟩
/-- the temporaries of a list of arguments -/
def zT (ms : List M) (vs : List V) : List (M × V) := ms.zip vs
theorem RT.list : ∀ {ms : List M} {vs : List V} {f : List Addr}, ms.length = vs.length → RT K c G H (zT ms vs) f → RML K G H ms vs f ∧ ∀ a ∈ f, c.H0 a = none
  | [], [], f, _, h => by
    have h : f = [] := h
    subst h
    simp [RML]
  | m :: ms, v :: vs, f, e, ⟨f1, f2, h1, h2, h3, h4⟩ => by
    have q := RT.list (ms := ms) (vs := vs) (by simpa using e) h3
    subst h4
    refine ⟨by simp only [RML]; exact ⟨v, vs, f1, f2, rfl, h1, q.1, rfl⟩, fun a ha => ?_⟩
    rcases List.mem_append.mp ha with z | z
    · exact h2 a z
    · exact q.2 a z
  | [], _ :: _, _, e, _ => by simp at e
  | _ :: _, [], _, e, _ => by simp at e
theorem RML.len : ∀ {ms : List M} {vs : List V} {f : List Addr}, RML K G H ms vs f → ms.length = vs.length
  | [], vs, f, h => by simp only [RML] at h; simp [h.1]
  | m :: ms, vs, f, h => by
    simp only [RML] at h
    obtain ⟨y, ys, f1, f2, h1, h2, h3, h4⟩ := h
    subst h1
    simp [RML.len h3]
theorem RpL.len : ∀ {ds : List D} {vs : List V}, RpL K G ds vs → ds.length = vs.length
  | [], vs, h => by simp only [RpL] at h; simp [h]
  | d :: ds, vs, h => by
    simp only [RpL] at h
    obtain ⟨y, ys, h1, h2, h3⟩ := h
    subst h1
    simp [RpL.len h3]

/-! ### freezing -/
mutual
def M.toD : M → D
  | .d x => x
  | .lst ms => .lst (M.toDs ms)
  | .obj C ns ms => .obj C ns (M.toDs ms)
  | .dic ks ms => .dic ks (M.toDs ms)
  | .box a _ _ => .adr a
def M.toDs : List M → List D
  | [] => []
  | m :: ms => m.toD :: M.toDs ms
end
mutual
/-- what is owned stands as data in every heap that holds its cells -/
theorem RM.data : ∀ (m : M) (v : V) (f : List Addr), RM K G H m v f → Same G G' → (∀ a ∈ f, G' a = H a) → Rp K G' m.toD v
  | .d x, v, f, h, e, _ => by
    simp only [RM] at h
    simp only [M.toD]
    exact Rp.mono e _ _ h.1
  | .lst ms, v, f, h, e, k => by
    simp only [RM] at h
    obtain ⟨p, xs, q, h1, h2, h3, h4⟩ := h
    subst h4
    simp only [M.toD, Rp]
    exact ⟨p, xs, h1, (k p (by simp)).trans h2, RML.data ms xs q h3 e (fun a ha => k a (by simp [ha]))⟩
  | .obj C ns ms, v, f, h, e, k => by
    simp only [RM] at h
    obtain ⟨p, dx, xs, q, h1, h2, h5, h3, h4⟩ := h
    subst h4
    simp only [M.toD, Rp]
    exact ⟨p, dx, xs, h1, (k p (by simp)).trans h2, h5, RML.data ms xs q h3 e (fun a ha => k a (by simp [ha]))⟩
  | .dic ks ms, v, f, h, e, k => by
    simp only [RM] at h
    obtain ⟨p, xs, q, h1, h2, h5, h3, h4⟩ := h
    subst h4
    simp only [M.toD, Rp]
    exact ⟨p, xs, h1, (k p (by simp)).trans h2, h5, RML.data ms xs q h3 e (fun a ha => k a (by simp [ha]))⟩
  | .box a as ms, v, f, h, e, k => by
    simp only [RM] at h
    simp only [M.toD, Rp]
    exact h.1
theorem RML.data : ∀ (ms : List M) (xs : List V) (f : List Addr), RML K G H ms xs f → Same G G' → (∀ a ∈ f, G' a = H a) → RpL K G' (M.toDs ms) xs
  | [], _, _, h, _, _ => by
    simp only [RML] at h
    simp only [M.toDs, RpL]
    exact h.1
  | m :: ms, _, _, h, e, k => by
    simp only [RML] at h
    obtain ⟨y, ys, f1, f2, h1, h2, h3, h4⟩ := h
    subst h4
    simp only [M.toDs, RpL]
    exact ⟨y, ys, h1, RM.data m y f1 h2 e (fun a ha => k a (by simp [ha])), RML.data ms ys f2 h3 e (fun a ha => k a (by simp [ha]))⟩
end
/-- as data in the very heap -/
theorem RM.now (h : RM K G H m v f) (e : Same G H) : Rp K H m.toD v := RM.data m v f h e fun _ _ => rfl
def gain (G H : Hp) (f : List Addr) : Hp := fun a => if a ∈ f then H a else G a
theorem gain_in {f : List Addr} {a : Addr} (h : a ∈ f) : gain G H f a = H a := by simp [gain, h]
theorem gain_out {f : List Addr} {a : Addr} (h : a ∉ f) : gain G H f a = G a := by simp [gain, h]
theorem gain_same {f : List Addr} (e : Same G H) : Same G (gain G H f) := fun a o h => by
  by_cases q : a ∈ f
  · rw [gain_in q]; exact e a o h
  · rw [gain_out q]; exact h
theorem gain_heap {f : List Addr} (e : Same G H) : Same (gain G H f) H := fun a o h => by
  by_cases q : a ∈ f
  · rw [gain_in q] at h; exact h
  · rw [gain_out q] at h; exact e a o h
/-- a temporary becomes data -/
theorem Iv.freeze (I : Iv K c G H σ b ((m, v) :: T)) : ∃ G', Iv K c G' H σ b ((.d m.toD, v) :: T) := by
  obtain ⟨st, f1, f2, h1, ⟨g1, g2, h2, h5, h6, h7⟩, h3, h4⟩ := I
  subst h7
  simp only at h2
  have P : (f1 ++ (g1 ++ g2)).Perm (g1 ++ (f1 ++ g2)) := by
    rw [← List.append_assoc, ← List.append_assoc]
    exact List.Perm.append_right g2 List.perm_append_comm
  have N := P.nodup_iff.mp h3
  have out : ∀ a ∈ f1 ++ g2, a ∉ g1 := fun a ha hm => (List.nodup_append.mp N).2.2 a hm a ha rfl
  have gs : Same G (gain G H g1) := gain_same st.gh
  refine ⟨gain G H g1, ⟨st.g.trans gs, gain_heap st.gh, fun a q1 q2 => ?_, st.kp, st.dm⟩, f1, g2, h1.frame gs fun _ _ => rfl, ⟨[], g2, ?_, by simp, h6.frame gs fun _ _ => rfl, rfl⟩, (List.nodup_append.mp N).2.1, fun a ha => ?_⟩
  · rw [gain_out (fun hm => q1 (h5 a hm))]
    exact st.nw a q1 q2
  · simp only [RM]
    exact ⟨RM.data _ _ _ h2 gs fun a ha => gain_in ha, trivial⟩
  · have h8 := h4 a (P.mem_iff.mpr (by simp at ha ⊢; grind))
    rw [gain_out (out a ha)]
    exact h8
end
end PL

namespace PL
open PySem PySem.Spec PyProof.Rows L2

abbrev Ev := List B → Option (M × List B)
abbrev Tv := List B → Option (Bool × List B)
abbrev Av := List B → Option (List M × List B)
inductive R where
  | nx | bk | ct | rt (m : M)
abbrev Sv := List B → Option (R × List B)
/-- what is known of argument values: the temporaries' in order; at io places the slot's own -/
def AV (σ : L2.St) : List (Option Nat) → List V → List V → Prop
  | [], us, vs => us = [] ∧ vs = []
  | none :: s, us, vs => ∃ u us' vs', us = u :: us' ∧ vs = u :: vs' ∧ AV σ s us' vs'
  | some j :: s, us, vs => ∃ v vs', vs = v :: vs' ∧ σ[j]? = some (some v) ∧ AV σ s us vs'
section
variable (K : PySem.W.Frag)
def teO (f : Ev) : TE := fun σ H Q => ∃ c G b T m b', f b = some (m, b') ∧ Iv K c G H σ b T ∧ ∀ v G' H', Iv K c G' H' σ b' ((m, v) :: T) → Q v H'
def ttO (f : Tv) : TT := fun σ H Q => ∃ c G b T r b', f b = some (r, b') ∧ Iv K c G H σ b T ∧ ∀ G' H', Iv K c G' H' σ b' T → Q r H'
def taO (src : List (Option Nat)) (f : Av) : TA := fun σ H Q => ∃ c G b T ms b', f b = some (ms, b') ∧ Iv K c G H σ b T ∧ ∀ us vs G' H', ms.length = us.length → AV σ src us vs → Iv K c G' H' σ b' (zT ms us ++ T) → Q vs H'
def endO (c : Cg) (T : List (M × V)) (b' : List B) (D : Ends) : R → Prop
  | .nx => ∀ σ' G' H', Iv K c G' H' σ' b' T → D.nx σ' H'
  | .bk => ∀ σ' G' H', Iv K c G' H' σ' b' T → D.bk σ' H'
  | .ct => ∀ σ' G' H', Iv K c G' H' σ' b' T → D.ct σ' H'
  | .rt m => ∀ v σ' G' H', Iv K c G' H' σ' b' ((m, v) :: T) → D.rt v H'
def tsO (g : Sv) : TS := fun D σ H => ∃ c G b T r b', g b = some (r, b') ∧ Iv K c G H σ b T ∧ endO K c T b' D r
end
abbrev EM (X : Cx) (e : Expr) (f : Ev) : Prop := PE X e (teO X.K f)
abbrev TM (X : Cx) (e : Expr) (f : Tv) : Prop := PT X e (ttO X.K f)
abbrev WM (X : Cx) (e : Expr) (f : Tv) : Prop := PW X e (ttO X.K f)
abbrev AM (X : Cx) (es : List Expr) (src : List (Option Nat)) (f : Av) : Prop := PA X es (taO X.K src f)
abbrev SM (X : Cx) (st : Stmt) (g : Sv) : Prop := PS X st (tsO X.K g)
abbrev SMs (X : Cx) (st : List Stmt) (g : Sv) : Prop := PSs X st (tsO X.K g)

section
variable {X : Cx} {e e1 e2 : Expr}
theorem _root_.L2.PE.wk {t t' : TE} (h : PE X e t) (hi : ∀ σ H Q, t' σ H Q → t σ H Q) : PE X e t' := ⟨fun pins s σ H Q I q => h.run pins s σ H Q I (hi σ H Q q)⟩
theorem _root_.L2.PT.wk {t t' : TT} (h : PT X e t) (hi : ∀ σ H Q, t' σ H Q → t σ H Q) : PT X e t' := ⟨fun pins s σ H Q I q => h.run pins s σ H Q I (hi σ H Q q)⟩
theorem _root_.L2.PW.wk {t t' : TT} (h : PW X e t) (hi : ∀ σ H Q, t' σ H Q → t σ H Q) : PW X e t' := ⟨fun wh pins s σ H Q I q => h.run wh pins s σ H Q I (hi σ H Q q)⟩
theorem _root_.L2.PA.wk {es : List Expr} {t t' : TA} (h : PA X es t) (hi : ∀ σ H Q, t' σ H Q → t σ H Q) : PA X es t' := ⟨fun pos pins s σ H Q I q => h.run pos pins s σ H Q I (hi σ H Q q)⟩
theorem _root_.L2.PS.wk {st : Stmt} {t t' : TS} (h : PS X st t) (hi : ∀ D σ H, t' D σ H → t D σ H) : PS X st t' := ⟨fun pins s σ H D I q => h.run pins s σ H D I (hi D σ H q)⟩
theorem _root_.L2.PSs.wk {st : List Stmt} {t t' : TS} (h : PSs X st t) (hi : ∀ D σ H, t' D σ H → t D σ H) : PSs X st t' := ⟨fun pins s σ H D I q => h.run pins s σ H D I (hi D σ H q)⟩
end
section
variable {K : PySem.W.Frag} {c : Cg} {G G' H H' : Hp} {σ : L2.St} {b : List B} {T T1 : List (M × V)} {p : Addr} {o : HO} {d : D} {v : V} {m : M} {i : Nat}
theorem RE.getD : ∀ {b : List B} {σ : L2.St} {f : List Addr} {i : Nat} {d : D}, RE K c G H b σ f → b[i]? = some (.d d) → ∃ v, σ[i]? = some (some v) ∧ Rp K G d v
  | [], _, _, _, _, _, e => by simp at e
  | b :: bs, _, _, 0, d, ⟨s, σ', f1, f2, h1, h2, h3, h4⟩, e => by
    have e : b = .d d := by simpa using e
    subst e h1
    obtain ⟨_, v, q1, q2⟩ := h2
    exact ⟨v, by simp [q1], q2⟩
  | b :: bs, _, _, i + 1, d, ⟨s, σ', f1, f2, h1, h2, h3, h4⟩, e => by
    subst h1
    obtain ⟨v, q1, q2⟩ := RE.getD h3 (i := i) (by simpa using e)
    exact ⟨v, by simpa using q1, q2⟩
theorem Iv.getD (I : Iv K c G H σ b T) (h : b[i]? = some (.d d)) : ∃ v, σ[i]? = some (some v) ∧ Rp K G d v := by
  obtain ⟨st, f1, f2, h1, _⟩ := I
  exact h1.getD h
theorem set_self {α : Type} : ∀ {l : List α} {i : Nat} {x : α}, l[i]? = some x → l.set i x = l
  | [], _, _, h => by simp at h
  | a :: l, 0, x, h => by simp at h; simp [h]
  | a :: l, i + 1, x, h => by simp at h; simp [set_self h]
/-- what is owned at a slot -/
theorem Iv.getO {k : Option Nat} (I : Iv K c G H σ b T) (h : b[i]? = some (.o k m)) : ∃ v f, σ[i]? = some (some v) ∧ RM K G H m v f := by
  obtain ⟨s, fi, ft, e1, ⟨v, q1, q2, q3⟩, _⟩ := Iv.slot (T1 := []) I h
  exact ⟨v, fi, by rw [e1, q1], q2⟩
/-- a slot's fresh content becomes a temporary -/
theorem Iv.take (I : Iv K c G H σ b T) (h : b[i]? = some (.o none m)) : ∃ v, σ[i]? = some (some v) ∧ Iv K c G H σ (b.set i .no) ((m, v) :: T) := by
  obtain ⟨s, fi, ft, e1, ⟨v, q1, q2, q3⟩, t1, nd, gn, old, go⟩ := Iv.slot (T1 := []) I h
  have t1 : ft = [] := t1
  subst t1 q1
  refine ⟨v, e1, ?_⟩
  have := go G H .no (some v) [] [(m, v)] fi ⟨Same.refl _, I.st.gh, fun _ _ h => h, fun _ _ h _ => h, fun _ h => h⟩ rfl ⟨fi, [], q2, q3, rfl, by simp⟩ (by simpa using nd) (fun a ha => by simp at ha; simp [ha]) (fun a ha => gn a (by simpa using ha))
  rw [set_self e1] at this
  exact this
/-- .. and is put into a slot -/
def M.toB : M → B
  | .d x => .d x
  | m => .o none m
theorem Iv.put (I : Iv K c G H σ b ((m, v) :: T)) (hi : i < b.length) : Iv K c G H (σ.set i (some v)) (b.set i m.toB) T := by
  obtain ⟨s, fi, ft, e1, e2, t1, nd, gn, old, go⟩ := Iv.slot (T1 := [(m, v)]) I (List.getElem?_eq_getElem hi)
  obtain ⟨f1, f2, q1, q2, q3, q4⟩ := t1
  have q3 : f2 = [] := q3
  subst q3
  simp only [List.append_nil] at q4
  subst q4
  have N := List.nodup_append.mp nd
  refine go G H m.toB (some v) ft [] [] ⟨Same.refl _, I.st.gh, fun _ _ h => h, fun _ _ h _ => h, fun _ h => h⟩ ?_ rfl (by simpa using N.2.1) (fun a ha => by simp at ha; simp [ha]) (fun a ha => gn a (by simp at ha; simp [ha]))
  simp only at q1
  cases m with
  | d x =>
    simp only [RM] at q1
    exact ⟨q1.2, v, rfl, q1.1⟩
  | _ => exact ⟨v, rfl, q1, q2⟩
/-- a slot's fresh content becomes data where it stands -/
theorem Iv.frz (I : Iv K c G H σ b T) (h : b[i]? = some (.o none m)) : ∃ G', Iv K c G' H σ (b.set i (.d m.toD)) T := by
  obtain ⟨v, e, I1⟩ := I.take h
  obtain ⟨G', I2⟩ := I1.freeze
  have hi : i < b.length := by
    rw [List.getElem?_eq_some_iff] at h
    exact h.1
  have I3 := I2.put (i := i) (by simpa using hi)
  rw [set_self e, List.set_set] at I3
  exact ⟨G', I3⟩
end

/-! ### names, constants -/
def fVar (i : Nat) : Ev := fun b => match b[i]? with
  | some (.d x) => some (.d x, b)
  | _ => none
/-- an owned fresh thing leaves its name -/
def fMov (i : Nat) : Ev := fun b => match b[i]? with
  | some (.o none m) => some (m, b.set i .no)
  | _ => none
/-- an owned fresh thing becomes data and is read -/
def fFrz (i : Nat) : Ev := fun b => match b[i]? with
  | some (.o none m) => some (.d m.toD, b.set i (.d m.toD))
  | some (.d x) => some (.d x, b)
  | _ => none
def fC (m : D) : Ev := fun b => some (.d m, b)
/-- as data -/
def fD (f : Ev) : Ev := fun b => match f b with
  | some (m, b') => some (.d m.toD, b')
  | none => none
section
variable {X : Cx} {e e1 e2 : Expr} {pos : Pos} {f f1 f2 : Ev} {x : Str}
theorem e_var (i : Nat) (hN : X.N[i]? = some x := by rfl) (hv : Vis X.env.scope x := by first | exact Or.inl rfl | exact Or.inr (Or.inl rfl) | exact Or.inr (Or.inr rfl)) (hd : (x == ("__debug__" : Str)) = false := by decide)
    (hcd : (x == ("__classdict__" : Str)) = false := by decide) : EM X (.Name x pos) (fVar i) := (pv i hN hv hd hcd).wk fun σ H Q => by
  rintro ⟨c, G, b, T, m, b', hf, I, q⟩
  unfold fVar at hf
  split at hf
  · rename_i x e
    simp only [Option.some.injEq, Prod.mk.injEq] at hf
    obtain ⟨rfl, rfl⟩ := hf
    obtain ⟨v, h1, h2⟩ := I.getD e
    exact ⟨v, h1, q v G H (I.pushD h2)⟩
  · cases hf
theorem e_mov (i : Nat) (hN : X.N[i]? = some x := by rfl) (hv : Vis X.env.scope x := by first | exact Or.inl rfl | exact Or.inr (Or.inl rfl) | exact Or.inr (Or.inr rfl)) (hd : (x == ("__debug__" : Str)) = false := by decide)
    (hcd : (x == ("__classdict__" : Str)) = false := by decide) : EM X (.Name x pos) (fMov i) := (pv i hN hv hd hcd).wk fun σ H Q => by
  rintro ⟨c, G, b, T, m, b', hf, I, q⟩
  unfold fMov at hf
  split at hf
  · rename_i x e
    simp only [Option.some.injEq, Prod.mk.injEq] at hf
    obtain ⟨rfl, rfl⟩ := hf
    obtain ⟨v, h1, h2⟩ := I.take e
    exact ⟨v, h1, q v G H h2⟩
  · cases hf
theorem e_frz (i : Nat) (hN : X.N[i]? = some x := by rfl) (hv : Vis X.env.scope x := by first | exact Or.inl rfl | exact Or.inr (Or.inl rfl) | exact Or.inr (Or.inr rfl)) (hd : (x == ("__debug__" : Str)) = false := by decide)
    (hcd : (x == ("__classdict__" : Str)) = false := by decide) : EM X (.Name x pos) (fFrz i) := (pv i hN hv hd hcd).wk fun σ H Q => by
  rintro ⟨c, G, b, T, m, b', hf, I, q⟩
  unfold fFrz at hf
  split at hf
  · rename_i x e
    simp only [Option.some.injEq, Prod.mk.injEq] at hf
    obtain ⟨rfl, rfl⟩ := hf
    obtain ⟨G', I2⟩ := I.frz e
    have hi : i < b.length := (List.getElem?_eq_some_iff.mp e).1
    obtain ⟨v, h1, h2⟩ := I2.getD (i := i) (d := x.toD) (by simp [hi])
    exact ⟨v, h1, q v G' H (I2.pushD h2)⟩
  · rename_i x e
    simp only [Option.some.injEq, Prod.mk.injEq] at hf
    obtain ⟨rfl, rfl⟩ := hf
    obtain ⟨v, h1, h2⟩ := I.getD e
    exact ⟨v, h1, q v G H (I.pushD h2)⟩
  · cases hf
/-- a constant value -/
theorem e_const {v : V} {d : D} (h : PE X e (tC v)) (hr : ∀ G, Rp X.K G d v) : EM X e (fC d) := h.wk fun σ H Q => by
  rintro ⟨c, G, b, T, m, b', hf, I, q⟩
  simp only [fC, Option.some.injEq, Prod.mk.injEq] at hf
  obtain ⟨rfl, rfl⟩ := hf
  exact q v G H (I.pushD (hr G))
theorem e_int {i j} : EM X (.Constant (.int i) j pos) (fC (.int i)) := e_const pe_int fun _ => by simp [Rp]
theorem e_str {i j} : EM X (.Constant (.str i) j pos) (fC (.str i)) := e_const pe_str fun _ => by simp [Rp]
theorem e_bl {i j} : EM X (.Constant (.bool i) j pos) (fC (.bl i)) := e_const pe_bl fun _ => by simp [Rp]
theorem e_non {j} : EM X (.Constant .none j pos) (fC .non) := e_const pe_non fun _ => by simp [Rp]
theorem e_glob {v : V} {d : D} {u : Value} (hm : X.mg x = some u) (r : RelV v u) (hr : ∀ G, Rp X.K G d v) (hg : Gl X x := by rfl) (hd : (x == ("__debug__" : Str)) = false := by decide) : EM X (.Name x pos) (fC d) := e_const (pe_glob hg hm r hd) hr
theorem e_d (h : EM X e f) : EM X e (fD f) := h.wk fun σ H Q => by
  rintro ⟨c, G, b, T, m, b', hf, I, q⟩
  unfold fD at hf
  split at hf
  · rename_i m1 b1 e1
    simp only [Option.some.injEq, Prod.mk.injEq] at hf
    obtain ⟨rfl, rfl⟩ := hf
    refine ⟨c, G, b, T, m1, b1, e1, I, fun v G' H' I' => ?_⟩
    obtain ⟨G2, I2⟩ := I'.freeze
    exact q v G2 H' I2
  · cases hf

/-! ### operators -/
def fOp (g : M → M → Option M) (f1 f2 : Ev) : Ev := fun b => match f1 b with
  | some (m1, b1) => (match f2 b1 with
    | some (m2, b2) => (match g m1 m2 with
      | some m => some (m, b2)
      | none => none)
    | none => none)
  | none => none
/-- an operation on two temporaries -/
def OpS (K : PySem.W.Frag) (r : R2) (g : M → M → Option M) : Prop := ∀ c G H σ b T x y m1 m2 m Q, g m1 m2 = some m → Iv K c G H σ b ((m2, y) :: (m1, x) :: T) → (∀ v G' H', Iv K c G' H' σ b ((m, v) :: T) → Q v H') → r x y H Q
theorem e_tOp {r : R2} {g : M → M → Option M} (hs : OpS X.K r g) (h : PE X e (tOp r (teO X.K f1) (teO X.K f2))) : EM X e (fOp g f1 f2) := h.wk fun σ H Q => by
  rintro ⟨c, G, b, T, m, b', hf, I, q⟩
  unfold fOp at hf
  split at hf
  · rename_i m1 b1 e1
    split at hf
    · rename_i m2 b2 e2
      split at hf
      · rename_i m3 e3
        simp only [Option.some.injEq, Prod.mk.injEq] at hf
        obtain ⟨rfl, rfl⟩ := hf
        refine ⟨c, G, b, T, m1, b1, e1, I, fun x G1 H1 I1 => ⟨c, G1, b1, _, m2, b2, e2, I1, fun y G2 H2 I2 => ?_⟩⟩
        exact hs c G2 H2 σ b2 T x y m1 m2 m3 Q e3 I2 q
      · cases hf
    · cases hf
  · cases hf
theorem e_op {op : Operator} {r : R2} {g : M → M → Option M} (ho : OpR X (binaryOp op) r) (hs : OpS X.K r g) (h1 : EM X e1 f1) (h2 : EM X e2 f2) : EM X (.BinOp e1 op e2 pos) (fOp g f1 f2) := e_tOp hs (pe_op ho h1 h2)
theorem e_cmp {op : CmpOp} {r : R2} {g : M → M → Option M} (ho : OpR X (compareOp op) r) (hs : OpS X.K r g) (h1 : EM X e1 f1) (h2 : EM X e2 f2) (hm : behindInMarks op e2 = false) : EM X (.Compare e1 [op] [e2] pos) (fOp g f1 f2) := e_tOp hs (pe_cmpR ho h1 h2 hm)
/-- a bool as a test -/
def fT (f : Ev) : Tv := fun b => match f b with
  | some (.d (.bl k), b') => some (k, b')
  | _ => none
theorem t_tTest {t : TE} (h : PT X e (tTest t)) (hi : ∀ σ H Q, teO X.K f σ H Q → t σ H Q) : TM X e (fT f) := h.wk fun σ H Q => by
  rintro ⟨c, G, b, T, r, b', hf, I, q⟩
  unfold fT at hf
  split at hf
  · rename_i k b1 e1
    simp only [Option.some.injEq, Prod.mk.injEq] at hf
    obtain ⟨rfl, rfl⟩ := hf
    refine hi _ _ _ ⟨c, G, b, T, _, _, e1, I, fun v G' H' I' => ?_⟩
    have r := I'.topD
    simp only [Rp] at r
    exact ⟨k, r, q G' H' I'.drop⟩
  · cases hf
theorem teO_op {K : PySem.W.Frag} {r : R2} {g : M → M → Option M} (hs : OpS K r g) : ∀ σ H Q, teO K (fOp g f1 f2) σ H Q → tOp r (teO K f1) (teO K f2) σ H Q := fun σ H Q => by
  rintro ⟨c, G, b, T, m, b', hf, I, q⟩
  unfold fOp at hf
  split at hf
  · rename_i m1 b1 e1
    split at hf
    · rename_i m2 b2 e2
      split at hf
      · rename_i m3 e3
        simp only [Option.some.injEq, Prod.mk.injEq] at hf
        obtain ⟨rfl, rfl⟩ := hf
        refine ⟨c, G, b, T, m1, b1, e1, I, fun x G1 H1 I1 => ⟨c, G1, b1, _, m2, b2, e2, I1, fun y G2 H2 I2 => ?_⟩⟩
        exact hs c G2 H2 σ b2 T x y m1 m2 m3 Q e3 I2 q
      · cases hf
    · cases hf
  · cases hf
theorem t_cmp {op : CmpOp} {r : R2} {g : M → M → Option M} (ho : OpR X (compareOp op) r) (hs : OpS X.K r g) (h1 : EM X e1 f1) (h2 : EM X e2 f2) (hm : behindInMarks op e2 = false) : TM X (.Compare e1 [op] [e2] pos) (fT (fOp g f1 f2)) :=
  t_tTest (pt_cmpR ho h1 h2 hm) (teO_op hs)
end
/-! two data in, data out, nothing changed -/
def g2 (g : D → D → Option D) : M → M → Option M
  | .d x, .d y => (g x y).map M.d
  | _, _ => none
section
variable {K : PySem.W.Frag}
/-- the values are known by the data -/
theorem OpS.pure {r : R2} {g : D → D → Option D} (h : ∀ (c : Cg) (G H : Hp) (x y : V) (d1 d2 d : D) (Q : VK), g d1 d2 = some d → Same G H → Rp K G d1 x → Rp K G d2 y → (∀ v, Rp K G d v → Q v H) → r x y H Q) : OpS K r (g2 g) := by
  intro c G H σ b T x y m1 m2 m Q hg I q
  unfold g2 at hg
  split at hg
  · rename_i d1 d2
    cases e : g d1 d2 with
    | none => rw [e] at hg; cases hg
    | some d =>
      rw [e] at hg
      simp only [Option.map_some, Option.some.injEq] at hg
      subst hg
      exact h c G H x y d1 d2 d Q e I.st.gh I.drop.topD I.topD fun v hv => q v G H (I.drop.drop.pushD hv)
  · cases hg
end
def gInt (C : Int → Int → Bool) (h : Int → Int → D) : D → D → Option D
  | .int i, .int j => if C i j then some (h i j) else none
  | _, _ => none
def gInt0 (h : Int → Int → D) : D → D → Option D
  | .int i, .int j => some (h i j)
  | _, _ => none
section
variable {K : PySem.W.Frag}
theorem os_int {C : Int → Int → Prop} {C' : Int → Int → Bool} {h : Int → Int → D} {h' : Int → Int → V} (hc : ∀ i j, C' i j = true → C i j) (hr : ∀ G i j, Rp K G (h i j) (h' i j)) : OpS K (rI C h') (g2 (gInt C' h)) := OpS.pure fun c G H x y d1 d2 d Q hg _ r1 r2 q => by
  unfold gInt at hg
  split at hg
  · rename_i i j
    split at hg
    · rename_i z
      cases hg
      simp only [Rp] at r1 r2
      exact ⟨i, j, r1, r2, hc i j z, q _ (hr G i j)⟩
    · cases hg
  · cases hg
theorem os_int0 {h : Int → Int → D} {h' : Int → Int → V} (hr : ∀ G i j, Rp K G (h i j) (h' i j)) : OpS K (rI0 h') (g2 (gInt0 h)) := OpS.pure fun c G H x y d1 d2 d Q hg _ r1 r2 q => by
  unfold gInt0 at hg
  split at hg
  · rename_i i j
    cases hg
    simp only [Rp] at r1 r2
    exact ⟨i, j, r1, r2, q _ (hr G i j)⟩
  · cases hg
end
end PL

namespace PL
open PySem PySem.Spec PyProof.Rows L2
theorem le_line {n : Nat} (h : n ≤ 1000000) : n ≤ sizeLine := by rw [sizeLine_eq]; omega
theorem lt_line {n : Nat} (h : n ≤ 1000000) : n < sizeLine := by rw [sizeLine_eq]; omega
section
variable {K : PySem.W.Frag} {c : Cg} {G G' H H' : Hp} {σ : L2.St} {b : List B} {T T1 : List (M × V)} {p : Addr} {o : HO} {d : D} {v : V} {m : M} {i : Nat}
theorem RpL.app : ∀ {as bs : List D} {xs ys : List V}, RpL K G as xs → RpL K G bs ys → RpL K G (as ++ bs) (xs ++ ys)
  | [], bs, xs, ys, h, q => by simp only [RpL] at h; subst h; exact q
  | a :: as, bs, _, ys, h, q => by
    simp only [RpL] at h
    obtain ⟨y, ys', h1, h2, h3⟩ := h
    subst h1
    show RpL K G (a :: (as ++ bs)) (y :: (ys' ++ ys))
    simp only [RpL]
    exact ⟨y, ys' ++ ys, rfl, h2, h3.app q⟩
theorem RpL.get : ∀ {ds : List D} {xs : List V} {i : Nat} {d : D}, RpL K G ds xs → ds[i]? = some d → ∃ v, xs[i]? = some v ∧ Rp K G d v
  | [], _, _, _, _, e => by simp at e
  | d :: ds, _, 0, _, h, e => by
    simp only [RpL] at h
    obtain ⟨y, ys, h1, h2, h3⟩ := h
    subst h1
    simp at e
    subst e
    exact ⟨y, rfl, h2⟩
  | d :: ds, _, i + 1, _, h, e => by
    simp only [RpL] at h
    obtain ⟨y, ys, h1, h2, h3⟩ := h
    subst h1
    simpa using RpL.get (i := i) h3 (by simpa using e)
theorem RpL.take : ∀ {ds : List D} {xs : List V} (n : Nat), RpL K G ds xs → RpL K G (ds.take n) (xs.take n)
  | [], xs, n, h => by simp only [RpL] at h; subst h; simp [RpL]
  | d :: ds, xs, 0, h => by simp [RpL]
  | d :: ds, _, n + 1, h => by
    simp only [RpL] at h
    obtain ⟨y, ys, h1, h2, h3⟩ := h
    subst h1
    simp only [List.take_succ_cons, RpL]
    exact ⟨y, _, rfl, h2, h3.take n⟩
theorem RpL.drop : ∀ {ds : List D} {xs : List V} (n : Nat), RpL K G ds xs → RpL K G (ds.drop n) (xs.drop n)
  | [], xs, n, h => by simp only [RpL] at h; subst h; simp [RpL]
  | d :: ds, xs, 0, h => by simpa using h
  | d :: ds, _, n + 1, h => by
    simp only [RpL] at h
    obtain ⟨y, ys, h1, h2, h3⟩ := h
    subst h1
    simpa using h3.drop n
theorem RpL.rml : ∀ {ds : List D} {xs : List V}, RpL K G ds xs → RML K G H (ds.map .d) xs []
  | [], xs, h => by simp only [RpL] at h; subst h; simp [RML]
  | d :: ds, _, h => by
    simp only [RpL] at h
    obtain ⟨y, ys, h1, h2, h3⟩ := h
    subst h1
    simp only [List.map_cons, RML]
    exact ⟨y, ys, [], [], rfl, by simp only [RM]; exact ⟨h2, trivial⟩, h3.rml, rfl⟩
theorem Iv.newO {m : M} {f : List Addr} (I : Iv K c G H σ b T) (hp : H p = none) (h : RM K G (upd H p o) m (.ref p) [p]) : Iv K c G (upd H p o) σ b ((m, .ref p) :: T) := by
  obtain ⟨ft, t1, nd, gn, old, go⟩ := Iv.tmp (T1 := []) I
  have gp : G p = none := I.st.gh.free hp
  have h0 : c.H0 p = none := by
    cases q : c.H0 p with
    | none => rfl
    | some o => exact absurd hp (I.st.dm p (by rw [q]; simp))
  refine go G (upd H p o) [(m, .ref p)] [p] ⟨Same.refl _, I.st.gh.trans (same_upd hp), fun _ _ h => h, fun a o h _ => same_upd hp a o h, fun a h => ?_⟩ ⟨[p], [], h, by simp [h0], rfl, rfl⟩ (by simp) (by simp [hp]) (by simp [gp])
  by_cases q : a = p
  · subst q; rw [upd_same]; simp
  · rw [upd_ne q]; exact h
theorem Iv.newL {ds : List D} {xs : List V} (I : Iv K c G H σ b T) (hp : H p = none) (h : RpL K G ds xs) : Iv K c G (upd H p (.lst xs)) σ b ((.lst (ds.map .d), .ref p) :: T) := by
  refine I.newO (f := []) hp ?_
  simp only [RM]
  exact ⟨p, xs, [], rfl, upd_same, h.rml, rfl⟩
theorem Iv.newT {ds : List D} {xs : List V} (I : Iv K c G H σ b T) (hp : H p = none) (h : RpL K G ds xs) : Iv K c (upd G p (.tup xs)) (upd H p (.tup xs)) σ b ((.d (.tup ds), .ref p) :: T) := by
  refine (I.newD hp).pushD ?_
  simp only [Rp]
  exact ⟨p, xs, rfl, SqT.of upd_same, RpL.mono (same_upd (I.st.gh.free hp)) _ _ h⟩
end
/-! ### data to PyData -/
mutual
def D.py : D → Option PyData
  | .non => some .none
  | .bl b => some (.bool b)
  | .int i => some (.int i)
  | .str x => some (.str x)
  | .tup ds => (D.pys ds).map .tuple
  | .lst ds => (D.pys ds).map .list
  | .seq ds => (D.pys ds).map .list
  | .adr _ | .ty _ | .obj .. | .dic .. | .any | .oba .. => none
def D.pys : List D → Option (List PyData)
  | [] => some []
  | d :: ds => match d.py with
    | some p => (match D.pys ds with
      | some ps => some (p :: ps)
      | none => none)
    | none => none
end
section
variable {K : PySem.W.Frag} {G : Hp}
mutual
theorem Rp.dp : ∀ (d : D) (v : V) (p : PyData), Rp K G d v → d.py = some p → Dp K G v p
  | .non, v, p, h, e => by
    simp only [Rp] at h; simp only [D.py, Option.some.injEq] at e
    subst h e; exact .non
  | .bl b, v, p, h, e => by
    simp only [Rp] at h; simp only [D.py, Option.some.injEq] at e
    subst h e; exact .bl b
  | .int b, v, p, h, e => by
    simp only [Rp] at h; simp only [D.py, Option.some.injEq] at e
    subst h e; exact .int b
  | .str b, v, p, h, e => by
    simp only [Rp] at h; simp only [D.py, Option.some.injEq] at e
    subst h e; exact .str b
  | .tup ds, v, p, h, e => by
    simp only [Rp] at h
    simp only [D.py, Option.map_eq_some_iff] at e
    obtain ⟨q, xs, h1, h2, h3⟩ := h
    obtain ⟨ps, e1, e2⟩ := e
    subst h1 e2
    exact .tup h2 (RpL.dp ds xs ps h3 e1)
  | .lst ds, v, p, h, e => by
    simp only [Rp] at h
    simp only [D.py, Option.map_eq_some_iff] at e
    obtain ⟨q, xs, h1, h2, h3⟩ := h
    obtain ⟨ps, e1, e2⟩ := e
    subst h1 e2
    exact .lst (SqL.of h2) (RpL.dp ds xs ps h3 e1)
  | .seq ds, v, p, h, e => by
    simp only [Rp] at h
    simp only [D.py, Option.map_eq_some_iff] at e
    obtain ⟨q, xs, h1, h2, h3⟩ := h
    obtain ⟨ps, e1, e2⟩ := e
    subst h1 e2
    exact .lst h2 (RpL.dp ds xs ps h3 e1)
  | .adr _, _, _, _, e => by simp [D.py] at e
  | .ty _, _, _, _, e => by simp [D.py] at e
  | .obj .., _, _, _, e => by simp [D.py] at e
  | .any, _, _, _, e => by simp [D.py] at e
  | .oba .., _, _, _, e => by simp [D.py] at e
  | .dic .., _, _, _, e => by simp [D.py] at e
theorem RpL.dp : ∀ (ds : List D) (xs : List V) (ps : List PyData), RpL K G ds xs → D.pys ds = some ps → DpAll K G xs ps
  | [], xs, ps, h, e => by
    simp only [RpL] at h; simp only [D.pys, Option.some.injEq] at e
    subst h e; exact .nil
  | d :: ds, xs, ps, h, e => by
    simp only [RpL] at h
    obtain ⟨y, ys, h1, h2, h3⟩ := h
    subst h1
    unfold D.pys at e
    split at e
    · rename_i p e1
      split at e
      · rename_i qs e2
        cases e
        exact .cons (Rp.dp d y p h2 e1) (RpL.dp ds ys qs h3 e2)
      · cases e
    · cases e
end
end
/-- a scalar answer of two things that are read -/
def PuS (K : PySem.W.Frag) (r : R2) (g : D → D → Option D) : Prop := ∀ (H : Hp) (x y : V) (d1 d2 d : D) (Q : VK), g d1 d2 = some d → Rp K H d1 x → Rp K H d2 y → (∀ v, (∀ G, Rp K G d v) → Q v H) → r x y H Q
section
variable {K : PySem.W.Frag}
theorem PuS.os {r : R2} {g : D → D → Option D} (h : PuS K r g) : OpS K r (g2 g) := OpS.pure fun c G H x y d1 d2 d Q hg e r1 r2 q => h H x y d1 d2 d Q hg (Rp.mono e _ _ r1) (Rp.mono e _ _ r2) fun v hv => q v (hv G)
def gCmp (h : PyData → PyData → Bool) : D → D → Option D := fun x y => match x.py, y.py with
  | some p, some q => if SeqAt.shaped p && SeqAt.shaped q then some (.bl (h p q)) else none
  | _, _ => none
def gEq : D → D → Option D := gCmp PyData.eqv
def gNe : D → D → Option D := gCmp fun p q => !PyData.eqv p q
theorem rp_bl {G : Hp} {k : Bool} : Rp K G (.bl k) (.bl k) := by simp [Rp]
theorem rp_int {G : Hp} {k : Int} : Rp K G (.int k) (.int k) := by simp [Rp]
theorem rp_str {G : Hp} {k : Str} : Rp K G (.str k) (.str k) := by simp [Rp]
theorem pu_eq : PuS K (rEqD K) gEq := fun H x y d1 d2 d Q hg r1 r2 q => by
  unfold gEq gCmp at hg
  split at hg
  · rename_i p q' e1 e2
    split at hg
    · rename_i hs
      cases hg
      rw [Bool.and_eq_true] at hs
      exact ⟨p, q', Rp.dp _ _ _ r1 e1, Rp.dp _ _ _ r2 e2, hs.1, hs.2, q _ fun _ => rp_bl⟩
    · cases hg
  · cases hg
theorem pu_ne : PuS K (rNeD K) gNe := fun H x y d1 d2 d Q hg r1 r2 q => by
  unfold gNe gCmp at hg
  split at hg
  · rename_i p q' e1 e2
    split at hg
    · rename_i hs
      cases hg
      rw [Bool.and_eq_true] at hs
      exact ⟨p, q', Rp.dp _ _ _ r1 e1, Rp.dp _ _ _ r2 e2, hs.1, hs.2, q _ fun _ => rp_bl⟩
    · cases hg
  · cases hg
def gC (h : Int → Int → Bool) : D → D → Option D
  | .int i, .int j => some (.bl (h i j))
  | _, _ => none
theorem pu_c {h : Int → Int → Bool} : PuS K (rI0 fun i j => .bl (h i j)) (gC h) := fun H x y d1 d2 d Q hg r1 r2 q => by
  unfold gC at hg
  split at hg
  · cases hg
    simp only [Rp] at r1 r2
    exact ⟨_, _, r1, r2, q _ fun _ => rp_bl⟩
  · cases hg
/-- is None -/
def gIsN (k : Bool) : D → D → Option D
  | .non, .non => some (.bl k)
  | .any, .non => none
  | _, .non => some (.bl (!k))
  | _, _ => none
theorem rp_non {d : D} {v : V} {G : Hp} (hd : d ≠ .any) (h : Rp K G d v) : decide (v = .non) = (match d with | .non => true | _ => false) := by
  cases d <;> simp only [Rp] at h <;> first
    | exact absurd rfl hd
    | (subst h; rfl)
    | (obtain ⟨_, _, h, _⟩ := h; subst h; rfl)
    | (obtain ⟨_, _, _, h, _⟩ := h; subst h; rfl)
    | (obtain ⟨_, _, h, _⟩ := h; subst h; rfl)
theorem pu_isN : PuS K (fun x y H Q => y = .non ∧ Q (.bl (decide (x = .non))) H) (gIsN true) := fun H x y d1 d2 d Q hg r1 r2 q => by
  cases d2 <;> cases d1 <;> simp only [gIsN, Option.some.injEq, reduceCtorEq] at hg <;> (
    have z := rp_non (by simp) r1
    simp only [Rp] at r2
    refine ⟨r2, ?_⟩
    rw [z]
    subst hg
    exact q _ fun _ => rp_bl)
theorem pu_notN : PuS K (fun x y H Q => y = .non ∧ Q (.bl (!decide (x = .non))) H) (gIsN false) := fun H x y d1 d2 d Q hg r1 r2 q => by
  cases d2 <;> cases d1 <;> simp only [gIsN, Option.some.injEq, reduceCtorEq] at hg <;> (
    have z := rp_non (by simp) r1
    simp only [Rp] at r2
    refine ⟨r2, ?_⟩
    rw [z]
    subst hg
    exact q _ fun _ => rp_bl)
/-- x in a list or tuple of flat things -/
def D.flat : D → Option V
  | .non => some .non
  | .bl b => some (.bl b)
  | .int i => some (.int i)
  | .str x => some (.str x)
  | _ => none
def D.flats : List D → Option (List V)
  | [] => some []
  | d :: ds => match d.flat, D.flats ds with
    | some v, some vs => some (v :: vs)
    | _, _ => none
def D.items : D → Option (List D)
  | .tup ds => some ds
  | .lst ds => some ds
  | .seq ds => some ds
  | _ => none
theorem Rp.flat {H : Hp} {d : D} {v x : V} (h : Rp K H d x) (e : d.flat = some v) : x = v ∧ flatV v = true := by
  cases d <;> simp only [D.flat, Option.some.injEq] at e <;> first
    | (cases e; done)
    | (subst e; simp only [Rp] at h; exact ⟨h, rfl⟩)
theorem RpL.flat {H : Hp} : ∀ {ds : List D} {vs xs : List V}, RpL K H ds xs → D.flats ds = some vs → xs = vs ∧ vs.all flatV = true
  | [], vs, xs, h, e => by simp only [RpL] at h; simp only [D.flats, Option.some.injEq] at e; subst h e; exact ⟨rfl, rfl⟩
  | d :: ds, vs, xs, h, e => by
    simp only [RpL] at h
    obtain ⟨y, ys, h1, h2, h3⟩ := h
    subst h1
    unfold D.flats at e
    split at e
    · rename_i v vs' e1 e2
      cases e
      obtain ⟨q1, q2⟩ := h2.flat e1
      obtain ⟨q3, q4⟩ := h3.flat e2
      subst q1 q3
      exact ⟨rfl, by simp [q2, q4]⟩
    · cases e
theorem Rp.items {H : Hp} {d : D} {ds : List D} {x : V} (h : Rp K H d x) (e : d.items = some ds) : ∃ p xs, x = .ref p ∧ (SqL K H p xs ∨ SqT K H p xs) ∧ RpL K H ds xs := by
  cases d <;> simp only [D.items, Option.some.injEq] at e <;> first
    | (cases e; done)
    | (subst e; simp only [Rp] at h; obtain ⟨p, xs, h1, h2, h3⟩ := h; exact ⟨p, xs, h1, .inr h2, h3⟩)
    | (subst e; simp only [Rp] at h; obtain ⟨p, xs, h1, h2, h3⟩ := h; exact ⟨p, xs, h1, .inl (SqL.of h2), h3⟩)
    | (subst e; simp only [Rp] at h; obtain ⟨p, xs, h1, h2, h3⟩ := h; exact ⟨p, xs, h1, .inl h2, h3⟩)
def gIn (neg : Bool) : D → D → Option D := fun x y => match x.flat, y.items with
  | some v, some ds => (match D.flats ds with
    | some vs => some (.bl (if neg then !inV v vs else inV v vs))
    | none => none)
  | _, _ => none
theorem pu_in {neg : Bool} : PuS K (rIn K neg) (gIn neg) := fun H x y d1 d2 d Q hg r1 r2 q => by
  unfold gIn at hg
  split at hg
  · rename_i v ds e1 e2
    split at hg
    · rename_i vs e3
      cases hg
      obtain ⟨p, xs, h1, h2, h3⟩ := r2.items e2
      obtain ⟨q1, q2⟩ := r1.flat e1
      obtain ⟨q3, q4⟩ := h3.flat e3
      subst h1 q1 q3
      exact ⟨p, xs, rfl, h2, q2, q4, q _ fun _ => rp_bl⟩
    · cases hg
  · cases hg
/-- a sign in a text -/
def gInS (neg : Bool) : D → D → Option D
  | .str i, .str j => some (.bl (if neg then !(!(Builtin.Str.occurrences j i 0 j.length 1).isEmpty) else !(Builtin.Str.occurrences j i 0 j.length 1).isEmpty))
  | _, _ => none
theorem pu_inS : PuS K (fun x y H Q => ∃ i j, x = .str i ∧ y = .str j ∧ Q (.bl (!(Builtin.Str.occurrences j i 0 j.length 1).isEmpty)) H) (gInS false) := fun H x y d1 d2 d Q hg r1 r2 q => by
  unfold gInS at hg
  split at hg
  · cases hg
    simp only [Rp] at r1 r2
    exact ⟨_, _, r1, r2, q _ fun _ => rp_bl⟩
  · cases hg

/-! ### + -/
def gAdd : D → D → Option M
  | .int i, .int j => some (.d (.int (i + j)))
  | .str i, .str j => if i.length + j.length ≤ 1000000 then some (.d (.str (i ++ j))) else none
  | .lst xs, .lst ys => if xs.length + ys.length ≤ 1000000 then some (.lst ((xs ++ ys).map .d)) else none
  | .tup xs, .tup ys => if xs.length + ys.length ≤ 1000000 then some (.d (.tup (xs ++ ys))) else none
  | _, _ => none
def g2m (g : D → D → Option M) : M → M → Option M
  | .d x, .d y => g x y
  | _, _ => none
def rAdd (K : PySem.W.Frag) : R2 := fun x y H Q => rI0 (fun i j => .int (i + j)) x y H Q ∨ (∃ i j, x = .str i ∧ y = .str j ∧ i.length + j.length ≤ sizeLine ∧ Q (.str (i ++ j)) H) ∨ rCat x y H Q ∨ rCatA K x y H Q
theorem op_addU {X : Cx} : OpR X (binaryOp .Add) (rAdd X.K) := op_add.or (op_add_str.or (op_cat.or op_catA))
theorem os_add : OpS K (rAdd K) (g2m gAdd) := by
  intro c G H σ b T x y m1 m2 m Q hg I q
  unfold g2m at hg
  split at hg
  · rename_i d1 d2
    have r2 := I.topD
    have r1 := I.drop.topD
    have I0 := I.drop.drop
    unfold gAdd at hg
    split at hg
    · cases hg
      simp only [Rp] at r1 r2
      exact .inl ⟨_, _, r1, r2, q _ G H (I0.pushD rp_int)⟩
    · split at hg
      · rename_i hz
        cases hg
        simp only [Rp] at r1 r2
        exact .inr (.inl ⟨_, _, r1, r2, le_line hz, q _ G H (I0.pushD rp_str)⟩)
      · cases hg
    · split at hg
      · rename_i xs ys hz
        cases hg
        simp only [Rp] at r1 r2
        obtain ⟨p1, v1, h1, h2, h3⟩ := r1
        obtain ⟨p2, v2, h4, h5, h6⟩ := r2
        refine .inr (.inr (.inl ⟨p1, p2, v1, v2, h1, h4, I0.st.gh _ _ h2, I0.st.gh _ _ h5, ?_, fun p hp => q _ G _ (I0.newL hp (h3.app h6))⟩))
        rw [← h3.len, ← h6.len]
        exact le_line hz
      · cases hg
    · split at hg
      · rename_i xs ys hz
        cases hg
        simp only [Rp] at r1 r2
        obtain ⟨p1, v1, h1, h2, h3⟩ := r1
        obtain ⟨p2, v2, h4, h5, h6⟩ := r2
        refine .inr (.inr (.inr ⟨p1, p2, v1, v2, h1, h4, sqt_mono I0.st.gh h2, sqt_mono I0.st.gh h5, ?_, ?_⟩))
        · rw [← h3.len, ← h6.len]
          exact le_line hz
        · refine ⟨fun e => ?_, fun e1 e2 => ?_, fun e1 e2 p hp => ?_⟩
          · subst e
            have e0 : xs = [] := by have := h3.len; simpa using this
            subst e0
            exact q _ G H (I0.pushD (by simp only [Rp]; exact ⟨p2, v2, rfl, h5, h6⟩))
          · subst e2
            have e0 : ys = [] := by have := h6.len; simpa using this
            subst e0
            exact q _ G H (I0.pushD (by simp only [Rp, List.append_nil]; exact ⟨p1, v1, rfl, h2, h3⟩))
          · exact q _ _ _ (I0.newT hp (h3.app h6))
      · cases hg
    · cases hg
  · cases hg
end
end PL

namespace PL
open PySem PySem.Spec PyProof.Rows L2
theorem perm_l {a b c : List Addr} : (a ++ (b ++ c)).Perm (b ++ (a ++ c)) := by
  rw [← List.append_assoc, ← List.append_assoc]
  exact List.Perm.append_right c List.perm_append_comm
/-! ### places: a slot's thing, or a thing at a known address; fields from there -/
def M.isD : M → Bool
  | .d _ => true
  | _ => false
abbrev Pth := List (Str × List Str)
def fldI (n : Str) : List Str → Option Nat
  | [] => none
  | k :: ks => if n = k then some 0 else (match fldI n ks with
    | some i => some (i + 1)
    | none => none)
theorem fldI_some {n : Str} : ∀ {ns : List Str} {i : Nat} {xs : List V}, fldI n ns = some i → ns.length = xs.length → (ns.zip xs).lookup n = xs[i]?
  | [], _, _, h, _ => by simp [fldI] at h
  | k :: ks, i, [], h, l => by simp at l
  | k :: ks, i, x :: xs, h, l => by
    unfold fldI at h
    split at h
    · rename_i e
      cases h
      subst e
      simp [List.lookup]
    · rename_i e
      split at h
      · rename_i j ej
        cases h
        have hb : (n == k) = false := by simpa using e
        simp only [List.zip_cons_cons, List.lookup, hb, List.getElem?_cons_succ]
        exact fldI_some ej (by simpa using l)
      · cases h
theorem fldI_none {n : Str} : ∀ {ns : List Str} {xs : List V}, fldI n ns = none → (ns.zip xs).lookup n = none
  | [], _, _ => by simp
  | k :: ks, [], _ => by simp
  | k :: ks, x :: xs, h => by
    unfold fldI at h
    split at h
    · cases h
    · rename_i e
      split at h
      · cases h
      · rename_i ej
        have hb : (n == k) = false := by simpa using e
        simp only [List.zip_cons_cons, List.lookup, hb]
        exact fldI_none ej
theorem fldI_put {n : Str} {v : V} : ∀ {ns : List Str} {i : Nat} {xs : List V}, fldI n ns = some i → ns.length = xs.length → putF n v (ns.zip xs) = ns.zip (xs.set i v)
  | [], _, _, h, _ => by simp [fldI] at h
  | k :: ks, i, [], h, l => by simp at l
  | k :: ks, i, x :: xs, h, l => by
    unfold fldI at h
    split at h
    · rename_i e
      cases h
      subst e
      simp [putF]
    · rename_i e
      split at h
      · rename_i j ej
        cases h
        have e2 : ¬ k = n := fun z => e z.symm
        simp only [List.zip_cons_cons, putF, if_neg e2, List.set_cons_succ]
        rw [fldI_put ej (by simpa using l)]
      · cases h
theorem fldI_add {n : Str} {v : V} : ∀ {ns : List Str} {xs : List V}, fldI n ns = none → ns.length = xs.length → putF n v (ns.zip xs) = (ns ++ [n]).zip (xs ++ [v])
  | [], [], _, _ => by simp [putF]
  | [], _ :: _, _, l => by simp at l
  | k :: ks, [], h, l => by simp at l
  | k :: ks, x :: xs, h, l => by
    unfold fldI at h
    split at h
    · cases h
    · rename_i e
      split at h
      · cases h
      · rename_i ej
        have e2 : ¬ k = n := fun z => e z.symm
        simp only [List.zip_cons_cons, putF, if_neg e2, List.cons_append]
        rw [fldI_add ej (by simpa using l)]
def M.fld : M → Str × List Str → Option M
  | .obj C ns ms, q => if q.2.contains C = true then (match fldI q.1 ns with
    | some i => ms[i]?
    | none => none) else none
  | .d (.obj C ns ds), q => if q.2.contains C = true then (match fldI q.1 ns with
    | some i => (match ds[i]? with
      | some x => some (.d x)
      | none => none)
    | none => none) else none
  | .d (.oba a C ns ds), q => if q.2.contains C = true then (match fldI q.1 ns with
    | some i => (match ds[i]? with
      | some x => some (.d x)
      | none => none)
    | none => none) else none
  | _, _ => none
def M.sub (m : M) : Pth → Option M
  | [] => some m
  | q :: π => match m.sub π with
    | some p => p.fld q
    | none => none
/-- a field set, or added -/
def M.setF : M → Str × List Str → M → Option M
  | .obj C ns ms, q, m2 => if q.2.contains C = true then (match fldI q.1 ns with
    | some i => some (.obj C ns (ms.set i m2))
    | none => some (.obj C (ns ++ [q.1]) (ms ++ [m2]))) else none
  | _, _, _ => none
/-- the thing at a path exchanged for another one at the same place -/
def M.put (m : M) : Pth → M → Option M
  | [], m2 => some m2
  | q :: π, m2 => match m.sub π with
    | some p => (match p.setF q m2 with
      | some p2 => m.put π p2
      | none => none)
    | none => none
def M.cell : M → Option Addr → Option M
  | .box r as ms, ao => ms[as.idxOf (ao.getD r)]?
  | .d _, _ => none
  | m, none => some m
  | _, some _ => none
def M.setCell : M → Option Addr → M → M
  | .box r as ms, ao, m2 => .box r as (ms.set (as.idxOf (ao.getD r)) m2)
  | _, _, m2 => m2
def boxAt (a : Addr) : List B → Nat → Option Nat
  | [], _ => none
  | .o _ (.box _ as _) :: bs, i => if as.contains a = true then some i else boxAt a bs (i + 1)
  | _ :: bs, i => boxAt a bs (i + 1)
/-- the slot that owns what the name at j means -/
def ownS (b : List B) (j : Nat) : Option (Nat × Option Addr) := match b[j]? with
  | some (.o _ _) => some (j, none)
  | some (.d (.adr a)) => (match boxAt a b 0 with
    | some i => some (i, some a)
    | none => none)
  | _ => none
def getP (b : List B) (j : Nat) (π : Pth) : Option M := match ownS b j with
  | some (i, ao) => (match b[i]? with
    | some (.o _ m) => (match m.cell ao with
      | some c => c.sub π
      | none => none)
    | _ => none)
  | none => (match b[j]? with
    | some (.d d) => (M.d d).sub π
    | _ => none)
def setP (b : List B) (j : Nat) (π : Pth) (m2 : M) : Option (List B) := match ownS b j with
  | some (i, ao) => (match b[i]? with
    | some (.o k m) => (match m.cell ao with
      | some c => (match c.put π m2 with
        | some c2 => some (b.set i (.o k (m.setCell ao c2)))
        | none => none)
      | none => none)
    | _ => none)
  | none => none
def PathV (K : PySem.W.Frag) (H : Hp) (v : V) : Pth → V → Prop
  | [], v1 => v = v1
  | q :: π, v1 => ∃ a C dx fs, PathV K H v π (.ref a) ∧ H a = some (.ins (He.ga K C) dx fs) ∧ q.2.contains C = true ∧ fs.lookup q.1 = some v1
section
variable {K : PySem.W.Frag} {c : Cg} {G G' H H' : Hp} {σ : L2.St} {b : List B} {T T1 : List (M × V)} {p : Addr} {o : HO} {d : D} {v : V} {m m1 : M} {i j : Nat} {π : Pth}
theorem RML.split : ∀ {ms : List M} {xs : List V} {f : List Addr} {i : Nat} {m : M}, RML K G H ms xs f → ms[i]? = some m → ∃ v fi fr, xs[i]? = some v ∧ RM K G H m v fi ∧ f.Perm (fi ++ fr) ∧
    ∀ G' H' m2 v2 f2, Same G G' → (∀ a ∈ fr, H' a = H a) → RM K G' H' m2 v2 f2 → ∃ f', RML K G' H' (ms.set i m2) (xs.set i v2) f' ∧ f'.Perm (f2 ++ fr)
  | [], _, _, _, _, _, e => by simp at e
  | m0 :: ms, _, _, 0, m, h, e => by
    simp only [RML] at h
    obtain ⟨z, zs, f1, f2, rfl, h2, h3, rfl⟩ := h
    simp at e
    subst e
    refine ⟨z, f1, f2, rfl, h2, List.Perm.refl _, fun G' H' m2 v2 g2 sg k r => ⟨g2 ++ f2, ?_, List.Perm.refl _⟩⟩
    simp only [List.set_cons_zero, RML]
    exact ⟨v2, zs, g2, f2, rfl, r, RML.frame sg _ _ _ h3 k, rfl⟩
  | m0 :: ms, _, _, i + 1, m, h, e => by
    simp only [RML] at h
    obtain ⟨z, zs, f1, f2, rfl, h2, h3, rfl⟩ := h
    obtain ⟨v, fi, fr, q1, q2, q3, q4⟩ := RML.split h3 (i := i) (by simpa using e)
    refine ⟨v, fi, f1 ++ fr, by simpa using q1, q2, (List.Perm.append_left f1 q3).trans perm_l, fun G' H' m2 v2 g2 sg k r => ?_⟩
    obtain ⟨f', w1, w2⟩ := q4 G' H' m2 v2 g2 sg (fun a ha => k a (by simp [ha])) r
    refine ⟨f1 ++ f', ?_, (List.Perm.append_left f1 w2).trans perm_l⟩
    simp only [List.set_cons_succ, RML]
    exact ⟨z, _, f1, f', rfl, RM.frame sg _ _ _ h2 (fun a ha => k a (by simp [ha])), w1, rfl⟩
theorem RpL.get? : ∀ {ds : List D} {xs : List V} {i : Nat} {d : D}, RpL K G ds xs → ds[i]? = some d → ∃ v, xs[i]? = some v ∧ Rp K G d v := fun h e => RpL.get h e
theorem RM.setSelf (h : xs[i]? = some v) : (xs : List V).set i v = xs := set_self h
/-- reading -/
theorem RM.read : ∀ {π : Pth} {v : V} {f : List Addr} {m1 : M}, RM K G H m v f → Same G H → m.sub π = some m1 → ∃ v1 f1, PathV K H v π v1 ∧ RM K G H m1 v1 f1
  | [], v, f, m1, h, _, e => by
    simp only [M.sub, Option.some.injEq] at e
    subst e
    exact ⟨v, f, rfl, h⟩
  | q :: π, v, f, m1, h, s, e => by
    unfold M.sub at e
    split at e
    · rename_i p0 ep
      obtain ⟨v0, f0, w1, w2⟩ := RM.read h s ep
      unfold M.fld at e
      split at e
      · rename_i C ns ms
        split at e
        · rename_i hC
          split at e
          · rename_i i hi
            simp only [RM] at w2
            obtain ⟨p, dx, xs, g, rfl, h2, h3, h4, rfl⟩ := w2
            obtain ⟨v1, fi, fr, q1, q2, _⟩ := RML.split h4 e
            exact ⟨v1, fi, ⟨p, C, dx, _, w1, h2, hC, (fldI_some hi h3).trans q1⟩, q2⟩
          · cases e
        · cases e
      · rename_i C ns ds
        split at e
        · rename_i hC
          split at e
          · rename_i i hi
            split at e
            · rename_i d ed
              cases e
              simp only [RM, Rp] at w2
              obtain ⟨⟨p, dx, xs, rfl, h2, h3, h4⟩, rfl⟩ := w2
              obtain ⟨v1, q1, q2⟩ := RpL.get h4 ed
              exact ⟨v1, [], ⟨p, C, dx, _, w1, s _ _ h2, hC, (fldI_some hi h3).trans q1⟩, by simp only [RM, and_true]; exact q2⟩
            · cases e
          · cases e
        · cases e
      · rename_i aa C ns ds
        split at e
        · rename_i hC
          split at e
          · rename_i i hi
            split at e
            · rename_i d ed
              cases e
              simp only [RM, Rp] at w2
              obtain ⟨⟨dx, xs, rfl, h2, h3, h4⟩, rfl⟩ := w2
              obtain ⟨v1, q1, q2⟩ := RpL.get h4 ed
              exact ⟨v1, [], ⟨aa, C, dx, _, w1, s _ _ h2, hC, (fldI_some hi h3).trans q1⟩, by simp only [RM, and_true]; exact q2⟩
            · cases e
          · cases e
        · cases e
      · cases e
    · cases e
theorem M.fld_own {p : M} {q : Str × List Str} (h : p.fld q = some m1) (hd : m1.isD = false) : ∃ C ns ms i, p = .obj C ns ms ∧ q.2.contains C = true ∧ fldI q.1 ns = some i ∧ ms[i]? = some m1 := by
  unfold M.fld at h
  split at h
  · rename_i C ns ms
    split at h
    · rename_i hC
      split at h
      · rename_i i hi
        exact ⟨C, ns, ms, i, rfl, hC, hi, h⟩
      · cases h
    · cases h
  · split at h
    · split at h
      · split at h
        · cases h
          simp [M.isD] at hd
        · cases h
      · cases h
    · cases h
  · split at h
    · split at h
      · split at h
        · cases h
          simp [M.isD] at hd
        · cases h
      · cases h
    · cases h
  · cases h
/-- an owned thing within an owned one: it may change -/
theorem RM.focus : ∀ {π : Pth} {v : V} {f : List Addr} {m1 : M}, RM K G H m v f → m.sub π = some m1 → m1.isD = false → ∃ v1 f1 fr, PathV K H v π v1 ∧ RM K G H m1 v1 f1 ∧ f.Perm (f1 ++ fr) ∧
    ∀ G' H' m2 m' f2, Same G G' → (∀ a ∈ fr, H' a = H a) → RM K G' H' m2 v1 f2 → m.put π m2 = some m' → ∃ f', RM K G' H' m' v f' ∧ f'.Perm (f2 ++ fr)
  | [], v, f, m1, h, e, _ => by
    simp only [M.sub, Option.some.injEq] at e
    subst e
    refine ⟨v, f, [], rfl, h, by simp, fun G' H' m2 m' f2 sg k r e => ?_⟩
    simp only [M.put, Option.some.injEq] at e
    subst e
    exact ⟨f2, r, by simp⟩
  | q :: π, v, f, m1, h, e, hd => by
    unfold M.sub at e
    split at e
    · rename_i p0 ep
      obtain ⟨C, ns, ms, i, rfl, hC, hi, hm⟩ := M.fld_own e hd
      obtain ⟨v0, f0, fr0, w1, w2, w3, w4⟩ := RM.focus h ep rfl
      simp only [RM] at w2
      obtain ⟨p, dx, xs, g, rfl, h2, h3, h4, rfl⟩ := w2
      obtain ⟨v1, fi, fr, q1, q2, q3, q4⟩ := RML.split h4 hm
      have P : f.Perm (fi ++ (p :: (fr ++ fr0))) := by
        refine w3.trans ?_
        have : (p :: g ++ fr0).Perm (p :: (fi ++ fr) ++ fr0) := List.Perm.append_right fr0 (List.Perm.cons p q3)
        refine this.trans ?_
        have e1 : p :: (fi ++ fr) ++ fr0 = p :: (fi ++ (fr ++ fr0)) := by simp
        rw [e1]
        exact List.perm_middle.symm
      refine ⟨v1, fi, p :: (fr ++ fr0), ⟨p, C, dx, _, w1, h2, hC, (fldI_some hi h3).trans q1⟩, q2, P, fun G' H' m2 m' f2 sg k r e => ?_⟩
      unfold M.put at e
      rw [ep] at e
      simp only [M.setF, hC, hi, if_true] at e
      obtain ⟨f', r1, r2⟩ := q4 G' H' m2 v1 f2 sg (fun a ha => k a (by simp [ha])) r
      rw [set_self q1] at r1
      obtain ⟨f'', r3, r4⟩ := w4 G' H' (.obj C ns (ms.set i m2)) m' (p :: f') sg (fun a ha => k a (by simp [ha])) (by simp only [RM]; exact ⟨p, dx, xs, f', rfl, by rw [k p (by simp)]; exact h2, h3, r1, rfl⟩) e
      refine ⟨f'', r3, r4.trans ?_⟩
      have : (p :: f' ++ fr0).Perm (p :: (f2 ++ fr) ++ fr0) := List.Perm.append_right fr0 (List.Perm.cons p r2)
      refine this.trans ?_
      have e1 : p :: (f2 ++ fr) ++ fr0 = p :: (f2 ++ (fr ++ fr0)) := by simp
      rw [e1]
      exact List.perm_middle.symm
    · cases e
theorem idxOf_get {a : Addr} : ∀ {as : List Addr}, as.idxOf a < as.length → as[as.idxOf a]? = some a
  | [], h => by simp at h
  | x :: as, h => by
    by_cases e : x = a
    · subst e; simp
    · have hb : (x == a) = false := by simpa using e
      simp only [List.idxOf_cons, hb, cond_false, List.length_cons] at h ⊢
      simpa using idxOf_get (as := as) (by omega)
/-- a cell of a box (or the thing itself): it may change -/
theorem RM.cellAt {ao : Option Addr} {f : List Addr} {c0 : M} (h : RM K G H m v f) (e : m.cell ao = some c0) : ∃ v0 f0 fr, (ao = none → v0 = v) ∧ (∀ a, ao = some a → v0 = .ref a) ∧ RM K G H c0 v0 f0 ∧ f.Perm (f0 ++ fr) ∧
    ∀ G' H' c1 f1, Same G G' → (∀ a ∈ fr, H' a = H a) → RM K G' H' c1 v0 f1 → ∃ f', RM K G' H' (m.setCell ao c1) v f' ∧ f'.Perm (f1 ++ fr) := by
  cases m with
  | d x => simp [M.cell] at e
  | box r as ms =>
    simp only [M.cell] at e
    simp only [RM] at h
    obtain ⟨rfl, h⟩ := h
    obtain ⟨v0, fi, fr, q1, q2, q3, q4⟩ := RML.split h e
    have hl : as.idxOf (ao.getD r) < as.length := by
      have := (List.getElem?_eq_some_iff.mp q1).1
      simpa using this
    have hv : v0 = .ref (ao.getD r) := by
      have e2 := idxOf_get hl
      rw [List.getElem?_map, e2] at q1
      simpa using q1.symm
    refine ⟨v0, fi, fr, fun z => by rw [hv, z]; rfl, fun a z => by rw [hv, z]; rfl, q2, q3, fun G' H' c1 f1 sg k r1 => ?_⟩
    obtain ⟨f', w1, w2⟩ := q4 G' H' c1 v0 f1 sg k r1
    rw [set_self q1] at w1
    exact ⟨f', by simp only [M.setCell, RM]; exact ⟨by first | trivial | rfl, w1⟩, w2⟩
  | lst ms =>
    cases ao with
    | some a => simp [M.cell] at e
    | none =>
      simp only [M.cell, Option.some.injEq] at e
      subst e
      exact ⟨v, f, [], fun _ => rfl, (fun a z => by cases z), h, by simp, fun G' H' c1 f1 sg k r1 => ⟨f1, r1, by simp⟩⟩
  | obj C ns ms =>
    cases ao with
    | some a => simp [M.cell] at e
    | none =>
      simp only [M.cell, Option.some.injEq] at e
      subst e
      exact ⟨v, f, [], fun _ => rfl, (fun a z => by cases z), h, by simp, fun G' H' c1 f1 sg k r1 => ⟨f1, r1, by simp⟩⟩
  | dic ks ms =>
    cases ao with
    | some a => simp [M.cell] at e
    | none =>
      simp only [M.cell, Option.some.injEq] at e
      subst e
      exact ⟨v, f, [], fun _ => rfl, (fun a z => by cases z), h, by simp, fun G' H' c1 f1 sg k r1 => ⟨f1, r1, by simp⟩⟩
theorem boxAt_ok {a : Addr} : ∀ {b : List B} {n i : Nat}, boxAt a b n = some i → n ≤ i ∧ ∃ k r as ms, b[i - n]? = some (.o k (.box r as ms)) ∧ as.contains a = true
  | [], _, _, h => by simp [boxAt] at h
  | x :: bs, n, i, h => by
    have rec_ : boxAt a bs (n + 1) = some i → n ≤ i ∧ ∃ k r as ms, (x :: bs)[i - n]? = some (.o k (.box r as ms)) ∧ as.contains a = true := fun h => by
      obtain ⟨h1, k, r, as, ms, h2, h3⟩ := boxAt_ok h
      refine ⟨by omega, k, r, as, ms, ?_, h3⟩
      have : i - n = (i - (n + 1)) + 1 := by omega
      rw [this]
      simpa using h2
    unfold boxAt at h
    split at h
    · cases h
    · rename_i e
      obtain ⟨rfl, rfl⟩ := List.cons.inj e
      split at h
      · rename_i hc
        cases h
        exact ⟨Nat.le_refl _, _, _, _, _, by rw [Nat.sub_self]; rfl, hc⟩
      · exact rec_ h
    · rename_i e
      obtain ⟨rfl, rfl⟩ := List.cons.inj e
      exact rec_ h
theorem gh_frame {f f' : List Addr} (S : Stp f G H G' H') (h : ∀ a ∈ f, a ∈ f') : Stp f' G H G' H' := ⟨S.g, S.gh, S.nw, fun a o h1 h2 => S.kp a o h1 fun z => h2 (h a z), S.dm⟩
/-- THE STEP at a place -/
theorem Iv.place (I : Iv K c G H σ b (T1 ++ T)) (hg : getP b j π = some m1) (hd : m1.isD = false) : ∃ v0 v1 fi ft, σ[j]? = some (some v0) ∧ PathV K H v0 π v1 ∧ RM K G H m1 v1 fi ∧ RT K c G H T1 ft ∧ (fi ++ ft).Nodup ∧ (∀ a ∈ fi ++ ft, G a = none) ∧ (∀ a ∈ ft, c.H0 a = none) ∧
    ∀ G' H' m2 f2 T1' fm b', Stp (fi ++ ft) G H G' H' → RM K G' H' m2 v1 f2 → RT K c G' H' T1' fm → (f2 ++ fm).Nodup → (∀ a ∈ f2 ++ fm, a ∈ fi ∨ a ∈ ft ∨ H a = none) → (∀ a ∈ f2 ++ fm, G' a = none) → setP b j π m2 = some b' →
      Iv K c G' H' σ b' (T1' ++ T) := by
  unfold getP at hg
  split at hg
  · rename_i i ao eo
    split at hg
    · rename_i k m eb
      split at hg
      · rename_i c0 ec
        obtain ⟨s, fs, ft, e1, e2, t1, nd, gn, old, go⟩ := Iv.slot (T1 := T1) I eb
        obtain ⟨v, rfl, q2, q3⟩ := e2
        obtain ⟨v0, f0, fr0, a1, a2, a3, a4, a5⟩ := RM.cellAt q2 ec
        obtain ⟨v1, f1, fr1, b1, b2, b3, b4⟩ := RM.focus a3 hg hd
        have hs : σ[j]? = some (some v0) := by
          unfold ownS at eo
          split at eo
          · cases eo
            rw [a1 rfl]; exact e1
          · rename_i a ea
            split at eo
            · cases eo
              obtain ⟨v', w1, w2⟩ := I.getD ea
              simp only [Rp] at w2
              rw [a2 a rfl, ← w2]; exact w1
            · cases eo
          · cases eo
        have P : fs.Perm (f1 ++ (fr1 ++ fr0)) := a4.trans (by
          rw [← List.append_assoc]
          exact List.Perm.append_right fr0 b3)
        have P2 : (fs ++ ft).Perm ((f1 ++ ft) ++ (fr1 ++ fr0)) := (List.Perm.append_right ft P).trans (by
          simp only [List.append_assoc]
          refine List.Perm.append_left f1 ?_
          exact perm_l.trans (perm_l.trans (by
            rw [← List.append_assoc]
            exact List.Perm.trans List.perm_append_comm (by simp)) ))
        have N := P2.nodup_iff.mp nd
        have N1 := List.nodup_append.mp N
        refine ⟨v0, v1, f1, ft, hs, b1, b2, t1, N1.1, fun a ha => gn a (P2.mem_iff.mpr (List.mem_append_left _ ha)), old, fun G' H' m2 f2 T1' fm b' S r rt nd2 from_ g0 es => ?_⟩
        unfold setP at es
        rw [eo] at es
        simp only [eb, ec] at es
        split at es
        · rename_i c2 ep
          cases es
          have there : ∀ a ∈ fr1 ++ fr0, H a ≠ none := fun a ha => RM.there _ _ _ q2 a (P.mem_iff.mpr (List.mem_append_right _ ha))
          have same : ∀ a ∈ fr1 ++ fr0, H' a = H a := fun a ha => by
            cases q : H a with
            | none => exact absurd q (there a ha)
            | some o => exact S.kp a o q (fun hm => N1.2.2 a hm a ha rfl)
          obtain ⟨f', r1, r2⟩ := b4 G' H' m2 c2 f2 S.g (fun a ha => same a (by simp [ha])) r ep
          obtain ⟨f'', r3, r4⟩ := a5 G' H' c2 f' S.g (fun a ha => same a (by simp [ha])) r1
          have P3 : f''.Perm (f2 ++ (fr1 ++ fr0)) := r4.trans (by
            rw [← List.append_assoc]
            exact List.Perm.append_right fr0 r2)
          have gout : ∀ a ∈ fr1 ++ fr0, G' a = none := fun a ha => S.nw a (there a ha) (gn a (P2.mem_iff.mpr (List.mem_append_right _ ha)))
          have inn : ∀ a ∈ f'', a ∈ f2 ∨ a ∈ fr1 ++ fr0 := fun a ha => List.mem_append.mp (P3.mem_iff.mp ha)
          have := go G' H' (.o k (m.setCell ao c2)) (some v) f'' T1' fm (gh_frame S fun a ha => P2.mem_iff.mpr (List.mem_append_left _ ha)) ⟨v, rfl, r3, ?_⟩ rt ?_ ?_ ?_
          · rw [set_self e1] at this
            exact this
          · have hn : ∀ a ∈ f2, a ∈ fs ∨ c.H0 a = none := fun a ha => by
              rcases from_ a (List.mem_append_left _ ha) with z | z | z
              · exact .inl (P.mem_iff.mpr (List.mem_append_left _ z))
              · exact .inr (old a z)
              · refine .inr ?_
                cases q : c.H0 a with
                | none => rfl
                | some o => exact absurd z (I.st.dm a (by rw [q]; simp))
            have all : ∀ a ∈ f'', a ∈ fs ∨ c.H0 a = none := fun a ha => by
              rcases inn a ha with z | z
              · exact hn a z
              · exact .inl (P.mem_iff.mpr (List.mem_append_right _ z))
            cases k with
            | none =>
              intro a ha
              rcases all a ha with z | z
              · exact q3 a z
              · exact z
            | some jj =>
              refine ⟨q3.1, fun a ha => ?_⟩
              rcases all a ha with z | z
              · exact q3.2 a z
              · exact .inr z
          · have P4 : (f'' ++ fm).Perm ((f2 ++ fm) ++ (fr1 ++ fr0)) := (List.Perm.append_right fm P3).trans (by
              simp only [List.append_assoc]
              refine List.Perm.append_left f2 ?_
              exact perm_l.trans (perm_l.trans (by
                rw [← List.append_assoc]
                exact List.Perm.trans List.perm_append_comm (by simp))))
            refine P4.nodup_iff.mpr (List.nodup_append.mpr ⟨nd2, N1.2.1, fun x hx y hy e => ?_⟩)
            subst e
            rcases from_ x hx with z | z | z
            · exact N1.2.2 x (List.mem_append_left _ z) x hy rfl
            · exact N1.2.2 x (List.mem_append_right _ z) x hy rfl
            · exact there x hy z
          · intro a ha
            rcases List.mem_append.mp ha with z | z
            · rcases inn a z with z | z
              · rcases from_ a (List.mem_append_left _ z) with w | w | w
                · exact .inl (P.mem_iff.mpr (List.mem_append_left _ w))
                · exact .inr (.inl w)
                · exact .inr (.inr w)
              · exact .inl (P.mem_iff.mpr (List.mem_append_right _ z))
            · rcases from_ a (List.mem_append_right _ z) with w | w | w
              · exact .inl (P.mem_iff.mpr (List.mem_append_left _ w))
              · exact .inr (.inl w)
              · exact .inr (.inr w)
          · intro a ha
            rcases List.mem_append.mp ha with z | z
            · rcases inn a z with z | z
              · exact g0 a (List.mem_append_left _ z)
              · exact gout a z
            · exact g0 a (List.mem_append_right _ z)
        · cases es
      · cases hg
    · cases hg
  · split at hg
    · rename_i d ed
      exfalso
      cases π with
      | nil =>
        simp only [M.sub, Option.some.injEq] at hg
        subst hg
        simp [M.isD] at hd
      | cons q π =>
        unfold M.sub at hg
        split at hg
        · rename_i p0 ep
          obtain ⟨C, ns, ms, i, rfl, _⟩ := M.fld_own hg hd
          have : ∀ {π : Pth} {p0 : M}, (M.d d).sub π = some p0 → p0.isD = true := by
            intro π
            induction π with
            | nil =>
              intro p0 e
              simp only [M.sub, Option.some.injEq] at e
              subst e
              rfl
            | cons q π ih =>
              intro p0 e
              unfold M.sub at e
              split at e
              · rename_i p1 e1
                have := ih e1
                cases hz : p0.isD with
                | true => rfl
                | false =>
                  obtain ⟨C, ns, ms, i, rfl, _⟩ := M.fld_own e hz
                  simp [M.isD] at this
              · cases e
          have := this ep
          simp [M.isD] at this
        · cases hg
    · cases hg
/-- reading at a place -/
theorem Iv.readP (I : Iv K c G H σ b T) (hg : getP b j π = some m1) : ∃ v0 v1 f1, σ[j]? = some (some v0) ∧ PathV K H v0 π v1 ∧ RM K G H m1 v1 f1 := by
  unfold getP at hg
  split at hg
  · rename_i i ao eo
    split at hg
    · rename_i k m eb
      split at hg
      · rename_i c0 ec
        obtain ⟨v, f, e1, q2⟩ := I.getO eb
        obtain ⟨v0, f0, fr0, a1, a2, a3, _⟩ := RM.cellAt q2 ec
        obtain ⟨v1, f1, w1, w2⟩ := RM.read a3 I.st.gh hg
        refine ⟨v0, v1, f1, ?_, w1, w2⟩
        unfold ownS at eo
        split at eo
        · cases eo
          rw [a1 rfl]; exact e1
        · rename_i a ea
          split at eo
          · cases eo
            obtain ⟨v', w1, w2⟩ := I.getD ea
            simp only [Rp] at w2
            rw [a2 a rfl, ← w2]; exact w1
          · cases eo
        · cases eo
      · cases hg
    · cases hg
  · split at hg
    · rename_i d ed
      obtain ⟨v0, w1, w2⟩ := I.getD ed
      have w2' : RM K G H (.d d) v0 [] := by simp only [RM, and_true]; exact w2
      obtain ⟨v1, f1, z1, z2⟩ := RM.read w2' I.st.gh hg
      exact ⟨v0, v1, f1, w1, z1, z2⟩
    · cases hg
theorem ownS_cases {ao : Option Addr} (h : ownS b j = some (i, ao)) : (ao = none ∧ i = j ∧ ∃ k m, b[j]? = some (.o k m)) ∨ (∃ a, ao = some a ∧ b[j]? = some (.d (.adr a))) := by
  unfold ownS at h
  split at h
  · rename_i e
    cases h
    exact .inl ⟨rfl, rfl, _, _, e⟩
  · rename_i a e
    split at h
    · cases h
      exact .inr ⟨a, rfl, e⟩
    · cases h
  · cases h
/-- what is handed on -/
def M.argOf : M → Option Addr → Option M
  | m, none => some m
  | m, some a => m.cell (some a)
def M.hole (k : Option Nat) (m : M) : Option Addr → B
  | none => .no
  | some a => .o k (m.setCell (some a) (.d .any))
theorem rm_any {v : V} : RM K G H (.d .any) v [] := by simp [RM, Rp]
end
end PL

namespace PL
open PySem PySem.Spec PyProof.Rows L2
section
variable (K : PySem.W.Frag) (G H : Hp)
def RMs : List M → List V → List (List Addr) → Prop
  | [], vs, fs => vs = [] ∧ fs = []
  | m :: ms, vs, fs => ∃ v vs' f fs', vs = v :: vs' ∧ fs = f :: fs' ∧ RM K G H m v f ∧ RMs ms vs' fs'
/-- the owned arguments behind a call: o at v, its cells those of before or new -/
def IOK (H0 : Hp) : List M → List V → List (List Addr) → List M → List Addr → Prop
  | [], _, _, os, fo => os = [] ∧ fo = []
  | m :: ms, vs, fs, os, fo => ∃ v vs' f fs', vs = v :: vs' ∧ fs = f :: fs' ∧
      if m.isD = true then IOK H0 ms vs' fs' os fo
      else ∃ o os' f1 f2, os = o :: os' ∧ RM K G H o v f1 ∧ (∀ a ∈ f1, a ∈ f ∨ H0 a = none) ∧ IOK H0 ms vs' fs' os' f2 ∧ fo = f1 ++ f2
end
/-- what a def does with its arguments: a result and the owned arguments behind it -/
abbrev Fn := List M → Option (M × List M)
def spD (K : PySem.W.Frag) (F : Fn) : Sp := fun vs H Q _ => ∃ (G : Hp) (ms : List M) (fs : List (List Addr)) (r : M) (os : List M), F ms = some (r, os) ∧ Same G H ∧ RMs K G H ms vs fs ∧ fs.flatten.Nodup ∧ (∀ a ∈ fs.flatten, G a = none) ∧
  ∀ v G' H' fr fo, Stp fs.flatten G H G' H' → RM K G' H' r v fr → IOK K G' H' H ms vs fs os fo → (fr ++ fo).Nodup → (∀ a ∈ fr ++ fo, G' a = none) → (∀ a ∈ fr, H a = none) → Q v H'
def startE : List M → Nat → List B
  | [], _ => []
  | m :: ms, j => (if m.isD = true then .d m.toD else .o (some j) m) :: startE ms (j + 1)
def finals : List M → Nat → List B → Option (List M)
  | [], _, _ => some []
  | m :: ms, j, b :: bs => if m.isD = true then finals ms (j + 1) bs else (match b with
      | .o (some j') o => if j' = j then (match finals ms (j + 1) bs with
          | some os => some (o :: os)
          | none => none) else none
      | _ => none)
  | _ :: _, _, [] => none
def fin (ms : List M) (b : List B) (r : M) : Option (M × List M) := match finals ms 0 b with
  | some os => some (r, os)
  | none => none
/-- a def of np parameters and nl other names, by its body -/
def fnF (np nl : Nat) (g : Sv) : Fn := fun ms => if ms.length = np then (match g (startE ms 0 ++ List.replicate nl .no) with
    | some (.nx, b) => fin ms b (.d .non)
    | some (.rt m, b) => fin ms b m
    | _ => none) else none
abbrev Ks := List (Nat × Option Nat × Option Addr)
def fill : List (Option Nat) → List M → List B → Option (List M × Ks × List B)
  | [], [], b => some ([], [], b)
  | none :: s, m :: ms, b => (match fill s ms b with
      | some (full, ks, b') => some (m :: full, ks, b')
      | none => none)
  | some j :: s, ms, b => (match ownS b j with
      | some (i, ao) => (match b[i]? with
        | some (.o k m) => (match m.argOf ao with
          | some c0 => if c0.isD = true then none else (match fill s ms (b.set i (M.hole k m ao)) with
            | some (full, ks, b') => some (c0 :: full, (i, k, ao) :: ks, b')
            | none => none)
          | none => none)
        | _ => none)
      | none => none)
  | _, _, _ => none
def putb : List (Option Nat) → Ks → List M → List M → List B → Option (List B)
  | [], _, _, _, b => some b
  | none :: s, ks, m :: full, os, b => if m.isD = true then putb s ks full os b else (match os with
      | _ :: os' => putb s ks full os' b
      | [] => none)
  | some _ :: s, (i, k, none) :: ks, _ :: full, o :: os, b => (match putb s ks full os b with
      | some b' => some (b'.set i (.o k o))
      | none => none)
  | some _ :: s, (i, k, some a) :: ks, _ :: full, o :: os, b => (match putb s ks full os b with
      | some b' => (match b'[i]? with
        | some (.o k' m') => if k' = k ∧ (m'.cell (some a)).isSome = true then some (b'.set i (.o k (m'.setCell (some a) o))) else none
        | _ => none)
      | none => none)
  | _, _, _, _, _ => none
section
variable {K : PySem.W.Frag} {c : Cg} {G G' H H' : Hp} {σ : L2.St} {b : List B} {T T1 : List (M × V)} {p : Addr} {o : HO} {d : D} {v : V} {m : M} {i : Nat}
theorem isD_d {m : M} (h : m.isD = true) : m = .d m.toD := by
  cases m <;> simp [M.isD] at h
  rfl
theorem RE.repl : ∀ n, RE K c G H (List.replicate n .no) (List.replicate n none) []
  | 0 => ⟨rfl, rfl⟩
  | n + 1 => ⟨none, List.replicate n none, [], [], rfl, rfl, RE.repl n, rfl⟩
theorem RE.start {n : Nat} : ∀ {ms : List M} {vs : List V} {fs : List (List Addr)} {j : Nat}, RMs K G H ms vs fs → (∀ i, i < vs.length → c.VS[j + i]? = vs[i]?) → (∀ i, i < fs.length → c.PP (j + i) = fs.getD i []) →
    RE K c G H (startE ms j ++ List.replicate n .no) (vs.map some ++ List.replicate n none) fs.flatten
  | [], vs, fs, j, ⟨h1, h2⟩, _, _ => by
    subst h1 h2
    exact RE.repl n
  | m :: ms, _, _, j, ⟨v, vs', f, fs', h1, h2, h3, h4⟩, hv, hf => by
    subst h1 h2
    have ih := RE.start (n := n) (ms := ms) (j := j + 1) h4 (fun i hi => by have := hv (i + 1) (by simpa using hi); simpa [Nat.add_assoc, Nat.add_comm, Nat.add_left_comm] using this) (fun i hi => by have := hf (i + 1) (by simpa using hi); simpa [Nat.add_assoc, Nat.add_comm, Nat.add_left_comm] using this)
    refine ⟨some v, _, f, fs'.flatten, rfl, ?_, ih, by simp⟩
    by_cases q : m.isD = true
    · rw [if_pos q]
      have e := isD_d q
      rw [e] at h3
      simp only [RM] at h3
      exact ⟨h3.2, v, rfl, h3.1⟩
    · rw [if_neg q]
      refine ⟨v, rfl, h3, ?_, fun a ha => .inl ?_⟩
      · have := hv 0 (by simp)
        simpa using this
      · have := hf 0 (by simp)
        simp at this
        rw [this]; exact ha
theorem RE.fin : ∀ {ms : List M} {vs : List V} {fs : List (List Addr)} {j : Nat} {b : List B} {σ : L2.St} {f : List Addr} {os : List M}, RE K c G H b σ f → finals ms j b = some os → ms.length = vs.length → ms.length = fs.length → (∀ i, i < vs.length → c.VS[j + i]? = vs[i]?) → (∀ i, i < fs.length → c.PP (j + i) = fs.getD i []) →
    ∃ fo fr, IOK K G H c.H0 ms vs fs os fo ∧ f.Perm (fo ++ fr)
  | [], vs, fs, j, b, σ, f, os, _, e, _, _, _, _ => by
    simp only [finals, Option.some.injEq] at e
    subst e
    exact ⟨[], f, ⟨rfl, rfl⟩, List.Perm.refl _⟩
  | m :: ms, v :: vs, f0 :: fs, j, [], σ, f, os, _, e, _, _, _, _ => by simp [finals] at e
  | m :: ms, v :: vs, f0 :: fs, j, b :: bs, σ, f, os, ⟨s, σ', f1, f2, h1, h2, h3, h4⟩, e, l1, l2, hv, hf => by
    subst h1 h4
    have hv' : ∀ i, i < vs.length → c.VS[j + 1 + i]? = vs[i]? := fun i hi => by have := hv (i + 1) (by simpa using hi); simpa [Nat.add_assoc, Nat.add_comm, Nat.add_left_comm] using this
    have hf' : ∀ i, i < fs.length → c.PP (j + 1 + i) = fs.getD i [] := fun i hi => by have := hf (i + 1) (by simpa using hi); simpa [Nat.add_assoc, Nat.add_comm, Nat.add_left_comm] using this
    unfold finals at e
    split at e
    · rename_i q
      obtain ⟨fo, fr, i1, i2⟩ := RE.fin h3 e (by simpa using l1) (by simpa using l2) hv' hf'
      refine ⟨fo, f1 ++ fr, ⟨v, vs, f0, fs, rfl, rfl, by rw [if_pos q]; exact i1⟩, ?_⟩
      refine (List.Perm.append_left f1 i2).trans ?_
      rw [← List.append_assoc, ← List.append_assoc]
      exact List.Perm.append_right fr List.perm_append_comm
    · rename_i q
      split at e
      · rename_i j' o
        split at e
        · rename_i hj
          subst hj
          split at e
          · rename_i os' e2
            cases e
            obtain ⟨fo, fr, i1, i2⟩ := RE.fin h3 e2 (by simpa using l1) (by simpa using l2) hv' hf'
            obtain ⟨v', q1, q2, q3, q4⟩ := h2
            have hv0 := hv 0 (by simp)
            simp only [Nat.add_zero, List.getElem?_cons_zero] at hv0
            rw [q3] at hv0
            have hv0 := Option.some.inj hv0
            subst hv0
            have hf0 := hf 0 (by simp)
            simp at hf0
            refine ⟨f1 ++ fo, fr, ⟨v', vs, f0, fs, rfl, rfl, by rw [if_neg q]; exact ⟨o, os', f1, fo, rfl, q2, fun a ha => by rw [← hf0]; exact q4 a ha, i1, rfl⟩⟩, ?_⟩
            refine (List.Perm.append_left f1 i2).trans ?_
            rw [← List.append_assoc]
          · cases e
        · cases e
      · cases e
  | _ :: _, [], _, _, _, _, _, _, _, _, l, _, _, _ => by simp at l
  | _ :: _, _ :: _, [], _, _, _, _, _, _, _, _, l, _, _ => by simp at l
theorem RMs.len : ∀ {ms : List M} {vs : List V} {fs : List (List Addr)}, RMs K G H ms vs fs → ms.length = vs.length ∧ ms.length = fs.length
  | [], _, _, ⟨h1, h2⟩ => by subst h1 h2; simp
  | m :: ms, _, _, ⟨v, vs', f, fs', h1, h2, h3, h4⟩ => by
    subst h1 h2
    have := RMs.len h4
    simp [this.1, ← this.2]
theorem IOK.sub {H0 : Hp} : ∀ {ms : List M} {vs : List V} {fs : List (List Addr)} {os : List M} {fo : List Addr}, IOK K G H H0 ms vs fs os fo → ∀ a ∈ fo, a ∈ fs.flatten ∨ H0 a = none
  | [], _, _, _, _, ⟨_, h⟩ => by subst h; simp
  | m :: ms, _, _, _, _, ⟨v, vs', f, fs', h1, h2, h3⟩ => by
    subst h2
    split at h3
    · intro a ha
      rcases IOK.sub h3 a ha with z | z
      · left; simp at z ⊢; grind
      · exact .inr z
    · obtain ⟨o, os', f1, f2, q1, q2, q3, q4, q5⟩ := h3
      subst q5
      intro a ha
      rcases List.mem_append.mp ha with ha | ha
      · rcases q3 a ha with z | z
        · left; simp [z]
        · exact .inr z
      · rcases IOK.sub q4 a ha with z | z
        · left; simp at z ⊢; grind
        · exact .inr z
end
/-- a def's promise, by its body's denotation -/
theorem fn_ok {P : Program} {w : World} {K : PySem.W.Frag} {mg : Str → Option Value} {base : Heap} {x qual : Str} {params : Arguments} {body : List Stmt} {scope : Scope} {dvs : List V} {kws : List (Str × V)} {f : Addr} {fd : FuncData} {CX : CXT} {N ps : List Str} {k : Nat} {g : Sv}
    (F : FunD K x qual params body scope dvs kws f fd) (S : FnScope N ps scope)
    (hbody : ∀ (cdv : Value) (A : Around) (outer : List Env) (s : Shared) (H : Hp) (E : XK), Room k (A.deeper (envOfC qual scope s.heap.objs.size f cdv)) → SMs (cxOf CX P w K mg base N qual scope f cdv A outer s H E) body g) :
    FnOk P w K mg base CX (k + 1) f fd ps (spD K (fnF ps.length (N.length - ps.length) g)) := by
  refine F.ok S (fun vs H Q E h => ?_) (fun cdv A outer s H vs Q E hr h => ⟨tsO K g, hbody cdv A outer s H E hr, ?_⟩)
  · obtain ⟨G, ms, fs, r, os, e, _, h2, _⟩ := h
    unfold fnF at e
    split at e
    · rename_i q
      rw [← (RMs.len h2).1]; exact q
    · cases e
  · obtain ⟨G, ms, fs, r, os, e, h1, h2, h3, h4, h5⟩ := h
    unfold fnF at e
    split at e
    · rename_i q
      have ll := RMs.len h2
      have hst : L2.start N vs = vs.map some ++ List.replicate (N.length - ps.length) none := by
        unfold L2.start
        rw [← ll.1, q]
      rw [hst]
      let c : Cg := ⟨H, G, fs.flatten, fun j => fs.getD j [], vs⟩
      have hv : ∀ i, i < vs.length → c.VS[0 + i]? = vs[i]? := fun i _ => by simp [c]
      have hf : ∀ i, i < fs.length → c.PP (0 + i) = fs.getD i [] := fun i _ => by simp [c]
      have I : Iv K c G H (vs.map some ++ List.replicate (N.length - ps.length) none) (startE ms 0 ++ List.replicate (N.length - ps.length) .no) [] := by
        refine ⟨⟨Same.refl _, h1, fun _ _ h => h, fun _ _ h _ => h, fun _ h => h⟩, fs.flatten, [], RE.start (c := c) h2 hv hf, rfl, by simpa using h3, fun a ha => ?_⟩
        simp only [List.append_nil] at ha
        exact ⟨h4 a ha, .inl ha⟩
      have done : ∀ (b' : List B) (m : M) σ' G' H' T v, finals ms 0 b' = some os → Iv K c G' H' σ' b' T → (T = [(m, v)] ∨ (T = [] ∧ m = .d .non ∧ v = .non)) → (r = m) → (∀ v G' H' fr fo, Stp fs.flatten G H G' H' → RM K G' H' r v fr → IOK K G' H' H ms vs fs os fo → (fr ++ fo).Nodup → (∀ a ∈ fr ++ fo, G' a = none) → (∀ a ∈ fr, H a = none) → Q v H') → Q v H' := by
        intro b' m σ' G' H' T v ef I' hT er post
        obtain ⟨st, f1, f2, r1, r2, nd, hg⟩ := I'
        obtain ⟨fo, fx, k1, k2⟩ := RE.fin r1 ef ll.1 ll.2 hv hf
        have P : (f1 ++ f2).Perm ((f2 ++ fo) ++ fx) := by
          refine (List.Perm.append_right f2 k2).trans ?_
          refine List.perm_append_comm.trans ?_
          rw [List.append_assoc]
        have N2 := P.nodup_iff.mp nd
        have N3 := (List.nodup_append.mp N2).1
        have hin : ∀ a ∈ f2 ++ fo, G' a = none := fun a ha => (hg a (P.mem_iff.mpr (List.mem_append_left _ ha))).1
        subst er
        rcases hT with rfl | ⟨rfl, rfl, rfl⟩
        · obtain ⟨g1, g2, q1, q2, q3, q4⟩ := r2
          have q3 : g2 = [] := q3
          subst q3
          simp only [List.append_nil] at q4
          subst q4
          exact post v G' H' f2 fo st q1 k1 N3 hin q2
        · have r2 : f2 = [] := r2
          subst r2
          exact post .non G' H' [] fo st (by simp [RM, Rp]) k1 N3 hin (by simp)
      split at e
      · rename_i b eg
        unfold fin at e
        split at e
        · rename_i os' ef
          cases e
          exact ⟨c, G, _, [], .nx, b, eg, I, fun σ' G' H' I' => done b (.d .non) σ' G' H' [] .non ef I' (.inr ⟨rfl, rfl, rfl⟩) rfl h5⟩
        · cases e
      · rename_i m b eg
        unfold fin at e
        split at e
        · rename_i os' ef
          cases e
          exact ⟨c, G, _, [], .rt r, b, eg, I, fun v σ' G' H' I' => done b r σ' G' H' [(r, v)] v ef I' (.inl rfl) rfl h5⟩
        · cases e
      · cases e
    · cases e
end PL

namespace PL
open PySem PySem.Spec PyProof.Rows L2
theorem fn_ok0 {P : Program} {w : World} {K : PySem.W.Frag} {mg : Str → Option Value} {base : Heap} {x qual : Str} {params : Arguments} {body : List Stmt} {scope : Scope} {dvs : List V} {kws : List (Str × V)} {f : Addr} {fd : FuncData} {N ps : List Str} {k : Nat} {g : Sv}
    (F : FunD K x qual params body scope dvs kws f fd) (S : FnScope N ps scope)
    (hbody : ∀ (cdv : Value) (A : Around) (outer : List Env) (s : Shared) (H : Hp) (E : XK), Room k (A.deeper (envOfC qual scope s.heap.objs.size f cdv)) → SMs (cxOf CX0 P w K mg base N qual scope f cdv A outer s H E).nox body g) :
    FnOk P w K mg base CX0 (k + 1) f fd ps (spD K (fnF ps.length (N.length - ps.length) g)) :=
  fn_ok F S fun cdv A outer s H E hr => (hbody cdv A outer s H E hr).nox
section
variable {K : PySem.W.Frag} {c : Cg} {G G' H H' : Hp} {σ : L2.St} {b : List B} {T T1 : List (M × V)} {p : Addr} {o : HO} {d : D} {v : V} {m : M} {i : Nat}
theorem take_args : ∀ {src : List (Option Nat)} {ms : List M} {us vs : List V} {b : List B} {full : List M} {ks : Ks} {b2 : List B} {f1 ft : List Addr}, fill src ms b = some (full, ks, b2) → RE K c G H b σ f1 → RML K G H ms us ft → AV σ src us vs → (∀ a ∈ ft, c.H0 a = none) →
    ∃ fs fh, RMs K G H full vs fs ∧ RE K c G H b2 σ fh ∧ (f1 ++ ft).Perm (fs.flatten ++ fh) ∧
      ∀ G' H' os fo b3, Same G G' → (∀ a ∈ fh, H' a = H a) → (∀ a, H a = none → c.H0 a = none) → IOK K G' H' H full vs fs os fo → putb src ks full os b2 = some b3 → ∃ f3 f4, RE K c G' H' b3 σ f3 ∧ (fo ++ fh).Perm (f3 ++ f4)
  | [], [], us, vs, b, full, ks, b2, f1, ft, e, re, ha, av, _ => by
    simp only [fill, Option.some.injEq, Prod.mk.injEq] at e
    obtain ⟨rfl, rfl, rfl⟩ := e
    simp only [RML] at ha
    obtain ⟨rfl, rfl⟩ := ha
    obtain ⟨_, rfl⟩ := av
    refine ⟨[], f1, ⟨rfl, rfl⟩, re, by simp, fun G' H' os fo b3 sg k _ ⟨_, h2⟩ e => ?_⟩
    subst h2
    simp only [putb, Option.some.injEq] at e
    subst e
    exact ⟨f1, [], re.frame sg k, by simp⟩
  | [], m :: ms, _, _, _, _, _, _, _, _, e, _, _, _, _ => by simp [fill] at e
  | none :: s, [], _, _, _, _, _, _, _, _, e, _, _, _, _ => by simp [fill] at e
  | none :: s, m :: ms, us, vs, b, full, ks, b2, f1, ft, e, re, ha, av, old => by
    unfold fill at e
    split at e
    · rename_i full' ks' b' e1
      cases e
      simp only [RML] at ha
      obtain ⟨y, ys, g1, g2, rfl, h2, h3, rfl⟩ := ha
      obtain ⟨u, us', vs', h4, rfl, av'⟩ := av
      obtain ⟨rfl, rfl⟩ := List.cons.inj h4
      obtain ⟨fs, fh, i1, i2, i3, i4⟩ := take_args e1 re h3 av' (fun a ha => old a (by simp [ha]))
      refine ⟨g1 :: fs, fh, ⟨y, vs', g1, fs, rfl, rfl, h2, i1⟩, i2, ?_, fun G' H' os fo b3 sg k hn ho e => ?_⟩
      · simp only [List.flatten_cons, List.append_assoc]
        exact perm_l.trans (List.Perm.append_left g1 i3)
      · obtain ⟨v, vs2, f, fs2, q1, q2, q3⟩ := ho
        obtain ⟨rfl, rfl⟩ := List.cons.inj q1
        obtain ⟨rfl, rfl⟩ := List.cons.inj q2
        unfold putb at e
        by_cases z : m.isD = true
        · rw [if_pos z] at q3 e
          exact i4 G' H' os fo b3 sg k hn q3 e
        · rw [if_neg z] at q3 e
          obtain ⟨o, os', fo1, fo2, rfl, q4, q5, q6, rfl⟩ := q3
          obtain ⟨f3, f4, j1, j2⟩ := i4 G' H' os' fo2 b3 sg k hn q6 e
          refine ⟨f3, fo1 ++ f4, j1, ?_⟩
          rw [List.append_assoc]
          exact (List.Perm.append_left fo1 j2).trans perm_l
    · cases e
  | some j :: s, ms, us, vs, b, full, ks, b2, f1, ft, e, re, ha, av, old => by
    unfold fill at e
    split at e
    · rename_i i ao eo
      split at e
      · rename_i k m ei
        split at e
        · rename_i c0 ec
          split at e
          · cases e
          · rename_i nd
            split at e
            · rename_i full' ks' b' e1
              cases e
              obtain ⟨v, vs', rfl, sj, av'⟩ := av
              obtain ⟨s0, fi, fr, r1, r2, r3, r4⟩ := re.split ei
              obtain ⟨v0, rfl, t2, t3⟩ := r2
              rcases ownS_cases eo with ⟨rfl, rfl, _⟩ | ⟨a, rfl, ej⟩
              · simp only [M.argOf, Option.some.injEq] at ec
                subst ec
                rw [sj] at r1
                have r1 := Option.some.inj (Option.some.inj r1)
                subst r1
                obtain ⟨f', u1, u2⟩ := r4 G H .no (some v) [] (Same.refl _) (fun _ _ => rfl) rfl
                rw [set_self sj] at u1
                obtain ⟨fs, fh, i1, i2, i3, i4⟩ := take_args e1 u1 ha av' old
                refine ⟨fi :: fs, fh, ⟨v, vs', fi, fs, rfl, rfl, t2, i1⟩, i2, ?_, fun G' H' os fo b3 sg k' hn ho e => ?_⟩
                · simp only [List.flatten_cons, List.append_assoc]
                  refine (List.Perm.append_right ft r3).trans ?_
                  rw [List.append_assoc]
                  refine List.Perm.append_left fi ?_
                  exact (List.Perm.append_right ft (by simpa using u2.symm)).trans i3
                · obtain ⟨v2, vs2, f, fs2, q1, q2, q3⟩ := ho
                  obtain ⟨rfl, rfl⟩ := List.cons.inj q1
                  obtain ⟨rfl, rfl⟩ := List.cons.inj q2
                  rw [if_neg nd] at q3
                  obtain ⟨o, os', fo1, fo2, rfl, q4, q5, q6, rfl⟩ := q3
                  unfold putb at e
                  split at e
                  · rename_i b' e2
                    cases e
                    obtain ⟨f3, f4, j1, j2⟩ := i4 G' H' os' fo2 b' sg k' hn q6 e2
                    have hl : i < b'.length := by
                      rw [← j1.len]
                      exact (List.getElem?_eq_some_iff.mp sj).1
                    obtain ⟨s1, fj, fr', w1, w2, w3, w4⟩ := j1.split (List.getElem?_eq_getElem hl)
                    obtain ⟨f5, x1, x2⟩ := w4 G' H' (.o k o) (some v) fo1 (Same.refl _) (fun _ _ => rfl) (by
                      refine ⟨v, rfl, q4, ?_⟩
                      cases k with
                      | none =>
                        intro a ha
                        rcases q5 a ha with z | z
                        · exact t3 a z
                        · exact hn a z
                      | some jj =>
                        refine ⟨t3.1, fun a ha => ?_⟩
                        rcases q5 a ha with z | z
                        · exact t3.2 a z
                        · exact .inr (hn a z))
                    rw [set_self sj] at x1
                    refine ⟨f5, fj ++ f4, x1, ?_⟩
                    rw [List.perm_iff_count]
                    intro x
                    have z1 := j2.count_eq x
                    have z2 := w3.count_eq x
                    have z3 := x2.count_eq x
                    simp only [List.count_append] at z1 z2 z3 ⊢
                    omega
                  · cases e
              · simp only [M.argOf] at ec
                obtain ⟨vj, y1, y2⟩ := re.getD ej
                simp only [Rp] at y2
                subst y2
                rw [sj] at y1
                have y1 := Option.some.inj (Option.some.inj y1)
                subst y1
                obtain ⟨vc, f0, fr0, _, hv, a3, a4, a5⟩ := RM.cellAt t2 ec
                have hv := hv a rfl
                subst hv
                obtain ⟨fh0, h1, h2⟩ := a5 G H (.d .any) [] (Same.refl _) (fun _ _ => rfl) rm_any
                obtain ⟨f', u1, u2⟩ := r4 G H (.o k (m.setCell (some a) (.d .any))) (some v0) fh0 (Same.refl _) (fun _ _ => rfl) (by
                  refine ⟨v0, rfl, h1, ?_⟩
                  have sub : ∀ x ∈ fh0, x ∈ fi := fun x hx => a4.mem_iff.mpr (List.mem_append_right _ (by simpa using h2.mem_iff.mp hx))
                  cases k with
                  | none => exact fun x hx => t3 x (sub x hx)
                  | some jj => exact ⟨t3.1, fun x hx => t3.2 x (sub x hx)⟩)
                rw [set_self r1] at u1
                obtain ⟨fs, fh, i1, i2, i3, i4⟩ := take_args e1 u1 ha av' old
                refine ⟨f0 :: fs, fh, ⟨.ref a, vs', f0, fs, rfl, rfl, a3, i1⟩, i2, ?_, fun G' H' os fo b3 sg k' hn ho e => ?_⟩
                · rw [List.perm_iff_count]
                  intro x
                  have z1 := r3.count_eq x
                  have z2 := a4.count_eq x
                  have z3 := h2.count_eq x
                  have z4 := u2.count_eq x
                  have z5 := i3.count_eq x
                  simp only [List.count_append, List.flatten_cons, List.count_nil] at z1 z2 z3 z4 z5 ⊢
                  omega
                · obtain ⟨v2, vs2, f, fs2, q1, q2, q3⟩ := ho
                  obtain ⟨rfl, rfl⟩ := List.cons.inj q1
                  obtain ⟨rfl, rfl⟩ := List.cons.inj q2
                  rw [if_neg nd] at q3
                  obtain ⟨o, os', fo1, fo2, rfl, q4, q5, q6, rfl⟩ := q3
                  unfold putb at e
                  split at e
                  · rename_i b' e2
                    split at e
                    · rename_i k9 m' e9
                      split at e
                      · rename_i hk
                        obtain ⟨rfl, hc9⟩ := hk
                        cases e
                        obtain ⟨f3, f4, j1, j2⟩ := i4 G' H' os' fo2 b' sg k' hn q6 e2
                        obtain ⟨s1, fj, fr', w1, w2, w3, w4⟩ := j1.split e9
                        obtain ⟨v9, rfl, w6, w7⟩ := w2
                        obtain ⟨c9, ec9⟩ := Option.isSome_iff_exists.mp hc9
                        obtain ⟨vc, f9, fr9, _, hv9, b3, b4, b5⟩ := RM.cellAt w6 ec9
                        have hv9 := hv9 a rfl
                        subst hv9
                        obtain ⟨fn, n1, n2⟩ := b5 G' H' o fo1 (Same.refl _) (fun _ _ => rfl) q4
                        have sub0 : ∀ x ∈ f0, x ∈ fi := fun x hx => a4.mem_iff.mpr (List.mem_append_left _ hx)
                        have sub9 : ∀ x ∈ fr9, x ∈ fj := fun x hx => b4.mem_iff.mpr (List.mem_append_right _ hx)
                        obtain ⟨f5, x1, x2⟩ := w4 G' H' (.o k9 (m'.setCell (some a) o)) (some v9) fn (Same.refl _) (fun _ _ => rfl) (by
                          refine ⟨v9, rfl, n1, ?_⟩
                          cases k9 with
                          | none =>
                            intro x hx
                            rcases List.mem_append.mp (n2.mem_iff.mp hx) with z | z
                            · rcases q5 x z with z | z
                              · exact t3 x (sub0 x z)
                              · exact hn x z
                            · exact w7 x (sub9 x z)
                          | some jj =>
                            refine ⟨t3.1 ▸ w7.1, fun x hx => ?_⟩
                            rcases List.mem_append.mp (n2.mem_iff.mp hx) with z | z
                            · rcases q5 x z with z | z
                              · exact t3.2 x (sub0 x z)
                              · exact .inr (hn x z)
                            · exact w7.2 x (sub9 x z))
                        rw [set_self w1] at x1
                        refine ⟨f5, f9 ++ f4, x1, ?_⟩
                        rw [List.perm_iff_count]
                        intro x
                        have z1 := j2.count_eq x
                        have z2 := w3.count_eq x
                        have z3 := x2.count_eq x
                        have z4 := b4.count_eq x
                        have z5 := n2.count_eq x
                        simp only [List.count_append] at z1 z2 z3 z4 z5 ⊢
                        omega
                      · cases e
                    · cases e
                  · cases e
            · cases e
        · cases e
      · cases e
    · cases e
/-- a call: the promise's demand from the state at the call -/
theorem RMs.app : ∀ {ms ns : List M} {vs us : List V} {fs gs : List (List Addr)}, RMs K G H ms vs fs → RMs K G H ns us gs → RMs K G H (ms ++ ns) (vs ++ us) (fs ++ gs)
  | [], _, _, _, _, _, ⟨h1, h2⟩, q => by subst h1 h2; exact q
  | m :: ms, _, _, _, _, _, ⟨v, vs', f, fs', h1, h2, h3, h4⟩, q => by
    subst h1 h2
    exact ⟨v, _, f, _, rfl, rfl, h3, h4.app q⟩
theorem RpL.rms : ∀ {ds : List D} {xs : List V}, RpL K G ds xs → ∃ gs, RMs K G H (ds.map .d) xs gs ∧ gs.flatten = []
  | [], xs, h => by simp only [RpL] at h; subst h; exact ⟨[], ⟨rfl, rfl⟩, rfl⟩
  | d :: ds, _, h => by
    simp only [RpL] at h
    obtain ⟨y, ys, h1, h2, h3⟩ := h
    subst h1
    obtain ⟨gs, q1, q2⟩ := RpL.rms h3
    exact ⟨[] :: gs, ⟨y, ys, [], gs, rfl, rfl, by simp only [RM]; exact ⟨h2, trivial⟩, q1⟩, by simp [q2]⟩
theorem IOK.app {H0 : Hp} {ds : List D} : ∀ {ms : List M} {vs us : List V} {fs gs : List (List Addr)} {os : List M} {fo : List Addr}, ms.length = vs.length → ms.length = fs.length → IOK K G H H0 (ms ++ ds.map .d) (vs ++ us) (fs ++ gs) os fo → IOK K G H H0 ms vs fs os fo
  | [], [], _, [], _, _, _, _, _, h => by
    have : ∀ {ds : List D} {us gs os fo}, IOK K G H H0 (ds.map .d) us gs os fo → os = [] ∧ fo = [] := by
      intro ds
      induction ds with
      | nil => exact fun h => h
      | cons d ds ih =>
        rintro us gs os fo ⟨_, _, _, _, _, _, h⟩
        rw [if_pos (show (M.d d).isD = true from rfl)] at h
        exact ih h
    exact this h
  | m :: ms, v :: vs, _, f :: fs, _, _, _, l1, l2, ⟨v', vs', f', fs', h1, h2, h3⟩ => by
    obtain ⟨rfl, rfl⟩ := List.cons.inj h1
    obtain ⟨rfl, rfl⟩ := List.cons.inj h2
    refine ⟨v, vs, f, fs, rfl, rfl, ?_⟩
    split at h3
    · rename_i q
      rw [if_pos q]
      exact IOK.app (by simpa using l1) (by simpa using l2) h3
    · rename_i q
      rw [if_neg q]
      obtain ⟨o, os', f1, f2, q1, q2, q3, q4, q5⟩ := h3
      exact ⟨o, os', f1, f2, q1, q2, q3, IOK.app (by simpa using l1) (by simpa using l2) q4, q5⟩
  | [], _ :: _, _, _, _, _, _, l, _, _ => by simp at l
  | _ :: _, [], _, _, _, _, _, l, _, _ => by simp at l
  | [], [], _, _ :: _, _, _, _, _, l, _ => by simp at l
  | _ :: _, _ :: _, _, [], _, _, _, _, l, _ => by simp at l
theorem Iv.call {F : Fn} {src : List (Option Nat)} {ms : List M} {us vs : List V} {dds : List D} {dvs : List V} {full : List M} {ks : Ks} {b2 b3 : List B} {r : M} {os : List M} {Q : VK} {E : XK}
    (I : Iv K c G H σ b (zT ms us ++ T)) (hl : ms.length = us.length) (av : AV σ src us vs) (hd : RpL K G dds dvs) (e1 : fill src ms b = some (full, ks, b2)) (e2 : F (full ++ dds.map .d) = some (r, os)) (e3 : putb src ks full os b2 = some b3)
    (q : ∀ v G' H', Iv K c G' H' σ b3 ((r, v) :: T) → Q v H') : spD K F (vs ++ dvs) H Q E := by
  obtain ⟨st, f1, f2, h1, h2, nd, hg⟩ := I
  obtain ⟨ft, fT, t1, t2, rfl⟩ := RT.app.mp h2
  obtain ⟨ha, old⟩ := RT.list hl t1
  obtain ⟨fs, fh, i1, i2, i3, i4⟩ := take_args e1 h1 ha av old
  obtain ⟨gs, d1, d2⟩ := hd.rms (H := H)
  have ll := i1.len
  have P : (f1 ++ (ft ++ fT)).Perm (fs.flatten ++ (fh ++ fT)) := by
    rw [← List.append_assoc, ← List.append_assoc]
    exact List.Perm.append_right fT i3
  have N := P.nodup_iff.mp nd
  have N1 := List.nodup_append.mp N
  have hg' : ∀ a ∈ fs.flatten ++ (fh ++ fT), G a = none ∧ (a ∈ c.PS ∨ c.H0 a = none) := fun a ha => hg a (P.mem_iff.mpr ha)
  have ef : (fs ++ gs).flatten = fs.flatten := by simp [d2]
  refine ⟨G, full ++ dds.map .d, fs ++ gs, r, os, e2, st.gh, i1.app d1, by rw [ef]; exact N1.1, by rw [ef]; exact fun a ha => (hg' a (by simp [ha])).1, fun v G' H' fr fo S rr io nd2 gn fresh => ?_⟩
  rw [ef] at S
  have io := IOK.app ll.1 ll.2 io
  have hn : ∀ a, H a = none → c.H0 a = none := fun a z => by
    cases q : c.H0 a with
    | none => rfl
    | some o => exact absurd z (st.dm a (by rw [q]; simp))
  have there : ∀ a ∈ fh ++ fT, H a ≠ none := fun a ha => by
    rcases List.mem_append.mp ha with ha | ha
    · exact i2.there a ha
    · exact t2.there a ha
  have out : ∀ a ∈ fh ++ fT, a ∉ fs.flatten := fun a ha hm => N1.2.2 a hm a ha rfl
  have same : ∀ a ∈ fh ++ fT, H' a = H a := fun a ha => by
    cases q : H a with
    | none => exact absurd q (there a ha)
    | some o => exact S.kp a o q (out a ha)
  obtain ⟨f3, f4, j1, j2⟩ := i4 G' H' os fo b3 S.g (fun a ha => same a (by simp [ha])) hn io e3
  have fosub := io.sub
  refine q v G' H' ⟨st.trans S fun a ha => (hg' a (List.mem_append_left _ ha)).2, f3, fr ++ fT, j1, ⟨fr, fT, rr, fun a ha => hn a (fresh a ha), t2.frame S.g (fun a ha => same a (by simp [ha])), rfl⟩, ?_, ?_⟩
  · have N2 : ((fr ++ fo) ++ (fh ++ fT)).Nodup := by
      refine List.nodup_append.mpr ⟨nd2, N1.2.1, fun x hx y hy e => ?_⟩
      subst e
      rcases List.mem_append.mp hx with z | z
      · exact there x hy (fresh x z)
      · rcases fosub x z with z | z
        · exact out x hy z
        · exact there x hy z
    have P2 : ((fr ++ fo) ++ (fh ++ fT)).Perm ((f3 ++ (fr ++ fT)) ++ f4) := by
      have a1 : ((fr ++ fo) ++ (fh ++ fT)).Perm (fr ++ ((fo ++ fh) ++ fT)) := by simp
      refine a1.trans ((List.Perm.append_left fr (List.Perm.append_right fT j2)).trans ?_)
      simp only [List.append_assoc]
      refine perm_l.trans (List.Perm.append_left f3 (List.Perm.append_left fr List.perm_append_comm))
    exact (List.nodup_append.mp (P2.nodup_iff.mp N2)).1
  · intro a ha
    have key : a ∈ fo ∨ a ∈ fh ∨ a ∈ fr ∨ a ∈ fT := by
      rcases List.mem_append.mp ha with z | z
      · have := j2.mem_iff.mpr (List.mem_append_left f4 z)
        rcases List.mem_append.mp this with z | z
        · exact .inl z
        · exact .inr (.inl z)
      · rcases List.mem_append.mp z with z | z
        · exact .inr (.inr (.inl z))
        · exact .inr (.inr (.inr z))
    have old2 : ∀ a ∈ fh ++ fT, G' a = none ∧ (a ∈ c.PS ∨ c.H0 a = none) := fun a ha =>
      ⟨S.nw a (there a ha) (hg' a (List.mem_append_right _ ha)).1, (hg' a (List.mem_append_right _ ha)).2⟩
    rcases key with z | z | z | z
    · refine ⟨gn a (by simp [z]), ?_⟩
      rcases fosub a z with z | z
      · exact (hg' a (List.mem_append_left _ z)).2
      · exact .inr (hn a z)
    · exact old2 a (by simp [z])
    · exact ⟨gn a (by simp [z]), .inr (hn a (fresh a z))⟩
    · exact old2 a (by simp [z])
end
end PL

namespace PL
open PySem PySem.Spec PyProof.Rows L2
/-! ### argument lists, displays -/
def fNil : Av := fun b => some ([], b)
def fCons (f : Ev) (fs : Av) : Av := fun b => match f b with
  | some (m, b1) => (match fs b1 with
    | some (ms, b2) => some (m :: ms, b2)
    | none => none)
  | none => none
def fOf (g : List M → Option M) (fs : Av) : Ev := fun b => match fs b with
  | some (ms, b1) => (match g ms with
    | some m => some (m, b1)
    | none => none)
  | none => none
def M.datas : List M → Option (List D)
  | [] => some []
  | .d x :: ms => (match M.datas ms with
    | some ds => some (x :: ds)
    | none => none)
  | _ :: _ => none
def gTup (ms : List M) : Option M := if ms.length ≤ 1000000 then (match M.datas ms with
  | some ds => some (.d (.tup ds))
  | none => none) else none
def gLst (ms : List M) : Option M := if ms.length ≤ 1000000 then some (.lst ms) else none
section
variable {K : PySem.W.Frag} {c : Cg} {G G' H H' : Hp} {σ : L2.St} {b : List B} {T T1 : List (M × V)} {p : Addr} {o : HO} {d : D} {v : V} {m : M} {i : Nat}
theorem Iv.dropZ : ∀ {ms : List M} {us : List V}, Iv K c G H σ b (zT ms us ++ T) → Iv K c G H σ b T
  | [], _, I => I
  | _ :: _, [], I => I
  | m :: ms, u :: us, I => Iv.dropZ (ms := ms) (us := us) (Iv.drop (t := (m, u)) I)
theorem Iv.datas : ∀ {ms : List M} {us : List V} {ds : List D}, Iv K c G H σ b (zT ms us ++ T) → ms.length = us.length → M.datas ms = some ds → RpL K G ds us
  | [], [], ds, I, _, e => by
    simp only [M.datas, Option.some.injEq] at e
    subst e
    simp [RpL]
  | .d x :: ms, u :: us, ds, I, hl, e => by
    unfold M.datas at e
    split at e
    · rename_i ds' e1
      cases e
      have I' : Iv K c G H σ b ((.d x, u) :: (zT ms us ++ T)) := I
      simp only [RpL]
      exact ⟨u, us, rfl, I'.topD, Iv.datas (ms := ms) (us := us) I'.drop (by simpa using hl) e1⟩
    · cases e
  | .lst _ :: _, _, _, _, _, e => by simp [M.datas] at e
  | .obj .. :: _, _, _, _, _, e => by simp [M.datas] at e
  | .box .. :: _, _, _, _, _, e => by simp [M.datas] at e
  | .dic .. :: _, _, _, _, _, e => by simp [M.datas] at e
  | [], _ :: _, _, _, l, _ => by simp at l
  | .d _ :: _, [], _, _, l, _ => by simp at l
theorem AV.pure {src : List (Option Nat)} : ∀ {us vs : List V}, src.all (·.isNone) = true → AV σ src us vs → us = vs := by
  induction src with
  | nil => rintro us vs _ ⟨h1, h2⟩; rw [h1, h2]
  | cons s src ih =>
    intro us vs h av
    cases s with
    | some j => simp at h
    | none =>
      obtain ⟨u, us', vs', h1, h2, h3⟩ := av
      rw [h1, h2, ih (by simpa using h) h3]
/-- temporaries become the items of a new list -/
theorem Iv.newLst {ms : List M} {us : List V} (I : Iv K c G H σ b (zT ms us ++ T)) (hl : ms.length = us.length) (hp : H p = none) : Iv K c G (upd H p (.lst us)) σ b ((.lst ms, .ref p) :: T) := by
  obtain ⟨ft, t1, nd, gn, old, go⟩ := Iv.tmp (T1 := zT ms us) I
  obtain ⟨ha, _⟩ := RT.list hl t1
  have there := t1.there
  have np : p ∉ ft := fun hm => there p hm hp
  have gp : G p = none := I.st.gh.free hp
  have h0 : c.H0 p = none := by
    cases q : c.H0 p with
    | none => rfl
    | some o => exact absurd hp (I.st.dm p (by rw [q]; simp))
  refine go G (upd H p (.lst us)) [(.lst ms, .ref p)] (p :: ft) ⟨Same.refl _, I.st.gh.trans (same_upd hp), fun _ _ h => h, fun a o h _ => same_upd hp a o h, fun a h => ?_⟩ ⟨p :: ft, [], ?_, ?_, rfl, by simp⟩ (by simp [np, nd]) ?_ ?_
  · by_cases q : a = p
    · subst q; rw [upd_same]; simp
    · rw [upd_ne q]; exact h
  · simp only [RM]
    exact ⟨p, us, ft, rfl, upd_same, RML.frame (Same.refl _) _ _ _ ha fun a ha => upd_ne (fun q : a = p => np (q ▸ ha)), rfl⟩
  · intro a ha
    rcases List.mem_cons.mp ha with rfl | ha
    · exact h0
    · exact old a ha
  · intro a ha
    rcases List.mem_cons.mp ha with rfl | ha
    · exact .inr hp
    · exact .inl ha
  · intro a ha
    rcases List.mem_cons.mp ha with rfl | ha
    · exact gp
    · exact gn a ha
end
section
variable {X : Cx} {e e1 e2 e3 : Expr} {es : List Expr} {pos : Pos} {f f1 f2 f3 : Ev} {fs : Av} {src : List (Option Nat)} {x : Str} {t t1 t2 : Tv}
theorem a_nil : AM X [] [] fNil := pa_nil.wk fun σ H Q => by
  rintro ⟨c, G, b, T, ms, b', hf, I, q⟩
  simp only [fNil, Option.some.injEq, Prod.mk.injEq] at hf
  obtain ⟨rfl, rfl⟩ := hf
  exact q [] [] G H rfl ⟨rfl, rfl⟩ I
theorem a_cons (h : EM X e f) (hr : AM X es src fs) (hs : starEach (e :: es) X.env = (false, eval e X.env) :: starEach es X.env := by rfl) : AM X (e :: es) (none :: src) (fCons f fs) := (pa_cons h hr hs).wk fun σ H Q => by
  rintro ⟨c, G, b, T, ms, b', hf, I, q⟩
  unfold fCons at hf
  split at hf
  · rename_i m b1 e1
    split at hf
    · rename_i ms' b2 e2
      cases hf
      refine ⟨c, G, b, T, m, b1, e1, I, fun v G1 H1 I1 => ⟨c, G1, b1, _, ms', b', e2, I1, fun us vs G2 H2 hl av I2 => ?_⟩⟩
      refine q (v :: us) (v :: vs) G2 H2 (by simp [hl]) ⟨v, us, vs, rfl, rfl, av⟩ (I2.perm ?_)
      exact List.perm_middle
    · cases hf
  · cases hf
/-- a name whose owned thing is handed on, to come back -/
def fIo (j : Nat) (fs : Av) : Av := fun b => match b[j]? with
  | some (.o _ _) => fs b
  | some (.d (.adr _)) => fs b
  | _ => none
theorem a_io (j : Nat) (hr : AM X es src fs) (hs : starEach (.Name x pos :: es) X.env = (false, eval (.Name x pos) X.env) :: starEach es X.env := by rfl) (hN : X.N[j]? = some x := by rfl) (hv : Vis X.env.scope x := by first | exact Or.inl rfl | exact Or.inr (Or.inl rfl) | exact Or.inr (Or.inr rfl)) (hd : (x == ("__debug__" : Str)) = false := by decide)
    (hcd : (x == ("__classdict__" : Str)) = false := by decide) : AM X (.Name x pos :: es) (some j :: src) (fIo j fs) := (pa_cons (pv j hN hv hd hcd) hr hs).wk fun σ H Q => by
  rintro ⟨c, G, b, T, ms, b', hf, I, q⟩
  unfold fIo at hf
  split at hf
  · rename_i k m e1
    obtain ⟨v, f, h1, _⟩ := I.getO e1
    refine ⟨v, h1, c, G, b, T, ms, b', hf, I, fun us vs G2 H2 hl av I2 => ?_⟩
    exact q us (v :: vs) G2 H2 hl ⟨v, vs, rfl, h1, av⟩ I2
  · rename_i a e1
    obtain ⟨v, h1, _⟩ := I.getD e1
    refine ⟨v, h1, c, G, b, T, ms, b', hf, I, fun us vs G2 H2 hl av I2 => ?_⟩
    exact q us (v :: vs) G2 H2 hl ⟨v, vs, rfl, h1, av⟩ I2
  · cases hf
theorem e_tup {n : Nat} (h : AM X es src fs) (hs : src.all (·.isNone) = true := by rfl) : EM X (.Tuple es n pos) (fOf PL.gTup fs) := (pe_tup h).wk fun σ H Q => by
  rintro ⟨c, G, b, T, m, b', hf, I, q⟩
  unfold fOf at hf
  split at hf
  · rename_i ms b1 e1
    split at hf
    · rename_i m1 e2
      cases hf
      refine ⟨c, G, b, T, ms, b', e1, I, fun us vs G1 H1 hl av I1 => ?_⟩
      have e := av.pure hs
      subst e
      unfold PL.gTup at e2
      split at e2
      · rename_i hz
        split at e2
        · rename_i ds e3
          cases e2
          refine ⟨by rw [← hl]; exact le_line hz, fun p hp => q _ _ _ (I1.dropZ.newT hp (I1.datas hl e3))⟩
        · cases e2
      · cases e2
    · cases hf
  · cases hf
theorem e_lst (h : AM X es src fs) (hs : src.all (·.isNone) = true := by rfl) : EM X (.List es pos) (fOf gLst fs) := (pe_lst h).wk fun σ H Q => by
  rintro ⟨c, G, b, T, m, b', hf, I, q⟩
  unfold fOf at hf
  split at hf
  · rename_i ms b1 e1
    split at hf
    · rename_i m1 e2
      cases hf
      refine ⟨c, G, b, T, ms, b', e1, I, fun us vs G1 H1 hl av I1 => ?_⟩
      have e := av.pure hs
      subst e
      unfold gLst at e2
      split at e2
      · rename_i hz
        cases e2
        exact ⟨by rw [← hl]; exact le_line hz, fun p hp => q _ _ _ (I1.newLst hl hp)⟩
      · cases e2
    · cases hf
  · cases hf
/-! ### calls -/
def fCall (F : Fn) (dds : List D) (src : List (Option Nat)) (fs : Av) : Ev := fun b => match fs b with
  | some (ms, b1) => (match fill src ms b1 with
    | some (full, ks, b2) => (match F (full ++ dds.map .d) with
      | some (r, os) => (match putb src ks full os b2 with
        | some b3 => some (r, b3)
        | none => none)
      | none => none)
    | none => none)
  | none => none
theorem call_in {F : Fn} {dds : List D} {dvs : List V} {E : XK} {K : PySem.W.Frag} (hd : ∀ G, RpL K G dds dvs) : ∀ σ H Q, teO K (fCall F dds src fs) σ H Q → tCall (spD K F) dvs E (taO K src fs) σ H Q := fun σ H Q => by
  rintro ⟨c, G, b, T, m, b', hf, I, q⟩
  unfold fCall at hf
  split at hf
  · rename_i ms b1 e1
    split at hf
    · rename_i full ks b2 e2
      split at hf
      · rename_i r os e3
        split at hf
        · rename_i b3 e4
          cases hf
          exact ⟨c, G, b, T, ms, b1, e1, I, fun us vs G1 H1 hl av I1 => I1.call hl av (hd G1) e2 e3 e4 q⟩
        · cases hf
      · cases hf
    · cases hf
  · cases hf
/-- what stands of a def of the module -/
structure DefOk (P : Program) (w : World) (K : PySem.W.Frag) (mg : Str → Option Value) (base : Heap) (k : Nat) (x : Str) (np : Nat) (dvs : List V) (F : Fn) : Prop where
  ex : ∃ f fd ps ds, mg x = some (.ref f) ∧ PySem.W.keepIn K (.ref f) = true ∧ Binds K fd ps ds ∧ Vals dvs ds ∧ FnOk P w K mg base CX0 k f fd ps (spD K F)
theorem e_call {k : Nat} {np : Nat} {F : Fn} {dds : List D} {dvs : List V} {p : Pos} (h : DefOk X.prog X.w X.K X.mg X.base k x np dvs F) (hr : Room k X.A) (hd : ∀ G, RpL X.K G dds dvs) (ha : AM X (e :: es) src fs) (hg : Gl X x := by rfl)
    (hdb : (x == ("__debug__" : Str)) = false := by decide) (he : starEach (e :: es) X.env = (false, eval e X.env) :: starEach es X.env := by rfl) (hpl : (backTo pos (starEach es X.env)).any (·.1) = false := by rfl) :
    EM X (.Call (.Name x p) (e :: es) [] pos) (fCall F dds src fs) := by
  obtain ⟨f, fd, ps, ds, h1, h2, h3, h4, h5⟩ := h.ex
  exact (pe_call h5 hr hg h1 h2 h3 h4 pass0 ha hdb he hpl).wk (call_in hd)
theorem e_call0 {k : Nat} {np : Nat} {F : Fn} {dds : List D} {dvs : List V} {p : Pos} (h : DefOk X.prog X.w X.K X.mg X.base k x np dvs F) (hr : Room k X.A) (hd : ∀ G, RpL X.K G dds dvs) (hg : Gl X x := by rfl)
    (hdb : (x == ("__debug__" : Str)) = false := by decide) : EM X (.Call (.Name x p) [] [] pos) (fCall F dds [] fNil) := by
  obtain ⟨f, fd, ps, ds, h1, h2, h3, h4, h5⟩ := h.ex
  refine (pe_call0 (E := E0) h5 hr hg h1 h2 h3 h4 pass0 hdb).wk fun σ H Q h => ?_
  obtain ⟨c, G, b, T, ms, b1, e1, I, q⟩ := call_in (E := E0) hd σ H Q h
  simp only [fNil, Option.some.injEq, Prod.mk.injEq] at e1
  obtain ⟨rfl, rfl⟩ := e1
  exact q [] [] G H rfl ⟨rfl, rfl⟩ I
/-- built-ins by values: one data in, an answer -/
def CaS (K : PySem.W.Frag) (r : List V → Hp → VK → Prop) (g : List M → Option M) : Prop := ∀ c G H σ b T ms us m Q, g ms = some m → ms.length = us.length → Iv K c G H σ b (zT ms us ++ T) → (∀ v G' H', Iv K c G' H' σ b ((m, v) :: T) → Q v H') → r us H Q
theorem cb_in {K : PySem.W.Frag} {r : List V → Hp → VK → Prop} {g : List M → Option M} (hs : CaS K r g) (hn : src.all (·.isNone) = true) : ∀ σ H Q, teO K (fOf g fs) σ H Q → tCB r (taO K src fs) σ H Q := fun σ H Q => by
  rintro ⟨c, G, b, T, m, b', hf, I, q⟩
  unfold fOf at hf
  split at hf
  · rename_i ms b1 e1
    split at hf
    · rename_i m1 e2
      cases hf
      refine ⟨c, G, b, T, ms, b', e1, I, fun us vs G1 H1 hl av I1 => ?_⟩
      have e := av.pure hn
      subst e
      exact hs c G1 H1 σ b' T ms us _ Q e2 hl I1 q
    · cases hf
  · cases hf

/-! ### tests -/
def tNotT (t : Tv) : Tv := fun b => match t b with
  | some (k, b') => some (!k, b')
  | none => none
def tAndT (t1 t2 : Tv) : Tv := fun b => match t1 b with
  | some (true, b') => t2 b'
  | some (false, b') => some (false, b')
  | none => none
def tOrT (t1 t2 : Tv) : Tv := fun b => match t1 b with
  | some (true, b') => some (true, b')
  | some (false, b') => t2 b'
  | none => none
theorem t_not (h : TM X e t) : TM X (.UnaryOp .Not e pos) (tNotT t) := (pt_not h).wk fun σ H Q => by
  rintro ⟨c, G, b, T, r, b', hf, I, q⟩
  unfold tNotT at hf
  split at hf
  · rename_i k b1 e1
    cases hf
    exact ⟨c, G, b, T, k, b', e1, I, fun G' H' I' => q G' H' I'⟩
  · cases hf
theorem w_one {op} (h : TM X e t) (ho : op = .And ∨ op = .Or) : WM X (.BoolOp op [e] pos) t := by
  rcases ho with rfl | rfl
  · exact pw_and1 h
  · exact pw_or1 h
theorem w_and (h1 : TM X e1 t1) (h2 : WM X (.BoolOp .And (e2 :: es) pos) t2) : WM X (.BoolOp .And (e1 :: e2 :: es) pos) (tAndT t1 t2) := (pw_and h1 h2).wk fun σ H Q => by
  rintro ⟨c, G, b, T, r, b', hf, I, q⟩
  unfold tAndT at hf
  split at hf
  · rename_i b1 e1
    refine ⟨c, G, b, T, true, b1, e1, I, fun G' H' I' => ?_⟩
    refine iteT ?_
    exact ⟨c, G', b1, T, r, b', hf, I', q⟩
  · rename_i b1 e1
    cases hf
    refine ⟨c, G, b, T, false, b', e1, I, fun G' H' I' => ?_⟩
    refine iteF ?_
    exact q G' H' I'
  · cases hf
theorem w_or (h1 : TM X e1 t1) (h2 : WM X (.BoolOp .Or (e2 :: es) pos) t2) : WM X (.BoolOp .Or (e1 :: e2 :: es) pos) (tOrT t1 t2) := (pw_or h1 h2).wk fun σ H Q => by
  rintro ⟨c, G, b, T, r, b', hf, I, q⟩
  unfold tOrT at hf
  split at hf
  · rename_i b1 e1
    cases hf
    refine ⟨c, G, b, T, true, b', e1, I, fun G' H' I' => ?_⟩
    refine iteT ?_
    exact q G' H' I'
  · rename_i b1 e1
    refine ⟨c, G, b, T, false, b1, e1, I, fun G' H' I' => ?_⟩
    refine iteF ?_
    exact ⟨c, G', b1, T, r, b', hf, I', q⟩
  · cases hf
theorem t_w (h : WM X e t) : TM X e t := h.pt
/-- an expression that gives True or False -/
theorem t_v (h : EM X e f) (he : ∀ whole, isTrue e X.env whole = (do let v ← whole; standAt e.pos; holding [v] (truthy v)) := by intro _; rfl) : TM X e (fT f) := (pt_val h he).wk fun σ H Q => by
  rintro ⟨c, G, b, T, r, b', hf, I, q⟩
  unfold fT at hf
  split at hf
  · rename_i k b1 e1
    cases hf
    refine ⟨c, G, b, T, _, b', e1, I, fun v G' H' I' => ?_⟩
    have z := I'.topD
    simp only [Rp] at z
    exact ⟨_, z, q G' H' I'.drop⟩
  · cases hf
def fNot (f : Ev) : Ev := fun b => match f b with
  | some (.d (.bl k), b') => some (.d (.bl (!k)), b')
  | _ => none
theorem e_not (h : EM X e f) : EM X (.UnaryOp .Not e pos) (fNot f) := (pe_not h).wk fun σ H Q => by
  rintro ⟨c, G, b, T, m, b', hf, I, q⟩
  unfold fNot at hf
  split at hf
  · rename_i k b1 e1
    cases hf
    refine ⟨c, G, b, T, _, b', e1, I, fun v G' H' I' => ?_⟩
    have z := I'.topD
    simp only [Rp] at z
    exact ⟨k, z, q _ G' H' (I'.drop.pushD rp_bl)⟩
  · cases hf
def fAnd (f1 f2 : Ev) : Ev := fun b => match f1 b with
  | some (.d (.bl true), b') => f2 b'
  | some (.d (.bl false), b') => some (.d (.bl false), b')
  | _ => none
def fOr (f1 f2 : Ev) : Ev := fun b => match f1 b with
  | some (.d (.bl true), b') => some (.d (.bl true), b')
  | some (.d (.bl false), b') => f2 b'
  | _ => none
theorem e_one {op} (h : EM X e f) : EM X (.BoolOp op [e] pos) f := pe_one h
theorem e_and (h1 : EM X e1 f1) (h2 : EM X (.BoolOp .And (e2 :: es) pos) f2) : EM X (.BoolOp .And (e1 :: e2 :: es) pos) (fAnd f1 f2) := (pe_and h1 h2).wk fun σ H Q => by
  rintro ⟨c, G, b, T, m, b', hf, I, q⟩
  unfold fAnd at hf
  split at hf
  · rename_i b1 e1
    refine ⟨c, G, b, T, _, b1, e1, I, fun v G' H' I' => ?_⟩
    have z := I'.topD
    simp only [Rp] at z
    refine ⟨true, z, ?_⟩
    refine iteT ?_
    exact ⟨c, G', b1, T, m, b', hf, I'.drop, q⟩
  · rename_i b1 e1
    cases hf
    refine ⟨c, G, b, T, _, b', e1, I, fun v G' H' I' => ?_⟩
    have z := I'.topD
    simp only [Rp] at z
    refine ⟨false, z, ?_⟩
    refine iteF ?_
    exact q _ G' H' (I'.drop.pushD rp_bl)
  · cases hf
theorem e_or (h1 : EM X e1 f1) (h2 : EM X (.BoolOp .Or (e2 :: es) pos) f2) : EM X (.BoolOp .Or (e1 :: e2 :: es) pos) (fOr f1 f2) := (pe_or h1 h2).wk fun σ H Q => by
  rintro ⟨c, G, b, T, m, b', hf, I, q⟩
  unfold fOr at hf
  split at hf
  · rename_i b1 e1
    cases hf
    refine ⟨c, G, b, T, _, b', e1, I, fun v G' H' I' => ?_⟩
    have z := I'.topD
    simp only [Rp] at z
    refine ⟨true, z, ?_⟩
    refine iteT ?_
    exact q _ G' H' (I'.drop.pushD rp_bl)
  · rename_i b1 e1
    refine ⟨c, G, b, T, _, b1, e1, I, fun v G' H' I' => ?_⟩
    have z := I'.topD
    simp only [Rp] at z
    refine ⟨false, z, ?_⟩
    refine iteF ?_
    exact ⟨c, G', b1, T, m, b', hf, I'.drop, q⟩
  · cases hf
def fIf (t : Tv) (f1 f2 : Ev) : Ev := fun b => match t b with
  | some (true, b') => f1 b'
  | some (false, b') => f2 b'
  | none => none
theorem e_if (h : TM X e t) (h1 : EM X e1 f1) (h2 : EM X e2 f2) : EM X (.IfExp e e1 e2 pos) (fIf t f1 f2) := (pe_ifExp h h1 h2).wk fun σ H Q => by
  rintro ⟨c, G, b, T, m, b', hf, I, q⟩
  unfold fIf at hf
  split at hf
  · rename_i b1 e1
    refine ⟨c, G, b, T, true, b1, e1, I, fun G' H' I' => ?_⟩
    refine iteT ?_
    exact ⟨c, G', b1, T, m, b', hf, I', q⟩
  · rename_i b1 e1
    refine ⟨c, G, b, T, false, b1, e1, I, fun G' H' I' => ?_⟩
    refine iteF ?_
    exact ⟨c, G', b1, T, m, b', hf, I', q⟩
  · cases hf
/-- a op1 b op2 c of ints -/
def fChain (h1 h2 : Int → Int → Bool) (f1 f2 f3 : Ev) : Ev := fun b => match f1 b with
  | some (.d (.int i), b1) => (match f2 b1 with
    | some (.d (.int j), b2) => if h1 i j = true then (match f3 b2 with
        | some (.d (.int k), b3) => some (.d (.bl (h2 j k)), b3)
        | _ => none) else some (.d (.bl false), b2)
    | _ => none)
  | _ => none
theorem chain_in {K : PySem.W.Frag} {h1 h2 : Int → Int → Bool} : ∀ σ H Q, teO K (fChain h1 h2 f1 f2 f3) σ H Q → tChain (rI0 fun i j => .bl (h1 i j)) (rI0 fun i j => .bl (h2 i j)) (teO K f1) (teO K f2) (teO K f3) σ H Q := fun σ H Q => by
  rintro ⟨c, G, b, T, m, b', hf, I, q⟩
  unfold fChain at hf
  split at hf
  · rename_i i b1 e1
    split at hf
    · rename_i j b2 e2
      refine ⟨c, G, b, T, _, b1, e1, I, fun x G1 H1 I1 => ⟨c, G1, b1, _, _, b2, e2, I1, fun y G2 H2 I2 => ?_⟩⟩
      have r2 := I2.topD
      have r1 := I2.drop.topD
      simp only [Rp] at r1 r2
      refine ⟨i, j, r1, r2, h1 i j, rfl, ?_⟩
      split at hf
      · rename_i hk
        rw [if_pos hk]
        split at hf
        · rename_i k b3 e3
          cases hf
          refine ⟨c, G2, b2, _, _, b', e3, I2.drop.drop, fun z G3 H3 I3 => ?_⟩
          have r3 := I3.topD
          simp only [Rp] at r3
          exact ⟨j, k, r2, r3, q _ G3 H3 (I3.drop.pushD rp_bl)⟩
        · cases hf
      · rename_i hk
        cases hf
        rw [if_neg hk]
        exact q _ G2 H2 (I2.drop.drop.pushD rp_bl)
    · cases hf
  · cases hf
theorem e_chain {op1 op2 : CmpOp} {h1 h2 : Int → Int → Bool} (ho : OpR X (compareOp op1) (rI0 fun i j => .bl (h1 i j))) (ho' : OpR X (compareOp op2) (rI0 fun i j => .bl (h2 i j))) (a : EM X e1 f1) (b : EM X e2 f2) (c : EM X e3 f3)
    (hm : lastMarks [op1, op2] [e2, e3] = false := by with_unfolding_all rfl) : EM X (.Compare e1 [op1, op2] [e2, e3] pos) (fChain h1 h2 f1 f2 f3) := (pe_chain ho ho' a b c hm).wk chain_in
theorem t_chain {op1 op2 : CmpOp} {h1 h2 : Int → Int → Bool} (ho : OpR X (compareOp op1) (rI0 fun i j => .bl (h1 i j))) (ho' : OpR X (compareOp op2) (rI0 fun i j => .bl (h2 i j))) (a : EM X e1 f1) (b : EM X e2 f2) (c : EM X e3 f3)
    (hm : lastMarks [op1, op2] [e2, e3] = false := by with_unfolding_all rfl) : TM X (.Compare e1 [op1, op2] [e2, e3] pos) (fT (fChain h1 h2 f1 f2 f3)) := t_tTest (pt_chain ho ho' a b c hm) chain_in
end
end PL

namespace PL
open PySem PySem.Spec PyProof.Rows L2
/-! ### statements -/
def sSet (i : Nat) (f : Ev) : Sv := fun b => match f b with
  | some (m, b1) => if i < b1.length then some (.nx, b1.set i m.toB) else none
  | none => none
def sDrop (f : Ev) : Sv := fun b => match f b with
  | some (_, b1) => some (.nx, b1)
  | none => none
def sRet (f : Ev) : Sv := fun b => match f b with
  | some (m, b1) => some (.rt m, b1)
  | none => none
def sRetN : Sv := fun b => some (.rt (.d .non), b)
def sPass : Sv := fun b => some (.nx, b)
def sIf (t : Tv) (g1 g2 : Sv) : Sv := fun b => match t b with
  | some (true, b1) => g1 b1
  | some (false, b1) => g2 b1
  | none => none
def sSeq (g1 g2 : Sv) : Sv := fun b => match g1 b with
  | some (.nx, b1) => g2 b1
  | r => r
def sNever : Sv := fun _ => none
section
variable {K : PySem.W.Frag} {c : Cg} {G G' H H' : Hp} {σ : L2.St} {b : List B} {T T1 : List (M × V)} {p : Addr} {o : HO} {d : D} {v : V} {m : M} {i : Nat}
theorem Iv.dropN : ∀ {s : List (M × V)}, Iv K c G H σ b (s ++ T) → Iv K c G H σ b T
  | [], I => I
  | t :: s, I => Iv.dropN (s := s) (Iv.drop (t := t) I)
end
section
variable {X : Cx} {e e1 e2 e3 : Expr} {es : List Expr} {st : Stmt} {sts : List Stmt} {pos : Pos} {f f1 f2 f3 : Ev} {fs : Av} {src : List (Option Nat)} {x : Str} {t t1 t2 : Tv} {g g1 g2 : Sv}
theorem s_set (i : Nat) (nd : X.N.Nodup) {pos' : Pos} (h : EM X e f) (hi : X.N[i]? = some x := by rfl) (hx : Loc X.env.scope x := by first | exact Or.inl rfl | exact Or.inr rfl) (hs : swapsWith e (some (.Name x pos')) pos.line X.env = pure false := by rfl) (hf : X.fn x = true ∨ X.env.scope.names.lookup x = some .local := by first | exact .inl rfl | exact .inr rfl | assumption) :
    SM X (.Assign [.Name x pos'] e pos) (sSet i f) := (ps_set (i := i) nd hi hx h hs hf).wk fun D σ H => by
  rintro ⟨c, G, b, T, r, b', hf, I, q⟩
  unfold sSet at hf
  split at hf
  · rename_i m b1 e1
    split at hf
    · rename_i hl
      cases hf
      exact ⟨c, G, b, T, m, b1, e1, I, fun v G' H' I' => q _ G' H' (I'.put hl)⟩
    · cases hf
  · cases hf
theorem s_expr (h : EM X e f) (hs : swapsWith e none pos.line X.env = pure false := by rfl) : SM X (.Expr e pos) (sDrop f) := (ps_expr h hs).wk fun D σ H => by
  rintro ⟨c, G, b, T, r, b', hf, I, q⟩
  unfold sDrop at hf
  split at hf
  · rename_i m b1 e1
    cases hf
    exact ⟨c, G, b, T, m, b', e1, I, fun v G' H' I' => q _ G' H' I'.drop⟩
  · cases hf
theorem s_ret (h : EM X e f) : SM X (.Return (some e) pos) (sRet f) := (ps_ret h).wk fun D σ H => by
  rintro ⟨c, G, b, T, r, b', hf, I, q⟩
  unfold sRet at hf
  split at hf
  · rename_i m b1 e1
    cases hf
    exact ⟨c, G, b, T, m, b', e1, I, fun v G' H' I' => q v σ G' H' I'⟩
  · cases hf
theorem s_retN : SM X (.Return none pos) sRetN := ps_retN.wk fun D σ H => by
  rintro ⟨c, G, b, T, r, b', hf, I, q⟩
  simp only [sRetN, Option.some.injEq, Prod.mk.injEq] at hf
  obtain ⟨rfl, rfl⟩ := hf
  exact q .non σ G H (I.pushD (by simp [Rp]))
theorem s_pass : SM X (.Pass pos) sPass := ps_pass.wk fun D σ H => by
  rintro ⟨c, G, b, T, r, b', hf, I, q⟩
  simp only [sPass, Option.some.injEq, Prod.mk.injEq] at hf
  obtain ⟨rfl, rfl⟩ := hf
  exact q σ G H I
theorem s_if (h : TM X e t) (h1 : SMs X sts g1) {sts2 : List Stmt} (h2 : SMs X sts2 g2) : SM X (.If e sts sts2 pos) (sIf t g1 g2) := (ps_if h h1 h2).wk fun D σ H => by
  rintro ⟨c, G, b, T, r, b', hf, I, q⟩
  unfold sIf at hf
  split at hf
  · rename_i b1 e1
    refine ⟨c, G, b, T, true, b1, e1, I, fun G' H' I' => ?_⟩
    refine iteT ?_
    exact ⟨c, G', b1, T, r, b', hf, I', q⟩
  · rename_i b1 e1
    refine ⟨c, G, b, T, false, b1, e1, I, fun G' H' I' => ?_⟩
    refine iteF ?_
    exact ⟨c, G', b1, T, r, b', hf, I', q⟩
  · cases hf
theorem s_never : SM X st sNever := ps_never.wk fun D σ H => by
  rintro ⟨c, G, b, T, r, b', hf, I, q⟩
  cases hf
theorem ss_never : SMs X sts sNever := pss_never.wk fun D σ H => by
  rintro ⟨c, G, b, T, r, b', hf, I, q⟩
  cases hf
theorem ss_nil : SMs X [] sPass := pss_nil.wk fun D σ H => by
  rintro ⟨c, G, b, T, r, b', hf, I, q⟩
  simp only [sPass, Option.some.injEq, Prod.mk.injEq] at hf
  obtain ⟨rfl, rfl⟩ := hf
  exact q σ G H I
theorem ss_one (h : SM X st g) : SMs X [st] g := pss_one h
theorem ss_cons (h1 : SM X st g1) (h2 : SMs X sts g2) : SMs X (st :: sts) (sSeq g1 g2) := (pss_cons h1 h2).wk fun D σ H => by
  rintro ⟨c, G, b, T, r, b', hf, I, q⟩
  unfold sSeq at hf
  split at hf
  · rename_i b1 e1
    refine ⟨c, G, b, T, .nx, b1, e1, I, fun σ' G' H' I' => ⟨c, G', b1, T, r, b', hf, I', ?_⟩⟩
    cases r <;> exact q
  · refine ⟨c, G, b, T, r, b', hf, I, ?_⟩
    cases r with
    | nx => rename_i h; exact (h _ hf).elim
    | _ => exact q

/-! ### targets -/
abbrev Gv := D → List B → Option (List B)
def KpS (ix : List Nat) (σ σ' : L2.St) : Prop := σ'.length = σ.length ∧ ∀ j, j ∉ ix → σ'[j]? = σ[j]?
def tgO (K : PySem.W.Frag) (ix : List Nat) (g : Gv) : TG := fun v σ H Q => ∃ c G b T d b', g d b = some b' ∧ Iv K c G H σ b ((.d d, v) :: T) ∧ ∀ σ' G' H', KpS ix σ σ' → Iv K c G' H' σ' b' T → Q σ' H'
abbrev GM (X : Cx) (e : Expr) (ix : List Nat) (g : Gv) : Prop := PG X e (tgO X.K ix g)
theorem _root_.L2.PG.wk {X : Cx} {tg : Expr} {t t' : TG} (h : PG X tg t) (hi : ∀ v σ H Q, t' v σ H Q → t v σ H Q) : PG X tg t' := ⟨fun pins s σ H v u Q I r q => h.run pins s σ H v u Q I r (hi v σ H Q q)⟩
def gNm (i : Nat) : Gv := fun d b => if i < b.length then some (b.set i (.d d)) else none
theorem g_name (i : Nat) (nd : X.N.Nodup) (hi : X.N[i]? = some x := by rfl) (hx : Loc X.env.scope x := by first | exact Or.inl rfl | exact Or.inr rfl) (hf : X.fn x = true ∨ X.env.scope.names.lookup x = some .local := by first | exact .inl rfl | exact .inr rfl | assumption) :
    GM X (.Name x pos) [i] (gNm i) := (pg_name (i := i) nd hi hx hf).wk fun v σ H Q => by
  rintro ⟨c, G, b, T, d, b', hf, I, q⟩
  unfold gNm at hf
  split at hf
  · rename_i hl
    cases hf
    refine q _ G H ⟨by simp, fun j hj => ?_⟩ (I.put hl)
    rw [List.getElem?_set_ne (by simp at hj; omega)]
  · cases hf
/-- several names at once -/
abbrev Gvs := List D → List B → Option (List B)
def tgsO (K : PySem.W.Frag) (ix : List Nat) (g : Gvs) : TGs := fun vs σ H Q => ∃ c G b T ds b', g ds b = some b' ∧ ds.length = vs.length ∧ Iv K c G H σ b (zT (ds.map .d) vs ++ T) ∧ ∀ σ' G' H', KpS ix σ σ' → Iv K c G' H' σ' b' T → Q σ' H'
abbrev GMs (X : Cx) (es : List Expr) (ix : List Nat) (g : Gvs) : Prop := PGs X es (tgsO X.K ix g)
def gsNil : Gvs := fun ds b => match ds with
  | [] => some b
  | _ => none
theorem _root_.L2.PGs.wk {X : Cx} {tg : List Expr} {t t' : TGs} (h : PGs X tg t) (hi : ∀ v σ H Q, t' v σ H Q → t v σ H Q) : PGs X tg t' := ⟨fun pins s σ H v u Q I r q => h.run pins s σ H v u Q I r (hi v σ H Q q)⟩
theorem gs_nil : GMs X [] [] gsNil := pgs_nil.wk fun vs σ H Q => by
  rintro ⟨c, G, b, T, ds, b', hf, hl, I, q⟩
  unfold gsNil at hf
  split at hf
  · cases hf
    have e : vs = [] := by cases vs <;> simp at hl ⊢
    subst e
    exact ⟨rfl, q σ G H ⟨rfl, fun _ _ => rfl⟩ I⟩
  · cases hf
def gCons (g : Gv) (gs : Gvs) : Gvs := fun ds b => match ds with
  | d :: ds => (match g d b with
    | some b1 => gs ds b1
    | none => none)
  | [] => none
theorem gs_cons {ix ix2 : List Nat} {g : Gv} {gs : Gvs} (h1 : GM X e ix g) (h2 : GMs X es ix2 gs) (hs : (assignEach (e :: es) X.env).map (·.2) = assign e X.env :: (assignEach es X.env).map (·.2) := by rfl) : GMs X (e :: es) (ix ++ ix2) (PL.gCons g gs) := (pgs_cons h1 h2 hs).wk fun vs σ H Q => by
  rintro ⟨c, G, b, T, ds, b', hf, hl, I, q⟩
  unfold PL.gCons at hf
  split at hf
  · rename_i d ds
    cases vs with
    | nil => simp at hl
    | cons v vs =>
      split at hf
      · rename_i b1 e1
        refine ⟨v, vs, rfl, c, G, b, zT (ds.map .d) vs ++ T, d, b1, e1, I, fun σ1 G1 H1 k1 I1 => ⟨c, G1, b1, T, ds, b', hf, by simpa using hl, I1, fun σ2 G2 H2 k2 I2 => q σ2 G2 H2 ⟨k2.1.trans k1.1, fun j hj => ?_⟩ I2⟩⟩
        rw [k2.2 j (by simp at hj; exact hj.2), k1.2 j (by simp at hj; exact hj.1)]
      · cases hf
  · cases hf
def gTu (n : Nat) (gs : Gvs) : Gv := fun d b => match d with
  | .tup ds => if ds.length = n then gs ds b else none
  | _ => none
theorem g_tup {n k : Nat} {ix : List Nat} {gs : Gvs} (hc : X.calm = true) (h : GMs X es ix gs) (hn : (assignEach es X.env).length = n := by rfl) (hst : (assignEach es X.env).findIdx? (·.1) = none := by rfl) : GM X (.Tuple es k pos) ix (gTu n gs) := (pg_tup hc h hn hst).wk fun v σ H Q => by
  rintro ⟨c, G, b, T, d, b', hf, I, q⟩
  unfold gTu at hf
  split at hf
  · rename_i ds
    split at hf
    · rename_i hl
      have r := I.topD
      simp only [Rp] at r
      obtain ⟨p, xs, rfl, h2, h3⟩ := r
      refine ⟨p, xs, rfl, sqt_mono I.st.gh h2, by rw [← h3.len]; exact hl, c, G, b, T, ds, b', hf, h3.len, ?_, q⟩
      have push : ∀ {ds : List D} {xs : List V}, RpL X.K G ds xs → Iv X.K c G H σ b T → Iv X.K c G H σ b (zT (ds.map .d) xs ++ T) := by
        intro ds
        induction ds with
        | nil => intro xs h I; simp only [RpL] at h; subst h; exact I
        | cons d ds ih =>
          intro xs h I
          simp only [RpL] at h
          obtain ⟨y, ys, rfl, h2, h3⟩ := h
          exact (ih h3 I).pushD h2
      exact push h3 I.drop
    · cases hf
  · cases hf
/-- target = data -/
def sAsg (f : Ev) (g : Gv) : Sv := fun b => match f b with
  | some (.d d, b1) => (match g d b1 with
    | some b2 => some (.nx, b2)
    | none => none)
  | _ => none
theorem s_asg {tg : Expr} {ix : List Nat} {g : Gv} (h : EM X e f) (hg : GM X tg ix g) (hs : swapsWithSole [tg] e pos.line X.env = pure false := by rfl) (hw : swappedStores [tg] e X.env = pure none := by rfl)
    (h1 : (assignEach [tg] X.env).map (·.2) = [assign tg X.env] := by rfl) : SM X (.Assign [tg] e pos) (sAsg f g) := (ps_asg h hg hs hw h1).wk fun D σ H => by
  rintro ⟨c, G, b, T, r, b', hf, I, q⟩
  unfold sAsg at hf
  split at hf
  · rename_i d b1 e1
    split at hf
    · rename_i b2 e2
      cases hf
      exact ⟨c, G, b, T, _, b1, e1, I, fun v G1 H1 I1 => ⟨c, G1, b1, T, d, b', e2, I1, fun σ' G' H' _ I' => q σ' G' H' I'⟩⟩
    · cases hf
  · cases hf
/-- a, b = x, y -/
def sPar (i j : Nat) (fs : Av) : Sv := fun b => match fs b with
  | some ([m1, m2], b1) => if i < b1.length ∧ j < b1.length then some (.nx, (b1.set i m1.toB).set j m2.toB) else none
  | _ => none
theorem s_par (i j : Nat) {y : Str} {a e2 : Expr} {px py pt : Pos} {kt k2 pt2} (hc : X.calm = true) (hN : X.N.Nodup) (ha : AM X [a, e2] src fs) (hsrc : src.all (·.isNone) = true := by rfl) (hi : X.N[i]? = some x := by rfl) (hj : X.N[j]? = some y := by rfl) (hij : i ≠ j := by decide)
    (hx : X.env.scope.names.lookup x = some .local := by rfl) (hy : X.env.scope.names.lookup y = some .local := by rfl)
    (hw : swappedStores [.Tuple [.Name x px, .Name y py] kt pt] (.Tuple [a, e2] k2 pt2) X.env = pure (some [x, y]) := by rfl)
    (hs : swapsWithSole [.Tuple [.Name x px, .Name y py] kt pt] (.Tuple [a, e2] k2 pt2) pos.line X.env = pure false := by rfl) :
    SM X (.Assign [.Tuple [.Name x px, .Name y py] kt pt] (.Tuple [a, e2] k2 pt2) pos) (sPar i j fs) := (ps_par (i := i) (j := j) hc hN hi hj hij hx hy ha hw hs).wk fun D σ H => by
  rintro ⟨c, G, b, T, r, b', hf, I, q⟩
  unfold sPar at hf
  split at hf
  · rename_i m1 m2 b1 e1
    split at hf
    · rename_i hl
      cases hf
      refine ⟨c, G, b, T, _, b1, e1, I, fun us vs G1 H1 hl2 av I1 => ?_⟩
      have e := av.pure hsrc
      subst e
      obtain ⟨u1, u2, rfl⟩ : ∃ u1 u2, us = [u1, u2] := by
        cases us with
        | nil => simp at hl2
        | cons u1 us =>
          cases us with
          | nil => simp at hl2
          | cons u2 us =>
            cases us with
            | nil => exact ⟨u1, u2, rfl⟩
            | cons _ _ => simp at hl2
      refine ⟨u1, u2, rfl, ?_⟩
      have I2 : Iv X.K c G1 H1 σ b1 ((m1, u1) :: (m2, u2) :: T) := I1
      exact q _ G1 H1 ((I2.put hl.1).put (by simpa using hl.2))
    · cases hf
  · cases hf

/-! ### what is walked -/
def ItOk (K : PySem.W.Frag) (J : It) (s : List (M × V)) (ds : List D) : Prop := ∀ c G H σ b T i, Iv K c G H σ b (s ++ T) →
  (i < ds.length → J.go i H ∧ ∀ x H', J.yld i H x H' → ∃ d G', ds[i]? = some d ∧ Iv K c G' H' σ b ((.d d, x) :: (s ++ T))) ∧ (ds.length ≤ i → J.stop i H)
abbrev Lv := List B → Option (List D × List B)
def tiO (K : PySem.W.Frag) (f : Lv) : TI := fun σ H R => ∃ c G b T ds b', f b = some (ds, b') ∧ Iv K c G H σ b T ∧ ∀ J s G' H', Iv K c G' H' σ b' (s ++ T) → ItOk K J s ds → R J H'
abbrev IM (X : Cx) (tg e : Expr) (f : Lv) : Prop := PI X tg e (tiO X.K f)
theorem _root_.L2.PI.wk {X : Cx} {tg e : Expr} {t t' : TI} (h : PI X tg e t) (hi : ∀ σ H R, t' σ H R → t σ H R) : PI X tg e t' := ⟨fun pins s σ H R I q => h.run pins s σ H R I (hi σ H R q)⟩
def lLst (f : Ev) : Lv := fun b => match f b with
  | some (.d (.lst ds), b1) => some (ds, b1)
  | some (.d (.seq ds), b1) => some (ds, b1)
  | _ => none
def lTup (f : Ev) : Lv := fun b => match f b with
  | some (.d (.tup ds), b1) => some (ds, b1)
  | _ => none
theorem item_of {K : PySem.W.Frag} {G : Hp} {ds : List D} {xs : List V} {i : Nat} {x : V} (r : RpL K G ds xs) (hx : xs[i]? = some x) : ∃ d, ds[i]? = some d ∧ Rp K G d x := by
  have hi : i < ds.length := by rw [r.len]; exact (List.getElem?_eq_some_iff.mp hx).1
  obtain ⟨v, h1, h2⟩ := r.get (List.getElem?_eq_getElem hi)
  rw [hx] at h1
  cases h1
  exact ⟨_, List.getElem?_eq_getElem hi, h2⟩
theorem itok_list {K : PySem.W.Frag} {d : D} {ds : List D} {p : Addr} (hd : d = .lst ds ∨ d = .seq ds) : ItOk K (Itl K p) [(.d d, .ref p)] ds := by
  intro c G H σ b T i I
  have r : Rp K G d (.ref p) := Iv.topD (T := T) I
  obtain ⟨xs, h2, h3⟩ : ∃ xs, SqL K G p xs ∧ RpL K G ds xs := by
    rcases hd with rfl | rfl <;> simp only [Rp] at r
    · obtain ⟨p', xs, h1, h2, h3⟩ := r
      cases h1
      exact ⟨xs, SqL.of h2, h3⟩
    · obtain ⟨p', xs, h1, h2, h3⟩ := r
      cases h1
      exact ⟨xs, h2, h3⟩
  have h2' := I.st.gh.seq h2
  refine ⟨fun hi => ?_, fun hi => ⟨xs, h2', by rw [← h3.len]; exact hi⟩⟩
  have hi' : i < xs.length := by rw [← h3.len]; exact hi
  refine ⟨⟨xs, xs[i], h2', List.getElem?_eq_getElem hi'⟩, fun x H' y => ?_⟩
  obtain ⟨rfl, y⟩ := y
  obtain ⟨d', q1, q2⟩ := item_of h3 (y xs h2')
  exact ⟨d', G, q1, I.pushD q2⟩
theorem itok_tup {K : PySem.W.Frag} {ds : List D} {p : Addr} : ItOk K (Itt K p) [(.d (.tup ds), .ref p)] ds := by
  intro c G H σ b T i I
  have r : Rp K G (.tup ds) (.ref p) := Iv.topD (T := T) I
  simp only [Rp] at r
  obtain ⟨p', xs, h1, h2, h3⟩ := r
  cases h1
  have h2' := sqt_mono I.st.gh h2
  refine ⟨fun hi => ?_, fun hi => ⟨xs, h2', by rw [← h3.len]; exact hi⟩⟩
  have hi' : i < xs.length := by rw [← h3.len]; exact hi
  refine ⟨⟨xs, xs[i], h2', List.getElem?_eq_getElem hi'⟩, fun x H' y => ?_⟩
  obtain ⟨rfl, y⟩ := y
  obtain ⟨d', q1, q2⟩ := item_of h3 (y xs h2')
  exact ⟨d', G, q1, I.pushD q2⟩
theorem i_list {tg : Expr} (h : EM X e f) : IM X tg e (lLst f) := (pi_list h).wk fun σ H R => by
  rintro ⟨c, G, b, T, ds, b', hf, I, q⟩
  unfold lLst at hf
  split at hf
  · cases hf
    rename_i e1
    refine ⟨c, G, b, T, _, _, e1, I, fun v G1 H1 I1 => ?_⟩
    have r := I1.topD
    simp only [Rp] at r
    obtain ⟨p, xs, rfl, h2, h3⟩ := r
    exact ⟨p, rfl, ⟨xs, I1.st.gh.seq (SqL.of h2)⟩, q _ [_] G1 H1 I1 (itok_list (.inl rfl))⟩
  · cases hf
    rename_i e1
    refine ⟨c, G, b, T, _, _, e1, I, fun v G1 H1 I1 => ?_⟩
    have r := I1.topD
    simp only [Rp] at r
    obtain ⟨p, xs, rfl, h2, h3⟩ := r
    exact ⟨p, rfl, ⟨xs, I1.st.gh.seq h2⟩, q _ [_] G1 H1 I1 (itok_list (.inr rfl))⟩
  · cases hf
theorem i_tup {tg : Expr} (h : EM X e f) : IM X tg e (lTup f) := (pi_tup h).wk fun σ H R => by
  rintro ⟨c, G, b, T, ds, b', hf, I, q⟩
  unfold lTup at hf
  split at hf
  · cases hf
    rename_i e1
    refine ⟨c, G, b, T, _, _, e1, I, fun v G1 H1 I1 => ?_⟩
    have r := I1.topD
    simp only [Rp] at r
    obtain ⟨p, xs, rfl, h2, h3⟩ := r
    exact ⟨p, rfl, ⟨xs, sqt_mono I1.st.gh h2⟩, q _ [_] G1 H1 I1 itok_tup⟩
  · cases hf
def rngD (lo : Int) (n : Nat) : List D := (List.range n).map fun (k : Nat) => D.int (lo + (k : Int))
theorem itok_rng {K : PySem.W.Frag} {lo : Int} {n : Nat} : ItOk K (Itr lo n) [] (rngD lo n) := by
  intro c G H σ b T i I
  refine ⟨fun hi => ?_, fun hi => by simpa [rngD, Itr] using hi⟩
  have hi' : i < n := by simpa [rngD] using hi
  refine ⟨hi', fun x H' y => ?_⟩
  obtain ⟨rfl, rfl⟩ := y
  refine ⟨.int (lo + (i : Int)), G, by simp [rngD, hi'], I.pushD rp_int⟩
/-- range(n) -/
def lRng (fs : Av) : Lv := fun b => match fs b with
  | some ([.d (.int n)], b1) => if -1000000 ≤ n ∧ n ≤ 1000000 then some (rngD 0 n.toNat, b1) else none
  | _ => none
def lRng2 (fs : Av) : Lv := fun b => match fs b with
  | some ([.d (.int m), .d (.int n)], b1) => if (-1000000 ≤ m ∧ m ≤ 1000000) ∧ -1000000 ≤ n ∧ n ≤ 1000000 then some (rngD m (n - m).toNat, b1) else none
  | _ => none
theorem len1 {α : Type} {us : List α} (h : 1 = us.length) : ∃ u, us = [u] := by
  cases us with
  | nil => simp at h
  | cons u us =>
    cases us with
    | nil => exact ⟨u, rfl⟩
    | cons _ _ => simp at h
theorem len2 {α : Type} {us : List α} (h : 2 = us.length) : ∃ u v, us = [u, v] := by
  cases us with
  | nil => simp at h
  | cons u us =>
    obtain ⟨v, rfl⟩ := len1 (us := us) (by simp at h; omega)
    exact ⟨u, v, rfl⟩
theorem i_rng1 {tg a : Expr} {p : Pos} (hm : X.mg "range" = none) (ha : AM X [a] src fs) (hsrc : src.all (·.isNone) = true := by rfl) (hg : Gl X "range" := by rfl) (hs : starEach [a] X.env = [(false, eval a X.env)] := by rfl) : IM X tg (.Call (.Name "range" p) [a] [] pos) (lRng fs) := (pi_range1 hg hm ha hs).wk fun σ H R => by
  rintro ⟨c, G, b, T, ds, b', hf, I, q⟩
  unfold lRng at hf
  split at hf
  · rename_i n b1 e1
    split at hf
    · rename_i hz
      cases hf
      refine ⟨c, G, b, T, _, b', e1, I, fun us vs G1 H1 hl av I1 => ?_⟩
      have e := av.pure hsrc
      subst e
      obtain ⟨u, rfl⟩ := len1 hl
      have r := Iv.topD (T := T) I1
      simp only [Rp] at r
      subst r
      exact ⟨n, rfl, by omega, by omega, q _ [] G1 H1 (Iv.drop I1) itok_rng⟩
    · cases hf
  · cases hf
theorem i_rng2 {tg a a2 : Expr} {p : Pos} (hm : X.mg "range" = none) (ha : AM X [a, a2] src fs) (hsrc : src.all (·.isNone) = true := by rfl) (hg : Gl X "range" := by rfl) (hs : starEach [a, a2] X.env = [(false, eval a X.env), (false, eval a2 X.env)] := by rfl) (hs2 : starEach [a2] X.env = [(false, eval a2 X.env)] := by rfl) : IM X tg (.Call (.Name "range" p) [a, a2] [] pos) (lRng2 fs) := (pi_range2 hg hm ha hs hs2).wk fun σ H R => by
  rintro ⟨c, G, b, T, ds, b', hf, I, q⟩
  unfold lRng2 at hf
  split at hf
  · rename_i m n b1 e1
    split at hf
    · rename_i hz
      cases hf
      refine ⟨c, G, b, T, _, b', e1, I, fun us vs G1 H1 hl av I1 => ?_⟩
      have e := av.pure hsrc
      subst e
      obtain ⟨u, v, rfl⟩ := len2 hl
      have r := Iv.topD (T := (.d (.int n), v) :: T) I1
      have r2 := Iv.topD (T := T) (Iv.drop I1)
      simp only [Rp] at r r2
      subst r r2
      exact ⟨m, n, rfl, by omega, q _ [] G1 H1 (Iv.drop (Iv.drop I1)) itok_rng⟩
    · cases hf
  · cases hf

/-! ### for, while -/
def forL (g : Gv) (body : Sv) : List D → Sv
  | [], b => some (.nx, b)
  | d :: ds, b => match g d b with
    | some b1 => (match body b1 with
      | some (.nx, b2) => forL g body ds b2
      | some (.ct, b2) => forL g body ds b2
      | some (.bk, b2) => some (.nx, b2)
      | some (.rt m, b2) => some (.rt m, b2)
      | none => none)
    | none => none
def sFor (l : Lv) (g : Gv) (body : Sv) : Sv := fun b => match l b with
  | some (ds, b1) => forL g body ds b1
  | none => none
theorem s_for {tg iter : Expr} {ix : List Nat} {l : Lv} {g : Gv} {g1 : Sv} (hp : PassesOwn (model X.prog X.w) X.A X.env X.xe) (hc : X.calm = true) (hi : IM X tg iter l) (hg : GM X tg ix g) (hb : SMs X sts g1) (hs : ∀ x, foldedSetIterable iter X.env x = pure x := by intro _; rfl) : SM X (.For tg iter sts [] pos) (sFor l g g1) := (ps_for hp hc hi hg hb hs).wk fun D σ H => by
  rintro ⟨c, G, b, T, r, b', hf, I, q⟩
  unfold sFor at hf
  split at hf
  · rename_i ds b1 e1
    refine ⟨c, G, b, T, ds, b1, e1, I, fun J s G1 H1 I1 ok => ?_⟩
    refine ⟨fun i m σ H => m = ds.length - i ∧ i ≤ ds.length ∧ ∃ G b2, Iv X.K c G H σ b2 (s ++ T) ∧ forL g g1 (ds.drop i) b2 = some (r, b'), ⟨ds.length, by simp, Nat.zero_le _, G1, b1, I1, by simpa using hf⟩, ?_⟩
    rintro i m σ H ⟨rfl, hi, G2, b2, I2, hl⟩
    obtain ⟨o1, o2⟩ := ok c G2 H σ b2 T i I2
    by_cases hlt : i < ds.length
    · obtain ⟨go, yl⟩ := o1 hlt
      refine .inr ⟨go, fun σ' H' => ∃ G b2, Iv X.K c G H' σ' b2 (s ++ T) ∧ forL g g1 (ds.drop (i + 1)) b2 = some (r, b'), fun σ' H' ⟨G3, b3, I3, h3⟩ => ⟨ds.length - (i + 1), by omega, rfl, hlt, G3, b3, I3, h3⟩, fun x H' y => ?_⟩
      obtain ⟨d, G3, hd, I3⟩ := yl x H' y
      rw [List.drop_eq_getElem_cons hlt] at hl
      have e : ds[i] = d := by rw [List.getElem?_eq_getElem hlt] at hd; exact Option.some.inj hd
      rw [e] at hl
      unfold forL at hl
      split at hl
      · rename_i b3 e3
        refine ⟨c, G3, b2, s ++ T, d, b3, e3, I3, fun σ4 G4 H4 _ I4 => ?_⟩
        split at hl
        · rename_i b4 e4
          exact ⟨c, G4, b3, s ++ T, .nx, b4, e4, I4, fun σ5 G5 H5 I5 => ⟨G5, b4, I5, hl⟩⟩
        · rename_i b4 e4
          exact ⟨c, G4, b3, s ++ T, .ct, b4, e4, I4, fun σ5 G5 H5 I5 => ⟨G5, b4, I5, hl⟩⟩
        · rename_i b4 e4
          cases hl
          exact ⟨c, G4, b3, s ++ T, .bk, b', e4, I4, fun σ5 G5 H5 I5 => q σ5 G5 H5 I5.dropN⟩
        · rename_i m b4 e4
          cases hl
          refine ⟨c, G4, b3, s ++ T, .rt m, b', e4, I4, fun v σ5 G5 H5 I5 => q v σ5 G5 H5 ?_⟩
          have P : ((m, v) :: (s ++ T)).Perm (s ++ (m, v) :: T) := List.perm_middle.symm
          exact (I5.perm P).dropN
        · cases hl
      · cases hl
    · have e : i = ds.length := by omega
      subst e
      simp only [List.drop_length, forL, Option.some.injEq, Prod.mk.injEq] at hl
      obtain ⟨rfl, rfl⟩ := hl
      exact .inl ⟨o2 (Nat.le_refl _), q σ G2 H I2.dropN⟩
  · cases hf
def whileN : Nat → Tv → Sv → Sv
  | 0, _, _, _ => none
  | n + 1, t, body, b => match t b with
    | some (false, b1) => some (.nx, b1)
    | some (true, b1) => (match body b1 with
      | some (.nx, b2) => whileN n t body b2
      | some (.ct, b2) => whileN n t body b2
      | some (.bk, b2) => some (.nx, b2)
      | some (.rt m, b2) => some (.rt m, b2)
      | none => none)
    | none => none
theorem s_while (n : Nat) {g1 : Sv} (hp : PassesOwn (model X.prog X.w) X.A X.env X.xe) (hc : TM X e t) (hb : SMs X sts g1) : SM X (.While e sts [] pos) (whileN n t g1) := (ps_while hp hc hb).wk fun D σ H => by
  rintro ⟨c, G, b, T, r, b', hf, I, q⟩
  refine ⟨fun m σ H => ∃ G b2, Iv X.K c G H σ b2 T ∧ whileN m t g1 b2 = some (r, b'), ⟨n, G, b, I, hf⟩, ?_⟩
  rintro m σ H ⟨G2, b2, I2, hl⟩
  cases m with
  | zero => simp [whileN] at hl
  | succ m =>
    unfold whileN at hl
    split at hl
    · rename_i b3 e3
      cases hl
      refine ⟨c, G2, b2, T, false, b', e3, I2, fun G3 H3 I3 => ?_⟩
      refine iteF ?_
      exact q σ G3 H3 I3
    · rename_i b3 e3
      refine ⟨c, G2, b2, T, true, b3, e3, I2, fun G3 H3 I3 => ?_⟩
      refine iteT ?_
      refine ⟨fun σ' H' => ∃ G b2, Iv X.K c G H' σ' b2 T ∧ whileN m t g1 b2 = some (r, b'), fun σ' H' ⟨G4, b4, I4, h4⟩ => ⟨m, Nat.lt_succ_self _, G4, b4, I4, h4⟩, ?_⟩
      split at hl
      · rename_i b4 e4
        exact ⟨c, G3, b3, T, .nx, b4, e4, I3, fun σ5 G5 H5 I5 => ⟨G5, b4, I5, hl⟩⟩
      · rename_i b4 e4
        exact ⟨c, G3, b3, T, .ct, b4, e4, I3, fun σ5 G5 H5 I5 => ⟨G5, b4, I5, hl⟩⟩
      · rename_i b4 e4
        cases hl
        exact ⟨c, G3, b3, T, .bk, b', e4, I3, fun σ5 G5 H5 I5 => q σ5 G5 H5 I5⟩
      · rename_i m' b4 e4
        cases hl
        exact ⟨c, G3, b3, T, .rt m', b', e4, I3, fun v σ5 G5 H5 I5 => q v σ5 G5 H5 I5⟩
      · cases hl
    · cases hl
end
end PL

namespace PL
open PySem PySem.Spec PyProof.Rows L2
/-! ### list comprehensions -/
def wipeB (b : List B) : List Nat → List B
  | [] => b
  | v :: vs => (wipeB b vs).set v .no
theorem wipeB_len (b : List B) : ∀ vs, (wipeB b vs).length = b.length
  | [] => rfl
  | v :: vs => by unfold wipeB; rw [List.length_set, wipeB_len b vs]
theorem wipeB_at (b : List B) : ∀ (vs : List Nat) (j : Nat), j ∈ vs → j < b.length → (wipeB b vs)[j]? = some .no
  | v :: vs, j, h, hl => by
    unfold wipeB
    by_cases q : j = v
    · subst q
      rw [List.getElem?_set_self (by rw [wipeB_len]; exact hl)]
    · rw [List.getElem?_set_ne (Ne.symm q)]
      exact wipeB_at b vs j (by simp at h; grind) hl
theorem wipe_at (σ : L2.St) : ∀ (vs : List Nat) (j : Nat), (wipe σ vs)[j]? = if j ∈ vs ∧ j < σ.length then some none else σ[j]?
  | [], j => by simp [wipe]
  | v :: vs, j => by
    unfold wipe
    by_cases q : j = v
    · subst q
      by_cases hl : j < σ.length
      · rw [List.getElem?_set_self (by rw [wipe_length]; exact hl), if_pos ⟨by simp, hl⟩]
      · rw [List.getElem?_eq_none (by rw [List.length_set, wipe_length]; omega), if_neg (fun z => hl z.2), List.getElem?_eq_none (by omega)]
    · rw [List.getElem?_set_ne (Ne.symm q), wipe_at σ vs j]
      simp [q]
theorem wipe_ext {σ σ2 : L2.St} {vs : List Nat} (hl : σ2.length = σ.length) (h : ∀ j, j ∉ vs → σ2[j]? = σ[j]?) : wipe σ2 vs = wipe σ vs := by
  apply List.ext_getElem?
  intro j
  rw [wipe_at, wipe_at, hl]
  by_cases q : j ∈ vs
  · by_cases z : j < σ.length
    · rw [if_pos ⟨q, z⟩, if_pos ⟨q, z⟩]
    · rw [if_neg (fun y => z y.2), if_neg (fun y => z y.2), List.getElem?_eq_none (by omega), List.getElem?_eq_none (by omega)]
  · rw [if_neg (fun y => q y.1), if_neg (fun y => q y.1), h j q]
section
variable {K : PySem.W.Frag} {c : Cg} {G G' H H' : Hp} {σ : L2.St} {b : List B} {T T1 : List (M × V)} {p : Addr} {o : HO} {d : D} {v : V} {m : M} {i : Nat}
/-- a slot is forgotten -/
theorem Iv.forget (I : Iv K c G H σ b T) (i : Nat) (s : Option V) : Iv K c G H (σ.set i s) (b.set i .no) T := by
  by_cases hi : i < b.length
  · obtain ⟨s', fi, ft, e1, e2, t1, nd, gn, old, go⟩ := Iv.slot (T1 := []) I (List.getElem?_eq_getElem hi)
    exact go G H .no s [] [] [] ⟨Same.refl _, I.st.gh, fun _ _ h => h, fun _ _ h _ => h, fun _ h => h⟩ rfl rfl (by simp) (by simp) (by simp)
  · have hl := I.sl
    rw [List.set_eq_of_length_le (l := σ) (by rw [hl]; omega), List.set_eq_of_length_le (l := b) (by omega)]
    exact I
theorem Iv.wipe (I : Iv K c G H σ b T) : ∀ vs, Iv K c G H (wipe σ vs) (wipeB b vs) T
  | [] => I
  | v :: vs => (Iv.wipe I vs).forget v none
theorem Iv.unwipe : ∀ {vs : List Nat}, (∀ j ∈ vs, j < b.length → b[j]? = some .no) → Iv K c G H (L2.wipe σ vs) b T → Iv K c G H σ b T
  | [], _, I => I
  | v :: vs, h, I => by
    have hl := I.sl
    rw [wipe_length] at hl
    by_cases hv : v < b.length
    · have hw : v < (L2.wipe σ vs).length := by rw [wipe_length, hl]; exact hv
      obtain ⟨s, e1⟩ : ∃ s, (L2.wipe σ vs)[v]? = some s := ⟨_, List.getElem?_eq_getElem hw⟩
      have I2 := I.forget v s
      rw [set_self (h v (by simp) hv)] at I2
      have e2 : (L2.wipe σ (v :: vs)).set v s = L2.wipe σ vs := by
        show ((L2.wipe σ vs).set v none).set v _ = _
        rw [List.set_set, set_self e1]
      rw [e2] at I2
      exact Iv.unwipe (fun j hj => h j (by simp [hj])) I2
    · have e2 : L2.wipe σ (v :: vs) = L2.wipe σ vs := by
        show (L2.wipe σ vs).set v none = _
        rw [List.set_eq_of_length_le (by rw [wipe_length, hl]; omega)]
      rw [e2] at I
      exact Iv.unwipe (fun j hj => h j (by simp [hj])) I
theorem RML.app : ∀ {ms : List M} {xs : List V} {q f : List Addr} {y : V}, RML K G H ms xs q → RM K G H m y f → RML K G H (ms ++ [m]) (xs ++ [y]) (q ++ f)
  | [], xs, q, f, y, h, r => by
    simp only [RML] at h
    obtain ⟨rfl, rfl⟩ := h
    simp only [List.nil_append, RML]
    exact ⟨y, [], f, [], rfl, r, ⟨rfl, rfl⟩, by simp⟩
  | m' :: ms, _, _, f, y, h, r => by
    simp only [RML] at h
    obtain ⟨z, zs, f1, f2, rfl, h2, h3, rfl⟩ := h
    show RML K G H (m' :: (ms ++ [m])) (z :: (zs ++ [y])) _
    simp only [RML]
    exact ⟨z, zs ++ [y], f1, f2 ++ f, rfl, h2, h3.app r, by simp⟩
theorem dm_upd (h : H p ≠ none) : ∀ a, H a ≠ none → upd H p o a ≠ none := fun a ha => by
  by_cases q : a = p
  · subst q; rw [upd_same]; simp
  · rw [upd_ne q]; exact ha
theorem gh_upd (e : Same G H) (h : G p = none) : Same G (upd H p o) := fun a u q => by
  rw [upd_ne (ne_of_none q h)]; exact e a u q
theorem Iv.appT {acc : List M} {y : V} (I : Iv K c G H σ b ((m, y) :: (.lst acc, .ref p) :: T)) : ∃ xs, H p = some (.lst xs) ∧ xs.length = acc.length ∧ Iv K c G (upd H p (.lst (xs ++ [y]))) σ b ((.lst (acc ++ [m]), .ref p) :: T) := by
  obtain ⟨ft, t1, nd, gn, old, go⟩ := Iv.tmp (T1 := [(m, y), (.lst acc, .ref p)]) I
  obtain ⟨f1, f2, h1, h2, ⟨f3, f4, h3, h4, h5, rfl⟩, rfl⟩ := t1
  have h5 : f4 = [] := h5
  subst h5
  simp only [RM] at h3
  obtain ⟨p', xs, q, e1, e2, e3, rfl⟩ := h3
  cases e1
  simp only [List.append_nil] at *
  have N := List.nodup_append.mp nd
  have np1 : p ∉ f1 := fun hm => N.2.2 p hm p (by simp) rfl
  have np2 : p ∉ q := (List.nodup_cons.mp N.2.1).1
  have hp : H p ≠ none := by rw [e2]; simp
  refine ⟨xs, e2, e3.len.symm, go G (upd H p (.lst (xs ++ [y]))) [(.lst (acc ++ [m]), .ref p)] (p :: (q ++ f1)) ⟨Same.refl _, gh_upd I.st.gh (gn p (by simp)), fun _ _ h => h, fun a o h1 h2 => ?_, dm_upd hp⟩ ⟨p :: (q ++ f1), [], ?_, ?_, rfl, by simp⟩ ?_ ?_ ?_⟩
  · rw [upd_ne (fun z : a = p => h2 (by simp [z]))]; exact h1
  · simp only [RM]
    refine ⟨p, xs ++ [y], q ++ f1, rfl, upd_same, ?_, rfl⟩
    exact RML.app (RML.frame (Same.refl _) _ _ _ e3 fun a ha => upd_ne (fun z : a = p => np2 (z ▸ ha))) (RM.frame (Same.refl _) _ _ _ h1 fun a ha => upd_ne (fun z : a = p => np1 (z ▸ ha)))
  · intro a ha
    simp at ha
    exact old a (by simp; grind)
  · have P : (p :: (q ++ f1)).Perm (f1 ++ (p :: q)) := (List.perm_append_comm (l₁ := p :: q) (l₂ := f1))
    exact P.nodup_iff.mpr nd
  · intro a ha
    left
    simp at ha ⊢
    grind
  · intro a ha
    simp at ha
    exact gn a (by simp; grind)
end
def lcL (vs : List Nat) (g : Gv) (t : Tv) (elt : Ev) : List D → List B → Option (List M × List B)
  | [], b => some ([], b)
  | d :: ds, b => match g d b with
    | some b1 => (match t b1 with
      | some (true, b2) => (match elt b2 with
        | some (m, b3) => (match lcL vs g t elt ds (wipeB b3 vs) with
          | some (ms, b4) => some (m :: ms, b4)
          | none => none)
        | none => none)
      | some (false, b2) => lcL vs g t elt ds (wipeB b2 vs)
      | none => none)
    | none => none
def fLc (vs : List Nat) (l : Lv) (g : Gv) (t : Tv) (elt : Ev) : Ev := fun b => match l b with
  | some (ds, b1) => if ds.length ≤ 1000000 then (match lcL vs g t elt ds (wipeB b1 vs) with
    | some (ms, b2) => some (.lst ms, b2)
    | none => none) else none
  | none => none
def tTrue : Tv := fun b => some (true, b)
theorem lcL_no {vs : List Nat} {g : Gv} {t : Tv} {elt : Ev} : ∀ {ds : List D} {b : List B} {ms : List M} {b' : List B}, lcL vs g t elt ds b = some (ms, b') → (∀ j ∈ vs, j < b.length → b[j]? = some .no) → ∀ j ∈ vs, j < b'.length → b'[j]? = some .no
  | [], b, ms, b', h, k => by
    simp only [lcL, Option.some.injEq, Prod.mk.injEq] at h
    obtain ⟨rfl, rfl⟩ := h
    exact k
  | d :: ds, b, ms, b', h, k => by
    unfold lcL at h
    split at h
    · split at h
      · split at h
        · split at h
          · rename_i e
            cases h
            exact lcL_no e fun j hj hl => wipeB_at _ _ _ hj (by rw [wipeB_len] at hl; exact hl)
          · cases h
        · cases h
      · exact lcL_no h fun j hj hl => wipeB_at _ _ _ hj (by rw [wipeB_len] at hl; exact hl)
      · cases h
    · cases h
theorem lc_in {K : PySem.W.Frag} {ix vs : List Nat} {l : Lv} {g : Gv} {t : Tv} {f : Ev} (hix : ix.all (fun i => vs.contains i) = true) : ∀ σ H Q, teO K (fLc vs l g t f) σ H Q → tLc (tiO K l) (tgO K ix g) (ttO K t) (teO K f) vs σ H Q := fun σ H Q => by
  rintro ⟨c, G, b, T, m, b', hf, I, q⟩
  unfold fLc at hf
  split at hf
  · rename_i ds b1 e1
    split at hf
    · rename_i hz
      split at hf
      · rename_i ms b2 e2
        cases hf
        refine ⟨c, G, b, T, ds, b1, e1, I, fun J s G1 H1 I1 ok D hD => ?_⟩
        have I2 : Iv K c G1 (upd H1 D (.lst [])) σ b1 ((.lst [], .ref D) :: (s ++ T)) := Iv.newL (ds := []) I1 hD (by simp [RpL])
        refine ⟨fun i m H => m = ds.length - i ∧ i ≤ ds.length ∧ ∃ G b3 acc ms', Iv K c G H (L2.wipe σ vs) b3 ((.lst acc, .ref D) :: (s ++ T)) ∧ acc.length ≤ i ∧ lcL vs g t f (ds.drop i) b3 = some (ms', b') ∧ acc ++ ms' = ms ∧ (∀ j ∈ vs, j < b3.length → b3[j]? = some .no),
          ⟨ds.length, by simp, Nat.zero_le _, G1, wipeB b1 vs, [], ms, I2.wipe vs, by simp, by simpa using e2, rfl, fun j hj hl => wipeB_at _ _ _ hj (by rw [wipeB_len] at hl; exact hl)⟩, ?_⟩
        rintro i m H ⟨rfl, hi, G3, b3, acc, ms', I3, ha, hl, hm, hno⟩
        have P : ∀ (acc : List M), ((M.lst acc, V.ref D) :: (s ++ T)).Perm (s ++ (.lst acc, .ref D) :: T) := fun acc => List.perm_middle.symm
        obtain ⟨o1, o2⟩ := ok c G3 H _ b3 ((.lst acc, .ref D) :: T) i (I3.perm (P acc))
        by_cases hlt : i < ds.length
        · obtain ⟨go, yl⟩ := o1 hlt
          refine .inr ⟨go, fun H' => ∃ G b3 acc ms', Iv K c G H' (L2.wipe σ vs) b3 ((.lst acc, .ref D) :: (s ++ T)) ∧ acc.length ≤ i + 1 ∧ lcL vs g t f (ds.drop (i + 1)) b3 = some (ms', b') ∧ acc ++ ms' = ms ∧ (∀ j ∈ vs, j < b3.length → b3[j]? = some .no),
            fun H' ⟨G3, b3, acc, ms', x1, x2, x3, x4, x5⟩ => ⟨ds.length - (i + 1), by omega, rfl, hlt, G3, b3, acc, ms', x1, x2, x3, x4, x5⟩, fun x H' y => ?_⟩
          obtain ⟨d, G4, hd, I4⟩ := yl x H' y
          rw [List.drop_eq_getElem_cons hlt] at hl
          have e : ds[i] = d := by rw [List.getElem?_eq_getElem hlt] at hd; exact Option.some.inj hd
          rw [e] at hl
          unfold lcL at hl
          split at hl
          · rename_i b4 e4
            refine ⟨c, G4, b3, s ++ (.lst acc, .ref D) :: T, d, b4, e4, I4, fun σ5 G5 H5 k5 I5 => ?_⟩
            have hw : L2.wipe σ5 vs = L2.wipe σ vs := by
              have h2 : L2.wipe σ5 vs = L2.wipe (L2.wipe σ vs) vs := wipe_ext k5.1 fun j hj => k5.2 j fun z => hj (by
                have := List.all_eq_true.mp hix j z
                simpa using this)
              rw [h2]
              exact wipe_ext (wipe_length _ _) fun j hj => by rw [wipe_at, if_neg (fun z => hj z.1)]
            refine ⟨hw, ?_⟩
            split at hl
            · rename_i b5 e5
              refine ⟨c, G5, b4, _, true, b5, e5, I5, fun G6 H6 I6 => ?_⟩
              refine iteT ?_
              split at hl
              · rename_i m b6 e6
                split at hl
                · rename_i ms'' b7 e7
                  cases hl
                  refine ⟨c, G6, b5, _, m, b6, e6, I6, fun v G7 H7 I7 => ?_⟩
                  have Q1 : ((m, v) :: (s ++ (M.lst acc, V.ref D) :: T)).Perm ((m, v) :: (.lst acc, .ref D) :: (s ++ T)) := List.Perm.cons _ List.perm_middle
                  obtain ⟨xs, w1, w2, I8⟩ := (I7.perm Q1).appT
                  refine ⟨xs, w1, by rw [w2]; exact lt_line (by omega), G7, wipeB b6 vs, acc ++ [m], ms'', ?_, by simp; omega, e7, by rw [← hm]; simp, fun j hj hl => wipeB_at _ _ _ hj (by rw [wipeB_len] at hl; exact hl)⟩
                  rw [← hw]
                  exact I8.wipe vs
                · cases hl
              · cases hl
            · rename_i b5 e5
              refine ⟨c, G5, b4, _, false, b5, e5, I5, fun G6 H6 I6 => ?_⟩
              refine iteF ?_
              refine ⟨G6, wipeB b5 vs, acc, ms', ?_, by omega, hl, hm, fun j hj hl => wipeB_at _ _ _ hj (by rw [wipeB_len] at hl; exact hl)⟩
              rw [← hw]
              exact (I6.perm (P acc).symm).wipe vs
            · cases hl
          · cases hl
        · have e : i = ds.length := by omega
          subst e
          simp only [List.drop_length, lcL, Option.some.injEq, Prod.mk.injEq] at hl
          obtain ⟨rfl, rfl⟩ := hl
          refine .inl ⟨o2 (Nat.le_refl _), q _ G3 H ?_⟩
          simp only [List.append_nil] at hm
          subst hm
          exact Iv.unwipe hno ((I3.perm (P acc)).dropN)
      · cases hf
    · cases hf
  · cases hf
end PL

namespace PL
open PySem PySem.Spec PyProof.Rows L2
section
variable {X : Cx} {e e1 e2 e3 : Expr} {es : List Expr} {st : Stmt} {sts : List Stmt} {pos : Pos} {f f1 f2 f3 : Ev} {fs : Av} {src : List (Option Nat)} {x : Str} {t t1 t2 : Tv} {k1 k2 : Sv}
theorem ts_nil : PTs X [] (ttO X.K tTrue) := ⟨fun pins s σ H Q I q => by
  obtain ⟨c, G, b, T, r, b', hf, I', q⟩ := q
  simp only [tTrue, Option.some.injEq, Prod.mk.injEq] at hf
  obtain ⟨rfl, rfl⟩ := hf
  exact pts_nil.run pins s σ H Q I (q G H I')⟩
theorem ts_one (h : TM X e t) : PTs X [e] (ttO X.K t) := pts_one h
theorem e_lc {elt tg iter : Expr} {ifs : List Expr} {scope : Scope} {own : List (Str × Nat)} {ix : List Nat} {l : Lv} {g : Gv} (hc : X.calm = true) (hN : X.N.Nodup) (hi : IM X tg iter l) (ok : BlkOk X.N X.env.scope scope own) (hix : ix.all (fun i => (own.map (·.2)).contains i) = true)
    (hg : ∀ (s : Shared) (H : Hp) (C : Addr) (cl : List (Str × Addr)) (fp : List Addr), GM (X.blk s H scope (compEnvC scope cl C X.env) fp) tg ix g) (ht : ∀ (s : Shared) (H : Hp) (C : Addr) (cl : List (Str × Addr)) (fp : List Addr), PTs (X.blk s H scope (compEnvC scope cl C X.env) fp) ifs (ttO X.K t))
    (he : ∀ (s : Shared) (H : Hp) (C : Addr) (cl : List (Str × Addr)) (fp : List Addr), EM (X.blk s H scope (compEnvC scope cl C X.env) fp) elt f) (hs : ∀ x, foldedSetIterable iter X.env x = pure x := by intro _; rfl) :
    EM X (.ListComp elt [⟨tg, iter, ifs, 0⟩] scope pos) (fLc (own.map (·.2)) l g t f) := (pe_lc hc hN hi ok hg ht he hs).wk (lc_in hix)
theorem s_setLc (i : Nat) {y : Str} {py : Pos} {elt tg iter : Expr} {ifs : List Expr} {scope : Scope} {own : List (Str × Nat)} {ix : List Nat} {l : Lv} {g : Gv} (hc : X.calm = true) (hN : X.N.Nodup) (hi : IM X tg iter l) (ok : BlkOk X.N X.env.scope scope own) (hix : ix.all (fun i => (own.map (·.2)).contains i) = true)
    (hg : ∀ (s : Shared) (H : Hp) (C : Addr) (cl : List (Str × Addr)) (fp : List Addr), GM (X.blk s H scope (compEnvC scope cl C X.env) fp) tg ix g) (ht : ∀ (s : Shared) (H : Hp) (C : Addr) (cl : List (Str × Addr)) (fp : List Addr), PTs (X.blk s H scope (compEnvC scope cl C X.env) fp) ifs (ttO X.K t))
    (he : ∀ (s : Shared) (H : Hp) (C : Addr) (cl : List (Str × Addr)) (fp : List Addr), EM (X.blk s H scope (compEnvC scope cl C X.env) fp) elt f) (hsw : swapsWith (.ListComp elt [⟨tg, iter, ifs, 0⟩] scope pos) (some (.Name y py)) pos.line X.env = pure true) (hy : X.N[i]? = some y := by rfl) (hyl : X.env.scope.names.lookup y = some .local := by rfl)
    {spos : Pos} (hl : spos.line = pos.line := by rfl) (hs : ∀ x, foldedSetIterable iter X.env x = pure x := by intro _; rfl) :
    SM X (.Assign [.Name y py] (.ListComp elt [⟨tg, iter, ifs, 0⟩] scope pos) spos) (sSet i (fLc (own.map (·.2)) l g t f)) := (ps_setLc (i := i) hc hN hy hyl (by rw [hl]; exact hsw) hi ok hg ht he hs).wk fun D σ H => by
  rintro ⟨c, G, b, T, r, b', hf, I, q⟩
  unfold sSet at hf
  split at hf
  · rename_i m b1 e1
    split at hf
    · rename_i hl
      cases hf
      exact lc_in hix σ H _ ⟨c, G, b, T, m, b1, e1, I, fun v G' H' I' => q _ G' H' (I'.put hl)⟩
    · cases hf
  · cases hf

/-! ### items -/
theorem ixN_len {n : Nat} {i : Int} {j : Nat} (h : ixN n i = some j) : j < n := (ixN_seq h).2.1
theorem atI_rel {K : PySem.W.Frag} {G : Hp} {ds : List D} {xs : List V} {i : Int} {d : D} (r : RpL K G ds xs) (h : atI ds i = some d) : ∃ v, atI xs i = some v ∧ Rp K G d v := by
  unfold atI at h ⊢
  rw [← r.len]
  cases e : ixN ds.length i with
  | none => rw [e] at h; cases h
  | some j =>
    rw [e] at h
    exact r.get h
def gIx : D → D → Option D
  | .tup ds, .int i => atI ds i
  | .lst ds, .int i => atI ds i
  | .seq ds, .int i => atI ds i
  | .str z, .int i => if z.length ≤ 1000000 then (match atI z.cps.toList i with
    | some c => some (.str ⟨#[c]⟩)
    | none => none) else none
  | _, _ => none
theorem os_ix {K : PySem.W.Frag} : OpS K (rIx K) (g2 gIx) := OpS.pure fun c G H x y d1 d2 d Q hg e r1 r2 q => by
  unfold gIx at hg
  split at hg
  · simp only [Rp] at r1 r2
    obtain ⟨p, xs, h1, h2, h3⟩ := r1
    obtain ⟨v, q1, q2⟩ := atI_rel h3 hg
    exact .inr (.inl ⟨p, xs, _, v, h1, r2, sqt_mono e h2, q1, q v q2⟩)
  · simp only [Rp] at r1 r2
    obtain ⟨p, xs, h1, h2, h3⟩ := r1
    obtain ⟨v, q1, q2⟩ := atI_rel h3 hg
    exact .inl ⟨p, xs, _, v, h1, r2, e.seq (SqL.of h2), q1, q v q2⟩
  · simp only [Rp] at r1 r2
    obtain ⟨p, xs, h1, h2, h3⟩ := r1
    obtain ⟨v, q1, q2⟩ := atI_rel h3 hg
    exact .inl ⟨p, xs, _, v, h1, r2, e.seq h2, q1, q v q2⟩
  · split at hg
    · rename_i hz
      split at hg
      · rename_i c hc
        cases hg
        simp only [Rp] at r1 r2
        exact .inr (.inr ⟨_, _, _, r1, r2, le_line hz, hc, q _ rp_str⟩)
      · cases hg
    · cases hg
  · cases hg
theorem e_ix (h1 : EM X e1 f1) (h2 : EM X e2 f2) (hs : PlainIx e2 := by intro _ _; rfl) : EM X (.Subscript e1 e2 pos) (fOp (g2 gIx) f1 f2) := e_tOp os_ix (pe_ix ix_seq h1 h2 hs)
end
section
variable {K : PySem.W.Frag} {c : Cg} {G G' H H' : Hp} {σ : L2.St} {b : List B} {T T1 : List (M × V)} {p : Addr} {o : HO} {d : D} {v : V} {m : M} {i j : Nat}
theorem RML.getD : ∀ {ms : List M} {xs : List V} {q : List Addr} {i : Nat} {x : D}, RML K G H ms xs q → ms[i]? = some (.d x) → ∃ v, xs[i]? = some v ∧ Rp K G x v
  | [], _, _, _, _, _, e => by simp at e
  | m :: ms, _, _, 0, x, h, e => by
    simp only [RML] at h
    obtain ⟨z, zs, f1, f2, rfl, h2, h3, rfl⟩ := h
    simp at e
    subst e
    simp only [RM] at h2
    exact ⟨z, rfl, h2.1⟩
  | m :: ms, _, _, i + 1, x, h, e => by
    simp only [RML] at h
    obtain ⟨z, zs, f1, f2, rfl, h2, h3, rfl⟩ := h
    simpa using RML.getD h3 (i := i) (by simpa using e)
theorem RML.set : ∀ {ms : List M} {xs : List V} {q f : List Addr} {i : Nat} {y : V}, RML K G H ms xs q → RM K G H m y f → (q ++ f).Nodup → ∃ q', RML K G H (ms.set i m) (xs.set i y) q' ∧ (∀ a ∈ q', a ∈ q ++ f) ∧ q'.Nodup
  | [], xs, q, f, i, y, h, r, nd => by
    simp only [RML] at h
    obtain ⟨rfl, rfl⟩ := h
    exact ⟨[], by simp [RML], by simp, by simp⟩
  | m' :: ms, _, _, f, 0, y, h, r, nd => by
    simp only [RML] at h
    obtain ⟨z, zs, f1, f2, rfl, h2, h3, rfl⟩ := h
    refine ⟨f ++ f2, by simp only [List.set_cons_zero, RML]; exact ⟨y, zs, f, f2, rfl, r, h3, rfl⟩, fun a ha => by simp at ha ⊢; grind, ?_⟩
    have P : (f1 ++ f2 ++ f).Perm (f1 ++ (f ++ f2)) := by
      rw [List.append_assoc]
      exact List.Perm.append_left f1 List.perm_append_comm
    exact (List.nodup_append.mp (P.nodup_iff.mp nd)).2.1
  | m' :: ms, _, _, f, i + 1, y, h, r, nd => by
    simp only [RML] at h
    obtain ⟨z, zs, f1, f2, rfl, h2, h3, rfl⟩ := h
    rw [List.append_assoc] at nd
    have N := List.nodup_append.mp nd
    obtain ⟨q', h4, h5, h6⟩ := RML.set (i := i) h3 r N.2.1
    refine ⟨f1 ++ q', by simp only [List.set_cons_succ, RML]; exact ⟨z, zs.set i y, f1, q', rfl, h2, h4, rfl⟩, fun a ha => ?_, List.nodup_append.mpr ⟨N.1, h6, fun x hx y hy => N.2.2 x hx y (h5 y hy)⟩⟩
    rcases List.mem_append.mp ha with z | z
    · simp [z]
    · have := h5 a z
      simp at this ⊢
      grind
/-- an owned list at a slot is changed -/
theorem Iv.mutL {k : Option Nat} {ms : List M} (I : Iv K c G H σ b (T1 ++ T)) (hb : b[j]? = some (.o k (.lst ms))) : ∃ p xs, σ[j]? = some (some (.ref p)) ∧ H p = some (.lst xs) ∧ xs.length = ms.length ∧ (∀ (i : Nat) (x : D), ms[i]? = some (M.d x) → ∃ v, xs[i]? = some v ∧ Rp K G x v) ∧
    ∀ ms' xs', (∀ H2 q ft, RML K G H2 ms xs q → RT K c G H2 T1 ft → (q ++ ft).Nodup → ∃ q', RML K G H2 ms' xs' q' ∧ (∀ a ∈ q', a ∈ q ++ ft) ∧ q'.Nodup) → Iv K c G (upd H p (.lst xs')) σ (b.set j (.o k (.lst ms'))) T := by
  obtain ⟨s, fi, ft, e1, e2, t1, nd, gn, old, go⟩ := Iv.slot (T1 := T1) I hb
  obtain ⟨v, rfl, q2, q3⟩ := e2
  simp only [RM] at q2
  obtain ⟨p, xs, q, rfl, h2, h3, rfl⟩ := q2
  refine ⟨p, xs, e1, h2, h3.len.symm, fun i x hx => h3.getD hx, fun ms' xs' hk => ?_⟩
  have hp : H p ≠ none := by rw [h2]; simp
  have N := List.nodup_append.mp nd
  have np1 : p ∉ q := (List.nodup_cons.mp N.1).1
  have np2 : p ∉ ft := fun hm => N.2.2 p (by simp) p hm rfl
  have nd2 : (q ++ ft).Nodup := (List.nodup_cons.mp nd).2
  obtain ⟨q', w1, w2, w3⟩ := hk (upd H p (.lst xs')) q ft (RML.frame (Same.refl _) _ _ _ h3 fun a ha => upd_ne (fun z : a = p => np1 (z ▸ ha))) (t1.frame (Same.refl _) fun a ha => upd_ne (fun z : a = p => np2 (z ▸ ha))) nd2
  have hin : ∀ a ∈ p :: q', a ∈ p :: q ∨ a ∈ ft := fun a ha => by
    rcases List.mem_cons.mp ha with rfl | ha
    · exact .inl (by simp)
    · rcases List.mem_append.mp (w2 a ha) with z | z
      · exact .inl (by simp [z])
      · exact .inr z
  have npq : p ∉ q' := fun hm => by
    rcases List.mem_append.mp (w2 p hm) with z | z
    · exact np1 z
    · exact np2 z
  have := go G (upd H p (.lst xs')) (.o k (.lst ms')) (some (.ref p)) (p :: q') [] [] ⟨Same.refl _, gh_upd I.st.gh (gn p (by simp)), fun _ _ h => h, fun a o h1 h2 => by
      rw [upd_ne (fun z : a = p => h2 (by simp [z]))]; exact h1, dm_upd hp⟩ ?_ rfl (by simp [npq, w3]) (fun a ha => by
      rcases hin a (by simpa using ha) with z | z
      · exact .inl z
      · exact .inr (.inl z)) (fun a ha => by
      rcases hin a (by simpa using ha) with z | z
      · exact gn a (by simp at z ⊢; grind)
      · exact gn a (by simp [z]))
  · rw [set_self e1] at this
    exact this
  · refine ⟨.ref p, rfl, by simp only [RM]; exact ⟨p, xs', q', rfl, upd_same, w1, rfl⟩, ?_⟩
    cases k with
    | none =>
      intro a ha
      rcases hin a ha with z | z
      · exact q3 a z
      · exact old a z
    | some jj =>
      refine ⟨q3.1, fun a ha => ?_⟩
      rcases hin a ha with z | z
      · exact q3.2 a z
      · exact .inr (old a z)
end
section
variable {X : Cx} {e e1 e2 e3 : Expr} {es : List Expr} {st : Stmt} {sts : List Stmt} {pos : Pos} {f f1 f2 f3 : Ev} {fs : Av} {src : List (Option Nat)} {x : Str} {t t1 t2 : Tv} {k1 k2 : Sv}
/-- name[i], the name's list owned -/
def isO (b : List B) (j : Nat) : Bool := match b[j]? with
  | some (.o _ _) => true
  | _ => false
def fIxO (j : Nat) (f : Ev) : Ev := fun b => if isO b j = true then (match f b with
  | some (.d (.int i), b1) => (match b1[j]? with
    | some (.o _ (.lst ms)) => (match atI ms i with
      | some (.d x) => some (.d x, b1)
      | _ => none)
    | _ => none)
  | _ => none) else none
theorem isO_v {K : PySem.W.Frag} {c : Cg} {G H : Hp} {σ : L2.St} {b : List B} {T : List (M × V)} {j : Nat} (I : Iv K c G H σ b T) (h : isO b j = true) : ∃ v, σ[j]? = some (some v) := by
  unfold isO at h
  split at h
  · rename_i k m e
    obtain ⟨v, f, q, _⟩ := I.getO e
    exact ⟨v, q⟩
  · cases h
theorem e_ixO (j : Nat) {px : Pos} (h : EM X e f) (hs : PlainIx e := by intro _ _; rfl) (hN : X.N[j]? = some x := by rfl) (hv : Vis X.env.scope x := by first | exact Or.inl rfl | exact Or.inr (Or.inl rfl) | exact Or.inr (Or.inr rfl)) (hd : (x == ("__debug__" : Str)) = false := by decide)
    (hcd : (x == ("__classdict__" : Str)) = false := by decide) : EM X (.Subscript (.Name x px) e pos) (fIxO j f) := (pe_ix ix_list (pv j hN hv hd hcd) h hs).wk fun σ H Q => by
  rintro ⟨c, G, b, T, m, b', hf, I, q⟩
  unfold fIxO at hf
  split at hf
  · rename_i ho
    obtain ⟨v0, hv0⟩ := isO_v I ho
    split at hf
    · rename_i i b1 e1
      split at hf
      · rename_i k ms e2
        split at hf
        · rename_i x e3
          cases hf
          refine ⟨v0, hv0, c, G, b, T, _, b', e1, I, fun y G1 H1 I1 => ?_⟩
          have r := I1.topD
          simp only [Rp] at r
          obtain ⟨p, xs, h1, h2, h3, h4, _⟩ := Iv.mutL (T1 := []) I1.drop e2
          rw [hv0] at h1
          cases h1
          unfold atI at e3
          cases e4 : ixN ms.length i with
          | none => rw [e4] at e3; cases e3
          | some jj =>
            rw [e4] at e3
            obtain ⟨u, q1, q2⟩ := h4 jj x e3
            exact ⟨p, xs, i, u, rfl, r, SqL.of h2, by unfold atI; rw [h3, e4]; exact q1, q u G1 H1 (I1.drop.pushD q2)⟩
        · cases hf
      · cases hf
    · cases hf
  · cases hf
/-- name[i] = e, the name's list owned -/
def sIxO (j : Nat) (f fi : Ev) : Sv := fun b => match f b with
  | some (m, b1) => if isO b1 j = true then (match fi b1 with
    | some (.d (.int i), b2) => (match b2[j]? with
      | some (.o k (.lst ms)) => (match ixN ms.length i with
        | some jj => some (.nx, b2.set j (.o k (.lst (ms.set jj m))))
        | none => none)
      | _ => none)
    | _ => none) else none
  | none => none
theorem s_ixO (j : Nat) {px pq : Pos} (h : EM X e1 f1) (hi : EM X e f) (hN : X.N[j]? = some x := by rfl) (hv : Vis X.env.scope x := by first | exact Or.inl rfl | exact Or.inr (Or.inl rfl) | exact Or.inr (Or.inr rfl)) (hd : (x == ("__debug__" : Str)) = false := by decide)
    (hcd : (x == ("__classdict__" : Str)) = false := by decide)
    (ha : ∀ v, assign (.Subscript (.Name x px) e pq) X.env v = (do
      let ov ← holding [v] (eval (.Name x px) X.env)
      let iv ← holding [v, ov] (eval e X.env)
      standAt pq
      holding [v, ov, iv] (setItem ov iv v)
      release [v, ov, iv] []) := by intro _; rfl)
    (hs : swapsWithSole [.Subscript (.Name x px) e pq] e1 pos.line X.env = pure false := by rfl) (hw : swappedStores [.Subscript (.Name x px) e pq] e1 X.env = pure none := by rfl)
    (h1 : (assignEach [.Subscript (.Name x px) e pq] X.env).map (·.2) = [assign (.Subscript (.Name x px) e pq) X.env] := by rfl) :
    SM X (.Assign [.Subscript (.Name x px) e pq] e1 pos) (sIxO j f1 f) := (ps_asg h (pg_sub (pv j hN hv hd hcd) hi set_list ha) hs hw h1).wk fun D σ H => by
  rintro ⟨c, G, b, T, r, b', hf, I, q⟩
  unfold sIxO at hf
  split at hf
  · rename_i m b1 e1
    split at hf
    · rename_i ho
      split at hf
      · rename_i i b2 e2
        split at hf
        · rename_i k ms e3
          split at hf
          · rename_i jj e4
            cases hf
            refine ⟨c, G, b, T, m, b1, e1, I, fun v G1 H1 I1 => ?_⟩
            obtain ⟨v0, hv0⟩ := isO_v I1 ho
            refine ⟨v0, hv0, c, G1, b1, _, _, b2, e2, I1, fun y G2 H2 I2 => ?_⟩
            have r := I2.topD
            simp only [Rp] at r
            obtain ⟨p, xs, h1, h2, h3, h4, h5⟩ := Iv.mutL (T1 := [(m, v)]) I2.drop e3
            rw [hv0] at h1
            cases h1
            refine ⟨p, xs, i, jj, rfl, r, h2, by rw [h3]; exact e4, q σ G2 _ (h5 (ms.set jj m) (xs.set jj v) fun H3 q ft a1 a2 a3 => ?_)⟩
            obtain ⟨f1, f2, w1, w2, w3, rfl⟩ := a2
            have w3 : f2 = [] := w3
            subst w3
            simp only [List.append_nil] at a3 ⊢
            exact RML.set a1 w1 a3
          · cases hf
        · cases hf
      · cases hf
    · cases hf
  · cases hf
/-- name.append(e) -/
def sApp (j : Nat) (f : Ev) : Sv := fun b => if isO b j = true then (match b[j]? with
  | some (.o _ (.lst _)) => (match f b with
    | some (m, b1) => (match b1[j]? with
      | some (.o k (.lst ms)) => if ms.length < 1000000 then some (.nx, b1.set j (.o k (.lst (ms ++ [m])))) else none
      | _ => none)
    | none => none)
  | _ => none) else none
theorem s_app (j : Nat) {px p2 p3 : Pos} (h : EM X e f) (hN : X.N[j]? = some x := by rfl) (hv : Vis X.env.scope x := by first | exact Or.inl rfl | exact Or.inr (Or.inl rfl) | exact Or.inr (Or.inr rfl)) (hd : (x == ("__debug__" : Str)) = false := by decide)
    (hcd : (x == ("__classdict__" : Str)) = false := by decide)
    (hbase : attributeBase (.Name x px) "append" X.env (eval (.Name x px) X.env) = eval (.Name x px) X.env := by rfl)
    (hfew : ((backTo p3 (starEach (e :: []) X.env)).all (fun x => !x.1) && (backToKw p3 (keywordEach [] X.env)).all (fun x => x.1.isSome)
      && decide ((e :: []).length + ([] : List Keyword).length + (if ([] : List Keyword).isEmpty then 0 else 1) < 30)) = true := by rfl)
    (hline : (p2.endLine == p3.line) = true := by rfl) (hs : starEach (e :: []) X.env = (false, eval e X.env) :: starEach [] X.env := by rfl) (hplain : (backTo p3 (starEach [] X.env)).any (·.1) = false := by rfl)
    (hsw : swapsWith (.Call (.Attribute (.Name x px) "append" p2) [e] [] p3) none pos.line X.env = pure false := by rfl) :
    SM X (.Expr (.Call (.Attribute (.Name x px) "append" p2) [e] [] p3) pos) (sApp j f) := (ps_expr (pe_bm PySem.F.plainAttrs_list PySem.F.slot_list_append PySem.F.type_list_append mt_append (pv j hN hv hd hcd) (pa_cons h pa_nil hs) hbase hfew hline hs hplain) hsw).wk fun D σ H => by
  rintro ⟨c, G, b, T, r, b', hf, I, q⟩
  unfold sApp at hf
  split at hf
  · split at hf
    · rename_i ho k0 ms0 e0
      split at hf
      · rename_i m b1 e1
        split at hf
        · rename_i k ms e2
          split at hf
          · rename_i hz
            cases hf
            obtain ⟨p0, xs0, h01, h02, _⟩ := Iv.mutL (T1 := []) I e0
            refine ⟨_, h01, .inl ⟨rfl, xs0, SqL.of h02⟩, c, G, b, T, m, b1, e1, I, fun v G1 H1 I1 => ?_⟩
            obtain ⟨p, xs, h1, h2, h3, h4, h5⟩ := Iv.mutL (T1 := [(m, v)]) I1 e2
            rw [h01] at h1
            cases h1
            refine ⟨_, xs, v, rfl, rfl, h2, by rw [h3]; exact lt_line (by omega), q σ G1 _ (h5 (ms ++ [m]) (xs ++ [v]) fun H3 q ft a1 a2 a3 => ?_)⟩
            obtain ⟨f1, f2, w1, w2, w3, rfl⟩ := a2
            have w3 : f2 = [] := w3
            subst w3
            simp only [List.append_nil] at a3 ⊢
            exact ⟨q ++ f1, RML.app a1 w1, fun a ha => ha, a3⟩
          · cases hf
        · cases hf
      · cases hf
    · cases hf
  · cases hf
end
end PL

namespace PL
open PySem PySem.Spec PyProof.Rows L2
/-! ### - * // % ** -/
def gSub : D → D → Option D := gInt0 fun i j => .int (i - j)
def gMod : D → D → Option D := gInt (fun _ j => decide (0 < j)) fun i j => .int (i % j)
def gDiv : D → D → Option D := gInt (fun _ j => decide (0 < j ∧ j.natAbs < 2 ^ 8000)) fun i j => .int (i / j)
def gPow : D → D → Option D := gInt (fun i j => decide (0 ≤ j ∧ j ≤ 64 ∧ i.natAbs < 2 ^ 20000)) fun i j => .int (i ^ j.toNat)
def CPowW (i j : Int) : Prop := 0 ≤ j ∧ (Builtin.Int.intBits i : Int) * j ≤ 2 ^ 27
theorem op_powW {X : Cx} : OpR X (binaryOp .Pow) (rI CPowW fun i j => .int (i ^ j.toNat)) := opI fun _ _ _ _ _ _ _ hc q => pow_int hc.1 hc.2 q
theorem os_sub {K : PySem.W.Frag} : OpS K (rI0 fun i j => .int (i - j)) (g2 gSub) := os_int0 fun _ _ _ => rp_int
theorem os_mod {K : PySem.W.Frag} : OpS K (rI (fun _ j => 0 < j) fun i j => .int (i % j)) (g2 gMod) := os_int (fun _ _ h => of_decide_eq_true h) fun _ _ _ => rp_int
theorem os_div {K : PySem.W.Frag} : OpS K (rI CDivW fun i j => .int (i / j)) (g2 gDiv) := os_int (fun i j h => wide_div (of_decide_eq_true h).1 (of_decide_eq_true h).2 (by decide) (by decide)) fun _ _ _ => rp_int
theorem os_pow {K : PySem.W.Frag} : OpS K (rI CPowW fun i j => .int (i ^ j.toNat)) (g2 gPow) := os_int (fun i j h => by
  have h := of_decide_eq_true h
  refine ⟨h.1, ?_⟩
  have hb : Builtin.Int.intBits i ≤ 20000 := by
    unfold Builtin.Int.intBits
    split
    · omega
    · have := PySem.Flt.log2_lt_of (by decide : 0 < 20000) h.2.2
      omega
  have : (Builtin.Int.intBits i : Int) * j ≤ 20000 * 64 := Int.mul_le_mul (by omega) h.2.1 h.1 (by omega)
  omega) fun _ _ _ => rp_int
def gMul : D → D → Option M
  | .int i, .int j => if i.natAbs < 2 ^ 60 ∨ j.natAbs < 2 ^ 60 then some (.d (.int (i * j))) else none
  | .lst xs, .int k => if -1000000 ≤ k ∧ k ≤ 1000000 ∧ xs.length * k.toNat ≤ 1000000 then some (.lst ((List.replicate k.toNat xs).flatten.map .d)) else none
  | _, _ => none
def rMul : R2 := fun x y H Q => rI CMul (fun i j => .int (i * j)) x y H Q ∨ rRep x y H Q
theorem op_mulU {X : Cx} : OpR X (binaryOp .Mult) rMul := op_mul.or op_rep
theorem RpL.rep {K : PySem.W.Frag} {G : Hp} {ds : List D} {xs : List V} (h : RpL K G ds xs) : ∀ n, RpL K G (List.replicate n ds).flatten (List.replicate n xs).flatten
  | 0 => by simp [RpL]
  | n + 1 => by
    simp only [List.replicate_succ, List.flatten_cons]
    exact h.app (h.rep n)
theorem os_mul {K : PySem.W.Frag} : OpS K rMul (g2m gMul) := by
  intro c G H σ b T x y m1 m2 m Q hg I q
  unfold g2m at hg
  split at hg
  · rename_i d1 d2
    have r2 := I.topD
    have r1 := I.drop.topD
    have I0 := I.drop.drop
    unfold gMul at hg
    split at hg
    · split at hg
      · rename_i hz
        cases hg
        simp only [Rp] at r1 r2
        refine .inl ⟨_, _, r1, r2, ?_, q _ G H (I0.pushD rp_int)⟩
        unfold CMul
        omega
      · cases hg
    · split at hg
      · rename_i hz
        cases hg
        simp only [Rp] at r1 r2
        obtain ⟨p1, v1, h1, h2, h3⟩ := r1
        refine .inr ⟨p1, _, v1, h1, r2, I0.st.gh _ _ h2, by omega, by omega, ?_, fun p hp => q _ G _ (I0.newL hp (h3.rep _))⟩
        rw [← h3.len]
        exact le_line hz.2.2
      · cases hg
    · cases hg
  · cases hg
section
variable {X : Cx} {e e1 e2 e3 : Expr} {es : List Expr} {pos : Pos} {f f1 f2 f3 : Ev} {fs : Av} {src : List (Option Nat)} {x : Str}
theorem e_add (h1 : EM X e1 f1) (h2 : EM X e2 f2) : EM X (.BinOp e1 .Add e2 pos) (fOp (g2m gAdd) f1 f2) := e_op op_addU os_add h1 h2
theorem e_sub (h1 : EM X e1 f1) (h2 : EM X e2 f2) : EM X (.BinOp e1 .Sub e2 pos) (fOp (g2 gSub) f1 f2) := e_op op_sub os_sub h1 h2
theorem e_mul (h1 : EM X e1 f1) (h2 : EM X e2 f2) : EM X (.BinOp e1 .Mult e2 pos) (fOp (g2m gMul) f1 f2) := e_op op_mulU os_mul h1 h2
theorem e_div (h1 : EM X e1 f1) (h2 : EM X e2 f2) : EM X (.BinOp e1 .FloorDiv e2 pos) (fOp (g2 gDiv) f1 f2) := e_op op_fdivW os_div h1 h2
theorem e_mod (h1 : EM X e1 f1) (h2 : EM X e2 f2) : EM X (.BinOp e1 .Mod e2 pos) (fOp (g2 gMod) f1 f2) := e_op op_mod os_mod h1 h2
theorem e_pow (h1 : EM X e1 f1) (h2 : EM X e2 f2) : EM X (.BinOp e1 .Pow e2 pos) (fOp (g2 gPow) f1 f2) := e_op op_powW os_pow h1 h2
def gNeg : M → Option M
  | .d (.int i) => some (.d (.int (-i)))
  | _ => none
def fUn (g : M → Option M) (f : Ev) : Ev := fun b => match f b with
  | some (m, b1) => (match g m with
    | some m' => some (m', b1)
    | none => none)
  | none => none
theorem e_neg (h : EM X e f) : EM X (.UnaryOp .USub e pos) (fUn gNeg f) := (pe_un un_neg h).wk fun σ H Q => by
  rintro ⟨c, G, b, T, m, b', hf, I, q⟩
  unfold fUn at hf
  split at hf
  · rename_i m1 b1 e1
    unfold gNeg at hf
    split at hf
    · rename_i hg
      split at hg
      · cases hg
        cases hf
        refine ⟨c, G, b, T, _, _, e1, I, fun v G' H' I' => ?_⟩
        have r := I'.topD
        simp only [Rp] at r
        exact ⟨_, r, q _ G' H' (I'.drop.pushD rp_int)⟩
      · cases hg
    · cases hf
  · cases hf
/-! ### comparisons -/
def gLt : D → D → Option D := gC fun i j => decide (i < j)
def gLe : D → D → Option D := gC fun i j => decide (i ≤ j)
def gGt : D → D → Option D := gC fun i j => decide (j < i)
def gGe : D → D → Option D := gC fun i j => decide (j ≤ i)
theorem e_lt (h1 : EM X e1 f1) (h2 : EM X e2 f2) : EM X (.Compare e1 [.Lt] [e2] pos) (fOp (g2 gLt) f1 f2) := e_cmp op_lt pu_c.os h1 h2 (nomark _)
theorem e_le (h1 : EM X e1 f1) (h2 : EM X e2 f2) : EM X (.Compare e1 [.LtE] [e2] pos) (fOp (g2 gLe) f1 f2) := e_cmp op_le pu_c.os h1 h2 (nomark _)
theorem e_gt (h1 : EM X e1 f1) (h2 : EM X e2 f2) : EM X (.Compare e1 [.Gt] [e2] pos) (fOp (g2 gGt) f1 f2) := e_cmp op_gt pu_c.os h1 h2 (nomark _)
theorem e_ge (h1 : EM X e1 f1) (h2 : EM X e2 f2) : EM X (.Compare e1 [.GtE] [e2] pos) (fOp (g2 gGe) f1 f2) := e_cmp op_ge pu_c.os h1 h2 (nomark _)
theorem e_eq {k : Nat} (hr : Room k X.A) (h1 : EM X e1 f1) (h2 : EM X e2 f2) : EM X (.Compare e1 [.Eq] [e2] pos) (fOp (g2 gEq) f1 f2) := e_cmp (op_eqD hr.units) pu_eq.os h1 h2 (nomark _)
theorem e_ne {k : Nat} (hr : Room k X.A) (h1 : EM X e1 f1) (h2 : EM X e2 f2) : EM X (.Compare e1 [.NotEq] [e2] pos) (fOp (g2 gNe) f1 f2) := e_cmp (op_neD hr.units) pu_ne.os h1 h2 (nomark _)
theorem e_isN (h1 : EM X e1 f1) (h2 : EM X e2 f2) : EM X (.Compare e1 [.Is] [e2] pos) (fOp (g2 (gIsN true)) f1 f2) := e_cmp op_isN pu_isN.os h1 h2 (nomark _)
theorem e_notN (h1 : EM X e1 f1) (h2 : EM X e2 f2) : EM X (.Compare e1 [.IsNot] [e2] pos) (fOp (g2 (gIsN false)) f1 f2) := e_cmp op_notN pu_notN.os h1 h2 (nomark _)
theorem e_in (h1 : EM X e1 f1) (h2 : EM X e2 f2) (hm : behindInMarks .In e2 = false := by rfl) : EM X (.Compare e1 [.In] [e2] pos) (fOp (g2 (gIn false)) f1 f2) := e_cmp op_in_seq pu_in.os h1 h2 hm
theorem e_nin (h1 : EM X e1 f1) (h2 : EM X e2 f2) (hm : behindInMarks .NotIn e2 = false := by rfl) : EM X (.Compare e1 [.NotIn] [e2] pos) (fOp (g2 (gIn true)) f1 f2) := e_cmp op_notIn_seq pu_in.os h1 h2 hm
theorem e_inS (h1 : EM X e1 f1) (h2 : EM X e2 f2) (hm : behindInMarks .In e2 = false := by rfl) : EM X (.Compare e1 [.In] [e2] pos) (fOp (g2 (gInS false)) f1 f2) := e_cmp op_in_str pu_inS.os h1 h2 hm
theorem t_lt (h1 : EM X e1 f1) (h2 : EM X e2 f2) : TM X (.Compare e1 [.Lt] [e2] pos) (fT (fOp (g2 gLt) f1 f2)) := t_cmp op_lt pu_c.os h1 h2 (nomark _)
theorem t_le (h1 : EM X e1 f1) (h2 : EM X e2 f2) : TM X (.Compare e1 [.LtE] [e2] pos) (fT (fOp (g2 gLe) f1 f2)) := t_cmp op_le pu_c.os h1 h2 (nomark _)
theorem t_gt (h1 : EM X e1 f1) (h2 : EM X e2 f2) : TM X (.Compare e1 [.Gt] [e2] pos) (fT (fOp (g2 gGt) f1 f2)) := t_cmp op_gt pu_c.os h1 h2 (nomark _)
theorem t_ge (h1 : EM X e1 f1) (h2 : EM X e2 f2) : TM X (.Compare e1 [.GtE] [e2] pos) (fT (fOp (g2 gGe) f1 f2)) := t_cmp op_ge pu_c.os h1 h2 (nomark _)
theorem t_eq {k : Nat} (hr : Room k X.A) (h1 : EM X e1 f1) (h2 : EM X e2 f2) : TM X (.Compare e1 [.Eq] [e2] pos) (fT (fOp (g2 gEq) f1 f2)) := t_cmp (op_eqD hr.units) pu_eq.os h1 h2 (nomark _)
theorem t_ne {k : Nat} (hr : Room k X.A) (h1 : EM X e1 f1) (h2 : EM X e2 f2) : TM X (.Compare e1 [.NotEq] [e2] pos) (fT (fOp (g2 gNe) f1 f2)) := t_cmp (op_neD hr.units) pu_ne.os h1 h2 (nomark _)
theorem t_isN (h1 : EM X e1 f1) (h2 : EM X e2 f2) : TM X (.Compare e1 [.Is] [e2] pos) (fT (fOp (g2 (gIsN true)) f1 f2)) := t_cmp op_isN pu_isN.os h1 h2 (nomark _)
theorem t_notN (h1 : EM X e1 f1) (h2 : EM X e2 f2) : TM X (.Compare e1 [.IsNot] [e2] pos) (fT (fOp (g2 (gIsN false)) f1 f2)) := t_cmp op_notN pu_notN.os h1 h2 (nomark _)
theorem t_in (h1 : EM X e1 f1) (h2 : EM X e2 f2) (hm : behindInMarks .In e2 = false := by rfl) : TM X (.Compare e1 [.In] [e2] pos) (fT (fOp (g2 (gIn false)) f1 f2)) := t_cmp op_in_seq pu_in.os h1 h2 hm
theorem t_nin (h1 : EM X e1 f1) (h2 : EM X e2 f2) (hm : behindInMarks .NotIn e2 = false := by rfl) : TM X (.Compare e1 [.NotIn] [e2] pos) (fT (fOp (g2 (gIn true)) f1 f2)) := t_cmp op_notIn_seq pu_in.os h1 h2 hm
/-- name cmp e, the name's thing owned -/
def fOpO (g : D → D → Option D) (j : Nat) (f : Ev) : Ev := fun b => if isO b j = true then (match f b with
  | some (.d y, b1) => (match b1[j]? with
    | some (.o _ m) => (match g m.toD y with
      | some d => some (.d d, b1)
      | none => none)
    | _ => none)
  | _ => none) else none
theorem opO_in {K : PySem.W.Frag} {r : R2} {g : D → D → Option D} {j : Nat} (hs : PuS K r g) : ∀ σ H Q, teO K (fOpO g j f) σ H Q → tOp r (tVar j) (teO K f) σ H Q := fun σ H Q => by
  rintro ⟨c, G, b, T, m, b', hf, I, q⟩
  unfold fOpO at hf
  split at hf
  · rename_i ho
    obtain ⟨v0, hv0⟩ := isO_v I ho
    split at hf
    · rename_i y b1 e1
      split at hf
      · rename_i k m e2
        split at hf
        · rename_i d e3
          cases hf
          refine ⟨v0, hv0, c, G, b, T, _, b', e1, I, fun v G1 H1 I1 => ?_⟩
          obtain ⟨u, ff, h1, h2⟩ := I1.drop.getO e2
          rw [hv0] at h1
          cases h1
          exact hs H1 v0 v m.toD y d Q e3 (h2.now I1.st.gh) (Rp.mono I1.st.gh _ _ I1.topD) fun v hv => q v G1 H1 (I1.drop.pushD (hv G1))
        · cases hf
      · cases hf
    · cases hf
  · cases hf
theorem e_neO {k : Nat} (j : Nat) {px : Pos} (hr : Room k X.A) (h : EM X e f) (hN : X.N[j]? = some x := by rfl) (hv : Vis X.env.scope x := by first | exact Or.inl rfl | exact Or.inr (Or.inl rfl) | exact Or.inr (Or.inr rfl)) (hd : (x == ("__debug__" : Str)) = false := by decide)
    (hcd : (x == ("__classdict__" : Str)) = false := by decide) : EM X (.Compare (.Name x px) [.NotEq] [e] pos) (fOpO gNe j f) := (pe_cmpR (op_neD hr.units) (pv j hN hv hd hcd) h (nomark _)).wk (opO_in pu_ne)
theorem e_eqO {k : Nat} (j : Nat) {px : Pos} (hr : Room k X.A) (h : EM X e f) (hN : X.N[j]? = some x := by rfl) (hv : Vis X.env.scope x := by first | exact Or.inl rfl | exact Or.inr (Or.inl rfl) | exact Or.inr (Or.inr rfl)) (hd : (x == ("__debug__" : Str)) = false := by decide)
    (hcd : (x == ("__classdict__" : Str)) = false := by decide) : EM X (.Compare (.Name x px) [.Eq] [e] pos) (fOpO gEq j f) := (pe_cmpR (op_eqD hr.units) (pv j hN hv hd hcd) h (nomark _)).wk (opO_in pu_eq)
theorem t_neO {k : Nat} (j : Nat) {px : Pos} (hr : Room k X.A) (h : EM X e f) (hN : X.N[j]? = some x := by rfl) (hv : Vis X.env.scope x := by first | exact Or.inl rfl | exact Or.inr (Or.inl rfl) | exact Or.inr (Or.inr rfl)) (hd : (x == ("__debug__" : Str)) = false := by decide)
    (hcd : (x == ("__classdict__" : Str)) = false := by decide) : TM X (.Compare (.Name x px) [.NotEq] [e] pos) (fT (fOpO gNe j f)) := t_tTest (pt_cmpR (op_neD hr.units) (pv j hN hv hd hcd) h (nomark _)) (opO_in pu_ne)
theorem t_eqO {k : Nat} (j : Nat) {px : Pos} (hr : Room k X.A) (h : EM X e f) (hN : X.N[j]? = some x := by rfl) (hv : Vis X.env.scope x := by first | exact Or.inl rfl | exact Or.inr (Or.inl rfl) | exact Or.inr (Or.inr rfl)) (hd : (x == ("__debug__" : Str)) = false := by decide)
    (hcd : (x == ("__classdict__" : Str)) = false := by decide) : TM X (.Compare (.Name x px) [.Eq] [e] pos) (fT (fOpO gEq j f)) := t_tTest (pt_cmpR (op_eqD hr.units) (pv j hN hv hd hcd) h (nomark _)) (opO_in pu_eq)
end
/-! ### built-ins -/
/-- one data in, a scalar out -/
def g1 (g : D → Option D) : List M → Option M
  | [.d x] => (match g x with
    | some d => some (.d d)
    | none => none)
  | _ => none
def g1m (g : D → Option M) : List M → Option M
  | [.d x] => g x
  | _ => none
def g22 (g : D → D → Option D) : List M → Option M
  | [.d x, .d y] => (match g x y with
    | some d => some (.d d)
    | none => none)
  | _ => none
section
variable {K : PySem.W.Frag}
theorem cs1 {r : List V → Hp → VK → Prop} {g : D → Option D} (h : ∀ (H : Hp) (x : V) (d1 d : D) (Q : VK), g d1 = some d → Rp K H d1 x → (∀ v, (∀ G, Rp K G d v) → Q v H) → r [x] H Q) : CaS K r (g1 g) := by
  intro c G H σ b T ms us m Q hg hl I q
  unfold g1 at hg
  split at hg
  · rename_i x
    split at hg
    · rename_i d e
      cases hg
      obtain ⟨u, rfl⟩ := len1 hl
      have I' : Iv K c G H σ b ((.d x, u) :: T) := I
      exact h H u x d Q e (Rp.mono I.st.gh _ _ I'.topD) fun v hv => q v G H (I'.drop.pushD (hv G))
    · cases hg
  · cases hg
theorem cs22 {r : List V → Hp → VK → Prop} {g : D → D → Option D} (h : ∀ (H : Hp) (x y : V) (d1 d2 d : D) (Q : VK), g d1 d2 = some d → Rp K H d1 x → Rp K H d2 y → (∀ v, (∀ G, Rp K G d v) → Q v H) → r [x, y] H Q) : CaS K r (g22 g) := by
  intro c G H σ b T ms us m Q hg hl I q
  unfold g22 at hg
  split at hg
  · rename_i x y
    split at hg
    · rename_i d e
      cases hg
      obtain ⟨u, v, rfl⟩ := len2 hl
      have I' : Iv K c G H σ b ((.d x, u) :: (.d y, v) :: T) := I
      exact h H u v x y d Q e (Rp.mono I.st.gh _ _ I'.topD) (Rp.mono I.st.gh _ _ I'.drop.topD) fun v hv => q v G H (I'.drop.drop.pushD (hv G))
    · cases hg
  · cases hg
def gLen : D → Option D
  | .tup ds => some (.int ds.length)
  | .lst ds => some (.int ds.length)
  | .seq ds => some (.int ds.length)
  | .str z => if z.length ≤ 1000000 then some (.int z.length) else none
  | _ => none
theorem cs_len : CaS K (fun xs H Q => ∃ x n, xs = [x] ∧ LenV K x H n ∧ Q (.int n) H) (g1 gLen) := cs1 fun H x d1 d Q hg r q => by
  unfold gLen at hg
  split at hg
  · cases hg
    simp only [Rp] at r
    obtain ⟨p, xs, rfl, h2, h3⟩ := r
    exact ⟨_, _, rfl, .inr ⟨xs, h2, by rw [h3.len]⟩, q _ fun _ => rp_int⟩
  · cases hg
    simp only [Rp] at r
    obtain ⟨p, xs, rfl, h2, h3⟩ := r
    exact ⟨_, _, rfl, .inl ⟨xs, SqL.of h2, by rw [h3.len]⟩, q _ fun _ => rp_int⟩
  · cases hg
    simp only [Rp] at r
    obtain ⟨p, xs, rfl, h2, h3⟩ := r
    exact ⟨_, _, rfl, .inl ⟨xs, h2, by rw [h3.len]⟩, q _ fun _ => rp_int⟩
  · split at hg
    · rename_i hz
      cases hg
      simp only [Rp] at r
      subst r
      exact ⟨_, _, rfl, ⟨le_line hz, rfl⟩, q _ fun _ => rp_int⟩
    · cases hg
  · cases hg
def gToInt : D → Option D
  | .int i => some (.int i)
  | .bl k => some (.int (if k then 1 else 0))
  | _ => none
theorem cs_int : CaS K (fun xs H Q => (∃ i, xs = [.int i] ∧ Q (.int i) H) ∨ ∃ k, xs = [.bl k] ∧ Q (.int (if k then 1 else 0)) H) (g1 gToInt) := cs1 fun H x d1 d Q hg r q => by
  unfold gToInt at hg
  split at hg
  · cases hg
    simp only [Rp] at r
    subst r
    exact .inl ⟨_, rfl, q _ fun _ => rp_int⟩
  · cases hg
    simp only [Rp] at r
    subst r
    exact .inr ⟨_, rfl, q _ fun _ => rp_int⟩
  · cases hg
def gAbs : D → Option D
  | .int i => some (.int (if i < 0 then -i else i))
  | _ => none
theorem cs_abs : CaS K (fun xs H Q => ∃ i, xs = [.int i] ∧ Q (.int (if i < 0 then -i else i)) H) (g1 gAbs) := cs1 fun H x d1 d Q hg r q => by
  unfold gAbs at hg
  split at hg
  · cases hg
    simp only [Rp] at r
    subst r
    exact ⟨_, rfl, q _ fun _ => rp_int⟩
  · cases hg
def gMax : D → D → Option D
  | .int i, .int j => some (.int (if j > i then j else i))
  | _, _ => none
def gMin : D → D → Option D
  | .int i, .int j => some (.int (if j < i then j else i))
  | _, _ => none
theorem cs_max : CaS K (fun xs H Q => ∃ i j, xs = [.int i, .int j] ∧ Q (.int (if j > i then j else i)) H) (g22 gMax) := cs22 fun H x y d1 d2 d Q hg r1 r2 q => by
  unfold gMax at hg
  split at hg
  · cases hg
    simp only [Rp] at r1 r2
    subst r1 r2
    exact ⟨_, _, rfl, q _ fun _ => rp_int⟩
  · cases hg
theorem cs_min : CaS K (fun xs H Q => ∃ i j, xs = [.int i, .int j] ∧ Q (.int (if j < i then j else i)) H) (g22 gMin) := cs22 fun H x y d1 d2 d Q hg r1 r2 q => by
  unfold gMin at hg
  split at hg
  · cases hg
    simp only [Rp] at r1 r2
    subst r1 r2
    exact ⟨_, _, rfl, q _ fun _ => rp_int⟩
  · cases hg
/-- tuple(x), list(x) -/
def gTupOf : D → Option M
  | .tup ds => some (.d (.tup ds))
  | .lst ds => some (.d (.tup ds))
  | _ => none
theorem cs_tup : CaS K (fun xs H Q => ∃ p ys, xs = [.ref p] ∧ ((SqL K H p ys ∧ ∀ l, H l = none → Q (.ref l) (upd H l (.tup ys))) ∨ (SqT K H p ys ∧ Q (.ref p) H))) (g1m gTupOf) := by
  intro c G H σ b T ms us m Q hg hl I q
  unfold g1m at hg
  split at hg
  · rename_i x
    obtain ⟨u, rfl⟩ := len1 hl
    have I' : Iv K c G H σ b ((.d x, u) :: T) := I
    have r := I'.topD
    unfold gTupOf at hg
    split at hg
    · cases hg
      have r0 := r
      simp only [Rp] at r
      obtain ⟨p, xs, rfl, h2, h3⟩ := r
      exact ⟨p, xs, rfl, .inr ⟨sqt_mono I.st.gh h2, q _ G H (I'.drop.pushD r0)⟩⟩
    · cases hg
      simp only [Rp] at r
      obtain ⟨p, xs, rfl, h2, h3⟩ := r
      exact ⟨p, xs, rfl, .inl ⟨I.st.gh.seq (SqL.of h2), fun l hl => q _ _ _ (I'.drop.newT hl h3)⟩⟩
    · cases hg
  · cases hg
def gLstOf : D → Option M
  | .tup ds => some (.lst (ds.map .d))
  | .lst ds => some (.lst (ds.map .d))
  | _ => none
theorem cs_lst : CaS K (fun xs H Q => ∃ p ys, xs = [.ref p] ∧ (SqL K H p ys ∨ SqT K H p ys) ∧ ∀ l, H l = none → Q (.ref l) (upd H l (.lst ys))) (g1m gLstOf) := by
  intro c G H σ b T ms us m Q hg hl I q
  unfold g1m at hg
  split at hg
  · rename_i x
    obtain ⟨u, rfl⟩ := len1 hl
    have I' : Iv K c G H σ b ((.d x, u) :: T) := I
    have r := I'.topD
    unfold gLstOf at hg
    split at hg
    · cases hg
      simp only [Rp] at r
      obtain ⟨p, xs, rfl, h2, h3⟩ := r
      exact ⟨p, xs, rfl, .inr (sqt_mono I.st.gh h2), fun l hl => q _ _ _ (I'.drop.newL hl h3)⟩
    · cases hg
      simp only [Rp] at r
      obtain ⟨p, xs, rfl, h2, h3⟩ := r
      exact ⟨p, xs, rfl, .inl (I.st.gh.seq (SqL.of h2)), fun l hl => q _ _ _ (I'.drop.newL hl h3)⟩
    · cases hg
  · cases hg
/-- all(..), sum(..) of a list -/
def D.bls : List D → Option (List Bool)
  | [] => some []
  | .bl k :: ds => (match D.bls ds with
    | some ks => some (k :: ks)
    | none => none)
  | _ :: _ => none
def D.ints : List D → Option (List Int)
  | [] => some []
  | .int k :: ds => (match D.ints ds with
    | some ks => some (k :: ks)
    | none => none)
  | _ :: _ => none
def D.strs : List D → Option (List Str)
  | [] => some []
  | .str k :: ds => (match D.strs ds with
    | some ks => some (k :: ks)
    | none => none)
  | _ :: _ => none
theorem RpL.bls {H : Hp} : ∀ {ds : List D} {ks : List Bool} {xs : List V}, RpL K H ds xs → D.bls ds = some ks → xs = ks.map V.bl
  | [], ks, xs, h, e => by simp only [RpL] at h; simp only [D.bls, Option.some.injEq] at e; subst h e; rfl
  | d :: ds, ks, xs, h, e => by
    simp only [RpL] at h
    obtain ⟨y, ys, rfl, h2, h3⟩ := h
    cases d <;> simp only [D.bls] at e <;> first
      | (cases e; done)
      | (split at e
         · rename_i ks' e1
           cases e
           simp only [Rp] at h2
           rw [h2, h3.bls e1]; rfl
         · cases e)
theorem RpL.ints {H : Hp} : ∀ {ds : List D} {ks : List Int} {xs : List V}, RpL K H ds xs → D.ints ds = some ks → xs = ks.map V.int
  | [], ks, xs, h, e => by simp only [RpL] at h; simp only [D.ints, Option.some.injEq] at e; subst h e; rfl
  | d :: ds, ks, xs, h, e => by
    simp only [RpL] at h
    obtain ⟨y, ys, rfl, h2, h3⟩ := h
    cases d <;> simp only [D.ints] at e <;> first
      | (cases e; done)
      | (split at e
         · rename_i ks' e1
           cases e
           simp only [Rp] at h2
           rw [h2, h3.ints e1]; rfl
         · cases e)
theorem RpL.strs {H : Hp} : ∀ {ds : List D} {ks : List Str} {xs : List V}, RpL K H ds xs → D.strs ds = some ks → xs = ks.map V.str
  | [], ks, xs, h, e => by simp only [RpL] at h; simp only [D.strs, Option.some.injEq] at e; subst h e; rfl
  | d :: ds, ks, xs, h, e => by
    simp only [RpL] at h
    obtain ⟨y, ys, rfl, h2, h3⟩ := h
    cases d <;> simp only [D.strs] at e <;> first
      | (cases e; done)
      | (split at e
         · rename_i ks' e1
           cases e
           simp only [Rp] at h2
           rw [h2, h3.strs e1]; rfl
         · cases e)
def gAll : D → Option D
  | .lst ds => (match D.bls ds with
    | some ks => some (.bl (ks.all id))
    | none => none)
  | _ => none
def gSum : D → Option D
  | .lst ds => (match D.ints ds with
    | some ks => some (.int ks.sum)
    | none => none)
  | _ => none
theorem cs_all : CaS K (rAll K) (g1 gAll) := cs1 fun H x d1 d Q hg r q => by
  unfold gAll at hg
  split at hg
  · split at hg
    · rename_i ks e
      cases hg
      simp only [Rp] at r
      obtain ⟨p, xs, rfl, h2, h3⟩ := r
      exact ⟨p, ks, rfl, by rw [← h3.bls e]; exact SqL.of h2, q _ fun _ => rp_bl⟩
    · cases hg
  · cases hg
theorem cs_sum : CaS K (rSum K) (g1 gSum) := cs1 fun H x d1 d Q hg r q => by
  unfold gSum at hg
  split at hg
  · split at hg
    · rename_i ks e
      cases hg
      simp only [Rp] at r
      obtain ⟨p, xs, rfl, h2, h3⟩ := r
      exact ⟨p, ks, rfl, by rw [← h3.ints e]; exact SqL.of h2, q _ fun _ => rp_int⟩
    · cases hg
  · cases hg
/-- isinstance -/
def tyN : D → Option String
  | .non => some "NoneType"
  | .bl _ => some "bool"
  | .int _ => some "int"
  | .str _ => some "str"
  | .tup _ => some "tuple"
  | .lst _ => some "list"
  | .dic .. => some "dict"
  | _ => none
def isiB (a n : String) : Option Bool := if (["NoneType", "bool", "int", "str", "tuple", "list", "dict"] : List String).contains a && (["bool", "int", "str", "tuple", "list", "dict"] : List String).contains n then some (a == n || (a == "bool" && n == "int")) else none
theorem isi_all : (["NoneType", "bool", "int", "str", "tuple", "list", "dict"] : List String).all (fun a => (["bool", "int", "str", "tuple", "list", "dict"] : List String).all fun n => kitB a n == some (a == n || (a == "bool" && n == "int"))) = true := by decide +kernel
theorem isi_kit {a n : String} {k : Bool} (h : isiB a n = some k) : kitB a n = some k := by
  unfold isiB at h
  split at h
  · rename_i hc
    cases h
    rw [Bool.and_eq_true] at hc
    have h1 := List.all_eq_true.mp isi_all a (by simpa using hc.1)
    have h2 := List.all_eq_true.mp h1 n (by simpa using hc.2)
    exact eq_of_beq h2
  · cases h
def gIsi : D → D → Option D
  | d, .ty n => (match tyN d with
    | some a => (match isiB a n with
      | some k => some (.bl k)
      | none => none)
    | none => none)
  | _, _ => none
theorem ty_of {H : Hp} {d : D} {x : V} {a : String} (r : Rp K H d x) (h : tyN d = some a) : TyX K H x (.type a) := by
  cases d <;> simp only [tyN, Option.some.injEq] at h <;> first
    | (cases h; done)
    | (subst h; simp only [Rp] at r; subst r; exact .base (by constructor))
    | (subst h; simp only [Rp] at r; obtain ⟨p, xs, rfl, h2, h3⟩ := r; first
        | exact .base (.lst h2)
        | (rcases h2 with (h2 | ⟨o, h2⟩) | ⟨o, its, n, h2, h4, _⟩
           · exact .base (.tup h2)
           · exact .fTuple h2
           · exact .kTuple h2 h4)
        | exact .base (.dK h2))
theorem cs_isi : CaS K (rIsi K) (g22 gIsi) := cs22 fun H x y d1 d2 d Q hg r1 r2 q => by
  unfold gIsi at hg
  split at hg
  · split at hg
    · rename_i a e1
      split at hg
      · rename_i n k e2
        cases hg
        simp only [Rp] at r2
        subst r2
        exact ⟨x, _, _, _, k, rfl, .ty _, ty_of r1 e1, kit_ty (isi_kit e2), q _ fun _ => rp_bl⟩
      · cases hg
    · cases hg
  · cases hg
end
section
variable {X : Cx} {e e1 e2 e3 : Expr} {es : List Expr} {pos p : Pos} {f f1 f2 f3 : Ev} {fs : Av} {src : List (Option Nat)} {x : Str}
theorem e_cb {r : List V → Hp → VK → Prop} {g : List M → Option M} {id : String} (hc : CallR X (.builtin id) r) (hs : CaS X.K r g) (hm : X.mg x = none) (hv : bootBuiltins x = some (.builtin id)) (ha : AM X (e :: es) src fs) (hsrc : src.all (·.isNone) = true := by rfl) (hg : Gl X x := by rfl) (hn : x ≠ "__name__" := by decide) (hdb : (x == ("__debug__" : Str)) = false := by decide)
    (he : starEach (e :: es) X.env = (false, eval e X.env) :: starEach es X.env := by rfl) (hpl : (backTo pos (starEach es X.env)).any (·.1) = false := by rfl) : EM X (.Call (.Name x p) (e :: es) [] pos) (fOf g fs) := (pe_callB hc hg hm hv ha hn hdb he hpl).wk (cb_in hs hsrc)
theorem e_ct {r : List V → Hp → VK → Prop} {g : List M → Option M} {id : String} (hc : CallR X (.type id) r) (hs : CaS X.K r g) (hm : X.mg x = none) (hv : bootBuiltins x = some (.type id)) (ha : AM X (e :: es) src fs) (hsrc : src.all (·.isNone) = true := by rfl) (hg : Gl X x := by rfl) (hn : x ≠ "__name__" := by decide) (hdb : (x == ("__debug__" : Str)) = false := by decide)
    (he : starEach (e :: es) X.env = (false, eval e X.env) :: starEach es X.env := by rfl) (hpl : (backTo pos (starEach es X.env)).any (·.1) = false := by rfl) : EM X (.Call (.Name x p) (e :: es) [] pos) (fOf g fs) := (pe_callTy hc hg hm hv ha hn hdb he hpl).wk (cb_in hs hsrc)
theorem boot_abs' : bootBuiltins "abs" = some (.builtin "abs") := by decide +kernel
theorem boot_all' : bootBuiltins "all" = some (.builtin "all") := by decide +kernel
theorem e_len (hm : X.mg "len" = none) (ha : AM X [e] src fs) (hsrc : src.all (·.isNone) = true := by rfl) (hg : Gl X "len" := by rfl) (he : starEach [e] X.env = (false, eval e X.env) :: starEach [] X.env := by rfl) (hpl : (backTo pos (starEach [] X.env)).any (·.1) = false := by rfl) : EM X (.Call (.Name "len" p) [e] [] pos) (fOf (PL.g1 gLen) fs) := e_cb call_len cs_len hm boot_len ha hsrc hg (by decide) (by decide) he hpl
theorem e_toInt (hm : X.mg "int" = none) (ha : AM X [e] src fs) (hsrc : src.all (·.isNone) = true := by rfl) (hg : Gl X "int" := by rfl) (he : starEach [e] X.env = (false, eval e X.env) :: starEach [] X.env := by rfl) (hpl : (backTo pos (starEach [] X.env)).any (·.1) = false := by rfl) : EM X (.Call (.Name "int" p) [e] [] pos) (fOf (PL.g1 gToInt) fs) := e_ct call_int1 cs_int hm PyProof.Rows.boot_int ha hsrc hg (by decide) (by decide) he hpl
theorem e_abs (hm : X.mg "abs" = none) (ha : AM X [e] src fs) (hsrc : src.all (·.isNone) = true := by rfl) (hg : Gl X "abs" := by rfl) (he : starEach [e] X.env = (false, eval e X.env) :: starEach [] X.env := by rfl) (hpl : (backTo pos (starEach [] X.env)).any (·.1) = false := by rfl) : EM X (.Call (.Name "abs" p) [e] [] pos) (fOf (PL.g1 gAbs) fs) := e_cb call_abs cs_abs hm boot_abs' ha hsrc hg (by decide) (by decide) he hpl
theorem e_max (hc : X.calm = true) (hm : X.mg "max" = none) (ha : AM X [e, e2] src fs) (hsrc : src.all (·.isNone) = true := by rfl) (hg : Gl X "max" := by rfl) (he : starEach [e, e2] X.env = (false, eval e X.env) :: starEach [e2] X.env := by rfl) (hpl : (backTo pos (starEach [e2] X.env)).any (·.1) = false := by rfl) : EM X (.Call (.Name "max" p) [e, e2] [] pos) (fOf (g22 gMax) fs) := e_cb (call_max2 hc) cs_max hm PyProof.Rows.boot_max ha hsrc hg (by decide) (by decide) he hpl
theorem e_min (hc : X.calm = true) (hm : X.mg "min" = none) (ha : AM X [e, e2] src fs) (hsrc : src.all (·.isNone) = true := by rfl) (hg : Gl X "min" := by rfl) (he : starEach [e, e2] X.env = (false, eval e X.env) :: starEach [e2] X.env := by rfl) (hpl : (backTo pos (starEach [e2] X.env)).any (·.1) = false := by rfl) : EM X (.Call (.Name "min" p) [e, e2] [] pos) (fOf (g22 gMin) fs) := e_cb (call_min2 hc) cs_min hm PyProof.Rows.boot_min ha hsrc hg (by decide) (by decide) he hpl
theorem e_tupOf (hm : X.mg "tuple" = none) (ha : AM X [e] src fs) (hsrc : src.all (·.isNone) = true := by rfl) (hg : Gl X "tuple" := by rfl) (he : starEach [e] X.env = (false, eval e X.env) :: starEach [] X.env := by rfl) (hpl : (backTo pos (starEach [] X.env)).any (·.1) = false := by rfl) : EM X (.Call (.Name "tuple" p) [e] [] pos) (fOf (g1m gTupOf) fs) := e_ct call_tuple_of cs_tup hm PyProof.Rows.boot_tuple ha hsrc hg (by decide) (by decide) he hpl
theorem e_lstOf (hm : X.mg "list" = none) (ha : AM X [e] src fs) (hsrc : src.all (·.isNone) = true := by rfl) (hg : Gl X "list" := by rfl) (he : starEach [e] X.env = (false, eval e X.env) :: starEach [] X.env := by rfl) (hpl : (backTo pos (starEach [] X.env)).any (·.1) = false := by rfl) : EM X (.Call (.Name "list" p) [e] [] pos) (fOf (g1m gLstOf) fs) := e_ct call_list_of cs_lst hm PyProof.Rows.boot_list ha hsrc hg (by decide) (by decide) he hpl
theorem e_all (hc : X.calm = true) (hm : X.mg "all" = none) (ha : AM X [e] src fs) (hsrc : src.all (·.isNone) = true := by rfl) (hg : Gl X "all" := by rfl) (he : starEach [e] X.env = (false, eval e X.env) :: starEach [] X.env := by rfl) (hpl : (backTo pos (starEach [] X.env)).any (·.1) = false := by rfl) : EM X (.Call (.Name "all" p) [e] [] pos) (fOf (PL.g1 gAll) fs) := e_cb (cr_all hc) cs_all hm boot_all' ha hsrc hg (by decide) (by decide) he hpl
theorem e_sum (hc : X.calm = true) (hm : X.mg "sum" = none) (ha : AM X [e] src fs) (hsrc : src.all (·.isNone) = true := by rfl) (hg : Gl X "sum" := by rfl) (he : starEach [e] X.env = (false, eval e X.env) :: starEach [] X.env := by rfl) (hpl : (backTo pos (starEach [] X.env)).any (·.1) = false := by rfl) : EM X (.Call (.Name "sum" p) [e] [] pos) (fOf (PL.g1 gSum) fs) := e_cb (cr_sum hc) cs_sum hm PyProof.Rows.boot_sum ha hsrc hg (by decide) (by decide) he hpl
theorem e_isi (hm : X.mg "isinstance" = none) (ha : AM X [e, e2] src fs) (hsrc : src.all (·.isNone) = true := by rfl) (hg : Gl X "isinstance" := by rfl) (he : starEach [e, e2] X.env = (false, eval e X.env) :: starEach [e2] X.env := by rfl) (hpl : (backTo pos (starEach [e2] X.env)).any (·.1) = false := by rfl) : EM X (.Call (.Name "isinstance" p) [e, e2] [] pos) (fOf (g22 gIsi) fs) := e_cb call_isi cs_isi hm PyProof.Rows.boot_isinstance ha hsrc hg (by decide) (by decide) he hpl
theorem e_ty {n : String} (hm : X.mg x = none) (hv : bootBuiltins x = some (.type n)) (hg : Gl X x := by rfl) (hn : x ≠ "__name__" := by decide) (hd : (x == ("__debug__" : Str)) = false := by decide) : EM X (.Name x pos) (fC (.ty n)) := e_const (pe_bltn hg hm hv (show RelV (.ty n) (.type n) from rfl) hn hd) fun _ => by simp [Rp]
end
end PL

namespace PL
open PySem PySem.Spec PyProof.Rows L2
theorem rpl_nil {K : PySem.W.Frag} {G : Hp} : RpL K G [] [] := by simp [RpL]
theorem boot_int' : bootBuiltins "int" = some (.type "int") := PyProof.Rows.boot_int
theorem boot_bool' : bootBuiltins "bool" = some (.type "bool") := PyProof.Rows.boot_bool
theorem boot_str' : bootBuiltins "str" = some (.type "str") := PyProof.Rows.boot_str
theorem boot_list' : bootBuiltins "list" = some (.type "list") := PyProof.Rows.boot_list
theorem boot_tuple' : bootBuiltins "tuple" = some (.type "tuple") := PyProof.Rows.boot_tuple
theorem boot_dict' : bootBuiltins "dict" = some (.type "dict") := PyProof.Rows.boot_dict
def dStrs (ss : List Str) : D := .tup (ss.map .str)
/-- a tuple of texts of the top -/
def TupG (K : PySem.W.Frag) (mg : Str → Option Value) (x : Str) (ss : List Str) : Prop := ∃ a, mg x = some (.ref a) ∧ ∀ H, SqT K H a (ss.map V.str)
theorem RpL.of_strs {K : PySem.W.Frag} {G : Hp} : ∀ ss : List Str, RpL K G (ss.map .str) (ss.map V.str)
  | [] => by simp [RpL]
  | s :: ss => by
    simp only [List.map_cons, RpL]
    exact ⟨.str s, _, rfl, rp_str, RpL.of_strs ss⟩
section
variable {X : Cx} {e e1 e2 e3 : Expr} {es : List Expr} {st : Stmt} {sts : List Stmt} {pos p : Pos} {f f1 f2 f3 : Ev} {fs : Av} {src : List (Option Nat)} {x : Str} {t t1 t2 : Tv} {k1 k2 : Sv}
theorem e_globI {i : Int} (hm : ∃ t, X.mg x = some (.int i t)) (hg : Gl X x := by rfl) (hd : (x == ("__debug__" : Str)) = false := by decide) : EM X (.Name x pos) (fC (.int i)) := by
  obtain ⟨t, hm⟩ := hm
  exact e_glob (v := .int i) hm ⟨t, rfl⟩ (fun _ => rp_int) hg hd
theorem e_globS {i : Str} (hm : ∃ t, X.mg x = some (.str i t)) (hg : Gl X x := by rfl) (hd : (x == ("__debug__" : Str)) = false := by decide) : EM X (.Name x pos) (fC (.str i)) := by
  obtain ⟨t, hm⟩ := hm
  exact e_glob (v := .str i) hm ⟨t, rfl⟩ (fun _ => rp_str) hg hd
theorem e_globT {ss : List Str} (hm : TupG X.K X.mg x ss) (hg : Gl X x := by rfl) (hd : (x == ("__debug__" : Str)) = false := by decide) : EM X (.Name x pos) (fC (dStrs ss)) := by
  obtain ⟨a, hm, hs⟩ := hm
  exact e_glob (v := .ref a) hm rfl (fun G => by simp only [dStrs, Rp]; exact ⟨a, _, rfl, hs G, RpL.of_strs ss⟩) hg hd
/-- len(name), the name's list owned -/
def fLenO (j : Nat) : Ev := fun b => match b[j]? with
  | some (.o _ (.lst ms)) => some (.d (.int ms.length), b)
  | _ => none
theorem e_lenO (j : Nat) {px : Pos} (hm : X.mg "len" = none) (hg : Gl X "len" := by rfl) (hN : X.N[j]? = some x := by rfl) (hv : Vis X.env.scope x := by first | exact Or.inl rfl | exact Or.inr (Or.inl rfl) | exact Or.inr (Or.inr rfl)) (hd : (x == ("__debug__" : Str)) = false := by decide)
    (hcd : (x == ("__classdict__" : Str)) = false := by decide) (hs : starEach (.Name x px :: []) X.env = (false, eval (.Name x px) X.env) :: starEach [] X.env := by rfl) (hpl : (backTo pos (starEach [] X.env)).any (·.1) = false := by rfl) :
    EM X (.Call (.Name "len" p) [.Name x px] [] pos) (fLenO j) := (pe_callB call_len_seq hg hm boot_len (pa_cons (pv j hN hv hd hcd) pa_nil hs) (by decide) (by decide) hs hpl).wk fun σ H Q => by
  rintro ⟨c, G, b, T, m, b', hf, I, q⟩
  unfold fLenO at hf
  split at hf
  · rename_i k ms e1
    cases hf
    obtain ⟨p, xs, h1, h2, h3, _⟩ := Iv.mutL (T1 := []) I e1
    refine ⟨_, h1, p, xs, rfl, .inl (SqL.of h2), ?_⟩
    rw [h3]
    exact q _ G H (I.pushD rp_int)
  · cases hf
/-- the slot's fresh thing is data from now on -/
def sFrz (i : Nat) (g : Sv) : Sv := fun b => match g b with
  | some (.nx, b1) => (match b1[i]? with
    | some (.o none m) => some (.nx, b1.set i (.d m.toD))
    | some (.d x) => some (.nx, b1)
    | _ => none)
  | _ => none
theorem s_frz (i : Nat) (h : SM X st k1) : SM X st (sFrz i k1) := h.wk fun D σ H => by
  rintro ⟨c, G, b, T, r, b', hf, I, q⟩
  unfold sFrz at hf
  split at hf
  · rename_i b1 e1
    split at hf
    · rename_i m e2
      cases hf
      refine ⟨c, G, b, T, .nx, b1, e1, I, fun σ' G' H' I' => ?_⟩
      obtain ⟨G2, I2⟩ := I'.frz e2
      exact q σ' G2 H' I2
    · cases hf
      exact ⟨c, G, b, T, .nx, b', e1, I, q⟩
    · cases hf
  · cases hf
/-! ### slices -/
def cutD (xs : List D) (lo hi : Option Int) : List D := (xs.drop (HT.sIx xs.length 0 lo)).take (HT.sIx xs.length xs.length hi - HT.sIx xs.length 0 lo)
theorem RpL.cut {K : PySem.W.Frag} {G : Hp} {ds : List D} {xs : List V} (h : RpL K G ds xs) (lo hi : Option Int) : RpL K G (cutD ds lo hi) (cutV xs lo hi) := by
  unfold cutD cutV
  rw [← h.len]
  exact (h.drop _).take _
def gSl (d : D) (lo hi : Option Int) : Option M := match d with
  | .tup ds => some (.d (.tup (cutD ds lo hi)))
  | .lst ds => some (.lst ((cutD ds lo hi).map .d))
  | .str z => if z.length ≤ 1000000 then some (.d (.str (cutS z lo hi))) else none
  | _ => none
def rSlU (K : PySem.W.Frag) : V → Option Int → Option Int → Hp → VK → Prop := fun x lo hi H Q => rSlA K x lo hi H Q ∨ rSlL K x lo hi H Q ∨ rSlS x lo hi H Q
theorem sl_U : SlR X (rSlU X.K) := sl_tupA.or (sl_list.or sl_str)
abbrev Ov := List B → Option (Option Int × List B)
def oNone : Ov := fun b => some (none, b)
def oSome (f : Ev) : Ov := fun b => match f b with
  | some (.d (.int i), b1) => some (some i, b1)
  | _ => none
def toO (K : PySem.W.Frag) (f : Ov) : TO := fun σ H Q => ∃ c G b T o b', f b = some (o, b') ∧ Iv K c G H σ b T ∧ ∀ G' H', Iv K c G' H' σ b' T → Q o H'
abbrev OM (X : Cx) (e : Option Expr) (f : Ov) : Prop := PO X e (toO X.K f)
theorem po_wk {e : Option Expr} {t t' : TO} (h : PO X e t) (hi : ∀ σ H Q, t' σ H Q → t σ H Q) : PO X e t' := ⟨fun pins s σ H Q I q => h.run pins s σ H Q I (hi σ H Q q)⟩
theorem o_none : OM X none oNone := po_wk po_none fun σ H Q => by
  rintro ⟨c, G, b, T, o, b', hf, I, q⟩
  simp only [oNone, Option.some.injEq, Prod.mk.injEq] at hf
  obtain ⟨rfl, rfl⟩ := hf
  exact q G H I
theorem o_some (h : EM X e f) : OM X (some e) (oSome f) := po_wk (po_some h) fun σ H Q => by
  rintro ⟨c, G, b, T, o, b', hf, I, q⟩
  unfold oSome at hf
  split at hf
  · rename_i i b1 e1
    cases hf
    refine ⟨c, G, b, T, _, b', e1, I, fun v G1 H1 I1 => ?_⟩
    have r := I1.topD
    simp only [Rp] at r
    exact ⟨i, r, q G1 H1 I1.drop⟩
  · cases hf
def fSl (f : Ev) (o1 o2 : Ov) : Ev := fun b => match f b with
  | some (.d d, b1) => (match o1 b1 with
    | some (lo, b2) => (match o2 b2 with
      | some (hi, b3) => (match gSl d lo hi with
        | some m => some (m, b3)
        | none => none)
      | none => none)
    | none => none)
  | _ => none
theorem e_sl {lo hi : Option Expr} {o1 o2 : Ov} {p2 : Pos} (h : EM X e f) (h1 : OM X lo o1) (h2 : OM X hi o2) : EM X (.Subscript e (.Slice lo hi none p2) pos) (fSl f o1 o2) := (pe_slice sl_U h h1 h2).wk fun σ H Q => by
  rintro ⟨c, G, b, T, m, b', hf, I, q⟩
  unfold fSl at hf
  split at hf
  · rename_i d b1 e1
    split at hf
    · rename_i lo b2 e2
      split at hf
      · rename_i hi b3 e3
        split at hf
        · rename_i m' e4
          cases hf
          refine ⟨c, G, b, T, _, b1, e1, I, fun v G1 H1 I1 => ⟨c, G1, b1, _, lo, b2, e2, I1, fun G2 H2 I2 => ⟨c, G2, b2, _, hi, b', e3, I2, fun G3 H3 I3 => ?_⟩⟩⟩
          have r := I3.topD
          have I4 := I3.drop
          unfold gSl at e4
          split at e4
          · cases e4
            simp only [Rp] at r
            obtain ⟨p, xs, rfl, h2, h3⟩ := r
            refine .inl ⟨p, xs, rfl, sqt_mono I4.st.gh h2, fun hw => ?_, fun hw p hp => q _ _ _ (I4.newT hp (h3.cut lo hi))⟩
            refine q _ G3 H3 (I4.pushD ?_)
            simp only [Rp]
            have hc := h3.cut lo hi
            have e : cutV xs lo hi = xs := by
              unfold cutV
              rw [hw.1, hw.2]
              simp
            rw [e] at hc
            exact ⟨p, xs, rfl, h2, hc⟩
          · cases e4
            simp only [Rp] at r
            obtain ⟨p, xs, rfl, h2, h3⟩ := r
            exact .inr (.inl ⟨p, xs, rfl, I4.st.gh.seq (SqL.of h2), fun p hp => q _ _ _ (I4.newL hp (h3.cut lo hi))⟩)
          · split at e4
            · rename_i hz
              cases e4
              simp only [Rp] at r
              subst r
              exact .inr (.inr ⟨_, rfl, le_line hz, q _ _ _ (I4.pushD rp_str)⟩)
            · cases e4
          · cases e4
        · cases hf
      · cases hf
    · cases hf
  · cases hf
/-! ### enumerate, zip, a text -/
def lStr (f : Ev) : Lv := fun b => match f b with
  | some (.d (.str z), b1) => some (z.cps.toList.map fun c => .str ⟨#[c]⟩, b1)
  | _ => none
theorem i_str {tg : Expr} (h : EM X e f) : IM X tg e (lStr f) := (pi_str h).wk fun σ H R => by
  rintro ⟨c, G, b, T, ds, b', hf, I, q⟩
  unfold lStr at hf
  split at hf
  · rename_i z b1 e1
    cases hf
    refine ⟨c, G, b, T, _, b', e1, I, fun v G1 H1 I1 => ?_⟩
    have r := I1.topD
    simp only [Rp] at r
    refine ⟨z, r, q _ [] G1 H1 I1.drop ?_⟩
    intro c G H σ b T i I
    refine ⟨fun hi => ?_, fun hi => by simpa [Its] using hi⟩
    have hi' : i < z.cps.size := by simpa using hi
    refine ⟨hi', fun x H' y => ?_⟩
    obtain ⟨rfl, cc, h1, rfl⟩ := y
    refine ⟨.str ⟨#[cc]⟩, G, ?_, I.pushD rp_str⟩
    rw [List.getElem?_map, Array.getElem?_toList, h1]
    rfl
  · cases hf
def enumD : Nat → List D → List D
  | _, [] => []
  | i, d :: ds => .tup [.int (i : Nat), d] :: enumD (i + 1) ds
theorem enumD_len : ∀ (ds : List D) (i : Nat), (enumD i ds).length = ds.length
  | [], _ => rfl
  | d :: ds, i => by simp [enumD, enumD_len ds]
theorem enumD_get : ∀ (ds : List D) (i j : Nat) (d : D), ds[j]? = some d → (enumD i ds)[j]? = some (.tup [.int ((i + j : Nat) : Int), d])
  | [], _, _, _, e => by simp at e
  | d :: ds, i, 0, _, e => by
    simp at e
    subst e
    simp [enumD]
  | d :: ds, i, j + 1, d', e => by
    have := enumD_get ds (i + 1) j d' (by simpa using e)
    simp only [enumD, List.getElem?_cons_succ]
    rw [this]
    congr 5
    omega
def lEnum (f : Ev) : Lv := fun b => match f b with
  | some (.d (.lst ds), b1) => some (enumD 0 ds, b1)
  | _ => none
theorem i_enum {elts : List Expr} {kk : Nat} {tpos : Pos} (hm : X.mg "enumerate" = none) (h : EM X e f) (hg : Gl X "enumerate" := by rfl) (hs1 : starEach (e :: []) X.env = (false, eval e X.env) :: starEach [] X.env := by rfl) (hs : starEach [e] X.env = [(false, eval e X.env)] := by rfl) : IM X (.Tuple elts kk tpos) (.Call (.Name "enumerate" p) [e] [] pos) (lEnum f) := (pi_enum hg hm (pa_cons h pa_nil hs1) hs).wk fun σ H R => by
  rintro ⟨c, G, b, T, ds, b', hf, I, q⟩
  unfold lEnum at hf
  split at hf
  · rename_i ds b1 e1
    cases hf
    refine ⟨c, G, b, T, _, b', e1, I, fun v G1 H1 I1 => ?_⟩
    have r := I1.topD
    simp only [Rp] at r
    obtain ⟨p, xs, rfl, h2, h3⟩ := r
    refine ⟨p, xs, rfl, SqL.of (I1.st.gh _ _ h2), q _ [_] G1 H1 I1 ?_⟩
    intro c G H σ b T i I
    have r : Rp X.K G (.lst ds) (.ref p) := Iv.topD (T := T) I
    simp only [Rp] at r
    obtain ⟨p', xs, h1, h2, h3⟩ := r
    cases h1
    have h2' := SqL.of (K := X.K) (I.st.gh _ _ h2)
    refine ⟨fun hi => ?_, fun hi => ⟨xs, h2', by rw [← h3.len, ← enumD_len ds 0]; exact hi⟩⟩
    have hi' : i < xs.length := by rw [← h3.len, ← enumD_len ds 0]; exact hi
    refine ⟨⟨xs, xs[i], h2', List.getElem?_eq_getElem hi'⟩, fun x H' y => ?_⟩
    obtain ⟨t, x, rfl, hn, rfl, y⟩ := y
    obtain ⟨d', q1, q2⟩ := item_of h3 (y xs h2')
    refine ⟨_, _, enumD_get ds 0 i d' q1, I.newT hn ?_⟩
    simp only [RpL]
    exact ⟨.int (i : Nat), [x], rfl, by rw [Nat.zero_add]; exact rp_int, x, [], rfl, q2, rfl⟩
  · cases hf
def zipD : List D → List D → List D
  | d :: ds, e :: es => .tup [d, e] :: zipD ds es
  | _, _ => []
theorem zipD_len : ∀ (ds es : List D), (zipD ds es).length = min ds.length es.length
  | [], es => by simp [zipD]
  | d :: ds, [] => by simp [zipD]
  | d :: ds, e :: es => by simp [zipD, zipD_len ds es]
theorem zipD_get : ∀ (ds es : List D) (j : Nat) (d e : D), ds[j]? = some d → es[j]? = some e → (zipD ds es)[j]? = some (.tup [d, e])
  | [], _, _, _, _, h, _ => by simp at h
  | _ :: _, [], _, _, _, _, h => by simp at h
  | d :: ds, e :: es, 0, _, _, h1, h2 => by
    simp at h1 h2
    subst h1 h2
    rfl
  | d :: ds, e :: es, j + 1, _, _, h1, h2 => by
    simp only [zipD, List.getElem?_cons_succ]
    exact zipD_get ds es j _ _ (by simpa using h1) (by simpa using h2)
def lZip (fs : Av) : Lv := fun b => match fs b with
  | some ([.d (.lst ds), .d (.lst es)], b1) => some (zipD ds es, b1)
  | some ([.d (.tup ds), .d (.tup es)], b1) => some (zipD ds es, b1)
  | _ => none
theorem i_zip {elts : List Expr} {kk : Nat} {tpos : Pos} (hm : X.mg "zip" = none) (ha : AM X [e, e2] src fs) (hsrc : src.all (·.isNone) = true := by rfl) (hg : Gl X "zip" := by rfl) (hs : starEach [e, e2] X.env = (false, eval e X.env) :: starEach [e2] X.env := by rfl) (hpl : (backTo pos (starEach [e2] X.env)).any (·.1) = false := by rfl) : IM X (.Tuple elts kk tpos) (.Call (.Name "zip" p) [e, e2] [] pos) (lZip fs) := (RZ.pi_zipA hg hm ha hs hpl).wk fun σ H R => by
  rintro ⟨c, G, b, T, ds, b', hf, I, q⟩
  unfold lZip at hf
  split at hf
  · rename_i ds es b1 e1
    cases hf
    refine ⟨c, G, b, T, _, b', e1, I, fun us vs G1 H1 hl av I1 => ?_⟩
    have e := av.pure hsrc
    subst e
    obtain ⟨u, v, rfl⟩ := len2 hl
    have r2 := Iv.topD (T := T) (Iv.drop I1)
    have r1 := Iv.topD (T := (.d (.lst es), v) :: T) I1
    simp only [Rp] at r1 r2
    obtain ⟨p1, xs, rfl, h2, h3⟩ := r1
    obtain ⟨p2, ys, rfl, h5, h6⟩ := r2
    refine ⟨p1, p2, xs, ys, rfl, .inl ⟨SqL.of (I1.st.gh _ _ h2), SqL.of (I1.st.gh _ _ h5), q _ [(.d (.lst ds), .ref p1), (.d (.lst es), .ref p2)] G1 H1 I1 ?_⟩⟩
    intro c G H σ b T i I
    have r2 := Iv.topD (T := T) (Iv.drop I)
    have r1 := Iv.topD (T := (.d (.lst es), .ref p2) :: T) I
    simp only [Rp] at r1 r2
    obtain ⟨_, xs, h1, h2, h3⟩ := r1
    cases h1
    obtain ⟨_, ys, h4, h5, h6⟩ := r2
    cases h4
    have h2' := SqL.of (K := X.K) (I.st.gh _ _ h2)
    have h5' := SqL.of (K := X.K) (I.st.gh _ _ h5)
    have el := zipD_len ds es
    rw [h3.len, h6.len] at el
    refine ⟨fun hi => ?_, fun hi => ⟨xs, ys, h2', h5', by omega⟩⟩
    have hi1 : i < xs.length := by omega
    have hi2 : i < ys.length := by omega
    refine ⟨⟨xs, ys, xs[i], ys[i], h2', h5', List.getElem?_eq_getElem hi1, List.getElem?_eq_getElem hi2⟩, fun x H' y => ?_⟩
    obtain ⟨t, x, y, rfl, hn, rfl, y1, y2⟩ := y
    obtain ⟨d1, q1, q2⟩ := item_of h3 (y1 xs h2')
    obtain ⟨d2, q3, q4⟩ := item_of h6 (y2 ys h5')
    refine ⟨_, _, zipD_get ds es i d1 d2 q1 q3, I.newT hn ?_⟩
    simp only [RpL]
    exact ⟨x, [y], rfl, q2, y, [], rfl, q4, rfl⟩
  · rename_i ds es b1 e1
    cases hf
    refine ⟨c, G, b, T, _, b', e1, I, fun us vs G1 H1 hl av I1 => ?_⟩
    have e := av.pure hsrc
    subst e
    obtain ⟨u, v, rfl⟩ := len2 hl
    have r2 := Iv.topD (T := T) (Iv.drop I1)
    have r1 := Iv.topD (T := (.d (.tup es), v) :: T) I1
    simp only [Rp] at r1 r2
    obtain ⟨p1, xs, rfl, h2, h3⟩ := r1
    obtain ⟨p2, ys, rfl, h5, h6⟩ := r2
    refine ⟨p1, p2, xs, ys, rfl, .inr ⟨sqt_mono I1.st.gh h2, sqt_mono I1.st.gh h5, q _ [(.d (.tup ds), .ref p1), (.d (.tup es), .ref p2)] G1 H1 I1 ?_⟩⟩
    intro c G H σ b T i I
    have r2 := Iv.topD (T := T) (Iv.drop I)
    have r1 := Iv.topD (T := (.d (.tup es), .ref p2) :: T) I
    simp only [Rp] at r1 r2
    obtain ⟨_, xs, h1, h2, h3⟩ := r1
    cases h1
    obtain ⟨_, ys, h4, h5, h6⟩ := r2
    cases h4
    have h2' := sqt_mono I.st.gh h2
    have h5' := sqt_mono I.st.gh h5
    have el := zipD_len ds es
    rw [h3.len, h6.len] at el
    refine ⟨fun hi => ?_, fun hi => ⟨xs, ys, h2', h5', by omega⟩⟩
    have hi1 : i < xs.length := by omega
    have hi2 : i < ys.length := by omega
    refine ⟨⟨xs, ys, xs[i], ys[i], h2', h5', List.getElem?_eq_getElem hi1, List.getElem?_eq_getElem hi2⟩, fun x H' y => ?_⟩
    obtain ⟨t, x, y, rfl, hn, rfl, y1, y2⟩ := y
    obtain ⟨d1, q1, q2⟩ := item_of h3 (y1 xs h2')
    obtain ⟨d2, q3, q4⟩ := item_of h6 (y2 ys h5')
    refine ⟨_, _, zipD_get ds es i d1 d2 q1 q3, I.newT hn ?_⟩
    simp only [RpL]
    exact ⟨x, [y], rfl, q2, y, [], rfl, q4, rfl⟩
  · cases hf
end
end PL

namespace PL
open PySem PySem.Spec PyProof.Rows L2
/-! ### paths -/
def tPl (K : PySem.W.Frag) (j : Nat) (π : Pth) : TE := fun σ H Q => ∃ v0 v1, σ[j]? = some (some v0) ∧ PathV K H v0 π v1 ∧ Q v1 H
abbrev PP (X : Cx) (e : Expr) (j : Nat) (π : Pth) : Prop := PE X e (tPl X.K j π)
/-- fields of classes -/
def FldOk (K : PySem.W.Frag) (q : Str × List Str) : Prop := ∀ C, q.2.contains C = true → Cls K (He.ga K C) ∧ NoAttr K (He.ga K C) q.1
section
variable {X : Cx} {e e1 e2 e3 : Expr} {es : List Expr} {st : Stmt} {sts : List Stmt} {pos p : Pos} {f f1 f2 f3 : Ev} {fs : Av} {src : List (Option Nat)} {x : Str} {t t1 t2 : Tv} {k1 k2 : Sv} {j : Nat} {π : Pth} {n : Str} {Cs : List Str}
theorem pl_nil (j : Nat) (hN : X.N[j]? = some x := by rfl) (hv : Vis X.env.scope x := by first | exact Or.inl rfl | exact Or.inr (Or.inl rfl) | exact Or.inr (Or.inr rfl)) (hd : (x == ("__debug__" : Str)) = false := by decide)
    (hcd : (x == ("__classdict__" : Str)) = false := by decide) : PP X (.Name x pos) j [] := (pe_var hN hv hd hcd).wk fun σ H Q => by
  rintro ⟨v0, v1, h1, h2, q⟩
  have h2 : v0 = v1 := h2
  subst h2
  exact ⟨v0, h1, q⟩
theorem pl_cons (h : PP X e j π) (hC : FldOk X.K (n, Cs)) (hb : attributeBase e n X.env (eval e X.env) = eval e X.env := by rfl) : PP X (.Attribute e n pos) j ((n, Cs) :: π) := (pe_fld h hb).wk fun σ H Q => by
  rintro ⟨v0, v1, h1, ⟨a, C, dx, fs, h2, h3, h4, h5⟩, q⟩
  exact ⟨v0, .ref a, h1, h2, a, He.ga X.K C, dx, fs, v1, rfl, h3, (hC C h4).1, (hC C h4).2, h5, q⟩
/-- data at a path -/
def fPl (j : Nat) (π : Pth) : Ev := fun b => match getP b j π with
  | some (.d d) => some (.d d, b)
  | _ => none
theorem e_pl (h : PP X e j π) : EM X e (fPl j π) := h.wk fun σ H Q => by
  rintro ⟨c, G, b, T, m, b', hf, I, q⟩
  unfold fPl at hf
  split at hf
  · rename_i d eg
    cases hf
    obtain ⟨v0, v1, f1, w1, w2, w3⟩ := I.readP eg
    simp only [RM] at w3
    exact ⟨v0, v1, w1, w2, q v1 G H (I.pushD w3.1)⟩
  · cases hf
/-- a field of data -/
def fAttr (q : Str × List Str) (f : Ev) : Ev := fun b => match f b with
  | some (.d d, b1) => (match (M.d d).fld q with
    | some (.d x) => some (.d x, b1)
    | _ => none)
  | _ => none
theorem e_attr (h : EM X e f) (hC : FldOk X.K (n, Cs)) (hb : attributeBase e n X.env (eval e X.env) = eval e X.env := by rfl) : EM X (.Attribute e n pos) (fAttr (n, Cs) f) := (pe_fld h hb).wk fun σ H Q => by
  rintro ⟨c, G, b, T, m, b', hf, I, q⟩
  unfold fAttr at hf
  split at hf
  · rename_i d b1 e1
    split at hf
    · rename_i x ex
      cases hf
      refine ⟨c, G, b, T, _, b', e1, I, fun v G1 H1 I1 => ?_⟩
      have r := I1.topD
      have r2 : RM X.K G1 H1 (.d d) v [] := by simp only [RM, and_true]; exact r
      obtain ⟨v1, f1, ⟨a, C, dx, fs, z1, z2, z3, z4⟩, w2⟩ := RM.read (π := [(n, Cs)]) r2 I1.st.gh (by simp only [M.sub]; exact ex)
      have z1 : v = .ref a := z1
      simp only [RM] at w2
      exact ⟨a, _, dx, fs, v1, z1, z2, (hC C z3).1, (hC C z3).2, z4, q v1 G1 H1 (I1.drop.pushD w2.1)⟩
    · cases hf
  · cases hf
/-- place.n = value -/
def sPut (j : Nat) (π : Pth) (q : Str × List Str) (f : Ev) : Sv := fun b => match f b with
  | some (m, b1) => (match getP b1 j π with
    | some (.obj C ns ms) => if ns.length < 1000 then (match (M.obj C ns ms).setF q m with
      | some m2 => (match setP b1 j π m2 with
        | some b2 => some (.nx, b2)
        | none => none)
      | none => none) else none
    | _ => none)
  | none => none
theorem rt_one {K : PySem.W.Frag} {c : Cg} {G H : Hp} {m : M} {v : V} {f : List Addr} (h : RT K c G H [(m, v)] f) : RM K G H m v f ∧ ∀ a ∈ f, c.H0 a = none := by
  obtain ⟨f1, f2, w1, w2, w3, rfl⟩ := h
  have w3 : f2 = [] := w3
  subst w3
  simp only [List.append_nil]
  exact ⟨w1, w2⟩
/-- an owned instance's field set -/
theorem Iv.setFld {K : PySem.W.Frag} {c : Cg} {G H : Hp} {σ : L2.St} {b b2 : List B} {T : List (M × V)} {C : Str} {ns : List Str} {ms : List M} {m m2 : M} {y : V} {q : Str × List Str}
    (I : Iv K c G H σ b ((m, y) :: T)) (hg : getP b j π = some (.obj C ns ms)) (hs : (M.obj C ns ms).setF q m = some m2) (hp : setP b j π m2 = some b2) :
    ∃ v0 a dx fs, σ[j]? = some (some v0) ∧ PathV K H v0 π (.ref a) ∧ H a = some (.ins (He.ga K C) dx fs) ∧ fs.length ≤ ns.length ∧ q.2.contains C = true ∧ Iv K c G (upd H a (.ins (He.ga K C) dx (putF q.1 y fs))) σ b2 T := by
  obtain ⟨v0, v1, fi, ft, h1, h2, h3, t1, nd, gn, old, go⟩ := Iv.place (T1 := [(m, y)]) (T := T) I hg rfl
  simp only [RM] at h3
  obtain ⟨p, dx, xs, g, rfl, h4, h5, h6, rfl⟩ := h3
  obtain ⟨t2, t3⟩ := rt_one t1
  have pp : H p ≠ none := by rw [h4]; simp
  have pg : p ∉ g := by
    have := (List.nodup_append.mp nd).1
    exact (List.nodup_cons.mp this).1
  have pt : p ∉ ft := fun hm => (List.nodup_append.mp nd).2.2 p (by simp) p hm rfl
  have nd2 : (g ++ ft).Nodup := (List.nodup_cons.mp (by simpa using nd)).2
  unfold M.setF at hs
  simp only at hs
  split at hs
  · rename_i hC
    refine ⟨v0, p, dx, ns.zip xs, h1, h2, h4, by simp; omega, hC, ?_⟩
    have key : ∀ ns' ms' xs', putF q.1 y (ns.zip xs) = ns'.zip xs' → ns'.length = xs'.length → m2 = .obj C ns' ms' → (∃ q', RML K G (upd H p (.ins (He.ga K C) dx (ns'.zip xs'))) ms' xs' q' ∧ (∀ a ∈ q', a ∈ g ++ ft) ∧ q'.Nodup) → Iv K c G (upd H p (.ins (He.ga K C) dx (putF q.1 y (ns.zip xs)))) σ b2 T := by
      intro ns' ms' xs' e1 e2 e3 ⟨q', w1, w2, w3⟩
      rw [e1]
      have pq : p ∉ q' := fun hm => by
        rcases List.mem_append.mp (w2 p hm) with z | z
        · exact pg z
        · exact pt z
      refine go G _ m2 (p :: q') [] [] b2 ⟨Same.refl _, gh_upd I.st.gh (gn p (by simp)), fun _ _ h => h, fun a o z1 z2 => by rw [upd_ne (fun z : a = p => z2 (by simp [z]))]; exact z1, dm_upd pp⟩ ?_ rfl (by simp [pq, w3]) (fun a ha => ?_) (fun a ha => ?_) hp
      · rw [e3]
        simp only [RM]
        exact ⟨p, dx, xs', q', rfl, upd_same, e2, w1, rfl⟩
      · rcases List.mem_cons.mp (by simpa using ha) with z | z
        · exact .inl (by simp [z])
        · rcases List.mem_append.mp (w2 a z) with z | z
          · exact .inl (by simp [z])
          · exact .inr (.inl z)
      · rcases List.mem_cons.mp (by simpa using ha) with z | z
        · exact gn a (by simp [z])
        · have := w2 a z
          exact gn a (by simp at this ⊢; grind)
    split at hs
    · rename_i i hi
      cases hs
      refine key ns (ms.set i m) (xs.set i y) (fldI_put hi h5) (by simpa using h5) rfl ?_
      exact RML.set (RML.frame (Same.refl _) _ _ _ h6 fun a ha => upd_ne (fun z : a = p => pg (z ▸ ha))) (RM.frame (Same.refl _) _ _ _ t2 fun a ha => upd_ne (fun z : a = p => pt (z ▸ ha))) nd2
    · rename_i hi
      cases hs
      refine key (ns ++ [q.1]) (ms ++ [m]) (xs ++ [y]) (fldI_add hi h5) (by simpa using h5) rfl ?_
      exact ⟨g ++ ft, RML.app (RML.frame (Same.refl _) _ _ _ h6 fun a ha => upd_ne (fun z : a = p => pg (z ▸ ha))) (RM.frame (Same.refl _) _ _ _ t2 fun a ha => upd_ne (fun z : a = p => pt (z ▸ ha))), fun a ha => ha, nd2⟩
  · cases hs
theorem s_put {pos' : Pos} (h : PP X e j π) (hv : EM X e1 f) (hC : FldOk X.K (n, Cs)) (hs : swapsWith e1 (some (.Attribute e n pos')) pos.line X.env = pure false := by rfl) : SM X (.Assign [.Attribute e n pos'] e1 pos) (sPut j π (n, Cs) f) := (ps_fld h hv hs).wk fun D σ H => by
  rintro ⟨c, G, b, T, r, b', hf, I, q⟩
  unfold sPut at hf
  split at hf
  · rename_i m b1 e1
    split at hf
    · rename_i C ns ms eg
      split at hf
      · rename_i hz
        split at hf
        · rename_i m2 es
          split at hf
          · rename_i b2 ep
            cases hf
            refine ⟨c, G, b, T, m, b1, e1, I, fun y G1 H1 I1 => ?_⟩
            obtain ⟨v0, a, dx, fs, w1, w2, w3, w4, w5, w6⟩ := Iv.setFld I1 eg es ep
            exact ⟨v0, .ref a, w1, w2, a, He.ga X.K C, dx, fs, rfl, w3, (hC C w5).1, (hC C w5).2, by omega, q σ G1 _ w6⟩
          · cases hf
        · cases hf
      · cases hf
    · cases hf
  · cases hf
/-- an owned list at a place is changed -/
theorem Iv.mutP {K : PySem.W.Frag} {c : Cg} {G H : Hp} {σ : L2.St} {b : List B} {T T1 : List (M × V)} {ms : List M}
    (I : Iv K c G H σ b (T1 ++ T)) (hg : getP b j π = some (.lst ms)) : ∃ v0 p xs, σ[j]? = some (some v0) ∧ PathV K H v0 π (.ref p) ∧ H p = some (.lst xs) ∧ xs.length = ms.length ∧ (∀ (i : Nat) (x : D), ms[i]? = some (M.d x) → ∃ v, xs[i]? = some v ∧ Rp K G x v) ∧
    ∀ ms' xs' T1' b2, setP b j π (.lst ms') = some b2 → (∀ H2 q ft, RML K G H2 ms xs q → RT K c G H2 T1 ft → (q ++ ft).Nodup → (∀ a ∈ q ++ ft, H2 a = H a) → ∃ q' fm, RML K G H2 ms' xs' q' ∧ RT K c G H2 T1' fm ∧ (∀ a ∈ q' ++ fm, a ∈ q ++ ft) ∧ (q' ++ fm).Nodup) → Iv K c G (upd H p (.lst xs')) σ b2 (T1' ++ T) := by
  obtain ⟨v0, v1, fi, ft, h1, h2, h3, t1, nd, gn, old, go⟩ := Iv.place (T1 := T1) (T := T) I hg rfl
  simp only [RM] at h3
  obtain ⟨p, xs, g, rfl, h4, h6, rfl⟩ := h3
  refine ⟨v0, p, xs, h1, h2, h4, h6.len.symm, fun i x hx => h6.getD hx, fun ms' xs' T1' b2 hp hk => ?_⟩
  have pp : H p ≠ none := by rw [h4]; simp
  have pg : p ∉ g := by
    have := (List.nodup_append.mp nd).1
    exact (List.nodup_cons.mp this).1
  have pt : p ∉ ft := fun hm => (List.nodup_append.mp nd).2.2 p (by simp) p hm rfl
  have nd2 : (g ++ ft).Nodup := (List.nodup_cons.mp (by simpa using nd)).2
  obtain ⟨q', fm, w1, w4, w2, w3⟩ := hk (upd H p (.lst xs')) g ft (RML.frame (Same.refl _) _ _ _ h6 fun a ha => upd_ne (fun z : a = p => pg (z ▸ ha))) (t1.frame (Same.refl _) fun a ha => upd_ne (fun z : a = p => pt (z ▸ ha))) nd2 (fun a ha => upd_ne (fun z : a = p => by
    subst z
    rcases List.mem_append.mp ha with w | w
    · exact pg w
    · exact pt w))
  have pq : p ∉ q' ++ fm := fun hm => by
    rcases List.mem_append.mp (w2 p hm) with z | z
    · exact pg z
    · exact pt z
  refine go G _ (.lst ms') (p :: q') T1' fm b2 ⟨Same.refl _, gh_upd I.st.gh (gn p (by simp)), fun _ _ h => h, fun a o z1 z2 => by rw [upd_ne (fun z : a = p => z2 (by simp [z]))]; exact z1, dm_upd pp⟩ ?_ w4 (List.nodup_cons.mpr ⟨pq, w3⟩) (fun a ha => ?_) (fun a ha => ?_) hp
  · simp only [RM]
    exact ⟨p, xs', q', rfl, upd_same, w1, rfl⟩
  · rcases List.mem_cons.mp (show a ∈ p :: (q' ++ fm) from ha) with z | z
    · exact .inl (by simp [z])
    · rcases List.mem_append.mp (w2 a z) with z | z
      · exact .inl (by simp [z])
      · exact .inr (.inl z)
  · rcases List.mem_cons.mp (show a ∈ p :: (q' ++ fm) from ha) with z | z
    · exact gn a (by simp [z])
    · have := w2 a z
      exact gn a (by simp at this ⊢; grind)
end

/-! ### looking without a touch: what is owned stands as data for the while -/
mutual
/-- addresses of known things, by what stands there -/
def D.res (as : List Addr) (cs : List D) : D → D
  | .adr a => (match cs[as.idxOf a]? with
    | some (.obj C ns ds) => .oba a C ns ds
    | _ => .adr a)
  | .lst ds => .lst (D.ress as cs ds)
  | .tup ds => .tup (D.ress as cs ds)
  | .obj C ns ds => .obj C ns (D.ress as cs ds)
  | .dic ks ds => .dic ks (D.ress as cs ds)
  | d => d
def D.ress (as : List Addr) (cs : List D) : List D → List D
  | [] => []
  | d :: ds => d.res as cs :: D.ress as cs ds
end
def boxD (r : Addr) (as : List Addr) (ms : List M) : D := match (M.toDs ms)[as.idxOf r]? with
  | some d => d.res as (M.toDs ms)
  | none => .adr r
def bF : B → B
  | .no => .no
  | .d x => .d x
  | .o _ (.box r as ms) => .d (boxD r as ms)
  | .o _ m => .d m.toD
mutual
def D.unal : D → D
  | .oba a _ _ _ => .adr a
  | .tup ds => .tup (D.unals ds)
  | d => d
def D.unals : List D → List D
  | [] => []
  | d :: ds => d.unal :: D.unals ds
end
mutual
def M.unal : M → M
  | .d x => .d x.unal
  | .lst ms => .lst (M.unals ms)
  | m => m
def M.unals : List M → List M
  | [] => []
  | m :: ms => m.unal :: M.unals ms
end
section
variable {K : PySem.W.Frag} {G H : Hp}
theorem rp_at {a : Addr} : ∀ {as : List Addr} {cs : List D} {d : D}, RpL K G cs (as.map V.ref) → cs[as.idxOf a]? = some d → Rp K G d (.ref a) := fun {as cs d} h e => by
  obtain ⟨v, h1, h2⟩ := RpL.get h e
  have hl : as.idxOf a < as.length := by
    have := (List.getElem?_eq_some_iff.mp h1).1
    simpa using this
  rw [List.getElem?_map, idxOf_get hl] at h1
  have h1 : some (V.ref a) = some v := h1
  cases h1
  exact h2
mutual
theorem Rp.res {as : List Addr} {cs : List D} (hc : RpL K G cs (as.map V.ref)) : ∀ (d : D) (v : V), Rp K G d v → Rp K G (d.res as cs) v
  | .adr a, v, h => by
    simp only [Rp] at h
    subst h
    unfold D.res
    split
    · rename_i C ns ds e
      have r := rp_at hc e
      simp only [Rp] at r ⊢
      obtain ⟨p, dx, xs, h1, h2, h3, h4⟩ := r
      cases h1
      exact ⟨dx, xs, by first | trivial | rfl, h2, h3, h4⟩
    · simp [Rp]
  | .lst ds, v, h => by
    simp only [D.res, Rp] at h ⊢
    obtain ⟨p, xs, h1, h2, h3⟩ := h
    exact ⟨p, xs, h1, h2, RpL.res hc ds xs h3⟩
  | .tup ds, v, h => by
    simp only [D.res, Rp] at h ⊢
    obtain ⟨p, xs, h1, h2, h3⟩ := h
    exact ⟨p, xs, h1, h2, RpL.res hc ds xs h3⟩
  | .obj C ns ds, v, h => by
    simp only [D.res, Rp] at h ⊢
    obtain ⟨p, dx, xs, h1, h2, h4, h3⟩ := h
    exact ⟨p, dx, xs, h1, h2, h4, RpL.res hc ds xs h3⟩
  | .dic ks ds, v, h => by
    simp only [D.res, Rp] at h ⊢
    obtain ⟨p, xs, h1, h2, h4, h3⟩ := h
    exact ⟨p, xs, h1, h2, h4, RpL.res hc ds xs h3⟩
  | .non, _, h => by simpa only [D.res] using h
  | .bl _, _, h => by simpa only [D.res] using h
  | .int _, _, h => by simpa only [D.res] using h
  | .str _, _, h => by simpa only [D.res] using h
  | .ty _, _, h => by simpa only [D.res] using h
  | .seq _, _, h => by simpa only [D.res] using h
  | .any, _, h => by simpa only [D.res] using h
  | .oba .., _, h => by simpa only [D.res] using h
theorem RpL.res {as : List Addr} {cs : List D} (hc : RpL K G cs (as.map V.ref)) : ∀ (ds : List D) (xs : List V), RpL K G ds xs → RpL K G (D.ress as cs ds) xs
  | [], _, h => by simp only [D.ress, RpL] at h ⊢; exact h
  | d :: ds, _, h => by
    simp only [D.ress, RpL] at h ⊢
    obtain ⟨y, ys, h1, h2, h3⟩ := h
    exact ⟨y, ys, h1, Rp.res hc d y h2, RpL.res hc ds ys h3⟩
end
mutual
theorem Rp.unal : ∀ (d : D) (v : V), Rp K G d v → Rp K G d.unal v
  | .oba a C ns ds, v, h => by
    simp only [D.unal, Rp] at h ⊢
    obtain ⟨_, _, h, _⟩ := h
    exact h
  | .tup ds, v, h => by
    simp only [D.unal, Rp] at h ⊢
    obtain ⟨p, xs, h1, h2, h3⟩ := h
    exact ⟨p, xs, h1, h2, RpL.unal ds xs h3⟩
  | .adr _, _, h => by simpa only [D.unal] using h
  | .lst _, _, h => by simpa only [D.unal] using h
  | .obj .., _, h => by simpa only [D.unal] using h
  | .dic .., _, h => by simpa only [D.unal] using h
  | .non, _, h => by simpa only [D.unal] using h
  | .bl _, _, h => by simpa only [D.unal] using h
  | .int _, _, h => by simpa only [D.unal] using h
  | .str _, _, h => by simpa only [D.unal] using h
  | .ty _, _, h => by simpa only [D.unal] using h
  | .seq _, _, h => by simpa only [D.unal] using h
  | .any, _, h => by simpa only [D.unal] using h
theorem RpL.unal : ∀ (ds : List D) (xs : List V), RpL K G ds xs → RpL K G (D.unals ds) xs
  | [], _, h => by simp only [D.unals, RpL] at h ⊢; exact h
  | d :: ds, _, h => by
    simp only [D.unals, RpL] at h ⊢
    obtain ⟨y, ys, h1, h2, h3⟩ := h
    exact ⟨y, ys, h1, Rp.unal d y h2, RpL.unal ds ys h3⟩
end
mutual
theorem RM.unal : ∀ (m : M) (v : V) (f : List Addr), RM K G H m v f → RM K G H m.unal v f
  | .d x, v, f, h => by
    simp only [M.unal, RM] at h ⊢
    exact ⟨Rp.unal x v h.1, h.2⟩
  | .lst ms, v, f, h => by
    simp only [M.unal, RM] at h ⊢
    obtain ⟨p, xs, q, h1, h2, h3, h4⟩ := h
    exact ⟨p, xs, q, h1, h2, RML.unal ms xs q h3, h4⟩
  | .obj .., _, _, h => by simpa only [M.unal] using h
  | .dic .., _, _, h => by simpa only [M.unal] using h
  | .box .., _, _, h => by simpa only [M.unal] using h
theorem RML.unal : ∀ (ms : List M) (xs : List V) (f : List Addr), RML K G H ms xs f → RML K G H (M.unals ms) xs f
  | [], _, _, h => by simp only [M.unals, RML] at h ⊢; exact h
  | m :: ms, _, _, h => by
    simp only [M.unals, RML] at h ⊢
    obtain ⟨y, ys, f1, f2, h1, h2, h3, h4⟩ := h
    exact ⟨y, ys, f1, f2, h1, RM.unal m y f1 h2, RML.unal ms ys f2 h3, h4⟩
end
theorem Iv.unal {c : Cg} {σ : L2.St} {b : List B} {T : List (M × V)} {m : M} {v : V} (I : Iv K c G H σ b ((m, v) :: T)) : Iv K c G H σ b ((m.unal, v) :: T) := by
  obtain ⟨st, f1, f2, h1, ⟨g1, g2, h2, h5, h6, h7⟩, h3, h4⟩ := I
  exact ⟨st, f1, f2, h1, ⟨g1, g2, RM.unal _ _ _ h2, h5, h6, h7⟩, h3, h4⟩
end
mutual
def D.safe : D → Bool
  | .non | .bl _ | .int _ | .str _ | .ty _ | .adr _ => true
  | .tup ds => D.safes ds
  | _ => false
def D.safes : List D → Bool
  | [] => true
  | d :: ds => d.safe && D.safes ds
end
mutual
def M.safe : M → Bool
  | .d x => x.safe
  | .lst ms => M.safes ms
  | .obj _ _ ms => M.safes ms
  | .dic _ ms => M.safes ms
  | .box .. => false
def M.safes : List M → Bool
  | [] => true
  | m :: ms => m.safe && M.safes ms
end
section
variable {K : PySem.W.Frag} {c : Cg} {G G' H H' : Hp} {σ : L2.St} {b : List B} {T T1 : List (M × V)} {p : Addr} {o : HO} {d : D} {v : V} {m : M} {i j : Nat}
theorem RE.peek {c' : Cg} {G2 : Hp} (e : Same G G2) : ∀ {b : List B} {σ : L2.St} {f : List Addr}, RE K c G H b σ f → (∀ a ∈ f, G2 a = H a) → RE K c' G2 H (b.map bF) σ []
  | [], _, _, ⟨h, _⟩, _ => ⟨h, rfl⟩
  | x :: bs, _, _, ⟨s, σ', f1, f2, h1, h2, h3, h4⟩, k => by
    subst h4
    refine ⟨s, σ', [], [], h1, ?_, RE.peek e h3 (fun a ha => k a (by simp [ha])), rfl⟩
    cases x with
    | no => exact rfl
    | d x =>
      obtain ⟨_, v, q1, q2⟩ := h2
      exact ⟨rfl, v, q1, Rp.mono e _ _ q2⟩
    | o kk m =>
      obtain ⟨v, q1, q2, _⟩ := h2
      cases m with
      | box r as ms =>
        simp only [RM] at q2
        obtain ⟨rfl, q2⟩ := q2
        have rl := RML.data _ _ _ q2 e (fun a ha => k a (by simp [ha]))
        refine ⟨rfl, _, q1, ?_⟩
        unfold boxD
        split
        · rename_i d ed
          exact Rp.res rl d _ (rp_at rl ed)
        · simp [Rp]
      | d x => exact ⟨rfl, v, q1, RM.data _ _ _ q2 e (fun a ha => k a (by simp [ha]))⟩
      | lst ms => exact ⟨rfl, v, q1, RM.data _ _ _ q2 e (fun a ha => k a (by simp [ha]))⟩
      | obj C ns ms => exact ⟨rfl, v, q1, RM.data _ _ _ q2 e (fun a ha => k a (by simp [ha]))⟩
      | dic ks ms => exact ⟨rfl, v, q1, RM.data _ _ _ q2 e (fun a ha => k a (by simp [ha]))⟩
mutual
theorem RM.kinds : ∀ (m : M) (v : V) (f : List Addr), RM K G H m v f → ∀ a ∈ f, (∀ xs, H a ≠ some (.tup xs)) ∧ ∀ ob xs, H a ≠ some (.frz ob (.tup xs))
  | .d x, v, f, h => by
    simp only [RM] at h
    obtain ⟨_, rfl⟩ := h
    simp
  | .lst ms, v, f, h => by
    simp only [RM] at h
    obtain ⟨p, xs, q, h1, h2, h3, rfl⟩ := h
    intro a ha
    rcases List.mem_cons.mp ha with rfl | ha
    · rw [h2]; simp
    · exact RML.kinds ms xs q h3 a ha
  | .obj C ns ms, v, f, h => by
    simp only [RM] at h
    obtain ⟨p, dx, xs, q, h1, h2, h5, h3, rfl⟩ := h
    intro a ha
    rcases List.mem_cons.mp ha with rfl | ha
    · rw [h2]; simp
    · exact RML.kinds ms xs q h3 a ha
  | .dic ks ms, v, f, h => by
    simp only [RM] at h
    obtain ⟨p, xs, q, h1, h2, h5, h3, rfl⟩ := h
    intro a ha
    rcases List.mem_cons.mp ha with rfl | ha
    · rw [h2]; simp
    · exact RML.kinds ms xs q h3 a ha
  | .box a as ms, v, f, h => by
    simp only [RM] at h
    exact RML.kinds ms _ f h.2
theorem RML.kinds : ∀ (ms : List M) (xs : List V) (f : List Addr), RML K G H ms xs f → ∀ a ∈ f, (∀ xs, H a ≠ some (.tup xs)) ∧ ∀ ob xs, H a ≠ some (.frz ob (.tup xs))
  | [], _, _, h => by
    simp only [RML] at h
    obtain ⟨_, rfl⟩ := h
    simp
  | m :: ms, _, _, h => by
    simp only [RML] at h
    obtain ⟨y, ys, f1, f2, h1, h2, h3, rfl⟩ := h
    intro a ha
    rcases List.mem_append.mp ha with ha | ha
    · exact RM.kinds m y f1 h2 a ha
    · exact RML.kinds ms ys f2 h3 a ha
end
mutual
theorem Rp.safe (k : ∀ p xs, SqT K G p xs → SqT K G' p xs) : ∀ (d : D) (v : V), d.safe = true → Rp K G d v → Rp K G' d v
  | .non, _, _, h => by simp only [Rp] at h ⊢; exact h
  | .bl _, _, _, h => by simp only [Rp] at h ⊢; exact h
  | .int _, _, _, h => by simp only [Rp] at h ⊢; exact h
  | .str _, _, _, h => by simp only [Rp] at h ⊢; exact h
  | .ty _, _, _, h => by simp only [Rp] at h ⊢; exact h
  | .tup ds, _, s, h => by
    simp only [Rp] at h ⊢
    obtain ⟨p, xs, h1, h2, h3⟩ := h
    exact ⟨p, xs, h1, k p xs h2, RpL.safe k ds xs (by simpa [D.safe] using s) h3⟩
  | .adr _, _, _, h => by simp only [Rp] at h ⊢; exact h
  | .lst _, _, s, _ => by simp [D.safe] at s
  | .seq _, _, s, _ => by simp [D.safe] at s
  | .obj .., _, s, _ => by simp [D.safe] at s
  | .dic .., _, s, _ => by simp [D.safe] at s
  | .any, _, s, _ => by simp [D.safe] at s
  | .oba .., _, s, _ => by simp [D.safe] at s
theorem RpL.safe (k : ∀ p xs, SqT K G p xs → SqT K G' p xs) : ∀ (ds : List D) (xs : List V), D.safes ds = true → RpL K G ds xs → RpL K G' ds xs
  | [], _, _, h => by simp only [RpL] at h ⊢; exact h
  | d :: ds, _, s, h => by
    simp only [D.safes, Bool.and_eq_true] at s
    simp only [RpL] at h ⊢
    obtain ⟨y, ys, h1, h2, h3⟩ := h
    exact ⟨y, ys, h1, Rp.safe k d y s.1 h2, RpL.safe k ds ys s.2 h3⟩
end
mutual
theorem RM.safe (k : ∀ p xs, SqT K G p xs → SqT K G' p xs) : ∀ (m : M) (v : V) (f : List Addr), m.safe = true → RM K G H m v f → RM K G' H m v f
  | .d x, _, _, s, h => by
    simp only [RM] at h ⊢
    exact ⟨Rp.safe k x _ (by simpa [M.safe] using s) h.1, h.2⟩
  | .lst ms, _, _, s, h => by
    simp only [RM] at h ⊢
    obtain ⟨p, xs, q, h1, h2, h3, h4⟩ := h
    exact ⟨p, xs, q, h1, h2, RML.safe k ms xs q (by simpa [M.safe] using s) h3, h4⟩
  | .obj C ns ms, _, _, s, h => by
    simp only [RM] at h ⊢
    obtain ⟨p, dx, xs, q, h1, h2, h5, h3, h4⟩ := h
    exact ⟨p, dx, xs, q, h1, h2, h5, RML.safe k ms xs q (by simpa [M.safe] using s) h3, h4⟩
  | .dic ks ms, _, _, s, h => by
    simp only [RM] at h ⊢
    obtain ⟨p, xs, q, h1, h2, h5, h3, h4⟩ := h
    exact ⟨p, xs, q, h1, h2, h5, RML.safe k ms xs q (by simpa [M.safe] using s) h3, h4⟩
  | .box .., _, _, s, _ => by simp [M.safe] at s
theorem RML.safe (k : ∀ p xs, SqT K G p xs → SqT K G' p xs) : ∀ (ms : List M) (xs : List V) (f : List Addr), M.safes ms = true → RML K G H ms xs f → RML K G' H ms xs f
  | [], _, _, _, h => by simp only [RML] at h ⊢; exact h
  | m :: ms, _, _, s, h => by
    simp only [M.safes, Bool.and_eq_true] at s
    simp only [RML] at h ⊢
    obtain ⟨y, ys, f1, f2, h1, h2, h3, h4⟩ := h
    exact ⟨y, ys, f1, f2, h1, RM.safe k m y f1 s.1 h2, RML.safe k ms ys f2 s.2 h3, h4⟩
end
/-- THE LOOK: all that is owned as data; nothing of the heap changes; a safe answer stays -/
theorem Iv.look (I : Iv K c G H σ b T) : ∃ c' G2, Iv K c' G2 H σ (b.map bF) [] ∧ (∀ b1 G3 H3 T3, Iv K c' G3 H3 σ b1 T3 → Same H H3 ∧ Iv K c G H3 σ b T) ∧
    ∀ b1 G3 H3 m v, m.safe = true → Iv K c' G3 H3 σ b1 [(m, v)] → ∃ G4, Iv K c G4 H3 σ b ((m, v) :: T) := by
  obtain ⟨st, f1, f2, h1, h2, nd, hg⟩ := id I
  have gs : Same G (gain G H f1) := gain_same st.gh
  have back : ∀ (b1 : List B) G3 H3 T3, Iv K ⟨H, gain G H f1, [], fun _ => [], []⟩ G3 H3 σ b1 T3 → Same H H3 := fun b1 G3 H3 T3 J a o e => J.st.kp a o e (by simp)
  refine ⟨⟨H, gain G H f1, [], fun _ => [], []⟩, gain G H f1, ⟨⟨Same.refl _, gain_heap st.gh, fun _ _ h => h, fun _ _ h _ => h, fun _ h => h⟩, [], [], RE.peek gs h1 (fun a ha => gain_in ha), rfl, by simp, by simp⟩, fun b1 G3 H3 T3 J => ?_, fun b1 G3 H3 m v sf J => ?_⟩
  · have s := back _ _ _ _ J
    exact ⟨s, I.ext (Same.refl _) (st.gh.trans s) s fun _ _ h => h⟩
  · have s := back _ _ _ _ J
    have jg : Same (gain G H f1) G3 := J.st.g
    have g3 : Same G3 H3 := J.st.gh
    have jn : ∀ a, H a ≠ none → gain G H f1 a = none → G3 a = none := J.st.nw
    obtain ⟨_, e1, e2, _, r2, en, eg⟩ := J
    obtain ⟨r3, r4⟩ := rt_one r2
    let G4 : Hp := fun a => if H a = none then G3 a else G a
    have n4 : ∀ a, H a = none → G4 a = G3 a := fun a h => if_pos h
    have o4 : ∀ a, H a ≠ none → G4 a = G a := fun a h => if_neg h
    have s4 : Same G G4 := fun a o e => by
      have : H a ≠ none := by rw [st.gh a o e]; simp
      rw [o4 a this]; exact e
    have t4 : Same G4 H3 := fun a o e => by
      by_cases q : H a = none
      · rw [n4 a q] at e; exact g3 a o e
      · rw [o4 a q] at e; exact s a o (st.gh a o e)
    have kinds : ∀ a ∈ f1, (∀ xs, H a ≠ some (.tup xs)) ∧ ∀ ob xs, H a ≠ some (.frz ob (.tup xs)) := by
      have : ∀ {b : List B} {σ : L2.St} {f : List Addr}, RE K c G H b σ f → ∀ a ∈ f, (∀ xs, H a ≠ some (.tup xs)) ∧ ∀ ob xs, H a ≠ some (.frz ob (.tup xs)) := by
        intro b
        induction b with
        | nil => rintro σ f ⟨_, rfl⟩; simp
        | cons x bs ih =>
          rintro σ f ⟨s, σ', g1, g2, q1, q2, q3, rfl⟩ a ha
          rcases List.mem_append.mp ha with ha | ha
          · cases x with
            | no => have q2 : g1 = [] := q2; subst q2; simp at ha
            | d x => obtain ⟨rfl, _⟩ := q2; simp at ha
            | o k m => obtain ⟨v, _, q4, _⟩ := q2; exact RM.kinds _ _ _ q4 a ha
          · exact ih q3 a ha
      exact this h1
    have key : ∀ p o, G3 p = some o → ((∃ xs, o = .tup xs) ∨ ∃ ob xs, o = .frz ob (.tup xs)) → G4 p = some o := fun p o e ho => by
      by_cases q : H p = none
      · rw [n4 p q]; exact e
      · rw [o4 p q]
        by_cases w : p ∈ f1
        · exfalso
          cases hh : H p with
          | none => exact q hh
          | some o' =>
            have z1 : G3 p = some o' := jg p o' (by rw [gain_in w]; exact hh)
            rw [e] at z1
            cases z1
            rcases ho with ⟨xs, rfl⟩ | ⟨ob, xs, rfl⟩
            · exact (kinds p w).1 xs hh
            · exact (kinds p w).2 ob xs hh
        · cases hh : G p with
          | none =>
            have := jn p q (by rw [gain_out w]; exact hh)
            rw [this] at e; cases e
          | some o' =>
            have z1 : G3 p = some o' := jg p o' (gs p o' hh)
            rw [e] at z1
            exact z1.symm
    have sq : ∀ p xs, SqT K G3 p xs → SqT K G4 p xs := fun p xs h => by
      rcases h with (h | ⟨ob, h⟩) | h
      · exact .inl (.inl (key p _ h (.inl ⟨xs, rfl⟩)))
      · exact .inl (.inr ⟨ob, key p _ h (.inr ⟨ob, xs, rfl⟩)⟩)
      · exact .inr h
    have r5 := RM.safe sq m v _ sf r3
    have new : ∀ a ∈ e2, H a = none := r4
    obtain ⟨ft, t1, t2, t3, t4', go⟩ := Iv.tmp (T1 := []) I
    have t1 : ft = [] := t1
    subst t1
    refine ⟨G4, go G4 H3 [(m, v)] e2 ⟨s4, t4, fun a q1 q2 => by rw [o4 a q1]; exact q2, fun a o e _ => s a o e, fun a h => ?_⟩ ⟨e2, [], r5, fun a ha => ?_, rfl, by simp⟩ (List.nodup_append.mp en).2.1 (fun a ha => .inr (new a ha)) fun a ha => ?_⟩
    · cases q : H a with
      | none => exact absurd q h
      | some o => rw [s a o q]; simp
    · cases q : c.H0 a with
      | none => rfl
      | some o => exact absurd (new a ha) (st.dm a (by rw [q]; simp))
    · rw [n4 a (new a ha)]
      exact (eg a (List.mem_append_right _ ha)).1
end
section
variable {X : Cx} {e e1 e2 e3 : Expr} {es : List Expr} {st : Stmt} {sts : List Stmt} {pos p : Pos} {f f1 f2 f3 : Ev} {fs : Av} {src : List (Option Nat)} {x : Str} {t t1 t2 : Tv} {k1 k2 : Sv} {j : Nat} {π : Pth} {n : Str} {Cs : List Str}
def tPeek (t : Tv) : Tv := fun b => match t (b.map bF) with
  | some (r, _) => some (r, b)
  | none => none
theorem t_peek (h : TM X e t) : TM X e (tPeek t) := h.wk fun σ H Q => by
  rintro ⟨c, G, b, T, r, b', hf, I, q⟩
  unfold tPeek at hf
  split at hf
  · rename_i r0 b1 e1
    cases hf
    obtain ⟨c', G2, I2, back, _⟩ := I.look
    exact ⟨c', G2, b.map bF, [], r, b1, e1, I2, fun G' H' I' => q G H' (back _ _ _ _ I').2⟩
  · cases hf
def fPeek (f : Ev) : Ev := fun b => match f (b.map bF) with
  | some (m, _) => if m.unal.safe = true then some (m.unal, b) else none
  | none => none
theorem e_peek (h : EM X e f) : EM X e (fPeek f) := h.wk fun σ H Q => by
  rintro ⟨c, G, b, T, r, b', hf, I, q⟩
  unfold fPeek at hf
  split at hf
  · rename_i m b1 e1
    split at hf
    · rename_i sf
      cases hf
      obtain ⟨c', G2, I2, _, back⟩ := I.look
      refine ⟨c', G2, b.map bF, [], _, b1, e1, I2, fun v G' H' I' => ?_⟩
      obtain ⟨G4, I4⟩ := back _ _ _ _ _ sf I'.unal
      exact q v G4 H' I4
    · cases hf
  · cases hf
/-! ### what only adds to the heap -/
def tekO (K : PySem.W.Frag) (f : Ev) : TE := fun σ H Q => ∃ c G b T m, f b = some (m, b) ∧ Iv K c G H σ b T ∧ ∀ v G' H', Same H H' → Iv K c G' H' σ b ((m, v) :: T) → Q v H'
abbrev EK (X : Cx) (e : Expr) (f : Ev) : Prop := PE X e (tekO X.K f)
def takO (K : PySem.W.Frag) (f : Av) : TA := fun σ H Q => ∃ c G b T ms, f b = some (ms, b) ∧ Iv K c G H σ b T ∧ ∀ us G' H', ms.length = us.length → Same H H' → Iv K c G' H' σ b (zT ms us ++ T) → Q us H'
abbrev AK (X : Cx) (es : List Expr) (f : Av) : Prop := PA X es (takO X.K f)
theorem k_var (j : Nat) (hN : X.N[j]? = some x := by rfl) (hv : Vis X.env.scope x := by first | exact Or.inl rfl | exact Or.inr (Or.inl rfl) | exact Or.inr (Or.inr rfl)) (hd : (x == ("__debug__" : Str)) = false := by decide)
    (hcd : (x == ("__classdict__" : Str)) = false := by decide) : EK X (.Name x pos) (fVar j) := (pe_var hN hv hd hcd).wk fun σ H Q => by
  rintro ⟨c, G, b, T, m, hf, I, q⟩
  unfold fVar at hf
  split at hf
  · rename_i d eb
    cases hf
    obtain ⟨v, h1, h2⟩ := I.getD eb
    exact ⟨v, h1, q v G H (fun _ _ h => h) (I.pushD h2)⟩
  · cases hf
theorem k_pl (h : PP X e j π) : EK X e (fPl j π) := h.wk fun σ H Q => by
  rintro ⟨c, G, b, T, m, hf, I, q⟩
  unfold fPl at hf
  split at hf
  · rename_i d eg
    cases hf
    obtain ⟨v0, v1, f1, w1, w2, w3⟩ := I.readP eg
    simp only [RM] at w3
    exact ⟨v0, v1, w1, w2, q v1 G H (fun _ _ h => h) (I.pushD w3.1)⟩
  · cases hf
theorem k_peek (h : EM X e f) : EK X e (fPeek f) := h.wk fun σ H Q => by
  rintro ⟨c, G, b, T, r, hf, I, q⟩
  unfold fPeek at hf
  split at hf
  · rename_i m b1 e1
    split at hf
    · rename_i sf
      cases hf
      obtain ⟨c', G2, I2, kp, back⟩ := I.look
      refine ⟨c', G2, b.map bF, [], _, b1, e1, I2, fun v G' H' I' => ?_⟩
      obtain ⟨G4, I4⟩ := back _ _ _ _ _ sf I'.unal
      exact q v G4 H' (kp _ _ _ _ I').1 I4
    · cases hf
  · cases hf
theorem ka_nil : AK X [] fNil := pa_nil.wk fun σ H Q => by
  rintro ⟨c, G, b, T, ms, hf, I, q⟩
  simp only [fNil, Option.some.injEq, Prod.mk.injEq, and_true] at hf
  subst hf
  exact q [] G H rfl (fun _ _ h => h) I
def fConsK (f : Ev) (fs : Av) : Av := fun b => match f b, fs b with
  | some (m, _), some (ms, _) => some (m :: ms, b)
  | _, _ => none
/-- keeps the slots -/
def Keep (f : Ev) : Prop := ∀ b m b1, f b = some (m, b1) → b1 = b
def KeepA (f : Av) : Prop := ∀ b m b1, f b = some (m, b1) → b1 = b
theorem kp_var : Keep (fVar j) := fun b m b1 h => by
  unfold fVar at h
  split at h
  · cases h; rfl
  · cases h
theorem kp_pl : Keep (fPl j π) := fun b m b1 h => by
  unfold fPl at h
  split at h
  · cases h; rfl
  · cases h
theorem kp_peek : Keep (fPeek f) := fun b m b1 h => by
  unfold fPeek at h
  split at h
  · split at h
    · cases h; rfl
    · cases h
  · cases h
theorem kp_nil : KeepA fNil := fun b m b1 h => by
  unfold fNil at h
  cases h; rfl
theorem kp_cons (h1 : Keep f) (h2 : KeepA fs) : KeepA (fCons f fs) := fun b m b1 h => by
  unfold fCons at h
  split at h
  · rename_i e1
    have := h1 _ _ _ e1
    subst this
    split at h
    · rename_i e2
      have := h2 _ _ _ e2
      subst this
      cases h; rfl
    · cases h
  · cases h
theorem kp_of {g : List M → Option M} (h : KeepA fs) : Keep (fOf g fs) := fun b m b1 q => by
  unfold fOf at q
  split at q
  · rename_i e1
    have := h _ _ _ e1
    subst this
    split at q
    · cases q; rfl
    · cases q
  · cases q
theorem ka_cons (h : EK X e f) (hk : Keep f) (hr : AK X es fs) (hs : starEach (e :: es) X.env = (false, eval e X.env) :: starEach es X.env := by rfl) : AK X (e :: es) (fCons f fs) := (pa_cons h hr hs).wk fun σ H Q => by
  rintro ⟨c, G, b, T, ms, hf, I, q⟩
  unfold fCons at hf
  split at hf
  · rename_i m b1 e1
    have := hk _ _ _ e1
    subst this
    split at hf
    · rename_i ms' b2 e2
      cases hf
      refine ⟨c, G, b1, T, m, e1, I, fun v G1 H1 s1 I1 => ⟨c, G1, b1, _, ms', e2, I1, fun us G2 H2 hl s2 I2 => ?_⟩⟩
      exact q (v :: us) G2 H2 (by simp [hl]) (fun a o h => s2 a o (s1 a o h)) (I2.perm List.perm_middle)
    · cases hf
  · cases hf
theorem k_tup {nn : Nat} (h : AK X es fs) (hk : KeepA fs) : EK X (.Tuple es nn pos) (fOf PL.gTup fs) := (pe_tup h).wk fun σ H Q => by
  rintro ⟨c, G, b, T, m, hf, I, q⟩
  unfold fOf at hf
  split at hf
  · rename_i ms b1 e1
    have := hk _ _ _ e1
    subst this
    split at hf
    · rename_i m1 e2
      cases hf
      refine ⟨c, G, b1, T, ms, e1, I, fun us G1 H1 hl s1 I1 => ?_⟩
      unfold PL.gTup at e2
      split at e2
      · rename_i hz
        split at e2
        · rename_i ds e3
          cases e2
          refine ⟨by rw [← hl]; exact le_line hz, fun p hp => q _ _ _ (fun a o h => same_upd hp a o (s1 a o h)) (I1.dropZ.newT hp (I1.datas hl e3))⟩
        · cases e2
      · cases e2
    · cases hf
  · cases hf
theorem PathV.keep {K : PySem.W.Frag} {H H' : Hp} (s : Same H H') : ∀ {π : Pth} {v v1 : V}, PathV K H v π v1 → PathV K H' v π v1
  | [], _, _, h => h
  | q :: π, _, _, ⟨a, C, dx, fs, h1, h2, h3, h4⟩ => ⟨a, C, dx, fs, PathV.keep s h1, s _ _ h2, h3, h4⟩
theorem PathV.fun_ {K : PySem.W.Frag} {H : Hp} : ∀ {π : Pth} {v v1 v2 : V}, PathV K H v π v1 → PathV K H v π v2 → v1 = v2
  | [], _, _, _, h1, h2 => by
    have h1 : _ = _ := h1
    have h2 : _ = _ := h2
    rw [← h1, ← h2]
  | q :: π, _, _, _, ⟨a, C, dx, fs, h1, h2, h3, h4⟩, ⟨a', C', dx', fs', k1, k2, k3, k4⟩ => by
    have e := PathV.fun_ h1 k1
    cases e
    rw [h2] at k2
    have k2 := Option.some.inj k2
    injection k2 with _ _ k5
    subst k5
    rw [h4] at k4
    exact Option.some.inj k4
/-- place.append(e) -/
def sAppP (j : Nat) (π : Pth) (f : Ev) : Sv := fun b => match getP b j π with
  | some (.lst ms) => (match f b with
    | some (m, _) => if ms.length < 1000000 then (match setP b j π (.lst (ms ++ [m])) with
        | some b2 => some (.nx, b2)
        | none => none) else none
    | none => none)
  | _ => none
theorem s_appP {p2 p3 : Pos} (hp : PP X e1 j π) (h : EK X e f) (hk : Keep f)
    (hbase : attributeBase e1 "append" X.env (eval e1 X.env) = eval e1 X.env := by rfl)
    (hfew : ((backTo p3 (starEach (e :: []) X.env)).all (fun x => !x.1) && (backToKw p3 (keywordEach [] X.env)).all (fun x => x.1.isSome)
      && decide ((e :: []).length + ([] : List Keyword).length + (if ([] : List Keyword).isEmpty then 0 else 1) < 30)) = true := by rfl)
    (hline : (p2.endLine == p3.line) = true := by rfl) (hs : starEach (e :: []) X.env = (false, eval e X.env) :: starEach [] X.env := by rfl) (hplain : (backTo p3 (starEach [] X.env)).any (·.1) = false := by rfl)
    (hsw : swapsWith (.Call (.Attribute e1 "append" p2) [e] [] p3) none pos.line X.env = pure false := by rfl) :
    SM X (.Expr (.Call (.Attribute e1 "append" p2) [e] [] p3) pos) (sAppP j π f) := (ps_expr (pe_bm PySem.F.plainAttrs_list PySem.F.slot_list_append PySem.F.type_list_append mt_append hp (pa_cons h pa_nil hs) hbase hfew hline hs hplain) hsw).wk fun D σ H => by
  rintro ⟨c, G, b, T, r, b', hf, I, q⟩
  unfold sAppP at hf
  split at hf
  · rename_i ms eg
    split at hf
    · rename_i m b1 e1
      have := hk _ _ _ e1
      subst this
      split at hf
      · rename_i hz
        split at hf
        · rename_i b2 ep
          cases hf
          obtain ⟨v0, p0, xs0, w1, w2, w3, _⟩ := Iv.mutP (T1 := []) I eg
          refine ⟨v0, _, w1, w2, .inl ⟨rfl, xs0, SqL.of w3⟩, c, G, b1, T, m, e1, I, fun y G1 H1 s1 I1 => ?_⟩
          obtain ⟨v0', p1, xs, z1, z2, z3, z4, z5, z6⟩ := Iv.mutP (T1 := [(m, y)]) I1 eg
          rw [w1] at z1
          have z1 := Option.some.inj (Option.some.inj z1)
          subst z1
          have z2 := PathV.fun_ (PathV.keep s1 w2) z2
          cases z2
          refine ⟨_, xs, y, rfl, rfl, z3, by rw [z4]; exact lt_line (by omega), q σ G1 _ (z6 (ms ++ [m]) (xs ++ [y]) [] b' ep fun H3 q ft a1 a2 a3 _ => ?_)⟩
          obtain ⟨a4, a5⟩ := rt_one a2
          exact ⟨q ++ ft, [], RML.app a1 a4, rfl, fun a ha => by simpa using ha, by simpa using a3⟩
        · cases hf
      · cases hf
    · cases hf
  · cases hf
end
end PL

namespace PL
open PySem PySem.Spec PyProof.Rows L2
/-! ### methods, classes that are made, properties -/
def appF (F : Fn) (dds : List D) (src : List (Option Nat)) (ms : List M) (b1 : List B) : Option (M × List B) := match fill src ms b1 with
  | some (full, ks, b2) => (match F (full ++ dds.map .d) with
    | some (r, os) => (match putb src ks full os b2 with
      | some b3 => some (r, b3)
      | none => none)
    | none => none)
  | none => none
structure MetOk (P : Program) (w : World) (K : PySem.W.Frag) (mg : Str → Option Value) (base : Heap) (k : Nat) (C m : Str) (dvs : List V) (F : Fn) : Prop where
  cls : Cls K (He.ga K C)
  ex : ∃ f fd ps ds, Meth K (He.ga K C) m f ∧ Binds K fd ps ds ∧ Vals dvs ds ∧ FnOk P w K mg base CX0 k f fd ps (spD K F)
structure MakOk (P : Program) (w : World) (K : PySem.W.Frag) (mg : Str → Option Value) (base : Heap) (k : Nat) (C : Str) (dvs : List V) (F : Fn) : Prop where
  at_ : mg C = some (.ref (He.ga K C))
  ex : ∃ f fd ps ds, Mk K (He.ga K C) f ∧ Binds K fd ps ds ∧ Vals dvs ds ∧ FnOk P w K mg base CX0 k f fd ps (spD K F)
structure ProOk (P : Program) (w : World) (K : PySem.W.Frag) (mg : Str → Option Value) (base : Heap) (k : Nat) (C m : Str) (F : Fn) : Prop where
  cls : Cls K (He.ga K C)
  ex : ∃ f p fd ps, PropOf K (He.ga K C) m p f ∧ Binds K fd ps [] ∧ FnOk P w K mg base CX0 k f fd ps (spD K F)
/-- receiver: data -/
def fMeth (C m : Str) (F : Fn) (dds : List D) (fr : Ev) (src : List (Option Nat)) (fs : Av) : Ev := fun b => match fr b with
  | some (.d (.obj C' ns ds), b0) => if C' = C ∧ fldI m ns = none then (match fs b0 with
    | some (ms, b1) => appF F dds (none :: src) (.d (.obj C' ns ds) :: ms) b1
    | none => none) else none
  | _ => none
/-- receiver: a name; its thing is handed on and comes back -/
def fMethO (C m : Str) (F : Fn) (dds : List D) (j : Nat) (src : List (Option Nat)) (fs : Av) : Ev := fun b => match b[j]? with
  | some (.d (.obj C' ns ds)) => if C' = C ∧ fldI m ns = none then (match fs b with
    | some (ms, b1) => appF F dds (none :: src) (.d (.obj C' ns ds) :: ms) b1
    | none => none) else none
  | _ => (match getP b j [] with
    | some (.obj C' ns _) => if C' = C ∧ fldI m ns = none then (match fs b with
      | some (ms, b1) => appF F dds (some j :: src) ms b1
      | none => none) else none
    | _ => none)
section
variable {X : Cx} {e e1 e2 e3 o : Expr} {es : List Expr} {st : Stmt} {sts : List Stmt} {pos p apos : Pos} {f f1 f2 f3 fr : Ev} {fs : Av} {src : List (Option Nat)} {x m C : Str} {t t1 t2 : Tv} {k1 k2 : Sv} {j : Nat} {π : Pth} {n : Str} {Cs : List Str} {F : Fn} {dds : List D} {dvs : List V} {E : XK}
theorem appF_in {K : PySem.W.Frag} {c : Cg} {G H : Hp} {σ : L2.St} {b b3 : List B} {T : List (M × V)} {ms : List M} {us vs : List V} {r : M} {Q : VK} (I : Iv K c G H σ b (zT ms us ++ T)) (hl : ms.length = us.length) (av : AV σ src us vs) (hd : RpL K G dds dvs)
    (hf : appF F dds src ms b = some (r, b3)) (q : ∀ v G' H', Iv K c G' H' σ b3 ((r, v) :: T) → Q v H') : spD K F (vs ++ dvs) H Q E := by
  unfold appF at hf
  split at hf
  · rename_i full ks b2 e2
    split at hf
    · rename_i r0 os e3
      split at hf
      · rename_i b30 e4
        cases hf
        exact I.call hl av hd e2 e3 e4 q
      · cases hf
    · cases hf
  · cases hf
/-- the tracked instance behind data -/
theorem rp_obj {K : PySem.W.Frag} {G H : Hp} {ns : List Str} {ds : List D} {v : V} (r : Rp K G (.obj C ns ds) v) (s : Same G H) (hm : fldI m ns = none) : ∃ a dx fs, v = .ref a ∧ H a = some (.ins (He.ga K C) dx fs) ∧ fs.lookup m = none := by
  simp only [Rp] at r
  obtain ⟨p, dx, xs, rfl, h2, _, _⟩ := r
  exact ⟨p, dx, _, rfl, s _ _ h2, fldI_none hm⟩
theorem getP_obj {K : PySem.W.Frag} {c : Cg} {G H : Hp} {σ : L2.St} {b : List B} {T : List (M × V)} {ns : List Str} {ms : List M} (I : Iv K c G H σ b T) (hg : getP b j [] = some (.obj C ns ms)) (hm : fldI m ns = none) :
    ∃ a dx fs, σ[j]? = some (some (.ref a)) ∧ H a = some (.ins (He.ga K C) dx fs) ∧ fs.lookup m = none := by
  obtain ⟨v0, v1, f1, w1, w2, w3⟩ := I.readP hg
  have w2 : v0 = v1 := w2
  subst w2
  simp only [RM] at w3
  obtain ⟨p, dx, xs, q, rfl, h2, _⟩ := w3
  exact ⟨p, dx, _, w1, h2, fldI_none hm⟩
theorem meth_in {K : PySem.W.Frag} (hd : ∀ G, RpL K G dds dvs) : ∀ σ H Q, teO K (fMeth C m F dds fr src fs) σ H Q → tMeth (He.ga K C) m (spD K F) dvs E (teO K fr) (taO K src fs) σ H Q := fun σ H Q => by
  rintro ⟨c, G, b, T, r, b', hf, I, q⟩
  unfold fMeth at hf
  split at hf
  · rename_i C' ns ds b0 e0
    split at hf
    · rename_i hc
      obtain ⟨rfl, hm⟩ := hc
      split at hf
      · rename_i ms b1 e1
        refine ⟨c, G, b, T, _, b0, e0, I, fun v G1 H1 I1 => ?_⟩
        obtain ⟨a, dx, fs, w1, w2, w3⟩ := rp_obj I1.topD I1.st.gh hm
        refine ⟨a, dx, fs, w1, w2, w3, c, G1, b0, _, ms, b1, e1, I1, fun us vs G2 H2 hl av I2 => ?_⟩
        exact appF_in (src := none :: src) (vs := v :: vs) (us := v :: us) (ms := .d (.obj C' ns ds) :: ms) (I2.perm List.perm_middle) (by simp [hl]) ⟨v, us, vs, rfl, rfl, av⟩ (hd _) hf q
      · cases hf
    · cases hf
  · cases hf
theorem methO_in {K : PySem.W.Frag} (hd : ∀ G, RpL K G dds dvs) : ∀ σ H Q, teO K (fMethO C m F dds j src fs) σ H Q → tMeth (He.ga K C) m (spD K F) dvs E (fun σ H Q => ∃ v, σ[j]? = some (some v) ∧ Q v H) (taO K src fs) σ H Q := fun σ H Q => by
  rintro ⟨c, G, b, T, r, b', hf, I, q⟩
  unfold fMethO at hf
  split at hf
  · rename_i C' ns ds eb
    split at hf
    · rename_i hc
      obtain ⟨rfl, hm⟩ := hc
      split at hf
      · rename_i ms b1 e1
        obtain ⟨v, h1, h2⟩ := I.getD eb
        obtain ⟨a, dx, fs, w1, w2, w3⟩ := rp_obj h2 I.st.gh hm
        refine ⟨v, h1, a, dx, fs, w1, w2, w3, c, G, b, _, ms, b1, e1, I.pushD h2, fun us vs G2 H2 hl av I2 => ?_⟩
        exact appF_in (src := none :: src) (vs := v :: vs) (us := v :: us) (ms := .d (.obj C' ns ds) :: ms) (I2.perm List.perm_middle) (by simp [hl]) ⟨v, us, vs, rfl, rfl, av⟩ (hd _) hf q
      · cases hf
    · cases hf
  · split at hf
    · rename_i C' ns ms0 eg
      split at hf
      · rename_i hc
        obtain ⟨rfl, hm⟩ := hc
        split at hf
        · rename_i ms b1 e1
          obtain ⟨a, dx, fs, w1, w2, w3⟩ := getP_obj I eg hm
          refine ⟨_, w1, a, dx, fs, rfl, w2, w3, c, G, b, T, ms, b1, e1, I, fun us vs G2 H2 hl av I2 => ?_⟩
          exact appF_in (src := some j :: src) (vs := .ref a :: vs) I2 hl ⟨.ref a, vs, rfl, w1, av⟩ (hd _) hf q
        · cases hf
      · cases hf
    · cases hf
theorem e_meth {k : Nat} {pl : Sem Bool} (h : MetOk X.prog X.w X.K X.mg X.base k C m dvs F) (hr : Room k X.A) (hd : ∀ G, RpL X.K G dds dvs) (ho : EM X o fr) (ha : AM X (e :: es) src fs)
    (hst : starEach (e :: es) X.env = (false, eval e X.env) :: starEach es X.env := by rfl) (hpl : (backTo pos (starEach es X.env)).any (·.1) = false := by rfl)
    (ht : eval (.Call (.Attribute o m apos) (e :: es) [] pos) X.env = (do
      let ov ← eval o X.env
      standAt apos.atName
      let (f, first) ← holding [ov] (getMethod ov m pl)
      callWith pos f first (backTo pos (starEach (e :: es) X.env)) (backToKw pos (keywordEach [] X.env))) := by rfl) :
    EM X (.Call (.Attribute o m apos) (e :: es) [] pos) (fMeth C m F dds fr src fs) := by
  obtain ⟨f, fd, ps, ds, h1, h3, h4, h5⟩ := h.ex
  exact (pe_meth ho h.cls h1 h5 hr h3 h4 pass0 ha hst hpl ht).wk (meth_in hd)
theorem tnil_in {K : PySem.W.Frag} {ta : TE} {sp : Sp} {A : Addr} {σ : L2.St} {H : Hp} {Q : VK} (h : tMeth A m sp dvs E ta (taO K [] fNil) σ H Q) (mono : ∀ σ H Q Q', (∀ v H, Q v H → Q' v H) → ta σ H Q → ta σ H Q') : tMeth A m sp dvs E ta tNil σ H Q := by
  refine mono σ H _ _ (fun x H1 h => ?_) h
  obtain ⟨a, dx, fs, w1, w2, w3, c, G, b, T, ms, b', hf, I, q⟩ := h
  simp only [fNil, Option.some.injEq, Prod.mk.injEq] at hf
  obtain ⟨rfl, rfl⟩ := hf
  exact ⟨a, dx, fs, w1, w2, w3, q [] [] G H1 rfl ⟨rfl, rfl⟩ I⟩
theorem teO_mono {K : PySem.W.Frag} : ∀ σ H Q Q', (∀ v H, Q v H → Q' v H) → teO K f σ H Q → teO K f σ H Q' := by
  rintro σ H Q Q' hq ⟨c, G, b, T, m, b', hf, I, q⟩
  exact ⟨c, G, b, T, m, b', hf, I, fun v G' H' I' => hq _ _ (q v G' H' I')⟩
theorem e_meth0 {k : Nat} {pl : Sem Bool} (h : MetOk X.prog X.w X.K X.mg X.base k C m dvs F) (hr : Room k X.A) (hd : ∀ G, RpL X.K G dds dvs) (ho : EM X o fr)
    (ht : eval (.Call (.Attribute o m apos) [] [] pos) X.env = (do
      let ov ← eval o X.env
      standAt apos.atName
      let (f, first) ← holding [ov] (getMethod ov m pl)
      callWith pos f first (backTo pos (starEach [] X.env)) (backToKw pos (keywordEach [] X.env))) := by rfl) :
    EM X (.Call (.Attribute o m apos) [] [] pos) (fMeth C m F dds fr [] fNil) := by
  obtain ⟨f, fd, ps, ds, h1, h3, h4, h5⟩ := h.ex
  exact (pe_meth0 (E := E0) ho h.cls h1 h5 hr h3 h4 pass0 ht).wk fun σ H Q h => tnil_in (meth_in hd σ H Q h) teO_mono
theorem e_methO {k : Nat} {pl : Sem Bool} {px : Pos} (j : Nat) (h : MetOk X.prog X.w X.K X.mg X.base k C m dvs F) (hr : Room k X.A) (hd : ∀ G, RpL X.K G dds dvs) (ha : AM X (e :: es) src fs)
    (hst : starEach (e :: es) X.env = (false, eval e X.env) :: starEach es X.env := by rfl) (hpl : (backTo pos (starEach es X.env)).any (·.1) = false := by rfl)
    (ht : eval (.Call (.Attribute (.Name x px) m apos) (e :: es) [] pos) X.env = (do
      let ov ← eval (.Name x px) X.env
      standAt apos.atName
      let (f, first) ← holding [ov] (getMethod ov m pl)
      callWith pos f first (backTo pos (starEach (e :: es) X.env)) (backToKw pos (keywordEach [] X.env))) := by rfl)
    (hN : X.N[j]? = some x := by rfl) (hv : Vis X.env.scope x := by first | exact Or.inl rfl | exact Or.inr (Or.inl rfl) | exact Or.inr (Or.inr rfl)) (hdb : (x == ("__debug__" : Str)) = false := by decide)
    (hcd : (x == ("__classdict__" : Str)) = false := by decide) :
    EM X (.Call (.Attribute (.Name x px) m apos) (e :: es) [] pos) (fMethO C m F dds j src fs) := by
  obtain ⟨f, fd, ps, ds, h1, h3, h4, h5⟩ := h.ex
  exact (pe_meth (pe_var hN hv hdb hcd) h.cls h1 h5 hr h3 h4 pass0 ha hst hpl ht).wk (methO_in hd)
theorem e_methO0 {k : Nat} {pl : Sem Bool} {px : Pos} (j : Nat) (h : MetOk X.prog X.w X.K X.mg X.base k C m dvs F) (hr : Room k X.A) (hd : ∀ G, RpL X.K G dds dvs)
    (ht : eval (.Call (.Attribute (.Name x px) m apos) [] [] pos) X.env = (do
      let ov ← eval (.Name x px) X.env
      standAt apos.atName
      let (f, first) ← holding [ov] (getMethod ov m pl)
      callWith pos f first (backTo pos (starEach [] X.env)) (backToKw pos (keywordEach [] X.env))) := by rfl)
    (hN : X.N[j]? = some x := by rfl) (hv : Vis X.env.scope x := by first | exact Or.inl rfl | exact Or.inr (Or.inl rfl) | exact Or.inr (Or.inr rfl)) (hdb : (x == ("__debug__" : Str)) = false := by decide)
    (hcd : (x == ("__classdict__" : Str)) = false := by decide) :
    EM X (.Call (.Attribute (.Name x px) m apos) [] [] pos) (fMethO C m F dds j [] fNil) := by
  obtain ⟨f, fd, ps, ds, h1, h3, h4, h5⟩ := h.ex
  exact (pe_meth0 (E := E0) (pe_var hN hv hdb hcd) h.cls h1 h5 hr h3 h4 pass0 ht).wk fun σ H Q h => tnil_in (methO_in hd σ H Q h) fun σ H Q Q' hq ⟨v, h1, h2⟩ => ⟨v, h1, hq _ _ h2⟩
/-- data.f, f a property -/
def fProp (C m : Str) (F : Fn) (fr : Ev) : Ev := fun b => match fr b with
  | some (.d (.obj C' ns ds), b0) => if C' = C then (match F [.d (.obj C' ns ds)] with
    | some (r, []) => some (r, b0)
    | _ => none) else none
  | _ => none
theorem e_prop {k : Nat} (h : ProOk X.prog X.w X.K X.mg X.base k C m F) (hr : Room (k + 1) X.A) (ho : EM X o fr) (hab : attributeBase o m X.env (eval o X.env) = eval o X.env := by rfl) : EM X (.Attribute o m pos) (fProp C m F fr) := by
  obtain ⟨f, pp, fd, ps, h1, h3, h5⟩ := h.ex
  refine (pe_prop (E := E0) (CX := CX0) (dvs := []) ho h.cls h1 h5 hr h3 .nil pass0 hab).wk fun σ H Q => ?_
  rintro ⟨c, G, b, T, r, b', hf, I, q⟩
  unfold fProp at hf
  split at hf
  · rename_i C' ns ds b0 e0
    split at hf
    · rename_i hc
      subst hc
      split at hf
      · rename_i r0 e1
        cases hf
        refine ⟨c, G, b, T, _, b', e0, I, fun v G1 H1 I1 => ?_⟩
        have r := I1.topD
        simp only [Rp] at r
        obtain ⟨a, dx, xs, rfl, h2, _⟩ := id r
        refine ⟨a, dx, _, rfl, I1.st.gh _ _ h2, ?_⟩
        refine appF_in (src := [none]) (F := F) (dds := []) (dvs := []) (us := [.ref a]) (vs := [.ref a]) (ms := [.d (.obj C' ns ds)]) (b3 := b') I1 rfl ⟨_, [], [], rfl, rfl, rfl, rfl⟩ (by simp [RpL]) ?_ q
        simp [appF, fill, e1, putb, M.isD]
      · cases hf
    · cases hf
  · cases hf
end
end PL

namespace PL
open PySem PySem.Spec PyProof.Rows L2
section
variable {K : PySem.W.Frag} {c : Cg} {G G' H H' : Hp} {σ : L2.St} {b : List B} {T T1 : List (M × V)} {p : Addr} {o : HO} {d : D} {v : V} {m : M} {i : Nat}
/-- a new instance, handed to __init__ -/
theorem Iv.make {F : Fn} {src : List (Option Nat)} {ms : List M} {us vs : List V} {dds : List D} {dvs : List V} {full : List M} {ks : Ks} {b2 b3 : List B} {m' : M} {os : List M} {Q : VK} {E : XK} {C : Str} {x dx : Addr}
    (I : Iv K c G H σ b (zT ms us ++ T)) (hl : ms.length = us.length) (av : AV σ src us vs) (hd : RpL K G dds dvs) (e1 : fill src ms b = some (full, ks, b2)) (e2 : F (.obj C [] [] :: (full ++ dds.map .d)) = some (.d .non, m' :: os)) (e3 : putb src ks full os b2 = some b3)
    (hx : H x = none) (hdx : H dx = none) (ne : dx ≠ x)
    (q : ∀ G' H', Iv K c G' H' σ b3 ((m', .ref x) :: T) → Q (.ref x) H') : spD K F (.ref x :: (vs ++ dvs)) (upd (upd H dx (.own x)) x (.ins (He.ga K C) dx [])) (fun v H2 => v = .non ∧ Q (.ref x) H2) E := by
  have hx2 : upd H dx (.own x) x = none := by rw [upd_ne ne.symm]; exact hx
  have I1 := (I.junk (o := .own x) hdx).newO (o := .ins (He.ga K C) dx []) (m := .obj C [] []) hx2 (f := []) (by
    simp only [RM]
    exact ⟨x, dx, [], [], rfl, upd_same, rfl, by simp [RML], rfl⟩)
  revert I1
  generalize upd (upd H dx (.own x)) x (.ins (He.ga K C) dx []) = H1
  intro I1
  have I2 : Iv K c G H1 σ b (zT ms us ++ (.obj C [] [], .ref x) :: T) := I1.perm List.perm_middle.symm
  obtain ⟨st, f1, f2, h1, h2, nd, hg⟩ := I2
  obtain ⟨ft, fT0, t1, t2, rfl⟩ := RT.app.mp h2
  obtain ⟨f0, fT, g1, g2, g3, rfl⟩ := t2
  obtain ⟨ha, old⟩ := RT.list hl t1
  obtain ⟨fs, fh, i1, i2, i3, i4⟩ := take_args e1 h1 ha av old
  obtain ⟨gs, d1, d2⟩ := hd.rms (H := H1)
  have ll := i1.len
  have P : (f1 ++ (ft ++ (f0 ++ fT))).Perm ((f0 ++ fs.flatten) ++ (fh ++ fT)) := by
    rw [List.perm_iff_count]
    intro z
    have z1 := i3.count_eq z
    simp only [List.count_append] at z1 ⊢
    omega
  have N := P.nodup_iff.mp nd
  have N1 := List.nodup_append.mp N
  have hg' : ∀ a ∈ (f0 ++ fs.flatten) ++ (fh ++ fT), G a = none ∧ (a ∈ c.PS ∨ c.H0 a = none) := fun a ha => hg a (P.mem_iff.mpr ha)
  have ef : (f0 :: (fs ++ gs)).flatten = f0 ++ fs.flatten := by simp [d2]
  have rms : RMs K G H1 (.obj C [] [] :: (full ++ dds.map .d)) (.ref x :: (vs ++ dvs)) (f0 :: (fs ++ gs)) := ⟨_, _, f0, _, rfl, rfl, g1, i1.app d1⟩
  refine ⟨G, .obj C [] [] :: (full ++ dds.map .d), f0 :: (fs ++ gs), .d .non, m' :: os, e2, st.gh, rms, by rw [ef]; exact N1.1, by rw [ef]; exact fun a ha => (hg' a (List.mem_append_left _ ha)).1, fun v G' H' fr fo S rr io nd2 gn fresh => ?_⟩
  rw [ef] at S
  simp only [RM, Rp] at rr
  obtain ⟨rfl, rfl⟩ := rr
  refine ⟨rfl, ?_⟩
  obtain ⟨v0, vs0, fa, fs0, q1, q2, q3⟩ := io
  obtain ⟨rfl, rfl⟩ := List.cons.inj q1
  obtain ⟨rfl, rfl⟩ := List.cons.inj q2
  rw [if_neg (show ¬ (M.obj C [] []).isD = true by simp [M.isD])] at q3
  obtain ⟨o, os', fo1, fo2, eo, q4, q5, q6, rfl⟩ := q3
  obtain ⟨rfl, rfl⟩ := List.cons.inj eo
  have io := IOK.app ll.1 ll.2 q6
  have hn : ∀ a, H1 a = none → c.H0 a = none := fun a z => by
    cases q : c.H0 a with
    | none => rfl
    | some o => exact absurd z (st.dm a (by rw [q]; simp))
  have there : ∀ a ∈ fh ++ fT, H1 a ≠ none := fun a ha => by
    rcases List.mem_append.mp ha with ha | ha
    · exact i2.there a ha
    · exact g3.there a ha
  have out : ∀ a ∈ fh ++ fT, a ∉ f0 ++ fs.flatten := fun a ha hm => N1.2.2 a hm a ha rfl
  have same : ∀ a ∈ fh ++ fT, H' a = H1 a := fun a ha => by
    cases q : H1 a with
    | none => exact absurd q (there a ha)
    | some o => exact S.kp a o q (out a ha)
  obtain ⟨f3, f4, j1, j2⟩ := i4 G' H' os fo2 b3 S.g (fun a ha => same a (by simp [ha])) hn io e3
  have fosub := io.sub
  have from_ : ∀ a ∈ fo1 ++ fo2, a ∈ f0 ++ fs.flatten ∨ H1 a = none := fun a ha => by
    rcases List.mem_append.mp ha with z | z
    · rcases q5 a z with w | w
      · exact .inl (by simp [w])
      · exact .inr w
    · rcases fosub a z with w | w
      · exact .inl (List.mem_append_right _ w)
      · exact .inr w
  have nd3 : ((fo1 ++ fo2) ++ (fh ++ fT)).Nodup := by
    refine List.nodup_append.mpr ⟨by simpa using nd2, N1.2.1, fun a ha y hy e => ?_⟩
    subst e
    rcases from_ a ha with z | z
    · exact out a hy z
    · exact there a hy z
  have P2 : ((fo1 ++ fo2) ++ (fh ++ fT)).Perm ((f3 ++ (fo1 ++ fT)) ++ f4) := by
    rw [List.perm_iff_count]
    intro z
    have z1 := j2.count_eq z
    simp only [List.count_append] at z1 ⊢
    omega
  refine q G' H' ⟨st.trans S fun a ha => (hg' a (List.mem_append_left _ ha)).2, f3, fo1 ++ fT, j1, ⟨fo1, fT, q4, fun a ha => ?_, g3.frame S.g (fun a ha => same a (by simp [ha])), rfl⟩, ?_, ?_⟩
  · rcases q5 a ha with w | w
    · exact g2 a w
    · exact hn a w
  · exact (List.nodup_append.mp (P2.nodup_iff.mp nd3)).1
  · intro a ha
    have key : a ∈ (fo1 ++ fo2) ++ (fh ++ fT) := P2.mem_iff.mpr (List.mem_append_left _ ha)
    rcases List.mem_append.mp key with z | z
    · refine ⟨gn a (by simpa using z), ?_⟩
      rcases from_ a z with w | w
      · exact (hg' a (List.mem_append_left _ w)).2
      · exact .inr (hn a w)
    · exact ⟨S.nw a (there a z) (hg' a (List.mem_append_right _ z)).1, (hg' a (List.mem_append_right _ z)).2⟩
end
/-- C(..) -/
def fMake (C : Str) (F : Fn) (dds : List D) (src : List (Option Nat)) (fs : Av) : Ev := fun b => match fs b with
  | some (ms, b1) => (match fill src ms b1 with
    | some (full, ks, b2) => (match F (.obj C [] [] :: (full ++ dds.map .d)) with
      | some (.d .non, m' :: os) => (match putb src ks full os b2 with
        | some b3 => some (m', b3)
        | none => none)
      | _ => none)
    | none => none)
  | none => none
section
variable {X : Cx} {e e1 e2 e3 o : Expr} {es : List Expr} {st : Stmt} {sts : List Stmt} {pos p apos : Pos} {f f1 f2 f3 fr : Ev} {fs : Av} {src : List (Option Nat)} {x m C : Str} {t t1 t2 : Tv} {k1 k2 : Sv} {j : Nat} {π : Pth} {n : Str} {Cs : List Str} {F : Fn} {dds : List D} {dvs : List V} {E : XK}
theorem make_in {K : PySem.W.Frag} (hd : ∀ G, RpL K G dds dvs) : ∀ σ H Q, teO K (fMake C F dds src fs) σ H Q → tMake (He.ga K C) (spD K F) dvs E (taO K src fs) σ H Q := fun σ H Q => by
  rintro ⟨c, G, b, T, r, b', hf, I, q⟩
  unfold fMake at hf
  split at hf
  · rename_i ms b1 e1
    split at hf
    · rename_i full ks b2 e2
      split at hf
      · rename_i m' os e3
        split at hf
        · rename_i b3 e4
          cases hf
          exact ⟨c, G, b, T, ms, b1, e1, I, fun us vs G1 H1 hl av I1 x dx h1 h2 h3 => Iv.make I1 hl av (hd G1) e2 e3 e4 h1 h2 h3 fun G' H' I' => q _ G' H' I'⟩
        · cases hf
      · cases hf
    · cases hf
  · cases hf
theorem e_make {k : Nat} (h : MakOk X.prog X.w X.K X.mg X.base k C dvs F) (hr : Room (k + 1) X.A) (hd : ∀ G, RpL X.K G dds dvs) (ha : AM X (e :: es) src fs) (hg : Gl X C := by rfl) (hdb : (C == ("__debug__" : Str)) = false := by decide)
    (he : starEach (e :: es) X.env = (false, eval e X.env) :: starEach es X.env := by rfl) (hpl : (backTo pos (starEach es X.env)).any (·.1) = false := by rfl) :
    EM X (.Call (.Name C p) (e :: es) [] pos) (fMake C F dds src fs) := by
  obtain ⟨f, fd, ps, ds, h1, h3, h4, h5⟩ := h.ex
  exact (pe_make h1 h5 hr hg h.at_ h3 h4 pass0 ha hdb he hpl).wk (make_in hd)
theorem e_make0 {k : Nat} (h : MakOk X.prog X.w X.K X.mg X.base k C dvs F) (hr : Room (k + 1) X.A) (hd : ∀ G, RpL X.K G dds dvs) (hg : Gl X C := by rfl) (hdb : (C == ("__debug__" : Str)) = false := by decide) :
    EM X (.Call (.Name C p) [] [] pos) (fMake C F dds [] fNil) := by
  obtain ⟨f, fd, ps, ds, h1, h3, h4, h5⟩ := h.ex
  refine (pe_make0 (E := E0) h1 h5 hr hg h.at_ h3 h4 pass0 hdb).wk fun σ H Q h => ?_
  obtain ⟨c, G, b, T, ms, b1, e1, I, q⟩ := make_in (E := E0) hd σ H Q h
  simp only [fNil, Option.some.injEq, Prod.mk.injEq] at e1
  obtain ⟨rfl, rfl⟩ := e1
  exact q [] [] G H rfl ⟨rfl, rfl⟩ I
/-! ### more operators and built-ins -/
/-- place.pop() -/
def fPopP (j : Nat) (π : Pth) : Ev := fun b => match getP b j π with
  | some (.lst ms) => (match ms[ms.length - 1]? with
    | some (.d d) => (match setP b j π (.lst ms.dropLast) with
      | some b2 => some (.d d, b2)
      | none => none)
    | _ => none)
  | _ => none
theorem RML.dropLast {K : PySem.W.Frag} {G H : Hp} : ∀ {ms : List M} {xs : List V} {f : List Addr}, RML K G H ms xs f → f.Nodup → ∃ f', RML K G H ms.dropLast xs.dropLast f' ∧ (∀ a ∈ f', a ∈ f) ∧ f'.Nodup
  | [], xs, f, h, nd => by
    simp only [RML] at h
    obtain ⟨rfl, rfl⟩ := h
    exact ⟨[], by simp [RML], by simp, by simp⟩
  | [m], xs, f, h, nd => by
    simp only [RML] at h
    obtain ⟨y, ys, f1, f2, rfl, h2, ⟨rfl, rfl⟩, rfl⟩ := h
    exact ⟨[], by simp [RML], by simp, by simp⟩
  | m :: m2 :: ms, xs, f, h, nd => by
    unfold RML at h
    obtain ⟨y, ys, f1, f2, rfl, h2, h3, rfl⟩ := h
    have N := List.nodup_append.mp nd
    obtain ⟨f', w1, w2, w3⟩ := RML.dropLast h3 N.2.1
    have hy : ∃ y2 ys2, ys = y2 :: ys2 := by
      unfold RML at h3
      obtain ⟨y2, ys2, _, _, rfl, _⟩ := h3
      exact ⟨y2, ys2, rfl⟩
    obtain ⟨y2, ys2, rfl⟩ := hy
    refine ⟨f1 ++ f', ?_, fun a ha => ?_, List.nodup_append.mpr ⟨N.1, w3, fun x hx y hy => N.2.2 x hx y (w2 y hy)⟩⟩
    · simp only [List.dropLast_cons₂]
      unfold RML
      exact ⟨y, _, f1, f', rfl, h2, w1, rfl⟩
    · rcases List.mem_append.mp ha with z | z
      · simp [z]
      · simp [w2 a z]
end
end PL

namespace PL
open PySem PySem.Spec PyProof.Rows L2
section
variable {X : Cx} {e e1 e2 e3 o value : Expr} {es : List Expr} {st : Stmt} {sts : List Stmt} {pos pos' p apos tpos : Pos} {f f1 f2 f3 fr : Ev} {fs : Av} {src : List (Option Nat)} {x m C : Str} {t t1 t2 : Tv} {k1 k2 : Sv} {j : Nat} {π : Pth} {n : Str} {Cs : List Str} {F : Fn} {dds : List D} {dvs : List V} {E : XK} {ta tv : TE}
/-! ### a field as a target -/
def gFldR (K : PySem.W.Frag) (ta : TE) (f : Str) : TG := fun v σ H Q => ta σ H fun x H2 => ∃ a C dx fs, x = .ref a ∧ H2 a = some (.ins C dx fs) ∧ Cls K C ∧ NoAttr K C f ∧ fs.length < 1000 ∧ Q σ (upd H2 a (.ins C dx (putF f v fs)))
theorem pg_fld (ho : PE X o ta) (hst : ∀ v, assign (.Attribute o n pos) X.env v = (do
      let ov ← holding [v] (eval o X.env)
      standAt pos.atName
      holding [v, ov] (setAttr ov n v)
      release [v, ov] []) := by intro _; rfl) : PG X (.Attribute o n pos) (gFldR X.K ta n) := by
  refine ⟨fun pins s σ H v u Q I r h => ?_⟩
  rw [hst]
  refine wpAny_bind (wpAny_holding (thn (ho.run pins s σ H _ I h) fun ov s1 ⟨x, H1, I1, r1, a, C, dx, fs, ex, ea, c, na, l, q1⟩ => ?_))
  subst ex
  obtain rfl : ov = Value.ref a := r1
  refine wpAny_bind (wpAny_standAt (wpAny_bind (wpAny_holding (setattr_ok I1 ea c na l r fun s3 I3 => ?_))))
  exact wpAny_release ⟨σ, _, I3, q1⟩
def gPut (j : Nat) (π : Pth) (q : Str × List Str) : Gv := fun d b => match getP b j π with
  | some (.obj C ns ms) => if ns.length < 1000 then (match (M.obj C ns ms).setF q (.d d) with
    | some m2 => setP b j π m2
    | none => none) else none
  | _ => none
theorem g_fld (h : PP X e j π) (hC : FldOk X.K (n, Cs)) : GM X (.Attribute e n pos) [] (gPut j π (n, Cs)) := (pg_fld h).wk fun v σ H Q => by
  rintro ⟨c, G, b, T, d, b', hf, I, q⟩
  unfold gPut at hf
  split at hf
  · rename_i C ns ms eg
    split at hf
    · rename_i hz
      split at hf
      · rename_i m2 es
        obtain ⟨v0, a, dx, fs, w1, w2, w3, w4, w5, w6⟩ := Iv.setFld I eg es hf
        exact ⟨v0, .ref a, w1, w2, a, He.ga X.K C, dx, fs, rfl, w3, (hC C w5).1, (hC C w5).2, by omega, q σ G _ ⟨rfl, fun _ _ => rfl⟩ w6⟩
      · cases hf
    · cases hf
  · cases hf
/-- name.f += e, ints -/
def sAug (j : Nat) (q : Str × List Str) (f : Ev) : Sv := fun b => match getP b j [] with
  | some (.obj C0 ns0 ms0) => (match (M.obj C0 ns0 ms0).fld q with
    | some (.d (.int i)) => (match f b with
      | some (.d (.int k), b1) => (match getP b1 j [] with
        | some (.obj C ns ms) => if ns.length < 1000 ∧ C = C0 then (match (M.obj C ns ms).setF q (.d (.int (i + k))) with
          | some m2 => (match setP b1 j [] m2 with
            | some b2 => some (.nx, b2)
            | none => none)
          | none => none) else none
        | _ => none)
      | _ => none)
    | _ => none)
  | _ => none
theorem s_aug (h : PP X e j []) (hv : EM X e1 f) (hC : FldOk X.K (n, Cs)) : SM X (.AugAssign (.Attribute e n tpos) .Add e1 pos) (sAug j (n, Cs) f) := (ps_fldaug h hv in_add).wk fun D σ H => by
  rintro ⟨c, G, b, T, r, b', hf, I, q⟩
  unfold sAug at hf
  split at hf
  · rename_i C0 ns0 ms0 eg
    split at hf
    · rename_i i ei
      split at hf
      · rename_i k b1 e1
        split at hf
        · rename_i C ns ms eg2
          split at hf
          · rename_i hz
            obtain ⟨hz, rfl⟩ := hz
            split at hf
            · rename_i m2 es
              split at hf
              · rename_i b2 ep
                cases hf
                obtain ⟨v0, v1, f1, w1, w2, w6⟩ := I.readP eg
                have w2 : v0 = v1 := w2
                subst w2
                obtain ⟨v1, f2, ⟨a, C1, dx, fs, y1, y2, y3, y4⟩, y5⟩ := RM.read (π := [(n, Cs)]) w6 I.st.gh (by simp only [M.sub]; exact ei)
                have y1 : v0 = .ref a := y1
                subst y1
                simp only [RM, Rp] at y5
                obtain ⟨rfl, rfl⟩ := y5
                simp only [RM] at w6
                obtain ⟨pp, dx0, xs0, qq, u1, u2, _⟩ := w6
                cases u1
                rw [u2] at y2
                have y2 := Option.some.inj y2
                injection y2 with y6 y7 y8
                subst y7 y8
                refine ⟨.ref a, .ref a, w1, rfl, a, _, _, _, _, rfl, u2, ?_, ?_, y4, c, G, b, T, _, b1, e1, I, fun y G1 H1 I1 => ?_⟩
                · rw [y6]; exact (hC C1 y3).1
                · rw [y6]; exact (hC C1 y3).2
                have r := I1.topD
                simp only [Rp] at r
                subst r
                have I2 : Iv X.K c G1 H1 σ b1 ((.d (.int (i + k)), .int (i + k)) :: T) := I1.drop.pushD (by simp [Rp])
                obtain ⟨v0, a', dx', fs', z1, z2, z3, z4, z5, z6⟩ := Iv.setFld I2 eg2 es ep
                rw [w1] at z1
                have z1 := Option.some.inj (Option.some.inj z1)
                subst z1
                have z2 : V.ref a = .ref a' := z2
                cases z2
                exact ⟨i, k, rfl, rfl, dx', fs', z3, by omega, q σ G1 _ z6⟩
              · cases hf
            · cases hf
          · cases hf
        · cases hf
      · cases hf
    · cases hf
  · cases hf
/-! ### lists: + of data, extend, * , pop -/
theorem e_popP (hp : PP X e j π) (hbase : attributeBase e "pop" X.env (eval e X.env) = eval e X.env := by rfl) (hline : (apos.endLine == pos.line) = true := by rfl) : EM X (.Call (.Attribute e "pop" apos) [] [] pos) (fPopP j π) := (pe_bm0 PySem.F.plainAttrs_list PySem.F.slot_list_pop PySem.F.type_list_pop mt_pop hp hbase hline).wk fun σ H Q => by
  rintro ⟨c, G, b, T, r, b', hf, I, q⟩
  unfold fPopP at hf
  split at hf
  · rename_i ms eg
    split at hf
    · rename_i d ed
      split at hf
      · rename_i b2 ep
        cases hf
        obtain ⟨v0, p0, xs, w1, w2, w3, w4, w5, w6⟩ := Iv.mutP (T1 := []) I eg
        obtain ⟨v, y1, y2⟩ := w5 _ _ ed
        refine ⟨v0, .ref p0, w1, w2, .inl ⟨rfl, xs, SqL.of w3⟩, p0, xs, v, rfl, rfl, w3, by rw [w4]; exact y1, q v G _ ?_⟩
        refine Iv.pushD (w6 ms.dropLast xs.dropLast [] b' ep fun H2 qq ft a1 a2 a3 _ => ?_) y2
        have a2 : ft = [] := a2
        subst a2
        obtain ⟨q', z1, z2, z3⟩ := RML.dropLast a1 (by simpa using a3)
        exact ⟨q', [], z1, rfl, fun a ha => by simp at ha ⊢; exact z2 a ha, by simpa using z3⟩
      · cases hf
    · cases hf
  · cases hf
/-- name.extend(e), the new items in a fresh list -/
def sExt (j : Nat) (f : Ev) : Sv := fun b => match getP b j [] with
  | some (.lst _) => (match f b with
    | some (.lst ns, b1) => (match getP b1 j [] with
      | some (.lst ms) => if ms.length + ns.length ≤ 1000000 then (match setP b1 j [] (.lst (ms ++ ns)) with
        | some b2 => some (.nx, b2)
        | none => none) else none
      | _ => none)
    | _ => none)
  | _ => none
theorem RML.append {K : PySem.W.Frag} {G H : Hp} : ∀ {ms : List M} {xs : List V} {q f : List Addr} {ns : List M} {ys : List V}, RML K G H ms xs q → RML K G H ns ys f → RML K G H (ms ++ ns) (xs ++ ys) (q ++ f)
  | [], _, _, _, _, _, h, h2 => by
    simp only [RML] at h
    obtain ⟨rfl, rfl⟩ := h
    exact h2
  | m :: ms, _, _, _, _, _, h, h2 => by
    simp only [RML] at h
    obtain ⟨z, zs, f1, f2, rfl, h3, h4, rfl⟩ := h
    simp only [List.cons_append, RML, List.append_assoc]
    exact ⟨z, _, f1, _, rfl, h3, RML.append h4 h2, rfl⟩
theorem s_ext {p2 p3 : Pos} (hp : PP X e1 j []) (h : EM X e f)
    (hbase : attributeBase e1 "extend" X.env (eval e1 X.env) = eval e1 X.env := by rfl)
    (hfew : ((backTo p3 (starEach (e :: []) X.env)).all (fun x => !x.1) && (backToKw p3 (keywordEach [] X.env)).all (fun x => x.1.isSome)
      && decide ((e :: []).length + ([] : List Keyword).length + (if ([] : List Keyword).isEmpty then 0 else 1) < 30)) = true := by rfl)
    (hline : (p2.endLine == p3.line) = true := by rfl) (hs : starEach (e :: []) X.env = (false, eval e X.env) :: starEach [] X.env := by rfl) (hplain : (backTo p3 (starEach [] X.env)).any (·.1) = false := by rfl)
    (hsw : swapsWith (.Call (.Attribute e1 "extend" p2) [e] [] p3) none pos.line X.env = pure false := by rfl) :
    SM X (.Expr (.Call (.Attribute e1 "extend" p2) [e] [] p3) pos) (sExt j f) := (ps_expr (pe_bm PySem.F.plainAttrs_list PySem.F.slot_list_extend PySem.F.type_list_extend mt_extend hp (pa_cons h pa_nil hs) hbase hfew hline hs hplain) hsw).wk fun D σ H => by
  rintro ⟨c, G, b, T, r, b', hf, I, q⟩
  unfold sExt at hf
  split at hf
  · rename_i ms0 eg0
    split at hf
    · rename_i ns b1 e1
      split at hf
      · rename_i ms eg
        split at hf
        · rename_i hz
          split at hf
          · rename_i b2 ep
            cases hf
            obtain ⟨v0, p0, xs0, w1, w2, w3, _⟩ := Iv.mutP (T1 := []) I eg0
            refine ⟨v0, _, w1, w2, .inl ⟨rfl, xs0, SqL.of w3⟩, c, G, b, T, _, b1, e1, I, fun y G1 H1 I1 => ?_⟩
            obtain ⟨v0', p1, xs, z1, z2, z3, z4, z5, z6⟩ := Iv.mutP (T1 := [(.lst ns, y)]) I1 eg
            rw [w1] at z1
            have z1 := Option.some.inj (Option.some.inj z1)
            subst z1
            have w2 : v0 = .ref p0 := w2
            have z2 : v0 = .ref p1 := z2
            rw [w2] at z2
            cases z2
            obtain ⟨ft0, t1, _⟩ := Iv.tmp (T1 := [(.lst ns, y)]) I1
            obtain ⟨t2, _⟩ := rt_one t1
            simp only [RM] at t2
            obtain ⟨pb, zs, qz, rfl, hb, hl, _⟩ := t2
            refine ⟨_, pb, xs, zs, rfl, rfl, z3, hb, by rw [z4, ← hl.len]; exact le_line hz, q σ G1 _ (z6 (ms ++ ns) (xs ++ zs) [] b' ep fun H3 qq ft a1 a2 a3 a4 => ?_)⟩
            obtain ⟨t3, _⟩ := rt_one a2
            simp only [RM] at t3
            obtain ⟨pc, zs', qz', e9, hb', hl', rfl⟩ := t3
            cases e9
            have : H3 pb = H1 pb := a4 pb (by simp)
            rw [this, hb] at hb'
            cases hb'
            refine ⟨qq ++ qz', [], RML.append a1 hl', rfl, fun a ha => by simp at ha ⊢; grind, ?_⟩
            have P : (qq ++ pb :: qz').Perm (pb :: (qq ++ qz')) := List.perm_middle
            simpa using (List.nodup_cons.mp (P.nodup_iff.mp a3)).2
          · cases hf
        · cases hf
      · cases hf
    · cases hf
  · cases hf
/-- a list display times an int: new -/
def gRep : M → M → Option M
  | .lst ms, .d (.int k) => if -1000000 ≤ k ∧ k ≤ 1000000 ∧ ms.length * k.toNat ≤ 1000000 ∧ (M.datas ms).isSome then some (.lst (List.replicate k.toNat ms).flatten) else none
  | _, _ => none
theorem RpL.app2 {K : PySem.W.Frag} {G : Hp} : ∀ {ds es : List D} {xs ys : List V}, RpL K G ds xs → RpL K G es ys → RpL K G (ds ++ es) (xs ++ ys)
  | [], _, _, _, h, h2 => by
    simp only [RpL] at h
    subst h
    exact h2
  | d :: ds, _, _, _, h, h2 => by
    simp only [RpL] at h
    obtain ⟨y, ys, rfl, h3, h4⟩ := h
    simp only [List.cons_append, RpL]
    exact ⟨y, _, rfl, h3, RpL.app2 h4 h2⟩
theorem RpL.repl {K : PySem.W.Frag} {G : Hp} {ds : List D} {xs : List V} (h : RpL K G ds xs) : ∀ k, RpL K G (List.replicate k ds).flatten (List.replicate k xs).flatten
  | 0 => by simp [RpL]
  | k + 1 => by
    simp only [List.replicate_succ, List.flatten_cons]
    exact h.app2 (h.repl k)
theorem datas_eq : ∀ {ms : List M} {ds : List D}, M.datas ms = some ds → ms = ds.map .d
  | [], ds, e => by
    simp only [M.datas, Option.some.injEq] at e
    subst e; rfl
  | .d x :: ms, ds, e => by
    unfold M.datas at e
    split at e
    · rename_i ds' e1
      cases e
      rw [datas_eq e1]; rfl
    · cases e
  | .lst _ :: _, _, e => by simp [M.datas] at e
  | .obj .. :: _, _, e => by simp [M.datas] at e
  | .dic .. :: _, _, e => by simp [M.datas] at e
  | .box .. :: _, _, e => by simp [M.datas] at e
theorem RML.datas {K : PySem.W.Frag} {G H : Hp} : ∀ {ds : List D} {xs : List V} {q : List Addr}, RML K G H (ds.map .d) xs q → RpL K G ds xs
  | [], _, _, h => by
    simp only [List.map_nil, RML] at h
    simp [RpL, h.1]
  | d :: ds, _, _, h => by
    simp only [List.map_cons, RML, RM] at h
    obtain ⟨y, ys, f1, f2, rfl, ⟨h2, _⟩, h3, _⟩ := h
    simp only [RpL]
    exact ⟨y, ys, rfl, h2, RML.datas h3⟩
theorem os_rep {K : PySem.W.Frag} : OpS K rRep gRep := by
  intro c G H σ b T x y m1 m2 m Q hg I q
  unfold gRep at hg
  split at hg
  · rename_i ms k
    split at hg
    · rename_i hz
      cases hg
      obtain ⟨h1, h2, h3, h4⟩ := hz
      obtain ⟨ds, hd⟩ := Option.isSome_iff_exists.mp h4
      have e := datas_eq hd
      subst e
      have r2 := I.topD
      simp only [Rp] at r2
      subst r2
      have I2 := I.drop
      obtain ⟨ft0, t1, _⟩ := Iv.tmp (T1 := [(.lst (ds.map .d), x)]) I2
      obtain ⟨t2, _⟩ := rt_one t1
      simp only [RM] at t2
      obtain ⟨pb, xs, qz, rfl, hb, hl, _⟩ := t2
      have r := RML.datas hl
      refine ⟨pb, k, xs, rfl, rfl, hb, by omega, by omega, by rw [← r.len]; simpa using le_line h3, fun pn hp => q _ G _ ?_⟩
      have e2 : (List.replicate k.toNat (ds.map M.d)).flatten = (List.replicate k.toNat ds).flatten.map M.d := by
        rw [List.map_flatten, List.map_replicate]
      rw [e2]
      exact I2.drop.newL hp (r.repl _)
    · cases hg
  · cases hg
theorem e_rep (h1 : EM X e1 f1) (h2 : EM X e2 f2) : EM X (.BinOp e1 .Mult e2 pos) (fOp gRep f1 f2) := e_op op_rep os_rep h1 h2
end
end PL

namespace PL
open PySem PySem.Spec PyProof.Rows L2
/-! ### dicts -/
def D.key : D → Option Key
  | .int i => some (.inl i)
  | .str x => some (.inr x)
  | _ => none
def keyI (k : Key) : List Key → Option Nat
  | [] => none
  | x :: ks => if x = k then some 0 else (match keyI k ks with
    | some i => some (i + 1)
    | none => none)
theorem key_rel {K : PySem.W.Frag} {G : Hp} {d : D} {v : V} {k : Key} (h : d.key = some k) (r : Rp K G d v) : v = kV k := by
  cases d <;> simp only [D.key, Option.some.injEq, reduceCtorEq] at h
  · subst h; simp only [Rp] at r; exact r
  · subst h; simp only [Rp] at r; exact r
theorem keyI_val {k : Key} : ∀ {ks : List Key} {xs : List V}, ks.length = xs.length → valV (ks.zip xs) k = (match keyI k ks with
    | some i => xs[i]?
    | none => none)
  | [], xs, _ => by simp [keyI, valV]
  | x :: ks, [], l => by simp at l
  | x :: ks, v :: xs, l => by
    unfold keyI
    by_cases e : x = k
    · subst e
      rw [if_pos rfl]
      exact valV_pos rfl
    · rw [if_neg e]
      have := keyI_val (k := k) (ks := ks) (xs := xs) (by simpa using l)
      rw [List.zip_cons_cons, valV_neg e, this]
      cases keyI k ks <;> simp
theorem keyI_put {k : Key} {v : V} : ∀ {ks : List Key} {xs : List V} {i : Nat}, ks.Nodup → keyI k ks = some i → ks.length = xs.length → putK (ks.zip xs) k v = ks.zip (xs.set i v)
  | [], xs, i, _, h, _ => by simp [keyI] at h
  | x :: ks, [], i, _, h, l => by simp at l
  | x :: ks, y :: xs, i, nd, h, l => by
    have nd2 := List.nodup_cons.mp nd
    unfold keyI at h
    by_cases e : x = k
    · subst e
      rw [if_pos rfl] at h
      cases h
      unfold putK
      rw [if_pos (by simp)]
      simp only [List.zip_cons_cons, List.map_cons, if_pos, List.set_cons_zero]
      congr 1
      have hm : ∀ p ∈ ks.zip xs, (if p.1 = x then (p.1, v) else p) = id p := by
        rintro ⟨a, b⟩ hm
        have : a ∈ ks := (List.of_mem_zip hm).1
        rw [if_neg]
        · rfl
        · intro z
          exact nd2.1 (z ▸ this)
      rw [List.map_congr_left hm, List.map_id]
    · rw [if_neg e] at h
      split at h
      · rename_i j ej
        cases h
        have ih := keyI_put (v := v) (xs := xs) nd2.2 ej (by simpa using l)
        unfold putK at ih ⊢
        have ha : ((ks.zip xs).any fun kv => decide (kv.1 = k)) = true := by
          have hv := keyI_val (k := k) (ks := ks) (xs := xs) (by simpa using l)
          rw [ej] at hv
          cases hq : ((ks.zip xs).any fun kv => decide (kv.1 = k)) with
          | true => rfl
          | false =>
            have hn : (ks.zip xs).find? (fun kv => decide (kv.1 = k)) = none := by
              rw [List.find?_eq_none]
              intro p hp z
              have := List.any_eq_false.mp hq p hp
              exact this z
            unfold valV at hv
            rw [hn] at hv
            have hj : j < xs.length := by
              have : ∀ {ks : List Key} {j : Nat}, keyI k ks = some j → j < ks.length := by
                intro ks
                induction ks with
                | nil => intro j h; simp [keyI] at h
                | cons a ks ih =>
                  intro j h
                  unfold keyI at h
                  split at h
                  · cases h; simp
                  · split at h
                    · rename_i e2
                      cases h
                      have := ih e2
                      simp; omega
                    · cases h
              have := this ej
              simp at l
              omega
            simp [hj] at hv
        rw [if_pos ha] at ih
        rw [if_pos (by simp only [List.zip_cons_cons, List.any_cons, ha, Bool.or_true])]
        simp only [List.zip_cons_cons, List.map_cons, if_neg e, List.set_cons_succ, ih]
      · cases h
theorem keyI_add {k : Key} {v : V} : ∀ {ks : List Key} {xs : List V}, keyI k ks = none → ks.length = xs.length → putK (ks.zip xs) k v = (ks ++ [k]).zip (xs ++ [v]) := by
  intro ks xs h l
  have hno : ∀ a ∈ ks, a ≠ k := by
    induction ks generalizing xs with
    | nil => simp
    | cons a ks ih =>
      unfold keyI at h
      split at h
      · cases h
      · rename_i e
        split at h
        · cases h
        · rename_i e2
          intro x hx
          rcases List.mem_cons.mp hx with rfl | hx
          · exact e
          · cases xs with
            | nil => simp at l
            | cons y ys => exact ih (xs := ys) e2 (by simpa using l) x hx
  have ha : ((ks.zip xs).any fun kv => decide (kv.1 = k)) = false := by
    rw [List.any_eq_false]
    rintro ⟨a, b⟩ hm z
    exact hno a (List.of_mem_zip hm).1 (by simpa using z)
  unfold putK
  rw [if_neg (by rw [ha]; simp), List.zip_append l]
  rfl
/-- d[k] -/
def gDGet : D → D → Option D
  | .dic ks ds, d => (match d.key with
    | some k => (match keyI k ks with
      | some i => ds[i]?
      | none => none)
    | none => none)
  | _, _ => none
/-- k in d -/
def gDIn (neg : Bool) : D → D → Option D
  | d, .dic ks _ => (match d.key with
    | some k => some (.bl ((keyI k ks).isSome != neg))
    | none => none)
  | _, _ => none
section
variable {X : Cx} {e e1 e2 e3 o value : Expr} {es : List Expr} {st : Stmt} {sts : List Stmt} {pos pos' p apos tpos : Pos} {f f1 f2 f3 fr : Ev} {fs : Av} {src : List (Option Nat)} {x m C : Str} {t t1 t2 : Tv} {k1 k2 : Sv} {j k : Nat} {π : Pth} {n : Str} {Cs : List Str} {F : Fn} {dds : List D} {dvs : List V} {E : XK} {ta tv : TE}
theorem rp_dic {K : PySem.W.Frag} {G H : Hp} {ks : List Key} {ds : List D} {x y : V} {d : D} {k : Key} (r1 : Rp K G (.dic ks ds) x) (s : Same G H) (hk : d.key = some k) (r2 : Rp K G d y) : ∃ a xs, x = .ref a ∧ ks.length = xs.length ∧ RpL K G ds xs ∧ DGet H a y (valV (ks.zip xs) k) := by
  simp only [Rp] at r1
  obtain ⟨p, xs, rfl, h2, h3, h4⟩ := r1
  exact ⟨p, xs, rfl, h3, h4, .inl ⟨_, k, .inl (s _ _ h2), key_rel hk r2, rfl⟩⟩
theorem os_dget {K : PySem.W.Frag} : OpS K (fun x y H Q => ∃ a v, x = .ref a ∧ DGet H a y (some v) ∧ Q v H) (g2 gDGet) := OpS.pure fun c G H x y d1 d2 d Q hg s r1 r2 q => by
  unfold gDGet at hg
  split at hg
  · split at hg
    · rename_i hk
      split at hg
      · rename_i i hi
        obtain ⟨a, xs, rfl, l, rl, g⟩ := rp_dic r1 s hk r2
        obtain ⟨v, w1, w2⟩ := RpL.get rl hg
        rw [keyI_val l, hi] at g
        simp only [w1] at g
        exact ⟨a, v, rfl, g, q v w2⟩
      · cases hg
    · cases hg
  · cases hg
theorem e_dget (hr : Room k X.A) (h1 : EM X e1 f1) (h2 : EM X e2 f2) (hs : NoSl e2 := by intro _ _; rfl) : EM X (.Subscript e1 e2 pos) (fOp (g2 gDGet) f1 f2) := e_tOp os_dget (pe_dget (by have := hr.units; omega) h1 h2 hs)
theorem keyI_is {k : Key} : ∀ {ks : List Key} {xs : List V}, ks.length = xs.length → (valV (ks.zip xs) k).isSome = (keyI k ks).isSome := fun {ks xs} l => by
  rw [keyI_val l]
  cases h : keyI k ks with
  | none => rfl
  | some i =>
    have : ∀ {ks : List Key} {j : Nat}, keyI k ks = some j → j < ks.length := by
      intro ks
      induction ks with
      | nil => intro j h; simp [keyI] at h
      | cons a ks ih =>
        intro j h
        unfold keyI at h
        split at h
        · cases h; simp
        · split at h
          · rename_i e2
            cases h
            have := ih e2
            simp; omega
          · cases h
    have := this h
    simp only [Option.isSome_some]
    rw [l] at this
    simp [this]
theorem os_din {K : PySem.W.Frag} : OpS K (fun y x H Q => ∃ a o, x = .ref a ∧ DGet H a y o ∧ Q (.bl o.isSome) H) (g2 (gDIn false)) := OpS.pure fun c G H x y d1 d2 d Q hg s r1 r2 q => by
  unfold gDIn at hg
  split at hg
  · split at hg
    · rename_i hk
      cases hg
      obtain ⟨a, xs, rfl, l, rl, g⟩ := rp_dic r2 s hk r1
      refine ⟨a, _, rfl, g, q _ ?_⟩
      rw [keyI_is l]
      simp [Rp]
    · cases hg
  · cases hg
theorem os_dnotin {K : PySem.W.Frag} : OpS K (fun y x H Q => ∃ a o, x = .ref a ∧ DGet H a y o ∧ Q (.bl (!o.isSome)) H) (g2 (gDIn true)) := OpS.pure fun c G H x y d1 d2 d Q hg s r1 r2 q => by
  unfold gDIn at hg
  split at hg
  · split at hg
    · rename_i hk
      cases hg
      obtain ⟨a, xs, rfl, l, rl, g⟩ := rp_dic r2 s hk r1
      refine ⟨a, _, rfl, g, q _ ?_⟩
      rw [keyI_is l]
      simp [Rp]
    · cases hg
  · cases hg
theorem e_din (hr : Room k X.A) (h1 : EM X e1 f1) (h2 : EM X e2 f2) (hm : behindInMarks .In e2 = false := by rfl) : EM X (.Compare e1 [.In] [e2] pos) (fOp (g2 (gDIn false)) f1 f2) := e_tOp os_din (pe_cmp (pc_din (by have := hr.units; omega) h1 h2) hm)
theorem e_dnotin (hr : Room k X.A) (h1 : EM X e1 f1) (h2 : EM X e2 f2) (hm : behindInMarks .NotIn e2 = false := by rfl) : EM X (.Compare e1 [.NotIn] [e2] pos) (fOp (g2 (gDIn true)) f1 f2) := e_tOp os_dnotin (pe_cmp (pc_dnotin (by have := hr.units; omega) h1 h2) hm)
theorem t_din (hr : Room k X.A) (h1 : EM X e1 f1) (h2 : EM X e2 f2) (hm : behindInMarks .In e2 = false := by rfl) : TM X (.Compare e1 [.In] [e2] pos) (fT (fOp (g2 (gDIn false)) f1 f2)) := t_tTest (pt_cmp (pc_din (by have := hr.units; omega) h1 h2) hm) (teO_op os_din)
theorem t_dnotin (hr : Room k X.A) (h1 : EM X e1 f1) (h2 : EM X e2 f2) (hm : behindInMarks .NotIn e2 = false := by rfl) : TM X (.Compare e1 [.NotIn] [e2] pos) (fT (fOp (g2 (gDIn true)) f1 f2)) := t_tTest (pt_cmp (pc_dnotin (by have := hr.units; omega) h1 h2) hm) (teO_op os_dnotin)
/-- dict(d) -/
def gDictOf : List M → Option M
  | [.d (.dic ks ds)] => some (.dic ks (ds.map .d))
  | _ => none
theorem RpL.rml' {K : PySem.W.Frag} {G H : Hp} : ∀ {ds : List D} {xs : List V}, RpL K G ds xs → RML K G H (ds.map .d) xs []
  | [], _, h => by
    simp only [RpL] at h
    simp [RML, h]
  | d :: ds, _, h => by
    simp only [RpL] at h
    obtain ⟨y, ys, rfl, h2, h3⟩ := h
    simp only [List.map_cons, RML, RM]
    exact ⟨y, ys, [], [], rfl, ⟨h2, rfl⟩, RpL.rml' h3, rfl⟩
theorem cs_dictOf {K : PySem.W.Frag} : CaS K (fun xs H Q => ∃ (a : Addr) (kvs : List (Key × V)), xs = [.ref a] ∧ Rd H a (.dK kvs) ∧ ∀ p, H p = none → Q (.ref p) (upd H p (.dK kvs))) gDictOf := by
  intro c G H σ b T ms us m Q hg hl I q
  unfold gDictOf at hg
  split at hg
  · rename_i ks ds
    cases hg
    obtain ⟨u, rfl⟩ := len1 hl
    have I1 : Iv K c G H σ b ((.d (.dic ks ds), u) :: T) := I
    have r := I1.topD
    simp only [Rp] at r
    obtain ⟨pa, xs, rfl, h2, h3, h4⟩ := r
    refine ⟨pa, _, rfl, .inl (I1.st.gh _ _ h2), fun p hp => q _ G _ (I1.drop.newO (f := []) hp ?_)⟩
    simp only [RM]
    exact ⟨p, xs, [], rfl, upd_same, h3, RpL.rml' h4, rfl⟩
  · cases hg
theorem e_dictOf (hm : X.mg "dict" = none) (ha : AM X [e] src fs) (hsrc : src.all (·.isNone) = true := by rfl) (hg : Gl X "dict" := by rfl) (he : starEach [e] X.env = (false, eval e X.env) :: starEach [] X.env := by rfl) (hpl : (backTo pos (starEach [] X.env)).any (·.1) = false := by rfl) : EM X (.Call (.Name "dict" p) [e] [] pos) (fOf gDictOf fs) := e_ct call_dictD cs_dictOf hm boot_dict' ha hsrc hg (by decide) (by decide) he hpl
/-- place[k] = d -/
def sDPutP (j : Nat) (π : Pth) (fk f : Ev) : Sv := fun b => match f b with
  | some (.d d, b1) => (match getP b1 j π with
    | some (.dic ks ms) => (match fk b1 with
      | some (.d dk, _) => (match dk.key with
        | some k => if ks.length < 1000000 ∧ ks.Nodup then (match setP b1 j π (match keyI k ks with
            | some i => .dic ks (ms.set i (.d d))
            | none => .dic (ks ++ [k]) (ms ++ [.d d])) with
          | some b2 => some (.nx, b2)
          | none => none) else none
        | none => none)
      | _ => none)
    | _ => none)
  | _ => none
theorem Iv.mutDP {K : PySem.W.Frag} {c : Cg} {G H : Hp} {σ : L2.St} {b : List B} {T T1 : List (M × V)} {ks : List Key} {ms : List M}
    (I : Iv K c G H σ b (T1 ++ T)) (hg : getP b j π = some (.dic ks ms)) : ∃ v0 p xs, σ[j]? = some (some v0) ∧ PathV K H v0 π (.ref p) ∧ H p = some (.dK (ks.zip xs)) ∧ ks.length = xs.length ∧ xs.length = ms.length ∧
    ∀ ks' ms' xs' b2, setP b j π (.dic ks' ms') = some b2 → ks'.length = xs'.length → (∀ H2 q ft, RML K G H2 ms xs q → RT K c G H2 T1 ft → (q ++ ft).Nodup → ∃ q', RML K G H2 ms' xs' q' ∧ (∀ a ∈ q', a ∈ q ++ ft) ∧ q'.Nodup) → Iv K c G (upd H p (.dK (ks'.zip xs'))) σ b2 T := by
  obtain ⟨v0, v1, fi, ft, h1, h2, h3, t1, nd, gn, old, go⟩ := Iv.place (T1 := T1) (T := T) I hg rfl
  simp only [RM] at h3
  obtain ⟨p, xs, g, rfl, h4, h5, h6, rfl⟩ := h3
  refine ⟨v0, p, xs, h1, h2, h4, h5, h6.len.symm, fun ks' ms' xs' b2 hp hl hk => ?_⟩
  have pp : H p ≠ none := by rw [h4]; simp
  have pg : p ∉ g := by
    have := (List.nodup_append.mp nd).1
    exact (List.nodup_cons.mp this).1
  have pt : p ∉ ft := fun hm => (List.nodup_append.mp nd).2.2 p (by simp) p hm rfl
  have nd2 : (g ++ ft).Nodup := (List.nodup_cons.mp (by simpa using nd)).2
  obtain ⟨q', w1, w2, w3⟩ := hk (upd H p (.dK (ks'.zip xs'))) g ft (RML.frame (Same.refl _) _ _ _ h6 fun a ha => upd_ne (fun z : a = p => pg (z ▸ ha))) (t1.frame (Same.refl _) fun a ha => upd_ne (fun z : a = p => pt (z ▸ ha))) nd2
  have pq : p ∉ q' := fun hm => by
    rcases List.mem_append.mp (w2 p hm) with z | z
    · exact pg z
    · exact pt z
  refine go G _ (.dic ks' ms') (p :: q') [] [] b2 ⟨Same.refl _, gh_upd I.st.gh (gn p (by simp)), fun _ _ h => h, fun a o z1 z2 => by rw [upd_ne (fun z : a = p => z2 (by simp [z]))]; exact z1, dm_upd pp⟩ ?_ rfl (by simp [pq, w3]) (fun a ha => ?_) (fun a ha => ?_) hp
  · simp only [RM]
    exact ⟨p, xs', q', rfl, upd_same, hl, w1, rfl⟩
  · rcases List.mem_cons.mp (by simpa using ha) with z | z
    · exact .inl (by simp [z])
    · rcases List.mem_append.mp (w2 a z) with z | z
      · exact .inl (by simp [z])
      · exact .inr (.inl z)
  · rcases List.mem_cons.mp (by simpa using ha) with z | z
    · exact gn a (by simp [z])
    · have := w2 a z
      exact gn a (by simp at this ⊢; grind)
theorem s_dputP {fk : Ev} (hr : Room k X.A) (hp : PP X o j π) (hi : EK X e fk) (hkp : Keep fk) (hv : EM X value f) (hs : swapsWith value (some (.Subscript o e pos')) pos.line X.env = pure false := by rfl) : SM X (.Assign [.Subscript o e pos'] value pos) (sDPutP j π fk f) := (ps_dput (by have := hr.units; omega) hp hi hv hs).wk fun D σ H => by
  rintro ⟨c, G, b, T, r, b', hf, I, q⟩
  unfold sDPutP at hf
  split at hf
  · rename_i d b1 e1
    split at hf
    · rename_i ks ms eg
      split at hf
      · rename_i dk b9 ek
        have := hkp _ _ _ ek
        subst this
        split at hf
        · rename_i kk hk
          split at hf
          · rename_i hz
            split at hf
            · rename_i b2 ep
              cases hf
              refine ⟨c, G, b, T, _, b9, e1, I, fun y G1 H1 I1 => ?_⟩
              obtain ⟨v0, p0, xs0, w1, w2, w3, _⟩ := Iv.mutDP (T1 := [(.d d, y)]) I1 eg
              refine ⟨v0, .ref p0, w1, w2, c, G1, b9, _, _, ek, I1, fun yk G2 H2 s2 I2 => ?_⟩
              have rk := I2.topD
              obtain ⟨v0', p1, xs, z1, z2, z3, z4, z5, z6⟩ := Iv.mutDP (T1 := [(.d d, y)]) I2.drop eg
              rw [w1] at z1
              have z1 := Option.some.inj (Option.some.inj z1)
              subst z1
              have z2 := PathV.fun_ (PathV.keep s2 w2) z2
              cases z2
              refine ⟨p0, _, rfl, .inl ⟨_, kk, z3, key_rel hk rk, ?_, rfl⟩, q σ G2 _ ?_⟩
              · have : (ks.zip xs).length ≤ ks.length := by simp; omega
                exact lt_line (by omega)
              · cases hi2 : keyI kk ks with
                | some i =>
                  rw [hi2] at ep
                  rw [keyI_put hz.2 hi2 z4]
                  refine z6 ks (ms.set i (.d d)) (xs.set i y) b' ep (by simpa using z4) fun H3 qq ft a1 a2 a3 => ?_
                  obtain ⟨a4, _⟩ := rt_one a2
                  obtain ⟨q', w1, w2, w3⟩ := RML.set (i := i) a1 a4 a3
                  exact ⟨q', w1, w2, w3⟩
                | none =>
                  rw [hi2] at ep
                  rw [keyI_add hi2 z4]
                  refine z6 (ks ++ [kk]) (ms ++ [.d d]) (xs ++ [y]) b' ep (by simpa using z4) fun H3 qq ft a1 a2 a3 => ?_
                  obtain ⟨a4, _⟩ := rt_one a2
                  exact ⟨qq ++ ft, RML.app a1 a4, fun a ha => ha, a3⟩
            · cases hf
          · cases hf
        · cases hf
      · cases hf
    · cases hf
  · cases hf
end
end PL

namespace PL
open PySem PySem.Spec PyProof.Rows L2
/-! ### dict comprehensions over data -/
def putD (ks : List Key) (ds : List D) (k : Key) (d : D) : List Key × List D := match keyI k ks with
  | some i => (ks, ds.set i d)
  | none => (ks ++ [k], ds ++ [d])
section
variable {K : PySem.W.Frag} {c : Cg} {G G' H H' : Hp} {σ : L2.St} {b : List B} {T T1 : List (M × V)} {p : Addr} {o : HO} {d : D} {v : V} {m : M} {i : Nat}
theorem RpL.set {d : D} {y : V} : ∀ {ds : List D} {xs : List V} (i : Nat), RpL K G ds xs → Rp K G d y → RpL K G (ds.set i d) (xs.set i y)
  | [], xs, i, h, _ => by
    simp only [RpL] at h
    subst h
    simp [RpL]
  | e :: ds, _, 0, h, r => by
    simp only [RpL] at h
    obtain ⟨z, zs, rfl, h2, h3⟩ := h
    simp only [List.set_cons_zero, RpL]
    exact ⟨y, zs, rfl, r, h3⟩
  | e :: ds, _, i + 1, h, r => by
    simp only [RpL] at h
    obtain ⟨z, zs, rfl, h2, h3⟩ := h
    simp only [List.set_cons_succ, RpL]
    exact ⟨z, _, rfl, h2, RpL.set i h3 r⟩
theorem Iv.putT {ks : List Key} {ds : List D} {y : V} {k : Key} (I : Iv K c G H σ b ((.d d, y) :: (.dic ks (ds.map .d), .ref p) :: T)) (nd : ks.Nodup) : ∃ xs, H p = some (.dK (ks.zip xs)) ∧ ks.length = xs.length ∧
    Iv K c G (upd H p (.dK (putK (ks.zip xs) k y))) σ b ((.dic (putD ks ds k d).1 ((putD ks ds k d).2.map .d), .ref p) :: T) := by
  have r := I.topD
  obtain ⟨ft, t1, nd1, gn, old, go⟩ := Iv.tmp (T1 := [(.dic ks (ds.map .d), .ref p)]) I.drop
  obtain ⟨t2, t3⟩ := rt_one t1
  simp only [RM] at t2
  obtain ⟨p', xs, q, e1, h2, h3, h4, rfl⟩ := t2
  have e1 := V.ref.inj e1
  subst e1
  have rl := RML.datas h4
  have inn : ∀ a ∈ [p], a ∈ p :: q := fun a ha => by
    rw [List.mem_singleton.mp ha]; exact List.mem_cons_self
  have pp : H p ≠ none := by rw [h2]; simp
  refine ⟨xs, h2, h3, go G _ [(_, .ref p)] [p] ⟨Same.refl _, gh_upd I.st.gh (gn p (by simp)), fun _ _ h => h, fun a o z1 z2 => by rw [upd_ne (fun z : a = p => z2 (by simp [z]))]; exact z1, dm_upd pp⟩ ⟨[p], [], ?_, fun a ha => t3 a (inn a ha), rfl, by simp⟩ (by simp) (fun a ha => .inl (inn a ha)) (fun a ha => gn a (inn a ha))⟩
  unfold putD
  cases hi : keyI k ks with
  | some i =>
    rw [keyI_put nd hi h3]
    simp only [RM]
    exact ⟨p, xs.set i y, [], rfl, upd_same, by simpa using h3, RpL.rml' (rl.set i r), rfl⟩
  | none =>
    rw [keyI_add hi h3]
    simp only [RM]
    exact ⟨p, xs ++ [y], [], rfl, upd_same, by simpa using h3, RpL.rml' (rl.app (by simp only [RpL]; exact ⟨y, [], rfl, r, rfl⟩)), rfl⟩
end
def dcL (vs : List Nat) (g : Gv) (fk fv : Ev) : List D → List Key × List D → List B → Option ((List Key × List D) × List B)
  | [], acc, b => some (acc, b)
  | d :: ds, acc, b => match g d b with
    | some b1 => (match fk b1 with
      | some (.d dk, b2) => (match fv b2 with
        | some (.d dv, b3) => (match dk.key with
          | some k => if acc.1.Nodup ∧ acc.1.length < 1000000 then dcL vs g fk fv ds (putD acc.1 acc.2 k dv) (wipeB b3 vs) else none
          | none => none)
        | _ => none)
      | _ => none)
    | none => none
def fDc (vs : List Nat) (l : Lv) (g : Gv) (fk fv : Ev) : Ev := fun b => match l b with
  | some (ds, b1) => (match dcL vs g fk fv ds ([], []) (wipeB b1 vs) with
    | some ((ks, xs), b2) => some (.dic ks (xs.map .d), b2)
    | none => none)
  | none => none
theorem dcL_no {vs : List Nat} {g : Gv} {fk fv : Ev} : ∀ {ds : List D} {acc : List Key × List D} {b : List B} {r : List Key × List D} {b' : List B}, dcL vs g fk fv ds acc b = some (r, b') → (∀ j ∈ vs, j < b.length → b[j]? = some .no) → ∀ j ∈ vs, j < b'.length → b'[j]? = some .no
  | [], acc, b, ms, b', h, k => by
    simp only [dcL, Option.some.injEq, Prod.mk.injEq] at h
    obtain ⟨rfl, rfl⟩ := h
    exact k
  | d :: ds, acc, b, ms, b', h, k => by
    unfold dcL at h
    split at h
    · split at h
      · split at h
        · split at h
          · split at h
            · exact dcL_no h fun j hj hl => wipeB_at _ _ _ hj (by rw [wipeB_len] at hl; exact hl)
            · cases h
          · cases h
        · cases h
      · cases h
    · cases h
theorem dc_in {K : PySem.W.Frag} {ix vs : List Nat} {l : Lv} {g : Gv} {fk fv : Ev} (hix : ix.all (fun i => vs.contains i) = true) : ∀ σ H Q, teO K (fDc vs l g fk fv) σ H Q → tDc (tiO K l) (tgO K ix g) (ttO K tTrue) (teO K fk) (teO K fv) vs σ H Q := fun σ H Q => by
  rintro ⟨c, G, b, T, m, b', hf, I, q⟩
  unfold fDc at hf
  split at hf
  · rename_i ds b1 e1
    split at hf
    · rename_i kz xz b2 e2
      cases hf
      refine ⟨c, G, b, T, ds, b1, e1, I, fun J s G1 H1 I1 ok D hD => ?_⟩
      have I2 : Iv K c G1 (upd H1 D (.dK [])) σ b1 ((.dic [] [], .ref D) :: (s ++ T)) := I1.newO (f := []) hD (by
        simp only [RM]
        exact ⟨D, [], [], rfl, upd_same, rfl, by simp [RML], rfl⟩)
      refine ⟨fun i m H => m = ds.length - i ∧ i ≤ ds.length ∧ ∃ G b3 ks xs, Iv K c G H (L2.wipe σ vs) b3 ((.dic ks (xs.map .d), .ref D) :: (s ++ T)) ∧ dcL vs g fk fv (ds.drop i) (ks, xs) b3 = some ((kz, xz), b') ∧ (∀ j ∈ vs, j < b3.length → b3[j]? = some .no),
        ⟨ds.length, by simp, Nat.zero_le _, G1, wipeB b1 vs, [], [], I2.wipe vs, by simpa using e2, fun j hj hl => wipeB_at _ _ _ hj (by rw [wipeB_len] at hl; exact hl)⟩, ?_⟩
      rintro i m H ⟨rfl, hi, G3, b3, ks, xs, I3, hl, hno⟩
      have P : ∀ (a : M), ((a, V.ref D) :: (s ++ T)).Perm (s ++ (a, .ref D) :: T) := fun a => List.perm_middle.symm
      obtain ⟨o1, o2⟩ := ok c G3 H _ b3 ((.dic ks (xs.map .d), .ref D) :: T) i (I3.perm (P _))
      by_cases hlt : i < ds.length
      · obtain ⟨go, yl⟩ := o1 hlt
        refine .inr ⟨go, fun H' => ∃ G b3 ks xs, Iv K c G H' (L2.wipe σ vs) b3 ((.dic ks (xs.map .d), .ref D) :: (s ++ T)) ∧ dcL vs g fk fv (ds.drop (i + 1)) (ks, xs) b3 = some ((kz, xz), b') ∧ (∀ j ∈ vs, j < b3.length → b3[j]? = some .no),
          fun H' ⟨G3, b3, ks, xs, x1, x2, x3⟩ => ⟨ds.length - (i + 1), by omega, rfl, hlt, G3, b3, ks, xs, x1, x2, x3⟩, fun x H' y => ?_⟩
        obtain ⟨d, G4, hd, I4⟩ := yl x H' y
        rw [List.drop_eq_getElem_cons hlt] at hl
        have e : ds[i] = d := by rw [List.getElem?_eq_getElem hlt] at hd; exact Option.some.inj hd
        rw [e] at hl
        unfold dcL at hl
        split at hl
        · rename_i b4 e4
          refine ⟨c, G4, b3, s ++ (.dic ks (xs.map .d), .ref D) :: T, d, b4, e4, I4, fun σ5 G5 H5 k5 I5 => ?_⟩
          have hw : L2.wipe σ5 vs = L2.wipe σ vs := by
            have h2 : L2.wipe σ5 vs = L2.wipe (L2.wipe σ vs) vs := wipe_ext k5.1 fun j hj => k5.2 j fun z => hj (by
              have := List.all_eq_true.mp hix j z
              simpa using this)
            rw [h2]
            exact wipe_ext (wipe_length _ _) fun j hj => by rw [wipe_at, if_neg (fun z => hj z.1)]
          refine ⟨hw, ?_⟩
          refine ⟨c, G5, b4, _, true, b4, rfl, I5, fun G6 H6 I6 => ?_⟩
          refine iteT ?_
          split at hl
          · rename_i dk b5 e5
            split at hl
            · rename_i dv b6 e6
              split at hl
              · rename_i kk hk
                split at hl
                · rename_i hz
                  refine ⟨c, G6, b4, _, .d dk, b5, e5, I6, fun v G7 H7 I7 => ?_⟩
                  have rk := I7.topD
                  refine ⟨c, G7, b5, _, .d dv, b6, e6, I7, fun v2 G8 H8 I8 => ?_⟩
                  have Q1 : ((M.d dv, v2) :: (M.d dk, v) :: (s ++ (M.dic ks (xs.map .d), V.ref D) :: T)).Perm ((M.d dk, v) :: (M.d dv, v2) :: (.dic ks (xs.map .d), .ref D) :: (s ++ T)) := (List.Perm.swap _ _ _).trans (List.Perm.cons _ (List.Perm.cons _ List.perm_middle))
                  obtain ⟨ys, w1, w2, I9⟩ := ((I8.perm Q1).drop).putT (k := kk) hz.1
                  refine ⟨_, kk, key_rel hk rk, w1, ?_, G8, wipeB b6 vs, _, _, ?_, hl, fun j hj hl => wipeB_at _ _ _ hj (by rw [wipeB_len] at hl; exact hl)⟩
                  · have : (ks.zip ys).length ≤ ks.length := by simp; omega
                    have := hz.2
                    exact lt_line (by simp at *; omega)
                  · rw [← hw]
                    exact I9.wipe vs
                · cases hl
              · cases hl
            · cases hl
          · cases hl
        · cases hl
      · have e : i = ds.length := by omega
        subst e
        simp only [List.drop_length, dcL, Option.some.injEq, Prod.mk.injEq] at hl
        obtain ⟨⟨rfl, rfl⟩, rfl⟩ := hl
        exact .inl ⟨o2 (Nat.le_refl _), q _ G3 H (Iv.unwipe hno ((I3.perm (P _)).dropN))⟩
    · cases hf
  · cases hf
section
variable {X : Cx} {e e1 e2 e3 o value : Expr} {es : List Expr} {st : Stmt} {sts : List Stmt} {pos pos' p apos tpos q : Pos} {f f1 f2 f3 fr : Ev} {fs : Av} {src : List (Option Nat)} {x m C : Str} {t t1 t2 : Tv} {k1 k2 : Sv} {j k : Nat} {π : Pth} {n : Str} {Cs : List Str} {F : Fn} {dds : List D} {dvs : List V} {E : XK} {ta tv : TE}
theorem e_dc {kx vx tg iter : Expr} {scope : Scope} {own : List (Str × Nat)} {ix : List Nat} {l : Lv} {g : Gv} {fk fv : Ev} (hc : X.calm = true) (hN : X.N.Nodup) (hi : IM X tg iter l) (ok : BlkOk X.N X.env.scope scope own) (hix : ix.all (fun i => (own.map (·.2)).contains i) = true)
    (hg : ∀ (s : Shared) (H : Hp) (C : Addr) (cl : List (Str × Addr)) (fp : List Addr), GM (X.blk s H scope (compEnvC scope cl C X.env) fp) tg ix g)
    (hk : ∀ (s : Shared) (H : Hp) (C : Addr) (cl : List (Str × Addr)) (fp : List Addr), EM (X.blk s H scope (compEnvC scope cl C X.env) fp) kx fk)
    (he : ∀ (s : Shared) (H : Hp) (C : Addr) (cl : List (Str × Addr)) (fp : List Addr), EM (X.blk s H scope (compEnvC scope cl C X.env) fp) vx fv) (hs : ∀ x, foldedSetIterable iter X.env x = pure x := by intro _; rfl) :
    EM X (.DictComp kx vx [⟨tg, iter, [], 0⟩] scope pos) (fDc (own.map (·.2)) l g fk fv) := (pe_dc hc hN hi ok hg (fun _ _ _ _ _ => ts_nil) hk he hs).wk (dc_in hix)
/-! ### texts -/
def D.strL : List D → Option (List Str)
  | [] => some []
  | .str x :: ds => (match D.strL ds with
    | some xs => some (x :: xs)
    | none => none)
  | _ => none
theorem strs_rel {K : PySem.W.Frag} {G : Hp} : ∀ {ds : List D} {ys : List Str} {xs : List V}, D.strL ds = some ys → RpL K G ds xs → xs = ys.map V.str
  | [], ys, xs, h, r => by
    simp only [D.strL, Option.some.injEq] at h
    simp only [RpL] at r
    subst h r; rfl
  | .str x :: ds, ys, xs, h, r => by
    unfold D.strL at h
    split at h
    · rename_i zs e
      cases h
      simp only [RpL, Rp] at r
      obtain ⟨y, ys', rfl, rfl, r3⟩ := r
      rw [strs_rel e r3]; rfl
    · cases h
  | .non :: _, _, _, h, _ => by simp [D.strL] at h
  | .bl _ :: _, _, _, h, _ => by simp [D.strL] at h
  | .int _ :: _, _, _, h, _ => by simp [D.strL] at h
  | .adr _ :: _, _, _, h, _ => by simp [D.strL] at h
  | .ty _ :: _, _, _, h, _ => by simp [D.strL] at h
  | .tup _ :: _, _, _, h, _ => by simp [D.strL] at h
  | .lst _ :: _, _, _, h, _ => by simp [D.strL] at h
  | .seq _ :: _, _, _, h, _ => by simp [D.strL] at h
  | .obj .. :: _, _, _, h, _ => by simp [D.strL] at h
  | .dic .. :: _, _, _, h, _ => by simp [D.strL] at h
  | .any :: _, _, _, h, _ => by simp [D.strL] at h
  | .oba .. :: _, _, _, h, _ => by simp [D.strL] at h
def gJoin : D → D → Option D
  | .str a, .lst ds => (match D.strL ds with
    | some ys => if (ys.map (·.length)).sum + ys.length * a.length ≤ 16777216 then some (.str (Txt.join a ys)) else none
    | none => none)
  | _, _ => none
theorem os_join {K : PySem.W.Frag} : OpS K (fun x y H Q => ∃ a p, ∃ ys : List Str, x = .str a ∧ y = .ref p ∧ (SqL K H p (ys.map V.str) ∨ SqT K H p (ys.map V.str)) ∧ (ys.map (·.length)).sum + ys.length * a.length ≤ 16777216 ∧ Q (.str (Txt.join a ys)) H) (g2 gJoin) := OpS.pure fun c G H x y d1 d2 d Q hg s r1 r2 q => by
  unfold gJoin at hg
  split at hg
  · split at hg
    · rename_i ys ey
      split at hg
      · rename_i hz
        cases hg
        simp only [Rp] at r1 r2
        subst r1
        obtain ⟨pp, xs, rfl, h2, h3⟩ := r2
        have := strs_rel ey h3
        subst this
        exact ⟨_, pp, ys, rfl, rfl, .inl (SqL.of (s _ _ h2)), hz, q _ (by simp [Rp])⟩
      · cases hg
    · cases hg
  · cases hg
theorem e_join (h1 : EM X e1 f1) (h2 : EM X e f2) (hstr : ∀ b m b1, f1 b = some (m, b1) → ∃ z, m = .d (.str z)) (hs : starEach [e] X.env = [(false, eval e X.env)] := by rfl) (hbase : attributeBase e1 "join" X.env (eval e1 X.env) = eval e1 X.env := by rfl) (hline : (apos.endLine == pos.line) = true := by rfl) :
    EM X (.Call (.Attribute e1 "join" apos) [e] [] pos) (fOp (g2 gJoin) f1 f2) := (pe_join h1 h2 hs hbase hline).wk fun σ H Q => by
  rintro ⟨c, G, b, T, r, b', hf, I, qq⟩
  unfold fOp at hf
  split at hf
  · rename_i m1 b1 ea
    split at hf
    · rename_i m2 b2 eb
      split at hf
      · rename_i mm eg
        cases hf
        obtain ⟨z, rfl⟩ := hstr _ _ _ ea
        refine ⟨c, G, b, T, _, b1, ea, I, fun v G1 H1 I1 => ?_⟩
        have r1 := I1.topD
        simp only [Rp] at r1
        refine ⟨⟨z, r1⟩, c, G1, b1, _, m2, b', eb, I1, fun y G2 H2 I2 => ?_⟩
        obtain ⟨a, pp, ys, w1, w2, w3⟩ := os_join (K := X.K) c G2 H2 σ b' T v y _ m2 _ Q eg I2 qq
        exact ⟨a, pp, ys, w1, by rw [w2], w3⟩
      · cases hf
    · cases hf
  · cases hf
theorem fC_str {z : Str} : ∀ b m b1, fC (.str z) b = some (m, b1) → ∃ z, m = .d (.str z) := fun b m b1 h => by
  unfold fC at h
  cases h
  exact ⟨z, rfl⟩
/-- len(set(xs)), at most one text -/
def gLenSet : D → Option D
  | .lst ds => (match D.strL ds with
    | some ys => if ys.length ≤ 1 then some (.int ys.length) else none
    | none => none)
  | _ => none
def fUnD (g : D → Option D) (f : Ev) : Ev := fun b => match f b with
  | some (.d d, b1) => (match g d with
    | some x => some (.d x, b1)
    | none => none)
  | _ => none
theorem e_lenSet1 {p2 : Pos} (hm : X.mg "len" = none) (hm2 : X.mg "set" = none) (h : EM X e f) (hc : X.calm = true := by rfl) (hg : Gl X "len" := by rfl) (hg2 : Gl X "set" := by rfl) (na : starEach [e] X.env = (false, eval e X.env) :: starEach [] X.env := by rfl) :
    EM X (.Call (.Name "len" p) [.Call (.Name "set" p2) [e] [] q] [] pos) (fUnD gLenSet f) := (L2.pe_lenSet hc hg hm hg2 hm2 h na).wk fun σ H Q => by
  rintro ⟨c, G, b, T, r, b', hf, I, qq⟩
  unfold fUnD at hf
  split at hf
  · rename_i d b1 e1
    split at hf
    · rename_i x ex
      cases hf
      refine ⟨c, G, b, T, _, b', e1, I, fun v G1 H1 I1 => ?_⟩
      unfold gLenSet at ex
      split at ex
      · split at ex
        · rename_i ys ey
          split at ex
          · rename_i hz
            cases ex
            have r := I1.topD
            simp only [Rp] at r
            obtain ⟨pp, xs, rfl, h2, h3⟩ := r
            have := strs_rel ey h3
            subst this
            exact ⟨pp, ys, rfl, .inl (SqL.of (I1.st.gh _ _ h2)), hz, qq _ G1 H1 (I1.drop.pushD (by simp [Rp]))⟩
          · cases ex
        · cases ex
      · cases ex
    · cases hf
  · cases hf
end
end PL

namespace PL
open PySem PySem.Spec PyProof.Rows L2 PySem.Calls
/-! ### len of an instance -/
theorem len_inst {prog : Program} {w : World} {A : Around} {E : Value → Shared → Prop} {s : Shared} {K : PySem.W.Frag} {x C f : Addr} {ox : Obj} {od : Option Obj} {Q : Value → Shared → Prop} (Xk : K.In s.heap) (I : PySem.W.InstAt s.heap x ox C od) (hs : PySem.W.findIn K (.ref C) "__len__" = some (some (.ref f))) (hf : PySem.W.isFn K (.ref f) = true)
    (h : wpAny (model prog w) A.in1 (call (.ref f) [.ref x]) (PySem.W.LenBack Q) E s) : wpAny (model prog w) A (call (.builtin "len") [.ref x]) Q E s := by
  refine Calls.call_function_entry kind_len plain_len entry_len (args_len1 _) ?_
  unfold Builtin.«len»
  refine wpAny_bind (m := oneArg "len" _) (wpAny_pure ?_)
  refine wpAny_bind (m := callSpecial? (.ref x) (Str.ofString "__len__")) (PySem.W.special_fn Xk I hs (beq_iff_eq.mp hf) (wpAny_mono h (fun r s' hr => ?_) fun _ _ y => y))
  cases r <;> first | exact hr.elim | skip
  rename_i n u
  obtain ⟨⟨h0, h1⟩, hq⟩ := hr
  refine wpAny_bind (wpAny_holding (wpAny_pure ?_))
  refine wpAny_bind (wpAny_letGo ?_)
  show wpAny _ _ (if n < 0 then _ else _) _ _ _
  rw [if_neg (by omega)]
  show wpAny _ _ (if n ≥ 2 ^ 63 then _ else _) _ _ _
  rw [if_neg (by omega)]
  exact wpAny_bind (wpAny_mkInt (wpAny_pure ⟨_, rfl, hq⟩))
section
variable {X : Cx} {e e1 e2 e3 o value : Expr} {es : List Expr} {st : Stmt} {sts : List Stmt} {pos pos' p apos tpos q : Pos} {f f1 f2 f3 fr : Ev} {fs : Av} {src : List (Option Nat)} {x m C : Str} {t t1 t2 : Tv} {k1 k2 : Sv} {j k : Nat} {π : Pth} {n : Str} {Cs : List Str} {F : Fn} {dds : List D} {dvs : List V} {E : XK} {ta tv : TE}
def rLenI (K : PySem.W.Frag) (C : Addr) (sp : Sp) : List V → Hp → VK → Prop := fun xs H Q => ∃ a dx fs, xs = [.ref a] ∧ H a = some (.ins C dx fs) ∧ sp [.ref a] H (fun v H' => ∃ i : Int, v = .int i ∧ 0 ≤ i ∧ i < 2 ^ 63 ∧ Q (.int i) H') E0
theorem call_lenI {f : Addr} {fd : FuncData} {ps : List Str} {sp : Sp} {C : Addr} (c : Cls X.K C) (hm : Meth X.K C "__len__" f) (F : FnOk X.prog X.w X.K X.mg X.base CX0 k f fd ps sp) (hr : Room (k + 1) X.A) (hb : Binds X.K fd ps []) : CallR X (.builtin "len") (rLenI X.K C sp) := by
  intro pins s σ H xs us Q I r ⟨a, dx, fs, ex, ea, h⟩
  subst ex
  obtain ⟨u, eu, rx⟩ := vals1 r
  subst eu
  obtain rfl : u = Value.ref a := rx
  obtain ⟨mA, O, _, _, _, _⟩ := ins_get I.hok ea
  obtain ⟨od, J, _⟩ := O.look
  have hl : ([Value.ref a] ++ ([] : List Value)).length = ps.length := by
    have e := F.len _ _ _ _ h
    simpa using e
  refine len_inst I.kIn J hm.at_ hm.fn (wpAny_call ?_)
  refine codeAny_mono (F.run X.A.in1 X.stack s H ⟨[.ref a], []⟩ [.ref a] [.ref a] _ E0 hr.in1 I.env0.in1 (by simpa using hb s [.ref a] I.kIn hl) (.cons rfl .nil) h) fun r s' hq => ?_
  cases r with
  | error er => exact pass0 pins σ H s er s' I hq
  | ok fl =>
    cases fl with
    | ret u =>
      obtain ⟨v, H', I3, rv, i, rfl, h0, h1, q3⟩ := I.after hq
      obtain ⟨t, rfl⟩ := rv
      exact ⟨⟨h0, h1⟩, .int i, H', I3.tok _, ⟨_, rfl⟩, q3⟩
    | next => exact False.elim hq
    | brk => exact False.elim hq
    | cont => exact False.elim hq
def gLenI (C : Str) (F : Fn) : List M → Option M
  | [.d (.obj C' ns ds)] => if C' = C then (match F [.d (.obj C' ns ds)] with
    | some (.d (.int i), []) => if 0 ≤ i ∧ i < 1000000000 then some (.d (.int i)) else none
    | _ => none) else none
  | _ => none
theorem cs_lenI : CaS X.K (rLenI X.K (He.ga X.K C) (spD X.K F)) (gLenI C F) := by
  intro c G H σ b T ms us m Q hg hl I qq
  unfold gLenI at hg
  split at hg
  · rename_i C' ns ds
    split at hg
    · rename_i hc
      subst hc
      split at hg
      · rename_i i e1
        split at hg
        · rename_i hz
          cases hg
          obtain ⟨u, rfl⟩ := len1 hl
          have r := Iv.topD (T := T) I
          simp only [Rp] at r
          obtain ⟨a, dx, xs, rfl, h2, _⟩ := id r
          refine ⟨a, dx, _, rfl, I.st.gh _ _ h2, ?_⟩
          refine appF_in (src := [none]) (F := F) (dds := []) (dvs := []) (us := [.ref a]) (vs := [.ref a]) (ms := [.d (.obj C' ns ds)]) (b3 := b) (r := .d (.int i)) I rfl ⟨_, [], [], rfl, rfl, rfl, rfl⟩ (by simp [RpL]) (by simp [appF, fill, e1, putb, M.isD]) fun v G' H' I' => ?_
          have rv := I'.topD
          simp only [Rp] at rv
          subst rv
          exact ⟨i, rfl, hz.1, by omega, qq _ G' H' I'⟩
        · cases hg
      · cases hg
    · cases hg
  · cases hg
theorem e_lenI (h : MetOk X.prog X.w X.K X.mg X.base k C "__len__" [] F) (hr : Room (k + 1) X.A) (hm : X.mg "len" = none) (ha : AM X [e] src fs) (hsrc : src.all (·.isNone) = true := by rfl) (hg : Gl X "len" := by rfl) (he : starEach [e] X.env = (false, eval e X.env) :: starEach [] X.env := by rfl) (hpl : (backTo pos (starEach [] X.env)).any (·.1) = false := by rfl) : EM X (.Call (.Name "len" p) [e] [] pos) (fOf (gLenI C F) fs) := by
  obtain ⟨f, fd, ps, ds, h1, h3, h4, h5⟩ := h.ex
  cases h4
  exact e_cb (call_lenI h.cls h1 h5 hr h3) cs_lenI hm boot_len ha hsrc hg (by decide) (by decide) he hpl
/-! ### tuple.index of a tuple of the top -/
def TupX (K : PySem.W.Frag) (mg : Str → Option Value) (x : Str) (ss : List Str) : Prop := ∃ a, mg x = some (.ref a) ∧ (∀ H, SqT K H a (ss.map V.str)) ∧ ∃ o, K.lookup a = some o ∧ o.cls = .type "tuple" ∧ o.dict = none
def tidx (z : Str) : List Str → Option Nat
  | [] => none
  | y :: ys => if y = z then some 0 else (match tidx z ys with
    | some i => some (i + 1)
    | none => none)
theorem tidx_ok {z : Str} : ∀ {ys : List Str} {i : Nat}, tidx z ys = some i → ys[i]? = some z ∧ ∀ m, m < i → ys[m]? ≠ some z
  | [], i, h => by simp [tidx] at h
  | y :: ys, i, h => by
    unfold tidx at h
    split at h
    · rename_i e
      cases h
      subst e
      exact ⟨rfl, by simp⟩
    · rename_i e
      split at h
      · rename_i k ek
        cases h
        obtain ⟨h1, h2⟩ := tidx_ok ek
        refine ⟨by simpa using h1, fun m hm => ?_⟩
        cases m with
        | zero => simpa using e
        | succ m => simpa using h2 m (by omega)
      · cases h
def gTidx (ss : List Str) : D → Option D
  | .str z => (match tidx z ss with
    | some i => some (.int i)
    | none => none)
  | _ => none
theorem e_tidx {ss : List Str} {px : Pos} (ht : TupX X.K X.mg x ss) (h : EM X e f) (hg : Gl X x := by rfl) (hd : (x == ("__debug__" : Str)) = false := by decide)
    (hbase : attributeBase (.Name x px) "index" X.env (eval (.Name x px) X.env) = eval (.Name x px) X.env := by rfl)
    (hfew : ((backTo pos (starEach (e :: []) X.env)).all (fun x => !x.1) && (backToKw pos (keywordEach [] X.env)).all (fun x => x.1.isSome)
      && decide ((e :: []).length + ([] : List Keyword).length + (if ([] : List Keyword).isEmpty then 0 else 1) < 30)) = true := by rfl)
    (hline : (apos.endLine == pos.line) = true := by rfl) (hs : starEach (e :: []) X.env = (false, eval e X.env) :: starEach [] X.env := by rfl) (hplain : (backTo pos (starEach [] X.env)).any (·.1) = false := by rfl) :
    EM X (.Call (.Attribute (.Name x px) "index" apos) [e] [] pos) (fUnD (gTidx ss) f) := by
  obtain ⟨a, h1, h2, h3⟩ := ht
  refine (pe_bm PySem.F.plainAttrs_tuple PySem.F.slot_tuple_index PySem.F.type_tuple_index L2.mt_tup_index (pe_glob (v := .ref a) hg h1 rfl hd) (pa_cons h pa_nil hs) hbase hfew hline hs hplain).wk fun σ H Q => ?_
  rintro ⟨c, G, b, T, r, b', hf, I, qq⟩
  unfold fUnD at hf
  split at hf
  · rename_i d b1 e1
    split at hf
    · rename_i y ey
      cases hf
      unfold gTidx at ey
      split at ey
      · rename_i z
        split at ey
        · rename_i i ei
          cases ey
          refine ⟨.inr (.inl ⟨rfl, h3⟩), c, G, b, T, _, b', e1, I, fun v G1 H1 I1 => ?_⟩
          have r := I1.topD
          simp only [Rp] at r
          subst r
          obtain ⟨w1, w2⟩ := tidx_ok ei
          exact ⟨a, ss, z, i, rfl, rfl, h2 H1, w1, w2, qq _ G1 H1 (I1.drop.pushD (by simp [Rp]))⟩
        · cases ey
      · cases ey
    · cases hf
  · cases hf
end
end PL

namespace PL
open PySem PySem.Spec PyProof.Rows L2
theorem funD_kbn {K : PySem.W.Frag} {x qual : Str} {params : Arguments} {body : List Stmt} {scope : Scope} {kws : List (Str × V)} {f : Addr} {fd : FuncData} {ps : List Str} (F : FunD K x qual params body scope [] kws f fd) (n : Nat) (ks : List Str) (g : {α : Type} → List α → List α → List α)
    (hrel : ∀ {vs zs : List V} {us ws : List Value}, Vals vs us → Vals zs ws → Vals (g vs zs) (g us ws))
    (h : ∀ (kV doc pm : Value) (an : Option Addr) (cdv ct : Value) (us ws : List Value), us.length = n → ws.length = ks.length → bindArgs (PySem.W.fnOf x qual params body scope .none kV doc pm an cdv ct) ⟨us, ks.zip ws⟩ = pure (ps.zip (g us ws))) :
    KBn K fd ps n ks (fun us ws => g us ws) (fun vs zs => g vs zs) := by
  obtain ⟨oc, od, dV, kV, doc, pm, an, cdv, ct, osl, rfl, lk, hcd, hD, hK⟩ := F.ex
  rcases hD with ⟨_, rfl⟩ | ⟨e, _⟩
  · exact ⟨fun s us ws X l1 l2 => .of_eq (h kV doc pm an cdv ct us ws l1 l2), fun r1 r2 => hrel r1 r2⟩
  · exact absurd rfl e
structure MetKOk (P : Program) (w : World) (K : PySem.W.Frag) (mg : Str → Option Value) (base : Heap) (k : Nat) (C m kn : Str) (F : Fn) : Prop where
  cls : Cls K (He.ga K C)
  ex : ∃ f fd ps, Meth K (He.ga K C) m f ∧ KBn K fd ps 1 [kn] (fun us ws => us ++ ws) (fun vs zs => vs ++ zs) ∧ FnOk P w K mg base CX0 k f fd ps (spD K F)
structure MakKOk (P : Program) (w : World) (K : PySem.W.Frag) (mg : Str → Option Value) (base : Heap) (k : Nat) (C k1 k2 : Str) (F : Fn) : Prop where
  at_ : mg C = some (.ref (He.ga K C))
  ex : ∃ f fd ps, Mk K (He.ga K C) f ∧ KBn K fd ps 1 [k1, k2] (fun us ws => us ++ ws.reverse) (fun vs zs => vs ++ zs.reverse) ∧ FnOk P w K mg base CX0 k f fd ps (spD K F)
section
variable {X : Cx} {e e1 e2 e3 o value : Expr} {es : List Expr} {st : Stmt} {sts : List Stmt} {pos pos' p apos tpos q kpos kpos2 : Pos} {f f1 f2 f3 fr : Ev} {fs : Av} {src : List (Option Nat)} {x m C kn kn2 : Str} {t t1 t2 : Tv} {k1 k2 : Sv} {j k : Nat} {π : Pth} {n : Str} {Cs : List Str} {F : Fn} {dds : List D} {dvs : List V} {E : XK} {ta te tv : TE}
/-- o.m(k = e) -/
def tMethK (C : Addr) (m : Str) (sp : Sp) (E : XK) (ta te : TE) : TE := fun σ H Q => ta σ H fun x H1 => ∃ a dx fs, x = .ref a ∧ H1 a = some (.ins C dx fs) ∧ fs.lookup m = none ∧ te σ H1 fun z H2 => ([z] : List V).length = 1 ∧ sp ([x] ++ [z]) H2 Q E
theorem pe_methK {CX : CXT} {A f : Addr} {fd : FuncData} {ps : List Str} {sp : Sp} {pl : Sem Bool} (he : PE X o ta) (c : Cls X.K A) (hm : Meth X.K A m f) (F : FnOk X.prog X.w X.K X.mg X.base CX k f fd ps sp) (hr : Room k X.A)
    (hb : KBn X.K fd ps 1 [kn] (fun us ws => us ++ ws) (fun vs zs => vs ++ zs)) (hx : Passes CX X E) (hv : PE X e te)
    (hall : (backToKw pos (keywordEach [⟨some kn, e, kpos⟩] X.env)).all (·.1.isSome) = true := by rfl) (hks : (backToKw pos (keywordEach [⟨some kn, e, kpos⟩] X.env)).filterMap (·.1) = [kn] := by rfl)
    (hpl : ((backTo pos (starEach [] X.env)).any (·.1) || (backToKw pos (keywordEach [⟨some kn, e, kpos⟩] X.env)).any (·.1.isNone)) = false := by rfl)
    (ht : eval (.Call (.Attribute o m apos) [] [⟨some kn, e, kpos⟩] pos) X.env = (do
      let ov ← eval o X.env
      standAt apos.atName
      let (f, first) ← holding [ov] (getMethod ov m pl)
      callWith pos f first (backTo pos (starEach [] X.env)) (backToKw pos (keywordEach [⟨some kn, e, kpos⟩] X.env))) := by rfl) :
    PE X (.Call (.Attribute o m apos) [] [⟨some kn, e, kpos⟩] pos) (tMethK A m sp E ta te) := by
  refine ⟨fun pins s σ H Q I h => ?_⟩
  refine PySem.W.methodCall_KW (pl := pl) (thn (he.run pins s σ H _ I h) fun u s1 ⟨x, H1, I1, rx, a, dx, fs, ex, ea, l, q⟩ => ?_) ht
  subst ex
  obtain rfl : u = Value.ref a := rx
  refine getmeth_ok I1 ea c hm l ?_
  refine PySem.W.callWith_KW0 (first := [.ref a]) (h₀ := X.base) I.ok.mod.kin hm.kp hall ?_ hpl
  have hk : PK X [⟨some kn, e, kpos⟩] (tCons te tNil) := pk_cons hv pk_nil
  refine thn (hk.run pos pins s1 σ H1 (fun zs H2 => zs.length = 1 ∧ sp ([V.ref a] ++ zs) H2 Q E) I1 (show tCons te tNil σ H1 _ from q)) fun ws s2 ⟨zs, H2, I2, rz, l2, q2⟩ => ⟨I2.kIn, ?_⟩
  rw [hks]
  exact run_fnN (us := [.ref a]) (vs := [.ref a]) F hr hb hx I2 (.cons rfl .nil) rz rfl l2 q2
def fMethK (C m : Str) (F : Fn) (j : Nat) (fv : Ev) : Ev := fMethO C m F [] j [none] (fCons fv fNil)
theorem e_methK {pl : Sem Bool} {px : Pos} (j : Nat) (h : MetKOk X.prog X.w X.K X.mg X.base k C m kn F) (hr : Room k X.A) (hv : EM X e f)
    (hall : (backToKw pos (keywordEach [⟨some kn, e, kpos⟩] X.env)).all (·.1.isSome) = true := by rfl) (hks : (backToKw pos (keywordEach [⟨some kn, e, kpos⟩] X.env)).filterMap (·.1) = [kn] := by rfl)
    (hpl : ((backTo pos (starEach [] X.env)).any (·.1) || (backToKw pos (keywordEach [⟨some kn, e, kpos⟩] X.env)).any (·.1.isNone)) = false := by rfl)
    (ht : eval (.Call (.Attribute (.Name x px) m apos) [] [⟨some kn, e, kpos⟩] pos) X.env = (do
      let ov ← eval (.Name x px) X.env
      standAt apos.atName
      let (f, first) ← holding [ov] (getMethod ov m pl)
      callWith pos f first (backTo pos (starEach [] X.env)) (backToKw pos (keywordEach [⟨some kn, e, kpos⟩] X.env))) := by rfl)
    (hN : X.N[j]? = some x := by rfl) (hv' : Vis X.env.scope x := by first | exact Or.inl rfl | exact Or.inr (Or.inl rfl) | exact Or.inr (Or.inr rfl)) (hdb : (x == ("__debug__" : Str)) = false := by decide)
    (hcd : (x == ("__classdict__" : Str)) = false := by decide) :
    EM X (.Call (.Attribute (.Name x px) m apos) [] [⟨some kn, e, kpos⟩] pos) (fMethK C m F j f) := by
  obtain ⟨f0, fd, ps, h1, h3, h5⟩ := h.ex
  refine (pe_methK (E := E0) (pe_var hN hv' hdb hcd) h.cls h1 h5 hr h3 pass0 hv hall hks hpl ht).wk fun σ H Q h => ?_
  obtain ⟨v, w1, a, dx, fs, w2, w3, w4, c, G, b, T, ms, b', hf, I, q⟩ := methO_in (E := E0) (dvs := []) (dds := []) (fun _ => by simp [RpL]) σ H Q h
  refine ⟨v, w1, a, dx, fs, w2, w3, w4, ?_⟩
  unfold fCons fNil at hf
  split at hf
  · rename_i m1 b1 e1
    simp only [Option.some.injEq, Prod.mk.injEq] at hf
    obtain ⟨rfl, rfl⟩ := hf
    refine ⟨c, G, b, T, m1, b1, e1, I, fun v2 G2 H2 I2 => ⟨rfl, ?_⟩⟩
    exact q [v2] [v2] G2 H2 rfl ⟨v2, [], [], rfl, rfl, rfl, rfl⟩ I2
  · cases hf
/-- C(k1 = e1, k2 = e2), in the other order -/
def fMake2 (C : Str) (F : Fn) (f1 f2 : Ev) : Ev := fun b => match f1 b with
  | some (m1, b1) => (match f2 b1 with
    | some (m2, b2) => (match F [.obj C [] [], m2, m1] with
      | some (.d .non, m' :: os) => (match putb [none, none] [] [m2, m1] os b2 with
        | some b3 => some (m', b3)
        | none => none)
      | _ => none)
    | none => none)
  | none => none
theorem e_make2 (h : MakKOk X.prog X.w X.K X.mg X.base k C kn kn2 F) (hr : Room (k + 1) X.A) (h1 : EM X e1 f1) (h2 : EM X e2 f2) (hg : Gl X C := by rfl)
    (hall : (backToKw pos (keywordEach [⟨some kn, e1, kpos⟩, ⟨some kn2, e2, kpos2⟩] X.env)).all (·.1.isSome) = true := by rfl) (hks : (backToKw pos (keywordEach [⟨some kn, e1, kpos⟩, ⟨some kn2, e2, kpos2⟩] X.env)).filterMap (·.1) = [kn, kn2] := by rfl) (hdb : (C == ("__debug__" : Str)) = false := by decide)
    (hpl : ((backTo pos (starEach [] X.env)).any (·.1) || (backToKw pos (keywordEach [⟨some kn, e1, kpos⟩, ⟨some kn2, e2, kpos2⟩] X.env)).any (·.1.isNone)) = false := by rfl) :
    EM X (.Call (.Name C p) [] [⟨some kn, e1, kpos⟩, ⟨some kn2, e2, kpos2⟩] pos) (fMake2 C F f1 f2) := by
  obtain ⟨f, fd, ps, z1, z3, z5⟩ := h.ex
  refine (pe_makeK0 (E := E0) z1 z5 hr hg h.at_ z3 pass0 (pk_cons h1 (pk_cons h2 pk_nil)) hall hks hdb hpl).wk fun σ H Q => ?_
  rintro ⟨c, G, b, T, r, b', hf, I, q⟩
  unfold fMake2 at hf
  split at hf
  · rename_i m1 b1 e1
    split at hf
    · rename_i m2 b2 e2
      split at hf
      · rename_i m' os e3
        split at hf
        · rename_i b3 e4
          cases hf
          refine ⟨c, G, b, T, m1, b1, e1, I, fun v1 G1 H1 I1 => ⟨c, G1, b1, _, m2, b2, e2, I1, fun v2 G2 H2 I2 => ⟨rfl, rfl, fun xx dx hx hdx ne => ?_⟩⟩⟩
          have := Iv.make (F := F) (dds := []) (dvs := []) (src := [none, none]) (ms := [m2, m1]) (us := [v2, v1]) (vs := [v2, v1]) (full := [m2, m1]) (ks := []) (b2 := b2) (b3 := b') (os := os) (Q := Q) (E := E0) I2 rfl ⟨v2, [v1], [v1], rfl, rfl, v1, [], [], rfl, rfl, rfl, rfl⟩ (by simp [RpL]) (by simp [fill]) (by simpa using e3) e4 hx hdx ne fun G' H' I' => q _ G' H' I'
          simpa using this
        · cases hf
      · cases hf
    · cases hf
  · cases hf
end
end PL

namespace PySem.SeqAt
open AutoSeq1 (wpAny_loadPart')
open MeetsSeq MeetsSeq2 MeetsSeq3 SeqRoads2
section
variable {prog : Program} {w : World}
theorem pl_list_ne (l b : Addr) (items items2 : Array Value) (n n2 : Nat) (dd dd2 : Option Addr) (sl sl2 : Array (Option Value)) (hsz : items.size ≠ items2.size) :
    MeetsIn prog w (Builtin.«list.__eq__» ⟨[.ref l, .ref b], []⟩)
      (fun A R s => s.heap.get? l = some { cls := .type "list", dict := dd, data := .seq items n, slots := sl } ∧ s.heap.get? b = some { cls := .type "list", dict := dd2, data := .seq items2 n2, slots := sl2 } ∧
        R (.ok (.ret (.bool false))) s) := by
  intro A R s h
  obtain ⟨hp, g, d, tk, os⟩ := s; obtain ⟨hl, hb, h⟩ := h
  have f3 := AutoSeq1.sub_list_list
  have hne : (items.size != items2.size) = true := by simp [hsz]
  wp_walk using wpAny_loadPart' hl, wpAny_loadPart' hb
  exact h
theorem pl_rc_sz {A : Around} {s : Shared} {l b : Addr} {items items2 : Array Value} (hl : s.heap.IsList l items) (hb : s.heap.IsList b items2) (hsz : items.size ≠ items2.size) (hu : A.units < cLine)
    (E Q : Value → Shared → Prop) (h : Q (.bool false) s) : wpAny (model prog w) A (richCompare .Eq (.ref l) (.ref b)) Q E s := by
  obtain ⟨⟨cls, dd, data, sl⟩, ho, hc, n, hd⟩ := id hl
  obtain ⟨⟨cls2, dd2, data2, sl2⟩, ho2, hc2, n2, hd2⟩ := id hb
  simp only at hc hd hc2 hd2
  subst hc hd hc2 hd2
  have ta : s.TypeIs (.ref l) "list" := ⟨_, ho, rfl⟩
  have tb : s.TypeIs (.ref b) "list" := ⟨_, ho2, rfl⟩
  exact wpAny_richCompare_same_room (op := .Eq) ta tb F.slot_list_eq (call_meetsIn F.slot_list_eq ta F.entry_list_eq (F.args_list_eq_2 _ _) (pl_list_ne l b items items2 n n2 dd dd2 sl sl2 hsz)
    ⟨ho, ho2, show Value.bool false ≠ Value.notImplemented ∧ Q (.bool false) s from ⟨(fun x => nomatch x), h⟩⟩) hu
end
end PySem.SeqAt
namespace PL
open PySem PySem.Spec PyProof.Rows L2
section
variable {X : Cx} {e e1 e2 e3 o value : Expr} {es : List Expr} {st : Stmt} {sts : List Stmt} {pos pos' p apos tpos q : Pos} {f f1 f2 f3 fr : Ev} {fs : Av} {src : List (Option Nat)} {x m C : Str} {t t1 t2 : Tv} {k1 k2 : Sv} {j k : Nat} {π : Pth} {n : Str} {Cs : List Str} {F : Fn} {dds : List D} {dvs : List V} {E : XK} {ta tv : TE}
def rEqSz (K : PySem.W.Frag) : R2 := fun x y H Q => ∃ a b xs ys, x = .ref a ∧ y = .ref b ∧ SqL K H a xs ∧ SqL K H b ys ∧ xs.length ≠ ys.length ∧ Q (.bl false) H
theorem op_eqSz (hu : X.A.units < cLine) : OpR X (compareOp .Eq) (rEqSz X.K) := by
  intro pins s σ H x y v u Q I rx ry h
  obtain ⟨a, b, xs, ys, rfl, rfl, ha, hb, hl, q⟩ := h
  obtain rfl : v = Value.ref a := rx
  obtain rfl : u = Value.ref b := ry
  obtain ⟨us, r1, p1, _⟩ := I.list ha
  obtain ⟨ws, r2, p2, _⟩ := I.list hb
  exact PySem.SeqAt.pl_rc_sz p1.isList p2.isList (by rw [List.size_toArray, List.size_toArray, ← r1.length, ← r2.length]; exact hl) hu _ _ ⟨.bl false, H, I, rfl, q⟩
def gEqX : D → D → Option D := fun a b => match a, b with
  | .lst xs, .lst ys => if xs.length ≠ ys.length then some (.bl false) else gEq a b
  | _, _ => gEq a b
def rEqX (K : PySem.W.Frag) : R2 := fun x y H Q => rEqD K x y H Q ∨ rEqSz K x y H Q
theorem op_eqX (hu : X.A.units + 64 < cLine) : OpR X (compareOp .Eq) (rEqX X.K) := fun pins s σ H x y v u Q I rx ry h => by
  rcases h with h | h
  · exact op_eqD hu pins s σ H x y v u Q I rx ry h
  · exact op_eqSz (by omega) pins s σ H x y v u Q I rx ry h
theorem os_eqX {K : PySem.W.Frag} : OpS K (rEqX K) (g2 gEqX) := OpS.pure fun c G H x y d1 d2 d Q hg s r1 r2 q => by
  have plain : gEq d1 d2 = some d → rEqX K x y H Q := fun hg => .inl (pu_eq (K := K) H x y d1 d2 d Q hg (Rp.mono s _ _ r1) (Rp.mono s _ _ r2) fun v hv => q v (hv G))
  unfold gEqX at hg
  split at hg
  · split at hg
    · rename_i hne
      cases hg
      simp only [Rp] at r1 r2
      obtain ⟨p1, xs, rfl, h2, h3⟩ := r1
      obtain ⟨p2, ys, rfl, h4, h5⟩ := r2
      exact .inr ⟨p1, p2, xs, ys, rfl, rfl, SqL.of (s _ _ h2), SqL.of (s _ _ h4), by rw [← h3.len, ← h5.len]; exact hne, q _ (by simp [Rp])⟩
    · exact plain hg
  · exact plain hg
theorem t_eqX (hr : Room k X.A) (h1 : EM X e1 f1) (h2 : EM X e2 f2) : TM X (.Compare e1 [.Eq] [e2] pos) (fT (fOp (g2 gEqX) f1 f2)) := t_cmp (op_eqX hr.units) os_eqX h1 h2 (nomark _)
/-! ### whatever is walked -/
def lAny (f : Ev) : Lv := fun b => match f b with
  | some (.d (.lst ds), b1) => some (ds, b1)
  | some (.d (.seq ds), b1) => some (ds, b1)
  | some (.d (.tup ds), b1) => some (ds, b1)
  | some (.d (.str z), b1) => some (z.cps.toList.map fun c => .str ⟨#[c]⟩, b1)
  | _ => none
theorem i_any {tg : Expr} (h : EM X e f) : IM X tg e (lAny f) := ⟨fun pins s σ H R I q => by
  obtain ⟨c, G, b, T, ds, b', hf, Iv', qq⟩ := q
  unfold lAny at hf
  split at hf
  · rename_i e1
    cases hf
    exact (i_list h).run pins s σ H R I ⟨c, G, b, T, _, _, by simp only [lLst, e1], Iv', qq⟩
  · rename_i e1
    cases hf
    exact (i_list h).run pins s σ H R I ⟨c, G, b, T, _, _, by simp only [lLst, e1], Iv', qq⟩
  · rename_i e1
    cases hf
    exact (i_tup h).run pins s σ H R I ⟨c, G, b, T, _, _, by simp only [lTup, e1], Iv', qq⟩
  · rename_i e1
    cases hf
    exact (i_str h).run pins s σ H R I ⟨c, G, b, T, _, _, by simp only [lStr, e1], Iv', qq⟩
  · cases hf⟩
/-- name = [comprehension], looking only -/
theorem peek_in {K : PySem.W.Frag} : ∀ σ H Q, teO K (fPeek f) σ H Q → teO K f σ H Q := fun σ H Q => by
  rintro ⟨c, G, b, T, r, b', hf, I, q⟩
  unfold fPeek at hf
  split at hf
  · rename_i m b1 e1
    split at hf
    · rename_i sf
      cases hf
      obtain ⟨c', G2, I2, _, back⟩ := I.look
      refine ⟨c', G2, b.map bF, [], _, b1, e1, I2, fun v G' H' I' => ?_⟩
      obtain ⟨G4, I4⟩ := back _ _ _ _ _ sf I'.unal
      exact q v G4 H' I4
    · cases hf
  · cases hf
theorem s_setLcP (i : Nat) {y : Str} {py : Pos} {elt tg iter : Expr} {ifs : List Expr} {scope : Scope} {own : List (Str × Nat)} {ix : List Nat} {l : Lv} {g : Gv} (hc : X.calm = true) (hN : X.N.Nodup) (hi : IM X tg iter l) (ok : BlkOk X.N X.env.scope scope own) (hix : ix.all (fun i => (own.map (·.2)).contains i) = true)
    (hg : ∀ (s : Shared) (H : Hp) (C : Addr) (cl : List (Str × Addr)) (fp : List Addr), GM (X.blk s H scope (compEnvC scope cl C X.env) fp) tg ix g) (ht : ∀ (s : Shared) (H : Hp) (C : Addr) (cl : List (Str × Addr)) (fp : List Addr), PTs (X.blk s H scope (compEnvC scope cl C X.env) fp) ifs (ttO X.K t))
    (he : ∀ (s : Shared) (H : Hp) (C : Addr) (cl : List (Str × Addr)) (fp : List Addr), EM (X.blk s H scope (compEnvC scope cl C X.env) fp) elt f) (hsw : swapsWith (.ListComp elt [⟨tg, iter, ifs, 0⟩] scope pos) (some (.Name y py)) pos.line X.env = pure true) (hy : X.N[i]? = some y := by rfl) (hyl : X.env.scope.names.lookup y = some .local := by rfl)
    {spos : Pos} (hl : spos.line = pos.line := by rfl) (hs : ∀ x, foldedSetIterable iter X.env x = pure x := by intro _; rfl) :
    SM X (.Assign [.Name y py] (.ListComp elt [⟨tg, iter, ifs, 0⟩] scope pos) spos) (sSet i (fPeek (fLc (own.map (·.2)) l g t f))) := (ps_setLc (i := i) hc hN hy hyl (by rw [hl]; exact hsw) hi ok hg ht he hs).wk fun D σ H => by
  rintro ⟨c, G, b, T, r, b', hf, I, q⟩
  unfold sSet at hf
  split at hf
  · rename_i m b1 e1
    split at hf
    · rename_i hl
      cases hf
      exact lc_in hix σ H _ (peek_in σ H _ ⟨c, G, b, T, m, b1, e1, I, fun v G' H' I' => q _ G' H' (I'.put hl)⟩)
    · cases hf
  · cases hf
theorem bool_of {a b : Bool} (h : (a && b) = true) : a = true ∧ b = true := Bool.and_eq_true_iff.mp h
end
end PL

namespace PL
open PySem PySem.Spec PyProof.Rows L2
/-! ### properties of the top's classes; a tuple of the top -/
def getterAt (K : PySem.W.Frag) (C f : Str) : Addr := match PySem.W.recIn K (He.ma K (He.ga K C) f) "property" with
  | some (.ref g :: _) => g
  | _ => 0
def propB (K : PySem.W.Frag) (C f : Str) : Bool := He.eqO (PySem.W.findIn K (.ref (He.ga K C)) f) (some (some (.ref (He.ma K (He.ga K C) f)))) && (He.eqO (PySem.W.specialIn K (.ref (He.ma K (He.ga K C) f)) "__get__") (some (some (.builtin "property.__get__"))) && (decide (PySem.W.takesIn K (.ref (He.ma K (He.ga K C) f)) = some true) && (match PySem.W.recIn K (He.ma K (He.ga K C) f) "property" with
  | some (.ref _ :: _) => true
  | _ => false)))
theorem propB_ok {K : PySem.W.Frag} {C f : Str} (h : propB K C f = true) : PropOf K (He.ga K C) f (He.ma K (He.ga K C) f) (getterAt K C f) := by
  unfold propB at h
  simp only [Bool.and_eq_true] at h
  obtain ⟨h1, h2, h3, h4⟩ := h
  refine ⟨He.eqO_ok h1, He.eqO_ok h2, of_decide_eq_true h3, ?_⟩
  unfold getterAt
  split at h4
  · rename_i g r e
    rw [e]
    exact ⟨r, rfl⟩
  · cases h4
def codeAt (K : PySem.W.Frag) (a : Addr) : He.FnW := match K.lookup a with
  | some ⟨_, _, .func fd, _⟩ => some (fd.name, fd.qualname, fd.params, fd.body, fd.scope, fd.globals, fd.closure, fd.builtins)
  | _ => none
def okAt (K : PySem.W.Frag) (a : Addr) (q : Str) : Bool := PySem.W.keepIn K (.ref a) && (match K.lookup a with
  | some ⟨_, _, .func fd, _⟩ => PySem.W.codeIn K fd.code q && (He.dflB K fd.defaults [] && He.kwdB K fd.kwdefaults [])
  | _ => false)
theorem funD_at {K : PySem.W.Frag} {a : Addr} {d : He.DefD} (e : codeAt K a = d.val) (c : okAt K a d.qual = true) : ∃ fd, FunD K d.name d.qual d.params d.body d.scope [] [] a fd := by
  obtain ⟨kp, c2⟩ := bool_of c
  unfold codeAt at e
  cases q : K.lookup a with
  | none => rw [q] at c2; cases c2
  | some o =>
    obtain ⟨oc, od, dt, osl⟩ := o
    rw [q] at c2 e
    cases dt with
    | func fd =>
      obtain ⟨n1, n2, n3, n4, n5, n6, n7, n8, n9, n10, n11, n12, n13, n14, n15⟩ := fd
      have e2 : (some (n1, n2, n3, n4, n5, n6, n7, n15) : He.FnW) = some (d.name, d.qual, d.params, .stmts d.body, d.scope, mainGlobals, [], builtinsNs) := e
      simp only [Option.some.injEq, Prod.mk.injEq] at e2
      obtain ⟨h1, h2, h3, h4, h5, h6, h7, h8⟩ := e2
      subst h1 h2 h3 h4 h5 h6 h7 h8
      have c3 : (PySem.W.codeIn K n13 d.qual && (He.dflB K n8 [] && He.kwdB K n9 [])) = true := c2
      obtain ⟨k1, k2⟩ := bool_of c3
      obtain ⟨k3, k4⟩ := bool_of k2
      exact ⟨_, ⟨oc, od, n8, n9, n10, n11, n12, n13, n14, osl, rfl, q, k1, He.dflB_ok k3, He.kwdB_ok k4⟩, kp⟩
    | _ => cases c2
/-- the getters: class, name, def -/
abbrev Getter : Type := Str × Str × He.DefD
def obsP (ps : List Getter) (K : PySem.W.Frag) : List He.FnW := ps.map fun q => codeAt K (getterAt K q.1 q.2.1)
def valP (ps : List Getter) : List He.FnW := ps.map fun q => q.2.2.val
theorem obsP_at {ps : List Getter} {K : PySem.W.Frag} (h : obsP ps K = valP ps) (i : Nat) {q : Getter} (e : ps[i]? = some q := by rfl) : codeAt K (getterAt K q.1 q.2.1) = q.2.2.val := by
  have := congrArg (fun l : List He.FnW => l[i]?) h
  simp only [obsP, valP, List.getElem?_map, e, Option.map_some, Option.some.injEq] at this
  exact this
def hookP (n : Nat) (fa : List He.Fa) (fn : List He.DefD) (ps : List Getter) (ex : PySem.W.Frag → Bool) : PySem.W.Hook where
  α := He.AlX × List He.FnW
  obs := fun s => (He.obsX n fa fn [] [] ex s.heap.get?, obsP ps (He.frT s.heap.get? (He.asD s.heap.get? n)))
  val := fun w => (He.valX fn [] w, valP ps)
  says := fun w h => ∃ K : PySem.W.Frag, K.In h ∧ He.SaysX fa fn [] [] ex w h K ∧ obsP ps K = valP ps
  of := fun _ _ e => ⟨_, He.frT_in, He.saysX_of (congrArg Prod.fst e), congrArg Prod.snd e⟩
  keeps := fun _ _ _ ⟨K, hK, c, d⟩ k => ⟨K, PySem.W.Frag.In.keeps hK k, ⟨c.t, c.more, c.hd, c.out, fun p hp => k _ _ (c.empty p hp)⟩, d⟩
def obsPG (n : Nat) (fa : List He.Fa) (fn : List He.DefD) (ps : List Getter) (ex : PySem.W.Frag → Bool) (g : Addr → Option Obj) : He.AlX × List He.FnW := (He.obsX n fa fn [] [] ex g, obsP ps (He.frT g (He.asD g n)))
theorem obsPG_eq {n : Nat} {fa : List He.Fa} {fn : List He.DefD} {ps : List Getter} {ex : PySem.W.Frag → Bool} {g : Addr → Option Obj} {s : Shared} (h : ∀ a, g a = s.heap.get? a) : obsPG n fa fn ps ex g = (hookP n fa fn ps ex).obs s := by
  have e : g = s.heap.get? := funext h
  rw [e] <;> rfl
/-- the tuple's object has no dict -/
def tupN (K : PySem.W.Frag) (x : Str) : Bool := match K.lookup (He.ga K x) with
  | some ⟨.type c, none, _, _⟩ => c == "tuple"
  | _ => false
theorem tupN_ok {K : PySem.W.Frag} {x : Str} (h : tupN K x = true) : ∃ o, K.lookup (He.ga K x) = some o ∧ o.cls = .type "tuple" ∧ o.dict = none := by
  unfold tupN at h
  split at h
  · rename_i c dd sl e
    rw [beq_iff_eq] at h
    exact ⟨_, e, by rw [h], rfl⟩
  · cases h
end PL
namespace PL
open PySem PySem.Spec PyProof.Rows L2
theorem vals_rev : ∀ {vs : List V} {us : List Value}, Vals vs us → Vals vs.reverse us.reverse
  | [], _, .nil => .nil
  | v :: vs, _, .cons r t => by
    simp only [List.reverse_cons]
    exact (vals_rev t).append (.cons r .nil)
end PL

namespace PL
open PySem PySem.Spec PyProof.Rows L2
/-! ### what may come out in more ways than one -/
def M.plain : M → Bool
  | .d _ => false
  | .box .. => false
  | _ => true
abbrev Wv := List B → (R → List B → Prop) → Prop
def tswO (K : PySem.W.Frag) (w : Wv) : TS := fun D σ H => ∃ c G b T post, w b post ∧ Iv K c G H σ b T ∧ ∀ r b', post r b' → endO K c T b' D r
abbrev SW (X : Cx) (st : Stmt) (w : Wv) : Prop := PS X st (tswO X.K w)
abbrev SWs (X : Cx) (st : List Stmt) (w : Wv) : Prop := PSs X st (tswO X.K w)
def wOf (g : Sv) : Wv := fun b post => ∃ r b', g b = some (r, b') ∧ post r b'
def wSeq (w1 w2 : Wv) : Wv := fun b post => w1 b fun r b1 => match r with
  | .nx => w2 b1 post
  | r => post r b1
def wIf (t : Tv) (w1 w2 : Wv) : Wv := fun b post => ∃ k b1, t b = some (k, b1) ∧ if k = true then w1 b1 post else w2 b1 post
/-- the fresh thing at slot i gets a place in the box at slot j -/
def wCell (i j : Nat) (g : Sv) : Wv := fun b post => ∃ b1 m k r as ms, g b = some (.nx, b1) ∧ b1[i]? = some (.o none m) ∧ (∃ C ns fs, m = .obj C ns fs) ∧ i ≠ j ∧ b1[j]? = some (.o k (.box r as ms)) ∧ ms.all M.plain = true ∧ ∀ a, a ∉ as → post .nx ((b1.set i (.d (.adr a))).set j (.o k (.box r (as ++ [a]) (ms ++ [m]))))
section
variable {X : Cx} {e e1 e2 e3 o value : Expr} {es : List Expr} {st : Stmt} {sts : List Stmt} {pos pos' p apos tpos q : Pos} {f f1 f2 f3 fr : Ev} {fs : Av} {src : List (Option Nat)} {x m C : Str} {t t1 t2 : Tv} {g g1 g2 : Sv} {w1 w2 : Wv} {i j k : Nat}
theorem sw_of (h : SM X st g) : SW X st (wOf g) := h.wk fun D σ H => by
  rintro ⟨c, G, b, T, post, ⟨r, b', e, hp⟩, I, q⟩
  exact ⟨c, G, b, T, r, b', e, I, q r b' hp⟩
theorem sws_of (h : SMs X sts g) : SWs X sts (wOf g) := h.wk fun D σ H => by
  rintro ⟨c, G, b, T, post, ⟨r, b', e, hp⟩, I, q⟩
  exact ⟨c, G, b, T, r, b', e, I, q r b' hp⟩
theorem sws_one (h : SW X st w1) : SWs X [st] w1 := pss_one h
theorem sws_cons (h1 : SW X st w1) (h2 : SWs X sts w2) : SWs X (st :: sts) (wSeq w1 w2) := (pss_cons h1 h2).wk fun D σ H => by
  rintro ⟨c, G, b, T, post, hw, I, q⟩
  refine ⟨c, G, b, T, _, hw, I, fun r b1 hp => ?_⟩
  cases r with
  | nx => exact fun σ' G' H' I' => ⟨c, G', b1, T, post, hp, I', fun r b' h => by have := q r b' h; cases r <;> exact this⟩
  | bk => exact q _ _ hp
  | ct => exact q _ _ hp
  | rt m => exact q _ _ hp
theorem sw_if (h : TM X e t) (h1 : SWs X sts w1) {sts2 : List Stmt} (h2 : SWs X sts2 w2) : SW X (.If e sts sts2 pos) (wIf t w1 w2) := (ps_if h h1 h2).wk fun D σ H => by
  rintro ⟨c, G, b, T, post, ⟨k, b1, e1, hk⟩, I, q⟩
  refine ⟨c, G, b, T, k, b1, e1, I, fun G' H' I' => ?_⟩
  cases k with
  | true =>
    rw [if_pos rfl] at hk
    exact iteT ⟨c, G', b1, T, post, hk, I', q⟩
  | false =>
    rw [if_neg (by simp)] at hk
    exact iteF ⟨c, G', b1, T, post, hk, I', q⟩
theorem RM.plainAt {K : PySem.W.Frag} {G H : Hp} {m : M} {v : V} {f : List Addr} (h : RM K G H m v f) (hp : m.plain = true) : ∃ a, v = .ref a ∧ a ∈ f := by
  cases m with
  | d x => simp [M.plain] at hp
  | box a b c => simp [M.plain] at hp
  | lst ms =>
    simp only [RM] at h
    obtain ⟨p, xs, q, e, _, _, rfl⟩ := h
    exact ⟨p, e, by simp⟩
  | obj C ns ms =>
    simp only [RM] at h
    obtain ⟨p, dx, xs, q, e, _, _, _, rfl⟩ := h
    exact ⟨p, e, by simp⟩
  | dic ks ms =>
    simp only [RM] at h
    obtain ⟨p, xs, q, e, _, _, _, rfl⟩ := h
    exact ⟨p, e, by simp⟩
theorem RML.nodD {K : PySem.W.Frag} {G H : Hp} : ∀ {ms : List M} {as : List Addr} {f : List Addr}, RML K G H ms (as.map V.ref) f → ms.all M.plain = true → ∀ a ∈ as, a ∈ f
  | [], as, f, h, _ => by
    simp only [RML] at h
    have : as = [] := by simpa using h.1
    subst this
    simp
  | m :: ms, as, f, h, hd => by
    cases as with
    | nil => simp
    | cons a as =>
      simp only [RML, List.map_cons] at h
      obtain ⟨y, ys, f1, f2, e1, h2, h3, rfl⟩ := h
      obtain ⟨rfl, rfl⟩ := List.cons.inj e1
      simp only [List.all_cons, Bool.and_eq_true] at hd
      intro x hx
      rcases List.mem_cons.mp hx with rfl | hx
      · obtain ⟨a', e, h4⟩ := RM.plainAt h2 hd.1
        cases e
        exact List.mem_append_left _ h4
      · exact List.mem_append_right _ (RML.nodD h3 hd.2 x hx)
theorem sw_cell (i j : Nat) (h : SM X st g) : SW X st (wCell i j g) := h.wk fun D σ H => by
  rintro ⟨c, G, b, T, post, ⟨b1, m, k, r, as, ms, e1, hi, ⟨C, ns, fs, rfl⟩, ne, hj, hd, hp⟩, I, q⟩
  refine ⟨c, G, b, T, .nx, b1, e1, I, fun σ' G' H' I' => ?_⟩
  obtain ⟨v, sv, I2⟩ := I'.take hi
  have hj2 : (b1.set i .no)[j]? = some (.o k (.box r as ms)) := by rw [List.getElem?_set_ne ne]; exact hj
  obtain ⟨s0, fi, ft, z1, z2, z3, nd, gn, old, go⟩ := Iv.slot (T1 := [(M.obj C ns fs, v)]) I2 hj2
  obtain ⟨z4, z5⟩ := rt_one z3
  obtain ⟨a, rfl, ha⟩ := RM.plainAt z4 rfl
  obtain ⟨v0, rfl, y1, y2⟩ := z2
  simp only [RM] at y1
  obtain ⟨rfl, y1⟩ := y1
  have na : a ∉ as := fun hm => (List.nodup_append.mp nd).2.2 a (RML.nodD y1 hd a hm) a ha rfl
  have I3 := go G' H' (.o k (.box r (as ++ [a]) (ms ++ [.obj C ns fs]))) (some (.ref r)) (fi ++ ft) [] [] ⟨Same.refl _, I'.st.gh, fun _ _ h => h, fun _ _ h _ => h, fun _ h => h⟩ ⟨_, rfl, ?_, ?_⟩ rfl (by simpa using nd) (fun x hx => by
    rcases List.mem_append.mp (by simpa using hx) with z | z
    · exact .inl z
    · exact .inr (.inl z)) (fun x hx => gn x (by simpa using hx))
  · rw [set_self z1] at I3
    have I4 : Iv X.K c G' H' σ' ((b1.set i .no).set j (.o k (.box r (as ++ [a]) (ms ++ [.obj C ns fs])))) ((.d (.adr a), .ref a) :: T) := Iv.pushD I3 (by simp [Rp])
    have hl : i < b1.length := (List.getElem?_eq_some_iff.mp hi).1
    have I5 := I4.put (i := i) (by simpa using hl)
    rw [set_self sv] at I5
    have eb : (((b1.set i .no).set j (.o k (.box r (as ++ [a]) (ms ++ [.obj C ns fs])))).set i (M.d (.adr a)).toB) = (b1.set i (.d (.adr a))).set j (.o k (.box r (as ++ [a]) (ms ++ [.obj C ns fs]))) := by
      rw [List.set_comm _ _ (Ne.symm ne), List.set_set]
      rfl
    rw [eb] at I5
    exact q .nx _ (hp a na) σ' G' H' I5
  · simp only [RM]
    refine ⟨by first | trivial | rfl, ?_⟩
    rw [List.map_append]
    exact RML.app y1 z4
  · cases k with
    | none =>
      intro x hx
      rcases List.mem_append.mp hx with z | z
      · exact y2 x z
      · exact old x z
    | some jj =>
      refine ⟨y2.1, fun x hx => ?_⟩
      rcases List.mem_append.mp hx with z | z
      · exact y2.2 x z
      · exact .inr (old x z)
/-! ### promises of such defs -/
abbrev Wn := List M → (M → List M → Prop) → Prop
def spW (K : PySem.W.Frag) (W : Wn) : Sp := fun vs H Q _ => ∃ (G : Hp) (ms : List M) (fs : List (List Addr)) (post : M → List M → Prop), W ms post ∧ Same G H ∧ RMs K G H ms vs fs ∧ fs.flatten.Nodup ∧ (∀ a ∈ fs.flatten, G a = none) ∧
  ∀ r os, post r os → ∀ v G' H' fr fo, Stp fs.flatten G H G' H' → RM K G' H' r v fr → IOK K G' H' H ms vs fs os fo → (fr ++ fo).Nodup → (∀ a ∈ fr ++ fo, G' a = none) → (∀ a ∈ fr, H a = none) → Q v H'
def wnF (np nl : Nat) (w : Wv) : Wn := fun ms post => ms.length = np ∧ w (startE ms 0 ++ List.replicate nl .no) fun r b => match r with
  | .nx => ∃ os, finals ms 0 b = some os ∧ post (.d .non) os
  | .rt m => ∃ os, finals ms 0 b = some os ∧ post m os
  | _ => False
theorem fn_okW {P : Program} {w : World} {K : PySem.W.Frag} {mg : Str → Option Value} {base : Heap} {x qual : Str} {params : Arguments} {body : List Stmt} {scope : Scope} {dvs : List V} {kws : List (Str × V)} {f : Addr} {fd : FuncData} {N ps : List Str} {k : Nat} {wv : Wv}
    (F : FunD K x qual params body scope dvs kws f fd) (S : FnScope N ps scope)
    (hbody : ∀ (cdv : Value) (A : Around) (outer : List Env) (s : Shared) (H : Hp) (E : XK), Room k (A.deeper (envOfC qual scope s.heap.objs.size f cdv)) → SWs (cxOf CX0 P w K mg base N qual scope f cdv A outer s H E).nox body wv) :
    FnOk P w K mg base CX0 (k + 1) f fd ps (spW K (wnF ps.length (N.length - ps.length) wv)) := by
  refine F.ok S (fun vs H Q E h => ?_) (fun cdv A outer s H vs Q E hr h => ⟨tswO K wv, (hbody cdv A outer s H E hr).nox, ?_⟩)
  · obtain ⟨G, ms, fs, post, e, _, h2, _⟩ := h
    rw [← (RMs.len h2).1]; exact e.1
  · obtain ⟨G, ms, fs, post, e, h1, h2, h3, h4, h5⟩ := h
    obtain ⟨q, e⟩ := e
    have ll := RMs.len h2
    have hst : L2.start N vs = vs.map some ++ List.replicate (N.length - ps.length) none := by
      unfold L2.start
      rw [← ll.1, q]
    rw [hst]
    let c : Cg := ⟨H, G, fs.flatten, fun j => fs.getD j [], vs⟩
    have hv : ∀ i, i < vs.length → c.VS[0 + i]? = vs[i]? := fun i _ => by simp [c]
    have hf : ∀ i, i < fs.length → c.PP (0 + i) = fs.getD i [] := fun i _ => by simp [c]
    have I : Iv K c G H (vs.map some ++ List.replicate (N.length - ps.length) none) (startE ms 0 ++ List.replicate (N.length - ps.length) .no) [] := by
      refine ⟨⟨Same.refl _, h1, fun _ _ h => h, fun _ _ h _ => h, fun _ h => h⟩, fs.flatten, [], RE.start (c := c) h2 hv hf, rfl, by simpa using h3, fun a ha => ?_⟩
      simp only [List.append_nil] at ha
      exact ⟨h4 a ha, .inl ha⟩
    have done : ∀ (b' : List B) (m : M) (os : List M) σ' G' H' T v, finals ms 0 b' = some os → Iv K c G' H' σ' b' T → (T = [(m, v)] ∨ (T = [] ∧ m = .d .non ∧ v = .non)) → post m os → Q v H' := by
      intro b' m os σ' G' H' T v ef I' hT hp
      obtain ⟨st, f1, f2, r1, r2, nd, hg⟩ := I'
      obtain ⟨fo, fx, k1, k2⟩ := RE.fin r1 ef ll.1 ll.2 hv hf
      have P : (f1 ++ f2).Perm ((f2 ++ fo) ++ fx) := by
        refine (List.Perm.append_right f2 k2).trans ?_
        refine List.perm_append_comm.trans ?_
        rw [List.append_assoc]
      have N2 := P.nodup_iff.mp nd
      have N3 := (List.nodup_append.mp N2).1
      have hin : ∀ a ∈ f2 ++ fo, G' a = none := fun a ha => (hg a (P.mem_iff.mpr (List.mem_append_left _ ha))).1
      rcases hT with rfl | ⟨rfl, rfl, rfl⟩
      · obtain ⟨q1, q2⟩ := rt_one r2
        exact h5 m os hp v G' H' f2 fo st q1 k1 N3 hin q2
      · have r2 : f2 = [] := r2
        subst r2
        exact h5 _ os hp .non G' H' [] fo st (by simp [RM, Rp]) k1 N3 hin (by simp)
    refine ⟨c, G, _, [], _, e, I, fun r b' hp => ?_⟩
    cases r with
    | nx =>
      obtain ⟨os, ef, hp⟩ := hp
      exact fun σ' G' H' I' => done b' _ os σ' G' H' [] .non ef I' (.inr ⟨rfl, rfl, rfl⟩) hp
    | bk => exact hp.elim
    | ct => exact hp.elim
    | rt m =>
      obtain ⟨os, ef, hp⟩ := hp
      exact fun v σ' G' H' I' => done b' _ os σ' G' H' [(m, v)] v ef I' (.inl rfl) hp
end
end PL

namespace PL
open PySem PySem.Spec PyProof.Rows L2
abbrev Ew := List B → (M → List B → Prop) → Prop
def tewO (K : PySem.W.Frag) (w : Ew) : TE := fun σ H Q => ∃ c G b T post, w b post ∧ Iv K c G H σ b T ∧ ∀ m b', post m b' → ∀ v G' H', Iv K c G' H' σ b' ((m, v) :: T) → Q v H'
abbrev EW (X : Cx) (e : Expr) (w : Ew) : Prop := PE X e (tewO X.K w)
section
variable {K : PySem.W.Frag} {c : Cg} {G G' H H' : Hp} {σ : L2.St} {b : List B} {T T1 : List (M × V)} {p : Addr} {o : HO} {d : D} {v : V} {m : M} {i : Nat}
theorem Iv.callW {W : Wn} {src : List (Option Nat)} {ms : List M} {us vs : List V} {full : List M} {ks : Ks} {b2 : List B} {post : M → List B → Prop} {Q : VK} {E : XK}
    (I : Iv K c G H σ b (zT ms us ++ T)) (hl : ms.length = us.length) (av : AV σ src us vs) (e1 : fill src ms b = some (full, ks, b2)) (e2 : W full fun r os => ∃ b3, putb src ks full os b2 = some b3 ∧ post r b3)
    (q : ∀ r b3, post r b3 → ∀ v G' H', Iv K c G' H' σ b3 ((r, v) :: T) → Q v H') : spW K W vs H Q E := by
  obtain ⟨st, f1, f2, h1, h2, nd, hg⟩ := I
  obtain ⟨ft, fT, t1, t2, rfl⟩ := RT.app.mp h2
  obtain ⟨ha, old⟩ := RT.list hl t1
  obtain ⟨fs, fh, i1, i2, i3, i4⟩ := take_args e1 h1 ha av old
  have ll := i1.len
  have P : (f1 ++ (ft ++ fT)).Perm (fs.flatten ++ (fh ++ fT)) := by
    rw [← List.append_assoc, ← List.append_assoc]
    exact List.Perm.append_right fT i3
  have N := P.nodup_iff.mp nd
  have N1 := List.nodup_append.mp N
  have hg' : ∀ a ∈ fs.flatten ++ (fh ++ fT), G a = none ∧ (a ∈ c.PS ∨ c.H0 a = none) := fun a ha => hg a (P.mem_iff.mpr ha)
  refine ⟨G, full, fs, _, e2, st.gh, i1, N1.1, fun a ha => (hg' a (by simp [ha])).1, fun r os hp v G' H' fr fo S rr io nd2 gn fresh => ?_⟩
  obtain ⟨b3, e3, hp⟩ := hp
  have hn : ∀ a, H a = none → c.H0 a = none := fun a z => by
    cases q : c.H0 a with
    | none => rfl
    | some o => exact absurd z (st.dm a (by rw [q]; simp))
  have there : ∀ a ∈ fh ++ fT, H a ≠ none := fun a ha => by
    rcases List.mem_append.mp ha with ha | ha
    · exact i2.there a ha
    · exact t2.there a ha
  have out : ∀ a ∈ fh ++ fT, a ∉ fs.flatten := fun a ha hm => N1.2.2 a hm a ha rfl
  have same : ∀ a ∈ fh ++ fT, H' a = H a := fun a ha => by
    cases q : H a with
    | none => exact absurd q (there a ha)
    | some o => exact S.kp a o q (out a ha)
  obtain ⟨f3, f4, j1, j2⟩ := i4 G' H' os fo b3 S.g (fun a ha => same a (by simp [ha])) hn io e3
  have fosub := io.sub
  refine q r b3 hp v G' H' ⟨st.trans S fun a ha => (hg' a (List.mem_append_left _ ha)).2, f3, fr ++ fT, j1, ⟨fr, fT, rr, fun a ha => hn a (fresh a ha), t2.frame S.g (fun a ha => same a (by simp [ha])), rfl⟩, ?_, ?_⟩
  · have N2 : ((fr ++ fo) ++ (fh ++ fT)).Nodup := by
      refine List.nodup_append.mpr ⟨nd2, N1.2.1, fun x hx y hy e => ?_⟩
      subst e
      rcases List.mem_append.mp hx with z | z
      · exact there x hy (fresh x z)
      · rcases fosub x z with z | z
        · exact out x hy z
        · exact there x hy z
    have P2 : ((fr ++ fo) ++ (fh ++ fT)).Perm ((f3 ++ (fr ++ fT)) ++ f4) := by
      rw [List.perm_iff_count]
      intro z
      have z1 := j2.count_eq z
      simp only [List.count_append] at z1 ⊢
      omega
    exact (List.nodup_append.mp (P2.nodup_iff.mp N2)).1
  · intro a ha
    have key : a ∈ fo ∨ a ∈ fh ∨ a ∈ fr ∨ a ∈ fT := by
      rcases List.mem_append.mp ha with z | z
      · have := j2.mem_iff.mpr (List.mem_append_left f4 z)
        rcases List.mem_append.mp this with z | z
        · exact .inl z
        · exact .inr (.inl z)
      · rcases List.mem_append.mp z with z | z
        · exact .inr (.inr (.inl z))
        · exact .inr (.inr (.inr z))
    have old2 : ∀ a ∈ fh ++ fT, G' a = none ∧ (a ∈ c.PS ∨ c.H0 a = none) := fun a ha =>
      ⟨S.nw a (there a ha) (hg' a (List.mem_append_right _ ha)).1, (hg' a (List.mem_append_right _ ha)).2⟩
    rcases key with z | z | z | z
    · refine ⟨gn a (by simp [z]), ?_⟩
      rcases fosub a z with z | z
      · exact (hg' a (List.mem_append_left _ z)).2
      · exact .inr (hn a z)
    · exact old2 a (by simp [z])
    · exact ⟨gn a (by simp [z]), .inr (hn a (fresh a z))⟩
    · exact old2 a (by simp [z])
end
structure MetWOk (P : Program) (w : World) (K : PySem.W.Frag) (mg : Str → Option Value) (base : Heap) (k : Nat) (C m : Str) (W : Wn) : Prop where
  cls : Cls K (He.ga K C)
  ex : ∃ f fd ps, Meth K (He.ga K C) m f ∧ Binds K fd ps [] ∧ FnOk P w K mg base CX0 k f fd ps (spW K W)
def wMethO (C m : Str) (W : Wn) (j : Nat) (src : List (Option Nat)) (fs : Av) : Ew := fun b post => ∃ C' ns ms0 ms b1 full ks b2, getP b j [] = some (.obj C' ns ms0) ∧ C' = C ∧ fldI m ns = none ∧ fs b = some (ms, b1) ∧ fill (some j :: src) ms b1 = some (full, ks, b2) ∧
  W full fun r os => ∃ b3, putb (some j :: src) ks full os b2 = some b3 ∧ post r b3
/-- what is walked -/
abbrev Lw2 := List B → (List D → List B → Prop) → Prop
def tiwO (K : PySem.W.Frag) (w : Lw2) : TI := fun σ H R => ∃ c G b T post, w b post ∧ Iv K c G H σ b T ∧ ∀ ds b', post ds b' → ∀ J s G' H', Iv K c G' H' σ b' (s ++ T) → ItOk K J s ds → R J H'
abbrev IW (X : Cx) (tg e : Expr) (w : Lw2) : Prop := PI X tg e (tiwO X.K w)
def wList (w : Ew) : Lw2 := fun b post => w b fun m b1 => ∃ ds, m.toD = .lst ds ∧ post ds b1
def wFor (l : Lw2) (g : Gv) (body : Sv) : Wv := fun b post => l b fun ds b1 => ∃ r b2, forL g body ds b1 = some (r, b2) ∧ post r b2
section
variable {X : Cx} {e e1 e2 e3 o value : Expr} {es : List Expr} {st : Stmt} {sts : List Stmt} {pos pos' p apos tpos q : Pos} {f f1 f2 f3 fr : Ev} {fs : Av} {src : List (Option Nat)} {x m C : Str} {t t1 t2 : Tv} {g g1 g2 : Sv} {w1 w2 : Wv} {we : Ew} {i j k : Nat} {W : Wn}
theorem e_methOW {pl : Sem Bool} {px : Pos} (j : Nat) (h : MetWOk X.prog X.w X.K X.mg X.base k C m W) (hr : Room k X.A) (ha : AM X (e :: es) src fs)
    (hst : starEach (e :: es) X.env = (false, eval e X.env) :: starEach es X.env := by rfl) (hpl : (backTo pos (starEach es X.env)).any (·.1) = false := by rfl)
    (ht : eval (.Call (.Attribute (.Name x px) m apos) (e :: es) [] pos) X.env = (do
      let ov ← eval (.Name x px) X.env
      standAt apos.atName
      let (f, first) ← holding [ov] (getMethod ov m pl)
      callWith pos f first (backTo pos (starEach (e :: es) X.env)) (backToKw pos (keywordEach [] X.env))) := by rfl)
    (hN : X.N[j]? = some x := by rfl) (hv : Vis X.env.scope x := by first | exact Or.inl rfl | exact Or.inr (Or.inl rfl) | exact Or.inr (Or.inr rfl)) (hdb : (x == ("__debug__" : Str)) = false := by decide)
    (hcd : (x == ("__classdict__" : Str)) = false := by decide) :
    EW X (.Call (.Attribute (.Name x px) m apos) (e :: es) [] pos) (wMethO C m W j src fs) := by
  obtain ⟨f, fd, ps, h1, h3, h5⟩ := h.ex
  refine (pe_meth (E := E0) (dvs := []) (pe_var hN hv hdb hcd) h.cls h1 h5 hr h3 .nil pass0 ha hst hpl ht).wk fun σ H Q => ?_
  rintro ⟨c, G, b, T, post, ⟨C', ns, ms0, ms, b1, full, ks, b2, eg, rfl, hm, ea, ef, hw⟩, I, q⟩
  obtain ⟨a, dx, fs', w1, w2, w3⟩ := getP_obj I eg hm
  refine ⟨_, w1, a, dx, fs', rfl, w2, w3, c, G, b, T, ms, b1, ea, I, fun us vs G2 H2 hl av I2 => ?_⟩
  have := Iv.callW (src := some j :: src) (vs := .ref a :: vs) (E := E0) I2 hl ⟨.ref a, vs, rfl, w1, av⟩ ef hw q
  simpa using this
theorem i_listW {tg : Expr} (h : EW X e we) : IW X tg e (wList we) := (pi_list h).wk fun σ H R => by
  rintro ⟨c, G, b, T, post, hw, I, q⟩
  refine ⟨c, G, b, T, _, hw, I, fun m b1 hp v G1 H1 I1 => ?_⟩
  obtain ⟨ds, ed, hp⟩ := hp
  obtain ⟨G2, I2⟩ := I1.freeze
  rw [ed] at I2
  have r := I2.topD
  simp only [Rp] at r
  obtain ⟨p, xs, rfl, h2, h3⟩ := r
  exact ⟨p, rfl, ⟨xs, I2.st.gh.seq (SqL.of h2)⟩, q ds b1 hp _ [_] G2 H1 I2 (itok_list (.inl rfl))⟩
theorem s_forW {tg iter : Expr} {ix : List Nat} {l : Lw2} {g : Gv} {g1 : Sv} (hp : PassesOwn (model X.prog X.w) X.A X.env X.xe) (hc : X.calm = true) (hi : IW X tg iter l) (hg : GM X tg ix g) (hb : SMs X sts g1) (hs : ∀ x, foldedSetIterable iter X.env x = pure x := by intro _; rfl) : SW X (.For tg iter sts [] pos) (wFor l g g1) := (ps_for hp hc hi hg hb hs).wk fun D σ H => by
  rintro ⟨c, G, b, T, post, hw, I, q0⟩
  refine ⟨c, G, b, T, _, hw, I, fun ds b1 hds J s G1 H1 I1 ok => ?_⟩
  obtain ⟨r, b', hf, hpost⟩ := hds
  have q := q0 r b' hpost
  refine ⟨fun i m σ H => m = ds.length - i ∧ i ≤ ds.length ∧ ∃ G b2, Iv X.K c G H σ b2 (s ++ T) ∧ forL g g1 (ds.drop i) b2 = some (r, b'), ⟨ds.length, by simp, Nat.zero_le _, G1, b1, I1, by simpa using hf⟩, ?_⟩
  rintro i m σ H ⟨rfl, hi, G2, b2, I2, hl⟩
  obtain ⟨o1, o2⟩ := ok c G2 H σ b2 T i I2
  by_cases hlt : i < ds.length
  · obtain ⟨go, yl⟩ := o1 hlt
    refine .inr ⟨go, fun σ' H' => ∃ G b2, Iv X.K c G H' σ' b2 (s ++ T) ∧ forL g g1 (ds.drop (i + 1)) b2 = some (r, b'), fun σ' H' ⟨G3, b3, I3, h3⟩ => ⟨ds.length - (i + 1), by omega, rfl, hlt, G3, b3, I3, h3⟩, fun x H' y => ?_⟩
    obtain ⟨d, G3, hd, I3⟩ := yl x H' y
    rw [List.drop_eq_getElem_cons hlt] at hl
    have e : ds[i] = d := by rw [List.getElem?_eq_getElem hlt] at hd; exact Option.some.inj hd
    rw [e] at hl
    unfold forL at hl
    split at hl
    · rename_i b3 e3
      refine ⟨c, G3, b2, s ++ T, d, b3, e3, I3, fun σ4 G4 H4 _ I4 => ?_⟩
      split at hl
      · rename_i b4 e4
        exact ⟨c, G4, b3, s ++ T, .nx, b4, e4, I4, fun σ5 G5 H5 I5 => ⟨G5, b4, I5, hl⟩⟩
      · rename_i b4 e4
        exact ⟨c, G4, b3, s ++ T, .ct, b4, e4, I4, fun σ5 G5 H5 I5 => ⟨G5, b4, I5, hl⟩⟩
      · rename_i b4 e4
        cases hl
        exact ⟨c, G4, b3, s ++ T, .bk, b', e4, I4, fun σ5 G5 H5 I5 => q σ5 G5 H5 I5.dropN⟩
      · rename_i m b4 e4
        cases hl
        refine ⟨c, G4, b3, s ++ T, .rt m, b', e4, I4, fun v σ5 G5 H5 I5 => q v σ5 G5 H5 ?_⟩
        have P : ((m, v) :: (s ++ T)).Perm (s ++ (m, v) :: T) := List.perm_middle.symm
        exact (I5.perm P).dropN
      · cases hl
    · cases hl
  · have e : i = ds.length := by omega
    subst e
    simp only [List.drop_length, forL, Option.some.injEq, Prod.mk.injEq] at hl
    obtain ⟨rfl, rfl⟩ := hl
    exact .inl ⟨o2 (Nat.le_refl _), q σ G2 H I2.dropN⟩
end
end PL

namespace PL
open PySem PySem.Spec PyProof.Rows L2
/-! ### an instance whose field n is a list of instances: opened, closed -/
def adrM (a : Addr) : M := .d (.adr a)
def openM (n : Str) (m : M) (a : Addr) (as : List Addr) : M := match m with
  | .obj C ns ms => (match fldI n ns with
    | some i => (match ms[i]? with
      | some (.lst ls) => .box a (a :: as) (.obj C ns (ms.set i (.lst (as.map adrM))) :: ls)
      | _ => m)
    | none => m)
  | m => m
/-- how many -/
def openN (n : Str) (m : M) : Option Nat := match m with
  | .obj C ns ms => (match fldI n ns with
    | some i => (match ms[i]? with
      | some (.lst ls) => if ls.all M.plain = true then some ls.length else none
      | _ => none)
    | none => none)
  | _ => none
def adrsOf : List M → Option (List Addr)
  | [] => some []
  | .d (.adr a) :: ms => (match adrsOf ms with
    | some as => some (a :: as)
    | none => none)
  | _ => none
def pick (as : List Addr) (cs : List M) : List Addr → Option (List M)
  | [] => some []
  | k :: ks => (match cs[as.idxOf k]?, pick as cs ks with
    | some c, some xs => some (c :: xs)
    | _, _ => none)
def closeM (n : Str) : M → Option M
  | .box a as cs => (match cs[as.idxOf a]? with
    | some (.obj C ns ms) => (match fldI n ns with
      | some i => (match ms[i]? with
        | some (.lst xs) => (match adrsOf xs with
          | some ks => if (a :: ks).Nodup then (match pick as cs ks with
            | some ls => some (.obj C ns (ms.set i (.lst ls)))
            | none => none) else none
          | none => none)
        | _ => none)
      | none => none)
    | _ => none)
  | _ => none
section
variable {K : PySem.W.Frag} {c : Cg} {G G' H H' : Hp} {σ : L2.St} {b : List B} {T T1 : List (M × V)} {p : Addr} {o : HO} {d : D} {v : V} {m : M} {i : Nat}
theorem RML.adrs : ∀ {ms : List M} {xs : List V} {f : List Addr}, RML K G H ms xs f → ms.all M.plain = true → f.Nodup → ∃ as : List Addr, xs = as.map V.ref ∧ as.length = ms.length ∧ as.Nodup ∧ ∀ a ∈ as, a ∈ f
  | [], xs, f, h, _, _ => by
    simp only [RML] at h
    exact ⟨[], by simp [h.1], rfl, by simp, by simp⟩
  | m :: ms, xs, f, h, hp, nd => by
    simp only [RML] at h
    obtain ⟨y, ys, f1, f2, rfl, h2, h3, rfl⟩ := h
    simp only [List.all_cons, Bool.and_eq_true] at hp
    have N := List.nodup_append.mp nd
    obtain ⟨as, e1, e2, e3, e4⟩ := RML.adrs h3 hp.2 N.2.1
    obtain ⟨a, rfl, ha⟩ := RM.plainAt h2 hp.1
    refine ⟨a :: as, by rw [e1]; rfl, by simp [e2], List.nodup_cons.mpr ⟨fun hm => N.2.2 a ha a (e4 a hm) rfl, e3⟩, fun x hx => ?_⟩
    rcases List.mem_cons.mp hx with rfl | hx
    · simp [ha]
    · simp [e4 x hx]
theorem RML.ofAdrs : ∀ {as : List Addr}, RML K G H (as.map adrM) (as.map V.ref) []
  | [] => by simp [RML]
  | a :: as => by
    simp only [List.map_cons, RML]
    exact ⟨.ref a, _, [], [], rfl, by simp [adrM, RM, Rp], RML.ofAdrs, rfl⟩
theorem RML.atAdrs : ∀ {xs : List M} {ys : List V} {f : List Addr} {ks : List Addr}, RML K G H xs ys f → adrsOf xs = some ks → ys = ks.map V.ref ∧ f = []
  | [], ys, f, ks, h, e => by
    simp only [adrsOf, Option.some.injEq] at e
    simp only [RML] at h
    subst e
    exact h
  | x :: xs, ys, f, ks, h, e => by
    unfold adrsOf at e
    split at e
    · rename_i e0
      cases e0
    · rename_i a ms e0
      obtain ⟨rfl, rfl⟩ := List.cons.inj e0
      split at e
      · rename_i as e1
        cases e
        simp only [RML, RM, Rp] at h
        obtain ⟨y, ys, f1, f2, rfl, ⟨rfl, rfl⟩, h3, rfl⟩ := h
        obtain ⟨q1, q2⟩ := RML.atAdrs h3 e1
        subst q1 q2
        exact ⟨rfl, rfl⟩
      · cases e
    · cases e
theorem RM.open_ {n : Str} {f : List Addr} {N : Nat} (h : RM K G H m v f) (nd : f.Nodup) (e : openN n m = some N) : ∃ a as f', v = .ref a ∧ as.length = N ∧ (a :: as).Nodup ∧ RM K G H (openM n m a as) v f' ∧ f.Perm f' := by
  unfold openN at e
  split at e
  · rename_i C ns ms
    split at e
    · rename_i i hi
      split at e
      · rename_i ls hm
        split at e
        · rename_i hp
          cases e
          simp only [RM] at h
          obtain ⟨a, dx, xs, q, rfl, h2, h3, h4, rfl⟩ := h
          obtain ⟨vl, fl, fr, w1, w2, w3, w4⟩ := RML.split h4 hm
          simp only [RM] at w2
          obtain ⟨pl, ys, ql, rfl, y1, y2, rfl⟩ := w2
          have nd2 := List.nodup_cons.mp nd
          have ndl : (pl :: ql).Nodup := (List.nodup_append.mp (w3.nodup_iff.mp nd2.2)).1
          obtain ⟨as, rfl, e2, e3, e4⟩ := RML.adrs y2 hp (List.nodup_cons.mp ndl).2
          obtain ⟨fn, z1, z2⟩ := w4 G H (.lst (as.map adrM)) (.ref pl) [pl] (Same.refl _) (fun _ _ => rfl) (by
            simp only [RM]
            exact ⟨pl, _, [], rfl, y1, RML.ofAdrs, rfl⟩)
          rw [set_self w1] at z1
          have na : a ∉ as := fun hm => nd2.1 (w3.mem_iff.mpr (List.mem_append_left _ (by simp [e4 a hm])))
          refine ⟨a, as, (a :: fn) ++ ql, rfl, e2, List.nodup_cons.mpr ⟨na, e3⟩, ?_, ?_⟩
          · simp only [openM, hi, hm, RM, List.map_cons, RML]
            refine ⟨by first | trivial | rfl, .ref a, _, a :: fn, ql, rfl, ⟨a, dx, xs, fn, by first | trivial | rfl, h2, h3, z1, rfl⟩, y2, rfl⟩
          · rw [List.perm_iff_count]
            intro x
            have k1 := w3.count_eq x
            have k2 := z2.count_eq x
            simp only [List.count_append, List.count_cons, List.count_nil] at k1 k2 ⊢
            omega
        · cases e
      · cases e
    · cases e
  · cases e
theorem idxOf_inj {a b : Addr} {as : List Addr} (h : as.idxOf a < as.length) (e : as.idxOf a = as.idxOf b) (hb : as.idxOf b < as.length) : a = b := by
  have h1 := idxOf_get h
  have h2 := idxOf_get hb
  rw [e, h2] at h1
  exact (Option.some.inj h1).symm
theorem RML.pick {as : List Addr} : ∀ {ks : List Addr} {cs ls : List M} {f : List Addr}, RML K G H cs (as.map V.ref) f → pick as cs ks = some ls → ks.Nodup → ∃ f1 fr, RML K G H ls (ks.map V.ref) f1 ∧ f.Perm (f1 ++ fr)
  | [], cs, ls, f, h, e, _ => by
    simp only [PL.pick, Option.some.injEq] at e
    subst e
    exact ⟨[], f, by simp [RML], by simp⟩
  | k :: ks, cs, ls, f, h, e, nd => by
    unfold PL.pick at e
    split at e
    · rename_i c0 xs e1 e2
      cases e
      have nd2 := List.nodup_cons.mp nd
      obtain ⟨v, fi, fr, w1, w2, w3, w4⟩ := RML.split h e1
      have hl : as.idxOf k < as.length := by
        have := (List.getElem?_eq_some_iff.mp w1).1
        simpa using this
      have hv : v = .ref k := by
        rw [List.getElem?_map, idxOf_get hl] at w1
        simpa using w1.symm
      subst hv
      obtain ⟨f', z1, z2⟩ := w4 G H (.d .any) (.ref k) [] (Same.refl _) (fun _ _ => rfl) rm_any
      rw [set_self w1] at z1
      have e3 : PL.pick as (cs.set (as.idxOf k) (.d .any)) ks = some xs := by
        have : ∀ {ks : List Addr} {xs : List M}, PL.pick as cs ks = some xs → k ∉ ks → PL.pick as (cs.set (as.idxOf k) (.d .any)) ks = some xs := by
          intro ks
          induction ks with
          | nil => intro xs h _; exact h
          | cons x ks ih =>
            intro xs h hk
            unfold PL.pick at h ⊢
            split at h
            · rename_i c1 ys q1 q2
              cases h
              have hne : as.idxOf k ≠ as.idxOf x := fun z => by
                have hlen : cs.length = as.length := by
                  have := (show cs.length = (as.map V.ref).length from RML.len ‹RML K G H cs (as.map V.ref) f›)
                  simpa using this
                have hx : as.idxOf x < as.length := by
                  rw [← hlen]; exact (List.getElem?_eq_some_iff.mp q1).1
                exact hk (by rw [idxOf_inj hl z hx]; simp)
              rw [List.getElem?_set_ne hne, q1, ih q2 (fun z => hk (by simp [z]))]
            · cases h
        exact this e2 nd2.1
      obtain ⟨f1, fr1, y1, y2⟩ := RML.pick z1 e3 nd2.2
      refine ⟨fi ++ f1, fr1, ?_, ?_⟩
      · simp only [List.map_cons, RML]
        exact ⟨.ref k, _, fi, f1, rfl, w2, y1, rfl⟩
      · rw [List.perm_iff_count]
        intro x
        have k1 := w3.count_eq x
        have k2 := z2.count_eq x
        have k3 := y2.count_eq x
        simp only [List.count_append, List.count_nil] at k1 k2 k3 ⊢
        omega
    · cases e
theorem RM.close_ {n : Str} {f : List Addr} {m' : M} (h : RM K G H m v f) (e : closeM n m = some m') : ∃ f' fr, RM K G H m' v f' ∧ f.Perm (f' ++ fr) := by
  unfold closeM at e
  split at e
  · rename_i a as cs
    split at e
    · rename_i C ns ms ea
      split at e
      · rename_i i hi
        split at e
        · rename_i xs hm
          split at e
          · rename_i ks hk
            split at e
            · rename_i nd
              split at e
              · rename_i ls hp
                cases e
                simp only [RM] at h
                obtain ⟨rfl, h⟩ := h
                have hp2 : PL.pick as cs (a :: ks) = some (.obj C ns ms :: ls) := by
                  unfold PL.pick
                  rw [ea, hp]
                obtain ⟨f1, fr, y1, y2⟩ := RML.pick h hp2 nd
                simp only [List.map_cons, RML] at y1
                obtain ⟨va, vs, fa, fl, ev, r1, r2, rfl⟩ := y1
                obtain ⟨rfl, rfl⟩ := List.cons.inj ev
                simp only [RM] at r1
                obtain ⟨p, dx, zs, q, ep, h2, h3, h4, rfl⟩ := r1
                cases ep
                obtain ⟨vl, fi, fr2, w1, w2, w3, w4⟩ := RML.split h4 hm
                simp only [RM] at w2
                obtain ⟨pl, ys, ql, rfl, u1, u2, rfl⟩ := w2
                obtain ⟨rfl, rfl⟩ := RML.atAdrs u2 hk
                obtain ⟨fn, z1, z2⟩ := w4 G H (.lst ls) (.ref pl) (pl :: fl) (Same.refl _) (fun _ _ => rfl) (by
                  simp only [RM]
                  exact ⟨pl, _, fl, rfl, u1, r2, rfl⟩)
                rw [set_self w1] at z1
                refine ⟨a :: fn, fr, by simp only [RM]; exact ⟨a, dx, zs, fn, rfl, h2, h3, z1, rfl⟩, ?_⟩
                rw [List.perm_iff_count]
                intro x
                have k1 := y2.count_eq x
                have k2 := w3.count_eq x
                have k3 := z2.count_eq x
                simp only [List.count_append, List.count_cons, List.count_nil] at k1 k2 k3 ⊢
                omega
              · cases e
            · cases e
          · cases e
        · cases e
      · cases e
    · cases e
  · cases e
theorem openM_isD {n : Str} {N : Nat} {a : Addr} {as : List Addr} (e : openN n m = some N) : m.isD = false ∧ (openM n m a as).isD = false := by
  unfold openN at e
  split at e
  · rename_i C ns ms
    split at e
    · rename_i i hi
      split at e
      · rename_i ls hm
        simp [openM, hi, hm, M.isD]
      · cases e
    · cases e
  · cases e
/-- a def on its first argument opened, as one on it closed -/
theorem open_imp {n : Str} {F : Fn} {W : Wn} (hF : ∀ ms r os, F ms = some (r, os) → ∃ (m0 : M) (ds : List D) (N : Nat) (m1 : M), ms = m0 :: ds.map M.d ∧ os = [m1] ∧ openN n m0 = some N ∧
      ∀ a as, (a :: as).Nodup → as.length = N → W (openM n m0 a as :: ds.map M.d) fun r' os' => r' = r ∧ ∃ bx, os' = [bx] ∧ closeM n bx = some m1) :
    ∀ vs H Q E, spD K F vs H Q E → spW K W vs H Q E := by
  rintro vs H Q E ⟨G, ms, fs, r, os, e, h1, h2, h3, h4, h5⟩
  obtain ⟨m0, ds, N, m1, rfl, rfl, eN, hW⟩ := hF ms r os e
  obtain ⟨v, vs', f, fs', rfl, rfl, r1, r2⟩ := h2
  have nf : f.Nodup := (List.nodup_append.mp (by simpa using h3)).1
  obtain ⟨a, as, f', rfl, l1, nd, r3, P⟩ := RM.open_ r1 nf eN
  have PF : (f :: fs').flatten.Perm (f' :: fs').flatten := by
    simp only [List.flatten_cons]
    exact List.Perm.append_right _ P
  obtain ⟨dm, dbx⟩ := openM_isD (a := a) (as := as) eN
  refine ⟨G, _, f' :: fs', _, hW a as nd l1, h1, ⟨.ref a, vs', f', fs', rfl, rfl, r3, r2⟩, PF.nodup_iff.mp h3, fun x hx => h4 x (PF.mem_iff.mpr hx), fun r' os' hp v' G' H' fr fo S rr io nd2 gn fresh => ?_⟩
  obtain ⟨rfl, bx, rfl, ec⟩ := hp
  obtain ⟨v0, vs0, f0, fs0, q1, q2, q3⟩ := io
  obtain ⟨rfl, rfl⟩ := List.cons.inj q1
  obtain ⟨rfl, rfl⟩ := List.cons.inj q2
  rw [if_neg (by rw [dbx]; simp)] at q3
  obtain ⟨o, os2, f1, f2, eo, q4, q5, q6, rfl⟩ := q3
  obtain ⟨rfl, rfl⟩ := List.cons.inj eo
  obtain ⟨f1', fr', z1, z2⟩ := RM.close_ q4 ec
  have sub : ∀ x ∈ f1', x ∈ f1 := fun x hx => z2.mem_iff.mpr (List.mem_append_left _ hx)
  have f20 : f2 = [] := by
    have : ∀ {ds : List D} {us gs os fo}, IOK K G' H' H (ds.map .d) us gs os fo → fo = [] := by
      intro ds
      induction ds with
      | nil => exact fun h => h.2
      | cons d ds ih =>
        rintro us gs os fo ⟨_, _, _, _, _, _, h⟩
        rw [if_pos (show (M.d d).isD = true from rfl)] at h
        exact ih h
    exact this q6
  subst f20
  simp only [List.append_nil] at nd2 gn
  have PN : (fr ++ f1).Perm ((fr ++ f1') ++ fr') := by
    rw [List.perm_iff_count]
    intro x
    have k1 := z2.count_eq x
    simp only [List.count_append] at k1 ⊢
    omega
  refine h5 v' G' H' fr f1' (gh_frame S fun x hx => PF.mem_iff.mpr hx) rr ⟨.ref a, vs', f, fs', rfl, rfl, ?_⟩ (List.nodup_append.mp (PN.nodup_iff.mp nd2)).1 (fun x hx => gn x (PN.mem_iff.mpr (List.mem_append_left _ hx))) fresh
  rw [if_neg (by rw [dm]; simp)]
  exact ⟨m1, [], f1', [], rfl, z1, fun x hx => (q5 x (sub x hx)).imp (fun z => P.mem_iff.mpr z) id, q6, by simp⟩
end
end PL

namespace PL
open PySem PySem.Spec PyProof.Rows L2
/-- place[e], an owned dict -/
def fDGetP (j : Nat) (π : Pth) (fk : Ev) : Ev := fun b => match getP b j π with
  | some (.dic ks ms) => (match fk b with
    | some (.d dk, _) => (match dk.key with
      | some k => (match keyI k ks with
        | some i => (match ms[i]? with
          | some (.d d) => some (.d d, b)
          | _ => none)
        | none => none)
      | none => none)
    | _ => none)
  | _ => none
section
variable {X : Cx} {e e1 e2 e3 o value : Expr} {es : List Expr} {st : Stmt} {sts : List Stmt} {pos pos' p apos tpos q : Pos} {f f1 f2 f3 fr fk : Ev} {fs : Av} {src : List (Option Nat)} {x m C : Str} {i j k : Nat} {π : Pth}
theorem e_dgetP (hr : Room k X.A) (hp : PP X o j π) (hi : EK X e fk) (hkp : Keep fk) (hs : NoSl e := by intro _ _; rfl) : EM X (.Subscript o e pos) (fDGetP j π fk) := (pe_dget (by have := hr.units; omega) hp hi hs).wk fun σ H Q => by
  rintro ⟨c, G, b, T, r, b', hf, I, q⟩
  unfold fDGetP at hf
  split at hf
  · rename_i ks ms eg
    split at hf
    · rename_i dk b9 ek
      have := hkp _ _ _ ek
      subst this
      split at hf
      · rename_i kk hk
        split at hf
        · rename_i i hi2
          split at hf
          · rename_i d ed
            cases hf
            obtain ⟨v0, v1, f1, w1, w2, w3⟩ := I.readP eg
            simp only [RM] at w3
            obtain ⟨p0, xs0, q0, rfl, h2, h3, h4, _⟩ := w3
            refine ⟨v0, .ref p0, w1, w2, c, G, b', T, _, ek, I, fun yk G2 H2 s2 I2 => ?_⟩
            have rk := I2.topD
            obtain ⟨v0', v1', f1', z1, z2, z3⟩ := I2.drop.readP eg
            rw [w1] at z1
            have z1 := Option.some.inj (Option.some.inj z1)
            subst z1
            have z2 := PathV.fun_ (PathV.keep s2 w2) z2
            subst z2
            simp only [RM] at z3
            obtain ⟨p1, xs, q1, e1, y2, y3, y4, _⟩ := z3
            cases e1
            obtain ⟨v, u1, u2⟩ := y4.getD ed
            refine ⟨p0, v, rfl, .inl ⟨_, kk, .inl y2, key_rel hk rk, ?_⟩, q v G2 H2 (I2.drop.pushD u2)⟩
            rw [keyI_val y3, hi2]
            exact u1.symm
          · cases hf
        · cases hf
      · cases hf
    · cases hf
  · cases hf
end
end PL

namespace Lw
open PySem PySem.Spec PyProof.Rows L2 PL
def top (i : Nat) : Stmt := PySem.Challenge.pw_lastshown_k69_calls_by_name.main.body.getD i (.Pass ⟨0, 0, 0, 0⟩)

abbrev s_law_jar : Stmt := top 40
abbrev N_law_jar : List Str := ["script", "k", "cell"]
theorem sc_law_jar : FnScope N_law_jar ["script", "k"] (defScope s_law_jar) := ⟨rfl, rfl, rfl, by decide +kernel, rfl, by decide +kernel, by decide +kernel⟩
def d_law_jar : He.DefD := ⟨("_law_jar", none), "_law_jar", "_law_jar", defArgs s_law_jar, defBody s_law_jar, defScope s_law_jar, [], []⟩
abbrev s_law_draw : Stmt := top 41
abbrev N_law_draw : List Str := ["jar", "many", "stirred", "found"]
theorem sc_law_draw : FnScope N_law_draw ["jar", "many"] (defScope s_law_draw) := ⟨rfl, rfl, rfl, by decide +kernel, rfl, by decide +kernel, by decide +kernel⟩
def d_law_draw : He.DefD := ⟨("_law_draw", none), "_law_draw", "_law_draw", defArgs s_law_draw, defBody s_law_draw, defScope s_law_draw, [], []⟩
abbrev s_law_rule : Stmt := top 42
abbrev N_law_rule : List Str := ["jar", "most", "actions", "k"]
theorem sc_law_rule : FnScope N_law_rule ["jar", "most"] (defScope s_law_rule) := ⟨rfl, rfl, rfl, by decide +kernel, rfl, by decide +kernel, by decide +kernel⟩
def d_law_rule : He.DefD := ⟨("_law_rule", none), "_law_rule", "_law_rule", defArgs s_law_rule, defBody s_law_rule, defScope s_law_rule, [], []⟩
abbrev s_law_six : Stmt := top 43
abbrev N_law_six : List Str := ["jar", "found", "k", "some"]
theorem sc_law_six : FnScope N_law_six ["jar"] (defScope s_law_six) := ⟨rfl, rfl, rfl, by decide +kernel, rfl, by decide +kernel, by decide +kernel⟩
def d_law_six : He.DefD := ⟨("_law_six", none), "_law_six", "_law_six", defArgs s_law_six, defBody s_law_six, defScope s_law_six, [], []⟩
abbrev s_is_rule : Stmt := top 37
abbrev N_is_rule : List Str := ["thing", "action"]
theorem sc_is_rule : FnScope N_is_rule ["thing"] (defScope s_is_rule) := ⟨rfl, rfl, rfl, by decide +kernel, rfl, by decide +kernel, by decide +kernel⟩
def d_is_rule : He.DefD := ⟨("is_rule", none), "is_rule", "is_rule", defArgs s_is_rule, defBody s_is_rule, defScope s_is_rule, [], []⟩
abbrev s_Book__init : Stmt := inClass (top 38) 0
abbrev N_Book__init : List Str := ["self", "put", "look", "alter", "back", "pay", "again", "row", "door", "rule"]
theorem sc_Book__init : FnScope N_Book__init ["self", "put", "look", "alter", "back", "pay", "again"] (defScope s_Book__init) := ⟨rfl, rfl, rfl, by decide +kernel, rfl, by decide +kernel, by decide +kernel⟩
def d_Book__init : He.DefD := ⟨("Book", some "__init__"), "__init__", "Book.__init__", defArgs s_Book__init, defBody s_Book__init, defScope s_Book__init, [.adr (He.dflAt ("Book", some "__init__") 0), .adr (He.dflAt ("Book", some "__init__") 1), .adr (He.dflAt ("Book", some "__init__") 2), .adr (He.dflAt ("Book", some "__init__") 3), .adr (He.dflAt ("Book", some "__init__") 4), .adr (He.dflAt ("Book", some "__init__") 5)], []⟩
abbrev s_is_item : Stmt := top 18
abbrev N_is_item : List Str := ["thing", "letter"]
theorem sc_is_item : FnScope N_is_item ["thing"] (defScope s_is_item) := ⟨rfl, rfl, rfl, by decide +kernel, rfl, by decide +kernel, by decide +kernel⟩
def d_is_item : He.DefD := ⟨("is_item", none), "is_item", "is_item", defArgs s_is_item, defBody s_is_item, defScope s_is_item, [], []⟩
abbrev s_is_whole : Stmt := top 17
abbrev N_is_whole : List Str := ["thing"]
theorem sc_is_whole : FnScope N_is_whole ["thing"] (defScope s_is_whole) := ⟨rfl, rfl, rfl, by decide +kernel, rfl, by decide +kernel, by decide +kernel⟩
def d_is_whole : He.DefD := ⟨("is_whole", none), "is_whole", "is_whole", defArgs s_is_whole, defBody s_is_whole, defScope s_is_whole, [], []⟩
abbrev s_is_amount : Stmt := top 19
abbrev N_is_amount : List Str := ["thing"]
theorem sc_is_amount : FnScope N_is_amount ["thing"] (defScope s_is_amount) := ⟨rfl, rfl, rfl, by decide +kernel, rfl, by decide +kernel, by decide +kernel⟩
def d_is_amount : He.DefD := ⟨("is_amount", none), "is_amount", "is_amount", defArgs s_is_amount, defBody s_is_amount, defScope s_is_amount, [], []⟩
abbrev s_is_price : Stmt := top 21
abbrev N_is_price : List Str := ["thing"]
theorem sc_is_price : FnScope N_is_price ["thing"] (defScope s_is_price) := ⟨rfl, rfl, rfl, by decide +kernel, rfl, by decide +kernel, by decide +kernel⟩
def d_is_price : He.DefD := ⟨("is_price", none), "is_price", "is_price", defArgs s_is_price, defBody s_is_price, defScope s_is_price, [], []⟩
abbrev s_are_prices : Stmt := top 22
abbrev N_are_prices : List Str := ["thing", "pair"]
theorem sc_are_prices : FnScope N_are_prices ["thing"] (defScope s_are_prices) := ⟨rfl, rfl, rfl, by decide +kernel, rfl, by decide +kernel, by decide +kernel⟩
def d_are_prices : He.DefD := ⟨("are_prices", none), "are_prices", "are_prices", defArgs s_are_prices, defBody s_are_prices, defScope s_are_prices, [], []⟩
abbrev s_Cart__init : Stmt := inClass (top 28) 0
abbrev N_Cart__init : List Str := ["self", "book", "prices", "item", "amount"]
theorem sc_Cart__init : FnScope N_Cart__init ["self", "book", "prices"] (defScope s_Cart__init) := ⟨rfl, rfl, rfl, by decide +kernel, rfl, by decide +kernel, by decide +kernel⟩
def d_Cart__init : He.DefD := ⟨("Cart", some "__init__"), "__init__", "Cart.__init__", defArgs s_Cart__init, defBody s_Cart__init, defScope s_Cart__init, [], []⟩
abbrev s_Shop__init : Stmt := inClass (top 31) 0
abbrev N_Shop__init : List Str := ["self", "book", "prices"]
theorem sc_Shop__init : FnScope N_Shop__init ["self", "book", "prices"] (defScope s_Shop__init) := ⟨rfl, rfl, rfl, by decide +kernel, rfl, by decide +kernel, by decide +kernel⟩
def d_Shop__init : He.DefD := ⟨("Shop", some "__init__"), "__init__", "Shop.__init__", defArgs s_Shop__init, defBody s_Shop__init, defScope s_Shop__init, [], []⟩
abbrev s_law_act : Stmt := top 44
abbrev N_law_act : List Str := ["jar", "name", "number", "way"]
theorem sc_law_act : FnScope N_law_act ["jar", "name"] (defScope s_law_act) := ⟨rfl, rfl, rfl, by decide +kernel, rfl, by decide +kernel, by decide +kernel⟩
def d_law_act : He.DefD := ⟨("_law_act", none), "_law_act", "_law_act", defArgs s_law_act, defBody s_law_act, defScope s_law_act, [], []⟩
abbrev s_is_number : Stmt := top 20
abbrev N_is_number : List Str := ["thing", "least"]
theorem sc_is_number : FnScope N_is_number ["thing", "least"] (defScope s_is_number) := ⟨rfl, rfl, rfl, by decide +kernel, rfl, by decide +kernel, by decide +kernel⟩
def d_is_number : He.DefD := ⟨("is_number", none), "is_number", "is_number", defArgs s_is_number, defBody s_is_number, defScope s_is_number, [.int 1], []⟩
abbrev s_is_deed : Stmt := top 23
abbrev N_is_deed : List Str := ["thing", "word", "rest"]
theorem sc_is_deed : FnScope N_is_deed ["thing"] (defScope s_is_deed) := ⟨rfl, rfl, rfl, by decide +kernel, rfl, by decide +kernel, by decide +kernel⟩
def d_is_deed : He.DefD := ⟨("is_deed", none), "is_deed", "is_deed", defArgs s_is_deed, defBody s_is_deed, defScope s_is_deed, [], []⟩
abbrev s_check_deeds : Stmt := top 30
abbrev N_check_deeds : List Str := ["deeds", "first", "place", "deed"]
theorem sc_check_deeds : FnScope N_check_deeds ["deeds", "first"] (defScope s_check_deeds) := ⟨rfl, rfl, rfl, by decide +kernel, rfl, by decide +kernel, by decide +kernel⟩
def d_check_deeds : He.DefD := ⟨("check_deeds", none), "check_deeds", "check_deeds", defArgs s_check_deeds, defBody s_check_deeds, defScope s_check_deeds, [], []⟩
abbrev s_CartLine__init : Stmt := inClass (top 27) 0
abbrev N_CartLine__init : List Str := ["self", "item", "number", "kept"]
theorem sc_CartLine__init : FnScope N_CartLine__init ["self", "item", "number", "kept"] (defScope s_CartLine__init) := ⟨rfl, rfl, rfl, by decide +kernel, rfl, by decide +kernel, by decide +kernel⟩
def d_CartLine__init : He.DefD := ⟨("CartLine", some "__init__"), "__init__", "CartLine.__init__", defArgs s_CartLine__init, defBody s_CartLine__init, defScope s_CartLine__init, [], []⟩
abbrev s_CartLine_twin : Stmt := inClass (top 27) 2
abbrev N_CartLine_twin : List Str := ["self", "other"]
theorem sc_CartLine_twin : FnScope N_CartLine_twin ["self"] (defScope s_CartLine_twin) := ⟨rfl, rfl, rfl, by decide +kernel, rfl, by decide +kernel, by decide +kernel⟩
def d_CartLine_twin : He.DefD := ⟨("CartLine", some "twin"), "twin", "CartLine.twin", defArgs s_CartLine_twin, defBody s_CartLine_twin, defScope s_CartLine_twin, [], []⟩
abbrev s_Cart_twin : Stmt := inClass (top 28) 1
abbrev N_Cart_twin : List Str := ["self", "other", "row"]
theorem sc_Cart_twin : FnScope N_Cart_twin ["self"] (defScope s_Cart_twin) := ⟨rfl, rfl, rfl, by decide +kernel, rfl, by decide +kernel, by decide +kernel⟩
def d_Cart_twin : He.DefD := ⟨("Cart", some "twin"), "twin", "Cart.twin", defArgs s_Cart_twin, defBody s_Cart_twin, defScope s_Cart_twin, [], []⟩
abbrev s_Cart_row_of : Stmt := inClass (top 28) 2
abbrev N_Cart_row_of : List Str := ["self", "item", "row"]
theorem sc_Cart_row_of : FnScope N_Cart_row_of ["self", "item"] (defScope s_Cart_row_of) := ⟨rfl, rfl, rfl, by decide +kernel, rfl, by decide +kernel, by decide +kernel⟩
def d_Cart_row_of : He.DefD := ⟨("Cart", some "row_of"), "row_of", "Cart.row_of", defArgs s_Cart_row_of, defBody s_Cart_row_of, defScope s_Cart_row_of, [], []⟩
abbrev s_Cart_check : Stmt := inClass (top 28) 3
abbrev N_Cart_check : List Str := ["self", "deed", "index"]
theorem sc_Cart_check : FnScope N_Cart_check ["self", "deed", "index"] (defScope s_Cart_check) := ⟨rfl, rfl, rfl, by decide +kernel, rfl, by decide +kernel, by decide +kernel⟩
def d_Cart_check : He.DefD := ⟨("Cart", some "check"), "check", "Cart.check", defArgs s_Cart_check, defBody s_Cart_check, defScope s_Cart_check, [], []⟩
abbrev s_Cart_report : Stmt := inClass (top 28) 6
abbrev N_Cart_report : List Str := ["self", "deed", "names", "told", "bought", "row", "item", "number", "amount"]
theorem sc_Cart_report : FnScope N_Cart_report ["self", "deed", "names"] (defScope s_Cart_report) := ⟨rfl, rfl, rfl, by decide +kernel, rfl, by decide +kernel, by decide +kernel⟩
def d_Cart_report : He.DefD := ⟨("Cart", some "report"), "report", "Cart.report", defArgs s_Cart_report, defBody s_Cart_report, defScope s_Cart_report, [], []⟩
abbrev s_Cart_touched : Stmt := inClass (top 28) 4
abbrev N_Cart_touched : List Str := ["self", "deed", "row", "other"]
theorem sc_Cart_touched : FnScope N_Cart_touched ["self", "deed"] (defScope s_Cart_touched) := ⟨rfl, rfl, rfl, by decide +kernel, rfl, by decide +kernel, by decide +kernel⟩
def d_Cart_touched : He.DefD := ⟨("Cart", some "touched"), "touched", "Cart.touched", defArgs s_Cart_touched, defBody s_Cart_touched, defScope s_Cart_touched, [], []⟩
abbrev s_LineWork_carry_out : Stmt := inClass (top 25) 1
abbrev N_LineWork_carry_out : List Str := ["self", "action", "now"]
theorem sc_LineWork_carry_out : FnScope N_LineWork_carry_out ["self", "action", "now"] (defScope s_LineWork_carry_out) := ⟨rfl, rfl, rfl, by decide +kernel, rfl, by decide +kernel, by decide +kernel⟩
def d_LineWork_carry_out : He.DefD := ⟨("LineWork", some "carry_out"), "carry_out", "LineWork.carry_out", defArgs s_LineWork_carry_out, defBody s_LineWork_carry_out, defScope s_LineWork_carry_out, [], []⟩
abbrev s_LineWork__init : Stmt := inClass (top 25) 0
abbrev N_LineWork__init : List Str := ["self", "rule", "kept", "shown", "now", "action"]
theorem sc_LineWork__init : FnScope N_LineWork__init ["self", "rule", "kept", "shown", "now"] (defScope s_LineWork__init) := ⟨rfl, rfl, rfl, by decide +kernel, rfl, by decide +kernel, by decide +kernel⟩
def d_LineWork__init : He.DefD := ⟨("LineWork", some "__init__"), "__init__", "LineWork.__init__", defArgs s_LineWork__init, defBody s_LineWork__init, defScope s_LineWork__init, [], []⟩
abbrev s_CartLine_carry_out : Stmt := inClass (top 27) 1
abbrev N_CartLine_carry_out : List Str := ["self", "rule", "now", "work", "amount"]
theorem sc_CartLine_carry_out : FnScope N_CartLine_carry_out ["self", "rule", "now"] (defScope s_CartLine_carry_out) := ⟨rfl, rfl, rfl, by decide +kernel, rfl, by decide +kernel, by decide +kernel⟩
def d_CartLine_carry_out : He.DefD := ⟨("CartLine", some "carry_out"), "carry_out", "CartLine.carry_out", defArgs s_CartLine_carry_out, defBody s_CartLine_carry_out, defScope s_CartLine_carry_out, [], []⟩
abbrev s_is_door : Stmt := top 36
abbrev N_is_door : List Str := ["thing"]
theorem sc_is_door : FnScope N_is_door ["thing"] (defScope s_is_door) := ⟨rfl, rfl, rfl, by decide +kernel, rfl, by decide +kernel, by decide +kernel⟩
def d_is_door : He.DefD := ⟨("is_door", none), "is_door", "is_door", defArgs s_is_door, defBody s_is_door, defScope s_is_door, [], []⟩
abbrev s_Book_rule : Stmt := inClass (top 38) 2
abbrev N_Book_rule : List Str := ["self", "door"]
theorem sc_Book_rule : FnScope N_Book_rule ["self", "door"] (defScope s_Book_rule) := ⟨rfl, rfl, rfl, by decide +kernel, rfl, by decide +kernel, by decide +kernel⟩
def d_Book_rule : He.DefD := ⟨("Book", some "rule"), "rule", "Book.rule", defArgs s_Book_rule, defBody s_Book_rule, defScope s_Book_rule, [], []⟩
abbrev s_Cart_carry_out : Stmt := inClass (top 28) 5
abbrev N_Cart_carry_out : List Str := ["self", "deed", "door", "found", "row", "times"]
theorem sc_Cart_carry_out : FnScope N_Cart_carry_out ["self", "deed"] (defScope s_Cart_carry_out) := ⟨rfl, rfl, rfl, by decide +kernel, rfl, by decide +kernel, by decide +kernel⟩
def d_Cart_carry_out : He.DefD := ⟨("Cart", some "carry_out"), "carry_out", "Cart.carry_out", defArgs s_Cart_carry_out, defBody s_Cart_carry_out, defScope s_Cart_carry_out, [], []⟩
abbrev s_Cart_play_deed : Stmt := inClass (top 28) 7
abbrev N_Cart_play_deed : List Str := ["self", "deed"]
theorem sc_Cart_play_deed : FnScope N_Cart_play_deed ["self", "deed"] (defScope s_Cart_play_deed) := ⟨rfl, rfl, rfl, by decide +kernel, rfl, by decide +kernel, by decide +kernel⟩
def d_Cart_play_deed : He.DefD := ⟨("Cart", some "play_deed"), "play_deed", "Cart.play_deed", defArgs s_Cart_play_deed, defBody s_Cart_play_deed, defScope s_Cart_play_deed, [], []⟩
abbrev s_Shop_go_to : Stmt := inClass (top 31) 7
abbrev N_Shop_go_to : List Str := ["self", "cart", "story"]
theorem sc_Shop_go_to : FnScope N_Shop_go_to ["self", "cart", "story"] (defScope s_Shop_go_to) := ⟨rfl, rfl, rfl, by decide +kernel, rfl, by decide +kernel, by decide +kernel⟩
def d_Shop_go_to : He.DefD := ⟨("Shop", some "go_to"), "go_to", "Shop.go_to", defArgs s_Shop_go_to, defBody s_Shop_go_to, defScope s_Shop_go_to, [], []⟩
abbrev s_Shop_play_all : Stmt := inClass (top 31) 8
abbrev N_Shop_play_all : List Str := ["self", "deeds", "cart", "found", "place", "deed"]
theorem sc_Shop_play_all : FnScope N_Shop_play_all ["self", "deeds"] (defScope s_Shop_play_all) := ⟨rfl, rfl, rfl, by decide +kernel, rfl, by decide +kernel, by decide +kernel⟩
def d_Shop_play_all : He.DefD := ⟨("Shop", some "play_all"), "play_all", "Shop.play_all", defArgs s_Shop_play_all, defBody s_Shop_play_all, defScope s_Shop_play_all, [], []⟩
abbrev s_Shop_do : Stmt := inClass (top 31) 9
abbrev N_Shop_do : List Str := ["self", "deed"]
theorem sc_Shop_do : FnScope N_Shop_do ["self", "deed"] (defScope s_Shop_do) := ⟨rfl, rfl, rfl, by decide +kernel, rfl, by decide +kernel, by decide +kernel⟩
def d_Shop_do : He.DefD := ⟨("Shop", some "do"), "do", "Shop.do", defArgs s_Shop_do, defBody s_Shop_do, defScope s_Shop_do, [], []⟩
abbrev s_Shop_do_all : Stmt := inClass (top 31) 10
abbrev N_Shop_do_all : List Str := ["self", "deeds"]
theorem sc_Shop_do_all : FnScope N_Shop_do_all ["self", "deeds"] (defScope s_Shop_do_all) := ⟨rfl, rfl, rfl, by decide +kernel, rfl, by decide +kernel, by decide +kernel⟩
def d_Shop_do_all : He.DefD := ⟨("Shop", some "do_all"), "do_all", "Shop.do_all", defArgs s_Shop_do_all, defBody s_Shop_do_all, defScope s_Shop_do_all, [], []⟩
abbrev s_Shop_change : Stmt := inClass (top 31) 11
abbrev N_Shop_change : List Str := ["self", "book", "cart"]
theorem sc_Shop_change : FnScope N_Shop_change ["self", "book"] (defScope s_Shop_change) := ⟨rfl, rfl, rfl, by decide +kernel, rfl, by decide +kernel, by decide +kernel⟩
def d_Shop_change : He.DefD := ⟨("Shop", some "change"), "change", "Shop.change", defArgs s_Shop_change, defBody s_Shop_change, defScope s_Shop_change, [], []⟩
abbrev s_law_called : Stmt := top 46
abbrev N_law_called : List Str := ["jar", "one", "two", "name", "plans", "way", "work", "act", "acts"]
theorem sc_law_called : FnScope N_law_called ["jar", "one", "two", "name", "plans"] (defScope s_law_called) := ⟨rfl, rfl, rfl, by decide +kernel, rfl, by decide +kernel, by decide +kernel⟩
def d_law_called : He.DefD := ⟨("_law_called", none), "_law_called", "_law_called", defArgs s_law_called, defBody s_law_called, defScope s_law_called, [], []⟩
abbrev s_Shop_lines : Stmt := inClass (top 31) 14
abbrev N_Shop_lines : List Str := ["self", "row"]
theorem sc_Shop_lines : FnScope N_Shop_lines ["self"] (defScope s_Shop_lines) := ⟨rfl, rfl, rfl, by decide +kernel, rfl, by decide +kernel, by decide +kernel⟩
def d_Shop_lines : He.DefD := ⟨("Shop", some "lines"), "lines", "Shop.lines", defArgs s_Shop_lines, defBody s_Shop_lines, defScope s_Shop_lines, [], []⟩
abbrev s_Shop_paid : Stmt := inClass (top 31) 15
abbrev N_Shop_paid : List Str := ["self"]
theorem sc_Shop_paid : FnScope N_Shop_paid ["self"] (defScope s_Shop_paid) := ⟨rfl, rfl, rfl, by decide +kernel, rfl, by decide +kernel, by decide +kernel⟩
def d_Shop_paid : He.DefD := ⟨("Shop", some "paid"), "paid", "Shop.paid", defArgs s_Shop_paid, defBody s_Shop_paid, defScope s_Shop_paid, [], []⟩
abbrev s_Shop_total : Stmt := inClass (top 31) 3
abbrev N_Shop_total : List Str := ["self", "row"]
theorem sc_Shop_total : FnScope N_Shop_total ["self"] (defScope s_Shop_total) := ⟨rfl, rfl, rfl, by decide +kernel, rfl, by decide +kernel, by decide +kernel⟩
def d_Shop_total : He.DefD := ⟨("Shop", some "total"), "total", "Shop.total", defArgs s_Shop_total, defBody s_Shop_total, defScope s_Shop_total, [], []⟩
abbrev s_Shop_asked : Stmt := inClass (top 31) 4
abbrev N_Shop_asked : List Str := ["self"]
theorem sc_Shop_asked : FnScope N_Shop_asked ["self"] (defScope s_Shop_asked) := ⟨rfl, rfl, rfl, by decide +kernel, rfl, by decide +kernel, by decide +kernel⟩
def d_Shop_asked : He.DefD := ⟨("Shop", some "asked"), "asked", "Shop.asked", defArgs s_Shop_asked, defBody s_Shop_asked, defScope s_Shop_asked, [], []⟩
abbrev s_Shop__len : Stmt := inClass (top 31) 1
abbrev N_Shop__len : List Str := ["self"]
theorem sc_Shop__len : FnScope N_Shop__len ["self"] (defScope s_Shop__len) := ⟨rfl, rfl, rfl, by decide +kernel, rfl, by decide +kernel, by decide +kernel⟩
def d_Shop__len : He.DefD := ⟨("Shop", some "__len__"), "__len__", "Shop.__len__", defArgs s_Shop__len, defBody s_Shop__len, defScope s_Shop__len, [], []⟩
abbrev s_Shop_price : Stmt := inClass (top 31) 13
abbrev N_Shop_price : List Str := ["self", "item"]
theorem sc_Shop_price : FnScope N_Shop_price ["self", "item"] (defScope s_Shop_price) := ⟨rfl, rfl, rfl, by decide +kernel, rfl, by decide +kernel, by decide +kernel⟩
def d_Shop_price : He.DefD := ⟨("Shop", some "price"), "price", "Shop.price", defArgs s_Shop_price, defBody s_Shop_price, defScope s_Shop_price, [], []⟩
abbrev s_Book_rules : Stmt := inClass (top 38) 3
abbrev N_Book_rules : List Str := ["self"]
theorem sc_Book_rules : FnScope N_Book_rules ["self"] (defScope s_Book_rules) := ⟨rfl, rfl, rfl, by decide +kernel, rfl, by decide +kernel, by decide +kernel⟩
def d_Book_rules : He.DefD := ⟨("Book", some "rules"), "rules", "Book.rules", defArgs s_Book_rules, defBody s_Book_rules, defScope s_Book_rules, [], []⟩
abbrev s_Shop_book : Stmt := inClass (top 31) 5
abbrev N_Shop_book : List Str := ["self"]
theorem sc_Shop_book : FnScope N_Shop_book ["self"] (defScope s_Shop_book) := ⟨rfl, rfl, rfl, by decide +kernel, rfl, by decide +kernel, by decide +kernel⟩
def d_Shop_book : He.DefD := ⟨("Shop", some "book"), "book", "Shop.book", defArgs s_Shop_book, defBody s_Shop_book, defScope s_Shop_book, [], []⟩
abbrev s_law_stand : Stmt := top 45
abbrev N_law_stand : List Str := ["shop", "name"]
theorem sc_law_stand : FnScope N_law_stand ["shop", "name"] (defScope s_law_stand) := ⟨rfl, rfl, rfl, by decide +kernel, rfl, by decide +kernel, by decide +kernel⟩
def d_law_stand : He.DefD := ⟨("_law_stand", none), "_law_stand", "_law_stand", defArgs s_law_stand, defBody s_law_stand, defScope s_law_stand, [], []⟩
abbrev s_Shop_undo : Stmt := inClass (top 31) 12
abbrev N_Shop_undo : List Str := ["self"]
theorem sc_Shop_undo : FnScope N_Shop_undo ["self"] (defScope s_Shop_undo) := ⟨rfl, rfl, rfl, by decide +kernel, rfl, by decide +kernel, by decide +kernel⟩
def d_Shop_undo : He.DefD := ⟨("Shop", some "undo"), "undo", "Shop.undo", defArgs s_Shop_undo, defBody s_Shop_undo, defScope s_Shop_undo, [], []⟩
abbrev s_law_right : Stmt := top 47
abbrev N_law_right : List Str := ["jar", "name", "plans", "k", "start", "one", "two", "turn", "six"]
theorem sc_law_right : FnScope N_law_right ["jar"] (defScope s_law_right) := ⟨rfl, rfl, rfl, by decide +kernel, rfl, by decide +kernel, by decide +kernel⟩
def d_law_right : He.DefD := ⟨("_law_right", none), "_law_right", "_law_right", defArgs s_law_right, defBody s_law_right, defScope s_law_right, [], []⟩
abbrev s_law : Stmt := top 48
abbrev N_law : List Str := ["script", "k"]
theorem sc_law : FnScope N_law ["script"] (defScope s_law) := ⟨rfl, rfl, rfl, by decide +kernel, rfl, by decide +kernel, by decide +kernel⟩
def d_law : He.DefD := ⟨("law", none), "law", "law", defArgs s_law, defBody s_law, defScope s_law, [], []⟩
def fa : List He.Fa := [.free "len", .free "int", .free "abs", .free "max", .glo "_law_jar", .glo "_law_draw", .free "range", .free "tuple", .glo "_law_rule", .glo "_law_six", .free "isinstance", .int "MOST_ACTIONS" 6, .free "str", .glo "ACTIONS", .free "all", .glo "is_rule", .glo "DOORS", .free "zip", .cls "Book", .noat "Book" "row", .glo "Book", .mkr "Book", .int "LONGEST_ITEM" 8, .str "LETTERS" "abcdefghijklmnopqrstuvwxyz", .glo "is_item", .free "bool", .glo "is_whole", .int "MOST_AMOUNT" 1000000000000, .glo "is_amount", .glo "is_price", .int "MOST_ITEMS" 6, .free "set", .glo "are_prices", .cls "Cart", .noat "Cart" "design", .noat "Cart" "amounts", .noat "Cart" "rows", .noat "Cart" "is_failed", .noat "Cart" "spent", .noat "Cart" "times_asked", .glo "Cart", .mkr "Cart", .cls "Shop", .noat "Shop" "cart", .noat "Shop" "story", .noat "Shop" "past", .glo "Shop", .mkr "Shop", .glo "_law_act", .int "MOST_NUMBER" 1000, .glo "is_number", .glo "is_deed", .free "list", .free "enumerate", .glo "check_deeds", .cls "CartLine", .noat "CartLine" "item", .noat "CartLine" "number", .noat "CartLine" "kept", .noat "CartLine" "shown", .noat "CartLine" "greatest", .glo "CartLine", .mkr "CartLine", .meth "CartLine" "twin", .free "dict", .meth "Cart" "twin", .meth "Cart" "row_of", .meth "Cart" "check", .free "sum", .meth "Cart" "report", .meth "Cart" "touched", .cls "LineWork", .noat "LineWork" "stays", .free "min", .noat "LineWork" "seen", .noat "LineWork" "times", .noat "LineWork" "told", .meth "LineWork" "carry_out", .glo "LineWork", .mkr "LineWork", .meth "CartLine" "carry_out", .glo "is_door", .meth "Book" "rule", .meth "Cart" "carry_out", .meth "Cart" "play_deed", .meth "Shop" "go_to", .meth "Shop" "play_all", .meth "Shop" "do", .meth "Shop" "do_all", .meth "Shop" "change", .glo "_law_called", .meth "Shop" "lines", .meth "Shop" "paid", .meth "Shop" "__len__", .meth "Shop" "price", .meth "Book" "rules", .glo "_law_stand", .meth "Shop" "undo", .glo "_law_right", .glo "law"]
def fn : List He.DefD := [d_law_jar, d_law_draw, d_law_rule, d_law_six, d_is_rule, d_Book__init, d_is_item, d_is_whole, d_is_amount, d_is_price, d_are_prices, d_Cart__init, d_Shop__init, d_law_act, d_is_number, d_is_deed, d_check_deeds, d_CartLine__init, d_CartLine_twin, d_Cart_twin, d_Cart_row_of, d_Cart_check, d_Cart_report, d_Cart_touched, d_LineWork_carry_out, d_LineWork__init, d_CartLine_carry_out, d_is_door, d_Book_rule, d_Cart_carry_out, d_Cart_play_deed, d_Shop_go_to, d_Shop_play_all, d_Shop_do, d_Shop_do_all, d_Shop_change, d_law_called, d_Shop_lines, d_Shop_paid, d_Shop__len, d_Shop_price, d_Book_rules, d_law_stand, d_Shop_undo, d_law_right, d_law]
def gets : List Getter := [("Shop", "total", d_Shop_total), ("Shop", "asked", d_Shop_asked), ("Shop", "book", d_Shop_book)]
def tv_ACTIONS : List Str := ["take", "least", "last", "show", "ask"]
def tv_DOORS : List Str := ["put", "look", "alter", "back", "pay", "again"]
def ex (K : PySem.W.Frag) : Bool := He.tupB K "ACTIONS" (tv_ACTIONS.map .str) && (tupN K "ACTIONS" && (He.tupB K "DOORS" (tv_DOORS.map .str) && (tupN K "DOORS" && (propB K "Shop" "total" && (okAt K (getterAt K "Shop" "total") "Shop.total" && (propB K "Shop" "asked" && (okAt K (getterAt K "Shop" "asked") "Shop.asked" && (propB K "Shop" "book" && (okAt K (getterAt K "Shop" "book") "Shop.book" && (true))))))))))
structure Says (K : PySem.W.Frag) (mg : Str → Option Value) : Prop where
  h : ∃ h : Heap, K.In h ∧ h.Ns mainGlobals mg
  c : He.SaysD fa fn K
  m : ex K = true
  p : obsP gets K = valP gets
section
variable {P : Program} {w : World} {K : PySem.W.Frag} {mg : Str → Option Value} {base : Heap}
theorem m_free_len (S : Says K mg) : mg "len" = none := let ⟨_, X, G⟩ := S.h; He.free_ok X G (S.c.fact 0 (f := .free "len") rfl)
theorem m_free_int (S : Says K mg) : mg "int" = none := let ⟨_, X, G⟩ := S.h; He.free_ok X G (S.c.fact 1 (f := .free "int") rfl)
theorem m_free_abs (S : Says K mg) : mg "abs" = none := let ⟨_, X, G⟩ := S.h; He.free_ok X G (S.c.fact 2 (f := .free "abs") rfl)
theorem m_free_max (S : Says K mg) : mg "max" = none := let ⟨_, X, G⟩ := S.h; He.free_ok X G (S.c.fact 3 (f := .free "max") rfl)
theorem m_glo_law_jar (S : Says K mg) : mg "_law_jar" = some (.ref (He.ga K "_law_jar")) := let ⟨_, X, G⟩ := S.h; He.glo_ok X G (S.c.fact 4 (f := .glo "_law_jar") rfl)
theorem m_glo_law_draw (S : Says K mg) : mg "_law_draw" = some (.ref (He.ga K "_law_draw")) := let ⟨_, X, G⟩ := S.h; He.glo_ok X G (S.c.fact 5 (f := .glo "_law_draw") rfl)
theorem m_free_range (S : Says K mg) : mg "range" = none := let ⟨_, X, G⟩ := S.h; He.free_ok X G (S.c.fact 6 (f := .free "range") rfl)
theorem m_free_tuple (S : Says K mg) : mg "tuple" = none := let ⟨_, X, G⟩ := S.h; He.free_ok X G (S.c.fact 7 (f := .free "tuple") rfl)
theorem m_glo_law_rule (S : Says K mg) : mg "_law_rule" = some (.ref (He.ga K "_law_rule")) := let ⟨_, X, G⟩ := S.h; He.glo_ok X G (S.c.fact 8 (f := .glo "_law_rule") rfl)
theorem m_glo_law_six (S : Says K mg) : mg "_law_six" = some (.ref (He.ga K "_law_six")) := let ⟨_, X, G⟩ := S.h; He.glo_ok X G (S.c.fact 9 (f := .glo "_law_six") rfl)
theorem m_free_isinstance (S : Says K mg) : mg "isinstance" = none := let ⟨_, X, G⟩ := S.h; He.free_ok X G (S.c.fact 10 (f := .free "isinstance") rfl)
theorem m_int_MOST_ACTIONS (S : Says K mg) : ∃ t, mg "MOST_ACTIONS" = some (.int 6 t) := let ⟨_, X, G⟩ := S.h; He.int_ok X G (S.c.fact 11 (f := .int "MOST_ACTIONS" 6) rfl)
theorem m_free_str (S : Says K mg) : mg "str" = none := let ⟨_, X, G⟩ := S.h; He.free_ok X G (S.c.fact 12 (f := .free "str") rfl)
theorem m_glo_ACTIONS (S : Says K mg) : mg "ACTIONS" = some (.ref (He.ga K "ACTIONS")) := let ⟨_, X, G⟩ := S.h; He.glo_ok X G (S.c.fact 13 (f := .glo "ACTIONS") rfl)
theorem m_free_all (S : Says K mg) : mg "all" = none := let ⟨_, X, G⟩ := S.h; He.free_ok X G (S.c.fact 14 (f := .free "all") rfl)
theorem m_glo_is_rule (S : Says K mg) : mg "is_rule" = some (.ref (He.ga K "is_rule")) := let ⟨_, X, G⟩ := S.h; He.glo_ok X G (S.c.fact 15 (f := .glo "is_rule") rfl)
theorem m_glo_DOORS (S : Says K mg) : mg "DOORS" = some (.ref (He.ga K "DOORS")) := let ⟨_, X, G⟩ := S.h; He.glo_ok X G (S.c.fact 16 (f := .glo "DOORS") rfl)
theorem m_free_zip (S : Says K mg) : mg "zip" = none := let ⟨_, X, G⟩ := S.h; He.free_ok X G (S.c.fact 17 (f := .free "zip") rfl)
theorem m_cls_Book (S : Says K mg) : Cls K (He.ga K "Book") := He.cls_ok (S.c.fact 18 (f := .cls "Book") rfl)
theorem m_noat_Book_row (S : Says K mg) : NoAttr K (He.ga K "Book") "row" := He.noat_ok (S.c.fact 19 (f := .noat "Book" "row") rfl)
theorem m_glo_Book (S : Says K mg) : mg "Book" = some (.ref (He.ga K "Book")) := let ⟨_, X, G⟩ := S.h; He.glo_ok X G (S.c.fact 20 (f := .glo "Book") rfl)
theorem m_mkr_Book (S : Says K mg) : Mk K (He.ga K "Book") (He.ma K (He.ga K "Book") "__init__") := He.mkr_ok (S.c.fact 21 (f := .mkr "Book") rfl)
theorem m_int_LONGEST_ITEM (S : Says K mg) : ∃ t, mg "LONGEST_ITEM" = some (.int 8 t) := let ⟨_, X, G⟩ := S.h; He.int_ok X G (S.c.fact 22 (f := .int "LONGEST_ITEM" 8) rfl)
theorem m_str_LETTERS (S : Says K mg) : ∃ t, mg "LETTERS" = some (.str "abcdefghijklmnopqrstuvwxyz" t) := let ⟨_, X, G⟩ := S.h; He.str_ok X G (S.c.fact 23 (f := .str "LETTERS" "abcdefghijklmnopqrstuvwxyz") rfl)
theorem m_glo_is_item (S : Says K mg) : mg "is_item" = some (.ref (He.ga K "is_item")) := let ⟨_, X, G⟩ := S.h; He.glo_ok X G (S.c.fact 24 (f := .glo "is_item") rfl)
theorem m_free_bool (S : Says K mg) : mg "bool" = none := let ⟨_, X, G⟩ := S.h; He.free_ok X G (S.c.fact 25 (f := .free "bool") rfl)
theorem m_glo_is_whole (S : Says K mg) : mg "is_whole" = some (.ref (He.ga K "is_whole")) := let ⟨_, X, G⟩ := S.h; He.glo_ok X G (S.c.fact 26 (f := .glo "is_whole") rfl)
theorem m_int_MOST_AMOUNT (S : Says K mg) : ∃ t, mg "MOST_AMOUNT" = some (.int 1000000000000 t) := let ⟨_, X, G⟩ := S.h; He.int_ok X G (S.c.fact 27 (f := .int "MOST_AMOUNT" 1000000000000) rfl)
theorem m_glo_is_amount (S : Says K mg) : mg "is_amount" = some (.ref (He.ga K "is_amount")) := let ⟨_, X, G⟩ := S.h; He.glo_ok X G (S.c.fact 28 (f := .glo "is_amount") rfl)
theorem m_glo_is_price (S : Says K mg) : mg "is_price" = some (.ref (He.ga K "is_price")) := let ⟨_, X, G⟩ := S.h; He.glo_ok X G (S.c.fact 29 (f := .glo "is_price") rfl)
theorem m_int_MOST_ITEMS (S : Says K mg) : ∃ t, mg "MOST_ITEMS" = some (.int 6 t) := let ⟨_, X, G⟩ := S.h; He.int_ok X G (S.c.fact 30 (f := .int "MOST_ITEMS" 6) rfl)
theorem m_free_set (S : Says K mg) : mg "set" = none := let ⟨_, X, G⟩ := S.h; He.free_ok X G (S.c.fact 31 (f := .free "set") rfl)
theorem m_glo_are_prices (S : Says K mg) : mg "are_prices" = some (.ref (He.ga K "are_prices")) := let ⟨_, X, G⟩ := S.h; He.glo_ok X G (S.c.fact 32 (f := .glo "are_prices") rfl)
theorem m_cls_Cart (S : Says K mg) : Cls K (He.ga K "Cart") := He.cls_ok (S.c.fact 33 (f := .cls "Cart") rfl)
theorem m_noat_Cart_design (S : Says K mg) : NoAttr K (He.ga K "Cart") "design" := He.noat_ok (S.c.fact 34 (f := .noat "Cart" "design") rfl)
theorem m_noat_Cart_amounts (S : Says K mg) : NoAttr K (He.ga K "Cart") "amounts" := He.noat_ok (S.c.fact 35 (f := .noat "Cart" "amounts") rfl)
theorem m_noat_Cart_rows (S : Says K mg) : NoAttr K (He.ga K "Cart") "rows" := He.noat_ok (S.c.fact 36 (f := .noat "Cart" "rows") rfl)
theorem m_noat_Cart_is_failed (S : Says K mg) : NoAttr K (He.ga K "Cart") "is_failed" := He.noat_ok (S.c.fact 37 (f := .noat "Cart" "is_failed") rfl)
theorem m_noat_Cart_spent (S : Says K mg) : NoAttr K (He.ga K "Cart") "spent" := He.noat_ok (S.c.fact 38 (f := .noat "Cart" "spent") rfl)
theorem m_noat_Cart_times_asked (S : Says K mg) : NoAttr K (He.ga K "Cart") "times_asked" := He.noat_ok (S.c.fact 39 (f := .noat "Cart" "times_asked") rfl)
theorem m_glo_Cart (S : Says K mg) : mg "Cart" = some (.ref (He.ga K "Cart")) := let ⟨_, X, G⟩ := S.h; He.glo_ok X G (S.c.fact 40 (f := .glo "Cart") rfl)
theorem m_mkr_Cart (S : Says K mg) : Mk K (He.ga K "Cart") (He.ma K (He.ga K "Cart") "__init__") := He.mkr_ok (S.c.fact 41 (f := .mkr "Cart") rfl)
theorem m_cls_Shop (S : Says K mg) : Cls K (He.ga K "Shop") := He.cls_ok (S.c.fact 42 (f := .cls "Shop") rfl)
theorem m_noat_Shop_cart (S : Says K mg) : NoAttr K (He.ga K "Shop") "cart" := He.noat_ok (S.c.fact 43 (f := .noat "Shop" "cart") rfl)
theorem m_noat_Shop_story (S : Says K mg) : NoAttr K (He.ga K "Shop") "story" := He.noat_ok (S.c.fact 44 (f := .noat "Shop" "story") rfl)
theorem m_noat_Shop_past (S : Says K mg) : NoAttr K (He.ga K "Shop") "past" := He.noat_ok (S.c.fact 45 (f := .noat "Shop" "past") rfl)
theorem m_glo_Shop (S : Says K mg) : mg "Shop" = some (.ref (He.ga K "Shop")) := let ⟨_, X, G⟩ := S.h; He.glo_ok X G (S.c.fact 46 (f := .glo "Shop") rfl)
theorem m_mkr_Shop (S : Says K mg) : Mk K (He.ga K "Shop") (He.ma K (He.ga K "Shop") "__init__") := He.mkr_ok (S.c.fact 47 (f := .mkr "Shop") rfl)
theorem m_glo_law_act (S : Says K mg) : mg "_law_act" = some (.ref (He.ga K "_law_act")) := let ⟨_, X, G⟩ := S.h; He.glo_ok X G (S.c.fact 48 (f := .glo "_law_act") rfl)
theorem m_int_MOST_NUMBER (S : Says K mg) : ∃ t, mg "MOST_NUMBER" = some (.int 1000 t) := let ⟨_, X, G⟩ := S.h; He.int_ok X G (S.c.fact 49 (f := .int "MOST_NUMBER" 1000) rfl)
theorem m_glo_is_number (S : Says K mg) : mg "is_number" = some (.ref (He.ga K "is_number")) := let ⟨_, X, G⟩ := S.h; He.glo_ok X G (S.c.fact 50 (f := .glo "is_number") rfl)
theorem m_glo_is_deed (S : Says K mg) : mg "is_deed" = some (.ref (He.ga K "is_deed")) := let ⟨_, X, G⟩ := S.h; He.glo_ok X G (S.c.fact 51 (f := .glo "is_deed") rfl)
theorem m_free_list (S : Says K mg) : mg "list" = none := let ⟨_, X, G⟩ := S.h; He.free_ok X G (S.c.fact 52 (f := .free "list") rfl)
theorem m_free_enumerate (S : Says K mg) : mg "enumerate" = none := let ⟨_, X, G⟩ := S.h; He.free_ok X G (S.c.fact 53 (f := .free "enumerate") rfl)
theorem m_glo_check_deeds (S : Says K mg) : mg "check_deeds" = some (.ref (He.ga K "check_deeds")) := let ⟨_, X, G⟩ := S.h; He.glo_ok X G (S.c.fact 54 (f := .glo "check_deeds") rfl)
theorem m_cls_CartLine (S : Says K mg) : Cls K (He.ga K "CartLine") := He.cls_ok (S.c.fact 55 (f := .cls "CartLine") rfl)
theorem m_noat_CartLine_item (S : Says K mg) : NoAttr K (He.ga K "CartLine") "item" := He.noat_ok (S.c.fact 56 (f := .noat "CartLine" "item") rfl)
theorem m_noat_CartLine_number (S : Says K mg) : NoAttr K (He.ga K "CartLine") "number" := He.noat_ok (S.c.fact 57 (f := .noat "CartLine" "number") rfl)
theorem m_noat_CartLine_kept (S : Says K mg) : NoAttr K (He.ga K "CartLine") "kept" := He.noat_ok (S.c.fact 58 (f := .noat "CartLine" "kept") rfl)
theorem m_noat_CartLine_shown (S : Says K mg) : NoAttr K (He.ga K "CartLine") "shown" := He.noat_ok (S.c.fact 59 (f := .noat "CartLine" "shown") rfl)
theorem m_noat_CartLine_greatest (S : Says K mg) : NoAttr K (He.ga K "CartLine") "greatest" := He.noat_ok (S.c.fact 60 (f := .noat "CartLine" "greatest") rfl)
theorem m_glo_CartLine (S : Says K mg) : mg "CartLine" = some (.ref (He.ga K "CartLine")) := let ⟨_, X, G⟩ := S.h; He.glo_ok X G (S.c.fact 61 (f := .glo "CartLine") rfl)
theorem m_mkr_CartLine (S : Says K mg) : Mk K (He.ga K "CartLine") (He.ma K (He.ga K "CartLine") "__init__") := He.mkr_ok (S.c.fact 62 (f := .mkr "CartLine") rfl)
theorem m_meth_CartLine_twin (S : Says K mg) : Meth K (He.ga K "CartLine") "twin" (He.ma K (He.ga K "CartLine") "twin") := He.meth_ok (S.c.fact 63 (f := .meth "CartLine" "twin") rfl)
theorem m_free_dict (S : Says K mg) : mg "dict" = none := let ⟨_, X, G⟩ := S.h; He.free_ok X G (S.c.fact 64 (f := .free "dict") rfl)
theorem m_meth_Cart_twin (S : Says K mg) : Meth K (He.ga K "Cart") "twin" (He.ma K (He.ga K "Cart") "twin") := He.meth_ok (S.c.fact 65 (f := .meth "Cart" "twin") rfl)
theorem m_meth_Cart_row_of (S : Says K mg) : Meth K (He.ga K "Cart") "row_of" (He.ma K (He.ga K "Cart") "row_of") := He.meth_ok (S.c.fact 66 (f := .meth "Cart" "row_of") rfl)
theorem m_meth_Cart_check (S : Says K mg) : Meth K (He.ga K "Cart") "check" (He.ma K (He.ga K "Cart") "check") := He.meth_ok (S.c.fact 67 (f := .meth "Cart" "check") rfl)
theorem m_free_sum (S : Says K mg) : mg "sum" = none := let ⟨_, X, G⟩ := S.h; He.free_ok X G (S.c.fact 68 (f := .free "sum") rfl)
theorem m_meth_Cart_report (S : Says K mg) : Meth K (He.ga K "Cart") "report" (He.ma K (He.ga K "Cart") "report") := He.meth_ok (S.c.fact 69 (f := .meth "Cart" "report") rfl)
theorem m_meth_Cart_touched (S : Says K mg) : Meth K (He.ga K "Cart") "touched" (He.ma K (He.ga K "Cart") "touched") := He.meth_ok (S.c.fact 70 (f := .meth "Cart" "touched") rfl)
theorem m_cls_LineWork (S : Says K mg) : Cls K (He.ga K "LineWork") := He.cls_ok (S.c.fact 71 (f := .cls "LineWork") rfl)
theorem m_noat_LineWork_stays (S : Says K mg) : NoAttr K (He.ga K "LineWork") "stays" := He.noat_ok (S.c.fact 72 (f := .noat "LineWork" "stays") rfl)
theorem m_free_min (S : Says K mg) : mg "min" = none := let ⟨_, X, G⟩ := S.h; He.free_ok X G (S.c.fact 73 (f := .free "min") rfl)
theorem m_noat_LineWork_seen (S : Says K mg) : NoAttr K (He.ga K "LineWork") "seen" := He.noat_ok (S.c.fact 74 (f := .noat "LineWork" "seen") rfl)
theorem m_noat_LineWork_times (S : Says K mg) : NoAttr K (He.ga K "LineWork") "times" := He.noat_ok (S.c.fact 75 (f := .noat "LineWork" "times") rfl)
theorem m_noat_LineWork_told (S : Says K mg) : NoAttr K (He.ga K "LineWork") "told" := He.noat_ok (S.c.fact 76 (f := .noat "LineWork" "told") rfl)
theorem m_meth_LineWork_carry_out (S : Says K mg) : Meth K (He.ga K "LineWork") "carry_out" (He.ma K (He.ga K "LineWork") "carry_out") := He.meth_ok (S.c.fact 77 (f := .meth "LineWork" "carry_out") rfl)
theorem m_glo_LineWork (S : Says K mg) : mg "LineWork" = some (.ref (He.ga K "LineWork")) := let ⟨_, X, G⟩ := S.h; He.glo_ok X G (S.c.fact 78 (f := .glo "LineWork") rfl)
theorem m_mkr_LineWork (S : Says K mg) : Mk K (He.ga K "LineWork") (He.ma K (He.ga K "LineWork") "__init__") := He.mkr_ok (S.c.fact 79 (f := .mkr "LineWork") rfl)
theorem m_meth_CartLine_carry_out (S : Says K mg) : Meth K (He.ga K "CartLine") "carry_out" (He.ma K (He.ga K "CartLine") "carry_out") := He.meth_ok (S.c.fact 80 (f := .meth "CartLine" "carry_out") rfl)
theorem m_glo_is_door (S : Says K mg) : mg "is_door" = some (.ref (He.ga K "is_door")) := let ⟨_, X, G⟩ := S.h; He.glo_ok X G (S.c.fact 81 (f := .glo "is_door") rfl)
theorem m_meth_Book_rule (S : Says K mg) : Meth K (He.ga K "Book") "rule" (He.ma K (He.ga K "Book") "rule") := He.meth_ok (S.c.fact 82 (f := .meth "Book" "rule") rfl)
theorem m_meth_Cart_carry_out (S : Says K mg) : Meth K (He.ga K "Cart") "carry_out" (He.ma K (He.ga K "Cart") "carry_out") := He.meth_ok (S.c.fact 83 (f := .meth "Cart" "carry_out") rfl)
theorem m_meth_Cart_play_deed (S : Says K mg) : Meth K (He.ga K "Cart") "play_deed" (He.ma K (He.ga K "Cart") "play_deed") := He.meth_ok (S.c.fact 84 (f := .meth "Cart" "play_deed") rfl)
theorem m_meth_Shop_go_to (S : Says K mg) : Meth K (He.ga K "Shop") "go_to" (He.ma K (He.ga K "Shop") "go_to") := He.meth_ok (S.c.fact 85 (f := .meth "Shop" "go_to") rfl)
theorem m_meth_Shop_play_all (S : Says K mg) : Meth K (He.ga K "Shop") "play_all" (He.ma K (He.ga K "Shop") "play_all") := He.meth_ok (S.c.fact 86 (f := .meth "Shop" "play_all") rfl)
theorem m_meth_Shop_do (S : Says K mg) : Meth K (He.ga K "Shop") "do" (He.ma K (He.ga K "Shop") "do") := He.meth_ok (S.c.fact 87 (f := .meth "Shop" "do") rfl)
theorem m_meth_Shop_do_all (S : Says K mg) : Meth K (He.ga K "Shop") "do_all" (He.ma K (He.ga K "Shop") "do_all") := He.meth_ok (S.c.fact 88 (f := .meth "Shop" "do_all") rfl)
theorem m_meth_Shop_change (S : Says K mg) : Meth K (He.ga K "Shop") "change" (He.ma K (He.ga K "Shop") "change") := He.meth_ok (S.c.fact 89 (f := .meth "Shop" "change") rfl)
theorem m_glo_law_called (S : Says K mg) : mg "_law_called" = some (.ref (He.ga K "_law_called")) := let ⟨_, X, G⟩ := S.h; He.glo_ok X G (S.c.fact 90 (f := .glo "_law_called") rfl)
theorem m_meth_Shop_lines (S : Says K mg) : Meth K (He.ga K "Shop") "lines" (He.ma K (He.ga K "Shop") "lines") := He.meth_ok (S.c.fact 91 (f := .meth "Shop" "lines") rfl)
theorem m_meth_Shop_paid (S : Says K mg) : Meth K (He.ga K "Shop") "paid" (He.ma K (He.ga K "Shop") "paid") := He.meth_ok (S.c.fact 92 (f := .meth "Shop" "paid") rfl)
theorem m_meth_Shop_len (S : Says K mg) : Meth K (He.ga K "Shop") "__len__" (He.ma K (He.ga K "Shop") "__len__") := He.meth_ok (S.c.fact 93 (f := .meth "Shop" "__len__") rfl)
theorem m_meth_Shop_price (S : Says K mg) : Meth K (He.ga K "Shop") "price" (He.ma K (He.ga K "Shop") "price") := He.meth_ok (S.c.fact 94 (f := .meth "Shop" "price") rfl)
theorem m_meth_Book_rules (S : Says K mg) : Meth K (He.ga K "Book") "rules" (He.ma K (He.ga K "Book") "rules") := He.meth_ok (S.c.fact 95 (f := .meth "Book" "rules") rfl)
theorem m_glo_law_stand (S : Says K mg) : mg "_law_stand" = some (.ref (He.ga K "_law_stand")) := let ⟨_, X, G⟩ := S.h; He.glo_ok X G (S.c.fact 96 (f := .glo "_law_stand") rfl)
theorem m_meth_Shop_undo (S : Says K mg) : Meth K (He.ga K "Shop") "undo" (He.ma K (He.ga K "Shop") "undo") := He.meth_ok (S.c.fact 97 (f := .meth "Shop" "undo") rfl)
theorem m_glo_law_right (S : Says K mg) : mg "_law_right" = some (.ref (He.ga K "_law_right")) := let ⟨_, X, G⟩ := S.h; He.glo_ok X G (S.c.fact 98 (f := .glo "_law_right") rfl)
theorem m_glo_law (S : Says K mg) : mg "law" = some (.ref (He.ga K "law")) := let ⟨_, X, G⟩ := S.h; He.glo_ok X G (S.c.fact 99 (f := .glo "law") rfl)
theorem m_fk_row (S : Says K mg) : FldOk K ("row", ["Book"]) := fun C h => by
  simp only [List.contains_cons, List.contains_nil, Bool.or_false, Bool.or_eq_true, beq_iff_eq] at h
  rcases h with rfl
  · exact ⟨m_cls_Book S, m_noat_Book_row S⟩
theorem m_fk_design (S : Says K mg) : FldOk K ("design", ["Cart"]) := fun C h => by
  simp only [List.contains_cons, List.contains_nil, Bool.or_false, Bool.or_eq_true, beq_iff_eq] at h
  rcases h with rfl
  · exact ⟨m_cls_Cart S, m_noat_Cart_design S⟩
theorem m_fk_amounts (S : Says K mg) : FldOk K ("amounts", ["Cart"]) := fun C h => by
  simp only [List.contains_cons, List.contains_nil, Bool.or_false, Bool.or_eq_true, beq_iff_eq] at h
  rcases h with rfl
  · exact ⟨m_cls_Cart S, m_noat_Cart_amounts S⟩
theorem m_fk_rows (S : Says K mg) : FldOk K ("rows", ["Cart"]) := fun C h => by
  simp only [List.contains_cons, List.contains_nil, Bool.or_false, Bool.or_eq_true, beq_iff_eq] at h
  rcases h with rfl
  · exact ⟨m_cls_Cart S, m_noat_Cart_rows S⟩
theorem m_fk_is_failed (S : Says K mg) : FldOk K ("is_failed", ["Cart"]) := fun C h => by
  simp only [List.contains_cons, List.contains_nil, Bool.or_false, Bool.or_eq_true, beq_iff_eq] at h
  rcases h with rfl
  · exact ⟨m_cls_Cart S, m_noat_Cart_is_failed S⟩
theorem m_fk_spent (S : Says K mg) : FldOk K ("spent", ["Cart"]) := fun C h => by
  simp only [List.contains_cons, List.contains_nil, Bool.or_false, Bool.or_eq_true, beq_iff_eq] at h
  rcases h with rfl
  · exact ⟨m_cls_Cart S, m_noat_Cart_spent S⟩
theorem m_fk_times_asked (S : Says K mg) : FldOk K ("times_asked", ["Cart"]) := fun C h => by
  simp only [List.contains_cons, List.contains_nil, Bool.or_false, Bool.or_eq_true, beq_iff_eq] at h
  rcases h with rfl
  · exact ⟨m_cls_Cart S, m_noat_Cart_times_asked S⟩
theorem m_fk_cart (S : Says K mg) : FldOk K ("cart", ["Shop"]) := fun C h => by
  simp only [List.contains_cons, List.contains_nil, Bool.or_false, Bool.or_eq_true, beq_iff_eq] at h
  rcases h with rfl
  · exact ⟨m_cls_Shop S, m_noat_Shop_cart S⟩
theorem m_fk_story (S : Says K mg) : FldOk K ("story", ["Shop"]) := fun C h => by
  simp only [List.contains_cons, List.contains_nil, Bool.or_false, Bool.or_eq_true, beq_iff_eq] at h
  rcases h with rfl
  · exact ⟨m_cls_Shop S, m_noat_Shop_story S⟩
theorem m_fk_past (S : Says K mg) : FldOk K ("past", ["Shop"]) := fun C h => by
  simp only [List.contains_cons, List.contains_nil, Bool.or_false, Bool.or_eq_true, beq_iff_eq] at h
  rcases h with rfl
  · exact ⟨m_cls_Shop S, m_noat_Shop_past S⟩
theorem m_fk_item (S : Says K mg) : FldOk K ("item", ["CartLine"]) := fun C h => by
  simp only [List.contains_cons, List.contains_nil, Bool.or_false, Bool.or_eq_true, beq_iff_eq] at h
  rcases h with rfl
  · exact ⟨m_cls_CartLine S, m_noat_CartLine_item S⟩
theorem m_fk_number (S : Says K mg) : FldOk K ("number", ["CartLine"]) := fun C h => by
  simp only [List.contains_cons, List.contains_nil, Bool.or_false, Bool.or_eq_true, beq_iff_eq] at h
  rcases h with rfl
  · exact ⟨m_cls_CartLine S, m_noat_CartLine_number S⟩
theorem m_fk_kept (S : Says K mg) : FldOk K ("kept", ["CartLine"]) := fun C h => by
  simp only [List.contains_cons, List.contains_nil, Bool.or_false, Bool.or_eq_true, beq_iff_eq] at h
  rcases h with rfl
  · exact ⟨m_cls_CartLine S, m_noat_CartLine_kept S⟩
theorem m_fk_shown (S : Says K mg) : FldOk K ("shown", ["CartLine"]) := fun C h => by
  simp only [List.contains_cons, List.contains_nil, Bool.or_false, Bool.or_eq_true, beq_iff_eq] at h
  rcases h with rfl
  · exact ⟨m_cls_CartLine S, m_noat_CartLine_shown S⟩
theorem m_fk_greatest (S : Says K mg) : FldOk K ("greatest", ["CartLine"]) := fun C h => by
  simp only [List.contains_cons, List.contains_nil, Bool.or_false, Bool.or_eq_true, beq_iff_eq] at h
  rcases h with rfl
  · exact ⟨m_cls_CartLine S, m_noat_CartLine_greatest S⟩
theorem m_fk_stays (S : Says K mg) : FldOk K ("stays", ["LineWork"]) := fun C h => by
  simp only [List.contains_cons, List.contains_nil, Bool.or_false, Bool.or_eq_true, beq_iff_eq] at h
  rcases h with rfl
  · exact ⟨m_cls_LineWork S, m_noat_LineWork_stays S⟩
theorem m_fk_seen (S : Says K mg) : FldOk K ("seen", ["LineWork"]) := fun C h => by
  simp only [List.contains_cons, List.contains_nil, Bool.or_false, Bool.or_eq_true, beq_iff_eq] at h
  rcases h with rfl
  · exact ⟨m_cls_LineWork S, m_noat_LineWork_seen S⟩
theorem m_fk_times (S : Says K mg) : FldOk K ("times", ["LineWork"]) := fun C h => by
  simp only [List.contains_cons, List.contains_nil, Bool.or_false, Bool.or_eq_true, beq_iff_eq] at h
  rcases h with rfl
  · exact ⟨m_cls_LineWork S, m_noat_LineWork_times S⟩
theorem m_fk_told (S : Says K mg) : FldOk K ("told", ["LineWork"]) := fun C h => by
  simp only [List.contains_cons, List.contains_nil, Bool.or_false, Bool.or_eq_true, beq_iff_eq] at h
  rcases h with rfl
  · exact ⟨m_cls_LineWork S, m_noat_LineWork_told S⟩
theorem m_tup_ACTIONS (S : Says K mg) : TupG K mg "ACTIONS" tv_ACTIONS := ⟨_, m_glo_ACTIONS S, fun H => by have q := He.tupB_ok (bool_of S.m).1 H; rw [List.map_map] at q; exact q⟩
theorem m_tupx_ACTIONS (S : Says K mg) : TupX K mg "ACTIONS" tv_ACTIONS := ⟨_, m_glo_ACTIONS S, fun H => by have q := He.tupB_ok (bool_of S.m).1 H; rw [List.map_map] at q; exact q, tupN_ok (bool_of (bool_of S.m).2).1⟩
theorem m_tup_DOORS (S : Says K mg) : TupG K mg "DOORS" tv_DOORS := ⟨_, m_glo_DOORS S, fun H => by have q := He.tupB_ok (bool_of (bool_of (bool_of S.m).2).2).1 H; rw [List.map_map] at q; exact q⟩
theorem m_tupx_DOORS (S : Says K mg) : TupX K mg "DOORS" tv_DOORS := ⟨_, m_glo_DOORS S, fun H => by have q := He.tupB_ok (bool_of (bool_of (bool_of S.m).2).2).1 H; rw [List.map_map] at q; exact q, tupN_ok (bool_of (bool_of (bool_of (bool_of S.m).2).2).2).1⟩
def g_law_jar : Sv := (sSeq (sSet 2 (fD (fIf (fT (fOp (g2 gLt) (fVar 1) (fOf (PL.g1 gLen) (fCons (fVar 0) fNil)))) (fOf (PL.g1 gAbs) (fCons (fOf (PL.g1 gToInt) (fCons (fOp (g2 gIx) (fVar 0) (fVar 1)) fNil)) fNil)) (fC (.int 0))))) (sRet (fOf gLst (fCons (fOf (g22 gMax) (fCons (fC (.int 0)) (fCons (fOp (g2 gSub) (fVar 2) (fOp (g2 gPow) (fC (.int 10)) (fC (.int 18)))) fNil))) (fCons (fOp (g2m gAdd) (fOp (g2 gMod) (fOf (PL.g1 gToInt) (fCons (fVar 2) fNil)) (fOp (g2m gAdd) (fOp (g2 gPow) (fC (.int 10)) (fC (.int 36))) (fC (.int 67)))) (fOp (g2m gMul) (fC (.int 1299709)) (fVar 1))) (fCons (fC (.int 0)) fNil))))))
def F_law_jar : Fn := fnF 2 1 g_law_jar
theorem fok_law_jar (S : Says K mg) {a : Addr} {fd : FuncData} (FD : FunD K d_law_jar.name d_law_jar.qual d_law_jar.params d_law_jar.body d_law_jar.scope (d_law_jar.dvs K) [] a fd) : FnOk P w K mg base CX0 1 a fd ["script", "k"] (spD K F_law_jar) := by
  exact fn_ok0 (k := 0) FD sc_law_jar fun cdv A outer s H E hr => by
    unfold g_law_jar
    exact (ss_cons (s_set 2 sc_law_jar.nd (e_d (e_if (t_lt (e_var 1) (e_len (m_free_len S) (a_cons (e_var 0) a_nil))) (e_abs (m_free_abs S) (a_cons (e_toInt (m_free_int S) (a_cons (e_ix (e_var 0) (e_var 1)) a_nil)) a_nil)) e_int))) (ss_one (s_ret (e_lst (a_cons (e_max rfl (m_free_max S) (a_cons e_int (a_cons (e_sub (e_var 2) (e_pow e_int e_int)) a_nil))) (a_cons (e_add (e_mod (e_toInt (m_free_int S) (a_cons (e_var 2) a_nil)) (e_add (e_pow e_int e_int) e_int)) (e_mul e_int (e_var 1))) (a_cons e_int a_nil)))))))
theorem dok_law_jar (S : Says K mg) : DefOk P w K mg base 1 "_law_jar" 2 [] F_law_jar := by
  obtain ⟨fd, FD⟩ := S.c.def_ 0 (d := d_law_jar) rfl
  exact ⟨_, fd, ["script", "k"], [], m_glo_law_jar S, FD.kp, FD.bindsN (fun _ _ _ _ _ _ us hl => match us, hl with | [_, _], _ => rfl), .nil, fok_law_jar S FD⟩

def g_law_draw : Sv := (sSeq (sIf (fT (fOp (g2 gGt) (fIxO 0 (fC (.int 0))) (fC (.int 0)))) (sSeq (sSet 3 (fOp (g2 gMod) (fOf (PL.g1 gToInt) (fCons (fIxO 0 (fC (.int 0))) fNil)) (fVar 1))) (sSeq (sIxO 0 (fOp (g2 gDiv) (fIxO 0 (fC (.int 0))) (fVar 1)) (fC (.int 0))) (sRet (fVar 3)))) sPass) (sSeq (sIxO 0 (fOp (g2m gAdd) (fIxO 0 (fC (.int 2))) (fC (.int 1))) (fC (.int 2))) (sSeq (sSet 2 (fOp (g2 gMod) (fOf (PL.g1 gToInt) (fCons (fOp (g2m gAdd) (fOp (g2 gPow) (fOp (g2m gAdd) (fIxO 0 (fC (.int 1))) (fOp (g2m gMul) (fC (.int 15485867)) (fIxO 0 (fC (.int 2))))) (fC (.int 4))) (fOp (g2m gMul) (fC (.int 3)) (fIxO 0 (fC (.int 2))))) fNil)) (fOp (g2m gAdd) (fOp (g2 gPow) (fC (.int 10)) (fC (.int 42))) (fC (.int 63))))) (sSeq (sSet 2 (fOp (g2 gMod) (fOf (PL.g1 gToInt) (fCons (fOp (g2 gPow) (fOp (g2m gAdd) (fVar 2) (fOp (g2m gMul) (fC (.int 32452867)) (fIxO 0 (fC (.int 2))))) (fC (.int 3))) fNil)) (fOp (g2m gAdd) (fOp (g2 gPow) (fC (.int 10)) (fC (.int 40))) (fC (.int 121))))) (sRet (fOp (g2 gMod) (fOf (PL.g1 gToInt) (fCons (fOp (g2 gDiv) (fVar 2) (fOp (g2 gPow) (fC (.int 10)) (fC (.int 6)))) fNil)) (fVar 1)))))))
def F_law_draw : Fn := fnF 2 2 g_law_draw
theorem fok_law_draw (S : Says K mg) {a : Addr} {fd : FuncData} (FD : FunD K d_law_draw.name d_law_draw.qual d_law_draw.params d_law_draw.body d_law_draw.scope (d_law_draw.dvs K) [] a fd) : FnOk P w K mg base CX0 1 a fd ["jar", "many"] (spD K F_law_draw) := by
  exact fn_ok0 (k := 0) FD sc_law_draw fun cdv A outer s H E hr => by
    unfold g_law_draw
    exact (ss_cons (s_if (t_gt (e_ixO 0 e_int) e_int) (ss_cons (s_set 3 sc_law_draw.nd (e_mod (e_toInt (m_free_int S) (a_cons (e_ixO 0 e_int) a_nil)) (e_var 1))) (ss_cons (s_ixO 0 (e_div (e_ixO 0 e_int) (e_var 1)) e_int) (ss_one (s_ret (e_var 3))))) ss_nil) (ss_cons (s_ixO 0 (e_add (e_ixO 0 e_int) e_int) e_int) (ss_cons (s_set 2 sc_law_draw.nd (e_mod (e_toInt (m_free_int S) (a_cons (e_add (e_pow (e_add (e_ixO 0 e_int) (e_mul e_int (e_ixO 0 e_int))) e_int) (e_mul e_int (e_ixO 0 e_int))) a_nil)) (e_add (e_pow e_int e_int) e_int))) (ss_cons (s_set 2 sc_law_draw.nd (e_mod (e_toInt (m_free_int S) (a_cons (e_pow (e_add (e_var 2) (e_mul e_int (e_ixO 0 e_int))) e_int) a_nil)) (e_add (e_pow e_int e_int) e_int))) (ss_one (s_ret (e_mod (e_toInt (m_free_int S) (a_cons (e_div (e_var 2) (e_pow e_int e_int)) a_nil)) (e_var 1))))))))
theorem dok_law_draw (S : Says K mg) : DefOk P w K mg base 1 "_law_draw" 2 [] F_law_draw := by
  obtain ⟨fd, FD⟩ := S.c.def_ 1 (d := d_law_draw) rfl
  exact ⟨_, fd, ["jar", "many"], [], m_glo_law_draw S, FD.kp, FD.bindsN (fun _ _ _ _ _ _ us hl => match us, hl with | [_, _], _ => rfl), .nil, fok_law_draw S FD⟩

def g_law_rule : Sv := (sSeq (sSet 2 (fD (fOf gLst (fCons (fC (.str "take")) (fCons (fC (.str "least")) (fCons (fC (.str "last")) (fCons (fC (.str "show")) (fCons (fC (.str "ask")) fNil)))))))) (sRet (fOf (g1m gTupOf) (fCons (fD (fLc [3] (lRng (fCons (fD (fCall F_law_draw [] [some 0, none] (fIo 0 (fCons (fOp (g2m gAdd) (fVar 1) (fC (.int 1))) fNil)))) fNil)) (gNm 3) tTrue (fOp (g2 gIx) (fVar 2) (fD (fCall F_law_draw [] [some 0, none] (fIo 0 (fCons (fC (.int 5)) fNil))))))) fNil))))
def F_law_rule : Fn := fnF 2 2 g_law_rule
theorem fok_law_rule (S : Says K mg) {a : Addr} {fd : FuncData} (FD : FunD K d_law_rule.name d_law_rule.qual d_law_rule.params d_law_rule.body d_law_rule.scope (d_law_rule.dvs K) [] a fd) : FnOk P w K mg base CX0 2 a fd ["jar", "most"] (spD K F_law_rule) := by
  have dd_law_draw := dok_law_draw (P := P) (w := w) (base := base) S
  exact fn_ok0 (k := 1) FD sc_law_rule fun cdv A outer s H E hr => by
    unfold g_law_rule
    exact (ss_cons (s_set 2 sc_law_rule.nd (e_d (e_lst (a_cons e_str (a_cons e_str (a_cons e_str (a_cons e_str (a_cons e_str a_nil)))))))) (ss_one (s_ret (e_tupOf (m_free_tuple S) (a_cons (e_d (e_lc (own := [("k", 3)]) rfl sc_law_rule.nd (i_rng1 (m_free_range S) (a_cons (e_d (e_call dd_law_draw (hr.mono (by decide)) (fun _ => rpl_nil) (a_io 0 (a_cons (e_add (e_var 1) e_int) a_nil)))) a_nil)) (blkOk_by (own := [("k", 3)]) (N := N_law_rule) (sc := defScope s_law_rule) (by decide +kernel)) (by decide) (fun _ _ _ _ _ => (g_name 3 sc_law_rule.nd)) (fun _ _ _ _ _ => ts_nil) (fun _ _ _ _ _ => (e_ix (e_var 2) (e_d (e_call dd_law_draw (hr.mono (by decide)) (fun _ => rpl_nil) (a_io 0 (a_cons e_int a_nil)))))))) a_nil)))))
theorem dok_law_rule (S : Says K mg) : DefOk P w K mg base 2 "_law_rule" 2 [] F_law_rule := by
  obtain ⟨fd, FD⟩ := S.c.def_ 2 (d := d_law_rule) rfl
  exact ⟨_, fd, ["jar", "most"], [], m_glo_law_rule S, FD.kp, FD.bindsN (fun _ _ _ _ _ _ us hl => match us, hl with | [_, _], _ => rfl), .nil, fok_law_rule S FD⟩

def g_law_six : Sv := (sSeq (sSet 1 (fOf gLst fNil)) (sSeq (sFor (lRng (fCons (fC (.int 6)) fNil)) (gNm 2) (sSeq (sSet 3 (fD (fCall F_law_rule [] [some 0, none] (fIo 0 (fCons (fOp (g2 gIx) (fD (fOf gLst (fCons (fC (.int 1)) (fCons (fC (.int 2)) (fCons (fC (.int 3)) (fCons (fC (.int 6)) fNil)))))) (fD (fCall F_law_draw [] [some 0, none] (fIo 0 (fCons (fC (.int 4)) fNil))))) fNil))))) (sSeq (sIf (tAndT (fT (fOpO gNe 1 (fD (fOf gLst fNil)))) (fT (fOp (g2 gEq) (fD (fCall F_law_draw [] [some 0, none] (fIo 0 (fCons (fC (.int 4)) fNil)))) (fC (.int 0))))) (sSet 3 (fIxO 1 (fD (fCall F_law_draw [] [some 0, none] (fIo 0 (fCons (fLenO 1) fNil)))))) sPass) (sApp 1 (fVar 3))))) (sRet (fOf (g1m gTupOf) (fCons (fFrz 1) fNil)))))
def F_law_six : Fn := fnF 1 3 g_law_six
theorem fok_law_six (S : Says K mg) {a : Addr} {fd : FuncData} (FD : FunD K d_law_six.name d_law_six.qual d_law_six.params d_law_six.body d_law_six.scope (d_law_six.dvs K) [] a fd) : FnOk P w K mg base CX0 3 a fd ["jar"] (spD K F_law_six) := by
  have dd_law_draw := dok_law_draw (P := P) (w := w) (base := base) S
  have dd_law_rule := dok_law_rule (P := P) (w := w) (base := base) S
  exact fn_ok0 (k := 2) FD sc_law_six fun cdv A outer s H E hr => by
    unfold g_law_six
    exact (ss_cons (s_set 1 sc_law_six.nd (e_lst a_nil)) (ss_cons (s_for PassesOwn.never rfl (i_rng1 (m_free_range S) (a_cons e_int a_nil)) (g_name 2 sc_law_six.nd) (ss_cons (s_set 3 sc_law_six.nd (e_d (e_call dd_law_rule (hr.mono (by decide)) (fun _ => rpl_nil) (a_io 0 (a_cons (e_ix (e_d (e_lst (a_cons e_int (a_cons e_int (a_cons e_int (a_cons e_int a_nil)))))) (e_d (e_call dd_law_draw (hr.mono (by decide)) (fun _ => rpl_nil) (a_io 0 (a_cons e_int a_nil))))) a_nil))))) (ss_cons (s_if (t_w (w_and (t_neO 1 hr (e_d (e_lst a_nil))) (w_one (t_eq hr (e_d (e_call dd_law_draw (hr.mono (by decide)) (fun _ => rpl_nil) (a_io 0 (a_cons e_int a_nil)))) e_int) (.inl rfl)))) (ss_one (s_set 3 sc_law_six.nd (e_ixO 1 (e_d (e_call dd_law_draw (hr.mono (by decide)) (fun _ => rpl_nil) (a_io 0 (a_cons (e_lenO 1 (m_free_len S)) a_nil))))))) ss_nil) (ss_one (s_app 1 (e_var 3)))))) (ss_one (s_ret (e_tupOf (m_free_tuple S) (a_cons (e_frz 1) a_nil))))))
theorem dok_law_six (S : Says K mg) : DefOk P w K mg base 3 "_law_six" 1 [] F_law_six := by
  obtain ⟨fd, FD⟩ := S.c.def_ 3 (d := d_law_six) rfl
  exact ⟨_, fd, ["jar"], [], m_glo_law_six S, FD.kp, FD.bindsN (fun _ _ _ _ _ _ us hl => match us, hl with | [_], _ => rfl), .nil, fok_law_six S FD⟩

def g_is_rule : Sv := (sSeq (sIf (tOrT (tNotT (fT (fOf (g22 gIsi) (fCons (fVar 0) (fCons (fC (.ty "tuple")) fNil))))) (fT (fOp (g2 gGt) (fOf (PL.g1 gLen) (fCons (fVar 0) fNil)) (fC (.int 6))))) (sRet (fC (.bl false))) sPass) (sRet (fOf (PL.g1 gAll) (fCons (fD (fLc [1] (lAny (fVar 0)) (gNm 1) tTrue (fAnd (fOf (g22 gIsi) (fCons (fVar 1) (fCons (fC (.ty "str")) fNil))) (fOp (g2 (gIn false)) (fVar 1) (fC (.tup [.str "take", .str "least", .str "last", .str "show", .str "ask"])))))) fNil))))
def F_is_rule : Fn := fnF 1 1 g_is_rule
theorem fok_is_rule (S : Says K mg) {a : Addr} {fd : FuncData} (FD : FunD K d_is_rule.name d_is_rule.qual d_is_rule.params d_is_rule.body d_is_rule.scope (d_is_rule.dvs K) [] a fd) : FnOk P w K mg base CX0 1 a fd ["thing"] (spD K F_is_rule) := by
  exact fn_ok0 (k := 0) FD sc_is_rule fun cdv A outer s H E hr => by
    unfold g_is_rule
    exact (ss_cons (s_if (t_w (w_or (t_not (t_v (e_isi (m_free_isinstance S) (a_cons (e_var 0) (a_cons (e_ty (m_free_tuple S) boot_tuple') a_nil))))) (w_one (t_gt (e_len (m_free_len S) (a_cons (e_var 0) a_nil)) (e_globI (m_int_MOST_ACTIONS S))) (.inr rfl)))) (ss_one (s_ret e_bl)) ss_nil) (ss_one (s_ret (e_all rfl (m_free_all S) (a_cons (e_d (e_lc (own := [("action", 1)]) rfl sc_is_rule.nd (i_any (e_var 0)) (blkOk_by (own := [("action", 1)]) (N := N_is_rule) (sc := defScope s_is_rule) (by decide +kernel)) (by decide) (fun _ _ _ _ _ => (g_name 1 sc_is_rule.nd)) (fun _ _ _ _ _ => ts_nil) (fun _ _ _ _ _ => (e_and (e_isi (m_free_isinstance S) (a_cons (e_var 1) (a_cons (e_ty (m_free_str S) boot_str') a_nil))) (e_one (e_in (e_var 1) (e_globT (m_tup_ACTIONS S)))))))) a_nil)))))
theorem dok_is_rule (S : Says K mg) : DefOk P w K mg base 1 "is_rule" 1 [] F_is_rule := by
  obtain ⟨fd, FD⟩ := S.c.def_ 4 (d := d_is_rule) rfl
  exact ⟨_, fd, ["thing"], [], m_glo_is_rule S, FD.kp, FD.bindsN (fun _ _ _ _ _ _ us hl => match us, hl with | [_], _ => rfl), .nil, fok_is_rule S FD⟩

def g_Book__init : Sv := (sSeq (sSet 7 (fOf PL.gTup (fCons (fVar 1) (fCons (fVar 2) (fCons (fVar 3) (fCons (fVar 4) (fCons (fVar 5) (fCons (fVar 6) fNil)))))))) (sSeq (sFor (lZip (fCons (fC (.tup [.str "put", .str "look", .str "alter", .str "back", .str "pay", .str "again"])) (fCons (fVar 7) fNil))) (gTu 2 (PL.gCons (gNm 8) (PL.gCons (gNm 9) gsNil))) (sIf (tNotT (fT (fD (fCall F_is_rule [] [none] (fCons (fVar 9) fNil))))) sNever sPass)) (sPut 0 [] ("row", ["Book"]) (fVar 7))))
def F_Book__init : Fn := fnF 7 3 g_Book__init
theorem fok_Book__init (S : Says K mg) {a : Addr} {fd : FuncData} (FD : FunD K d_Book__init.name d_Book__init.qual d_Book__init.params d_Book__init.body d_Book__init.scope (d_Book__init.dvs K) [] a fd) : FnOk P w K mg base CX0 2 a fd ["self", "put", "look", "alter", "back", "pay", "again"] (spD K F_Book__init) := by
  have dd_is_rule := dok_is_rule (P := P) (w := w) (base := base) S
  exact fn_ok0 (k := 1) FD sc_Book__init fun cdv A outer s H E hr => by
    unfold g_Book__init
    exact (ss_cons (s_set 7 sc_Book__init.nd (e_tup (a_cons (e_var 1) (a_cons (e_var 2) (a_cons (e_var 3) (a_cons (e_var 4) (a_cons (e_var 5) (a_cons (e_var 6) a_nil)))))))) (ss_cons (s_for PassesOwn.never rfl (i_zip (m_free_zip S) (a_cons (e_globT (m_tup_DOORS S)) (a_cons (e_var 7) a_nil))) (g_tup rfl (gs_cons (g_name 8 sc_Book__init.nd) (gs_cons (g_name 9 sc_Book__init.nd) gs_nil))) (ss_one (s_if (t_not (t_v (e_d (e_call dd_is_rule (hr.mono (by decide)) (fun _ => rpl_nil) (a_cons (e_var 9) a_nil))))) (ss_one s_never) ss_nil))) (ss_one (s_put (pl_nil 0) (e_var 7) (m_fk_row S)))))
theorem kok_Book__init (S : Says K mg) : MakOk P w K mg base 2 "Book" [] F_Book__init := by
  obtain ⟨fd, FD⟩ := S.c.def_ 5 (d := d_Book__init) rfl
  obtain ⟨ds, hv, hb⟩ := FD.binds1 (ps := ["self", "put", "look", "alter", "back", "pay", "again"]) 7 6 (by simp [d_Book__init, He.DefD.dvs]) rfl (fun T kV doc pm an cdv ct us its h1 h2 => match us, its, h1, h2 with | [_, _, _, _, _, _, _], [_, _, _, _, _, _], _, _ => ⟨_, rfl, rfl⟩)
  exact ⟨m_glo_Book S, _, fd, ["self", "put", "look", "alter", "back", "pay", "again"], ds, m_mkr_Book S, hb, hv, fok_Book__init S FD⟩
def g_is_item : Sv := (sSeq (sIf (tOrT (tNotT (fT (fOf (g22 gIsi) (fCons (fVar 0) (fCons (fC (.ty "str")) fNil))))) (tNotT (fT (fChain (fun i j => decide (i ≤ j)) (fun i j => decide (i ≤ j)) (fC (.int 1)) (fOf (PL.g1 gLen) (fCons (fVar 0) fNil)) (fC (.int 8)))))) (sRet (fC (.bl false))) sPass) (sRet (fOf (PL.g1 gAll) (fCons (fD (fLc [1] (lAny (fVar 0)) (gNm 1) tTrue (fOp (g2 (gInS false)) (fVar 1) (fC (.str "abcdefghijklmnopqrstuvwxyz"))))) fNil))))
def F_is_item : Fn := fnF 1 1 g_is_item
theorem fok_is_item (S : Says K mg) {a : Addr} {fd : FuncData} (FD : FunD K d_is_item.name d_is_item.qual d_is_item.params d_is_item.body d_is_item.scope (d_is_item.dvs K) [] a fd) : FnOk P w K mg base CX0 1 a fd ["thing"] (spD K F_is_item) := by
  exact fn_ok0 (k := 0) FD sc_is_item fun cdv A outer s H E hr => by
    unfold g_is_item
    exact (ss_cons (s_if (t_w (w_or (t_not (t_v (e_isi (m_free_isinstance S) (a_cons (e_var 0) (a_cons (e_ty (m_free_str S) boot_str') a_nil))))) (w_one (t_not (t_chain op_le op_le e_int (e_len (m_free_len S) (a_cons (e_var 0) a_nil)) (e_globI (m_int_LONGEST_ITEM S)))) (.inr rfl)))) (ss_one (s_ret e_bl)) ss_nil) (ss_one (s_ret (e_all rfl (m_free_all S) (a_cons (e_d (e_lc (own := [("letter", 1)]) rfl sc_is_item.nd (i_any (e_var 0)) (blkOk_by (own := [("letter", 1)]) (N := N_is_item) (sc := defScope s_is_item) (by decide +kernel)) (by decide) (fun _ _ _ _ _ => (g_name 1 sc_is_item.nd)) (fun _ _ _ _ _ => ts_nil) (fun _ _ _ _ _ => (e_inS (e_var 1) (e_globS (m_str_LETTERS S)))))) a_nil)))))
theorem dok_is_item (S : Says K mg) : DefOk P w K mg base 1 "is_item" 1 [] F_is_item := by
  obtain ⟨fd, FD⟩ := S.c.def_ 6 (d := d_is_item) rfl
  exact ⟨_, fd, ["thing"], [], m_glo_is_item S, FD.kp, FD.bindsN (fun _ _ _ _ _ _ us hl => match us, hl with | [_], _ => rfl), .nil, fok_is_item S FD⟩

def g_is_whole : Sv := (sRet (fAnd (fOf (g22 gIsi) (fCons (fVar 0) (fCons (fC (.ty "int")) fNil))) (fNot (fOf (g22 gIsi) (fCons (fVar 0) (fCons (fC (.ty "bool")) fNil))))))
def F_is_whole : Fn := fnF 1 0 g_is_whole
theorem fok_is_whole (S : Says K mg) {a : Addr} {fd : FuncData} (FD : FunD K d_is_whole.name d_is_whole.qual d_is_whole.params d_is_whole.body d_is_whole.scope (d_is_whole.dvs K) [] a fd) : FnOk P w K mg base CX0 1 a fd ["thing"] (spD K F_is_whole) := by
  exact fn_ok0 (k := 0) FD sc_is_whole fun cdv A outer s H E hr => by
    unfold g_is_whole
    exact (ss_one (s_ret (e_and (e_isi (m_free_isinstance S) (a_cons (e_var 0) (a_cons (e_ty (m_free_int S) boot_int') a_nil))) (e_one (e_not (e_isi (m_free_isinstance S) (a_cons (e_var 0) (a_cons (e_ty (m_free_bool S) boot_bool') a_nil))))))))
theorem dok_is_whole (S : Says K mg) : DefOk P w K mg base 1 "is_whole" 1 [] F_is_whole := by
  obtain ⟨fd, FD⟩ := S.c.def_ 7 (d := d_is_whole) rfl
  exact ⟨_, fd, ["thing"], [], m_glo_is_whole S, FD.kp, FD.bindsN (fun _ _ _ _ _ _ us hl => match us, hl with | [_], _ => rfl), .nil, fok_is_whole S FD⟩

def g_is_amount : Sv := (sRet (fAnd (fD (fCall F_is_whole [] [none] (fCons (fVar 0) fNil))) (fChain (fun i j => decide (i ≤ j)) (fun i j => decide (i ≤ j)) (fC (.int 0)) (fVar 0) (fC (.int 1000000000000)))))
def F_is_amount : Fn := fnF 1 0 g_is_amount
theorem fok_is_amount (S : Says K mg) {a : Addr} {fd : FuncData} (FD : FunD K d_is_amount.name d_is_amount.qual d_is_amount.params d_is_amount.body d_is_amount.scope (d_is_amount.dvs K) [] a fd) : FnOk P w K mg base CX0 2 a fd ["thing"] (spD K F_is_amount) := by
  have dd_is_whole := dok_is_whole (P := P) (w := w) (base := base) S
  exact fn_ok0 (k := 1) FD sc_is_amount fun cdv A outer s H E hr => by
    unfold g_is_amount
    exact (ss_one (s_ret (e_and (e_d (e_call dd_is_whole (hr.mono (by decide)) (fun _ => rpl_nil) (a_cons (e_var 0) a_nil))) (e_one (e_chain op_le op_le e_int (e_var 0) (e_globI (m_int_MOST_AMOUNT S)))))))
theorem dok_is_amount (S : Says K mg) : DefOk P w K mg base 2 "is_amount" 1 [] F_is_amount := by
  obtain ⟨fd, FD⟩ := S.c.def_ 8 (d := d_is_amount) rfl
  exact ⟨_, fd, ["thing"], [], m_glo_is_amount S, FD.kp, FD.bindsN (fun _ _ _ _ _ _ us hl => match us, hl with | [_], _ => rfl), .nil, fok_is_amount S FD⟩

def g_is_price : Sv := (sRet (fAnd (fOf (g22 gIsi) (fCons (fVar 0) (fCons (fC (.ty "tuple")) fNil))) (fAnd (fOp (g2 gEq) (fOf (PL.g1 gLen) (fCons (fVar 0) fNil)) (fC (.int 2))) (fAnd (fD (fCall F_is_item [] [none] (fCons (fOp (g2 gIx) (fVar 0) (fC (.int 0))) fNil))) (fD (fCall F_is_amount [] [none] (fCons (fOp (g2 gIx) (fVar 0) (fC (.int 1))) fNil)))))))
def F_is_price : Fn := fnF 1 0 g_is_price
theorem fok_is_price (S : Says K mg) {a : Addr} {fd : FuncData} (FD : FunD K d_is_price.name d_is_price.qual d_is_price.params d_is_price.body d_is_price.scope (d_is_price.dvs K) [] a fd) : FnOk P w K mg base CX0 3 a fd ["thing"] (spD K F_is_price) := by
  have dd_is_item := dok_is_item (P := P) (w := w) (base := base) S
  have dd_is_amount := dok_is_amount (P := P) (w := w) (base := base) S
  exact fn_ok0 (k := 2) FD sc_is_price fun cdv A outer s H E hr => by
    unfold g_is_price
    exact (ss_one (s_ret (e_and (e_isi (m_free_isinstance S) (a_cons (e_var 0) (a_cons (e_ty (m_free_tuple S) boot_tuple') a_nil))) (e_and (e_eq hr (e_len (m_free_len S) (a_cons (e_var 0) a_nil)) e_int) (e_and (e_d (e_call dd_is_item (hr.mono (by decide)) (fun _ => rpl_nil) (a_cons (e_ix (e_var 0) e_int) a_nil))) (e_one (e_d (e_call dd_is_amount (hr.mono (by decide)) (fun _ => rpl_nil) (a_cons (e_ix (e_var 0) e_int) a_nil)))))))))
theorem dok_is_price (S : Says K mg) : DefOk P w K mg base 3 "is_price" 1 [] F_is_price := by
  obtain ⟨fd, FD⟩ := S.c.def_ 9 (d := d_is_price) rfl
  exact ⟨_, fd, ["thing"], [], m_glo_is_price S, FD.kp, FD.bindsN (fun _ _ _ _ _ _ us hl => match us, hl with | [_], _ => rfl), .nil, fok_is_price S FD⟩

def g_are_prices : Sv := (sSeq (sIf (tOrT (tNotT (fT (fOf (g22 gIsi) (fCons (fVar 0) (fCons (fC (.ty "tuple")) fNil))))) (tNotT (fT (fChain (fun i j => decide (i ≤ j)) (fun i j => decide (i ≤ j)) (fC (.int 1)) (fOf (PL.g1 gLen) (fCons (fVar 0) fNil)) (fC (.int 6)))))) (sRet (fC (.bl false))) sPass) (sSeq (sIf (tNotT (fT (fOf (PL.g1 gAll) (fCons (fD (fLc [1] (lAny (fVar 0)) (gNm 1) tTrue (fD (fCall F_is_price [] [none] (fCons (fVar 1) fNil))))) fNil)))) (sRet (fC (.bl false))) sPass) (sRet (fOp (g2 gEq) (fUnD gLenSet (fD (fLc [1] (lAny (fVar 0)) (gNm 1) tTrue (fOp (g2 gIx) (fVar 1) (fC (.int 0)))))) (fOf (PL.g1 gLen) (fCons (fVar 0) fNil))))))
def F_are_prices : Fn := fnF 1 1 g_are_prices
theorem fok_are_prices (S : Says K mg) {a : Addr} {fd : FuncData} (FD : FunD K d_are_prices.name d_are_prices.qual d_are_prices.params d_are_prices.body d_are_prices.scope (d_are_prices.dvs K) [] a fd) : FnOk P w K mg base CX0 4 a fd ["thing"] (spD K F_are_prices) := by
  have dd_is_price := dok_is_price (P := P) (w := w) (base := base) S
  exact fn_ok0 (k := 3) FD sc_are_prices fun cdv A outer s H E hr => by
    unfold g_are_prices
    exact (ss_cons (s_if (t_w (w_or (t_not (t_v (e_isi (m_free_isinstance S) (a_cons (e_var 0) (a_cons (e_ty (m_free_tuple S) boot_tuple') a_nil))))) (w_one (t_not (t_chain op_le op_le e_int (e_len (m_free_len S) (a_cons (e_var 0) a_nil)) (e_globI (m_int_MOST_ITEMS S)))) (.inr rfl)))) (ss_one (s_ret e_bl)) ss_nil) (ss_cons (s_if (t_not (t_v (e_all rfl (m_free_all S) (a_cons (e_d (e_lc (own := [("pair", 1)]) rfl sc_are_prices.nd (i_any (e_var 0)) (blkOk_by (own := [("pair", 1)]) (N := N_are_prices) (sc := defScope s_are_prices) (by decide +kernel)) (by decide) (fun _ _ _ _ _ => (g_name 1 sc_are_prices.nd)) (fun _ _ _ _ _ => ts_nil) (fun _ _ _ _ _ => (e_d (e_call dd_is_price (hr.mono (by decide)) (fun _ => rpl_nil) (a_cons (e_var 1) a_nil)))))) a_nil)))) (ss_one (s_ret e_bl)) ss_nil) (ss_one (s_ret (e_eq hr (e_lenSet1 (m_free_len S) (m_free_set S) (e_d (e_lc (own := [("pair", 1)]) rfl sc_are_prices.nd (i_any (e_var 0)) (blkOk_by (own := [("pair", 1)]) (N := N_are_prices) (sc := defScope s_are_prices) (by decide +kernel)) (by decide) (fun _ _ _ _ _ => (g_name 1 sc_are_prices.nd)) (fun _ _ _ _ _ => ts_nil) (fun _ _ _ _ _ => (e_ix (e_var 1) e_int))))) (e_len (m_free_len S) (a_cons (e_var 0) a_nil)))))))
theorem dok_are_prices (S : Says K mg) : DefOk P w K mg base 4 "are_prices" 1 [] F_are_prices := by
  obtain ⟨fd, FD⟩ := S.c.def_ 10 (d := d_are_prices) rfl
  exact ⟨_, fd, ["thing"], [], m_glo_are_prices S, FD.kp, FD.bindsN (fun _ _ _ _ _ _ us hl => match us, hl with | [_], _ => rfl), .nil, fok_are_prices S FD⟩

def g_Cart__init : Sv := (sSeq (sPut 0 [] ("design", ["Cart"]) (fVar 1)) (sSeq (sPut 0 [] ("amounts", ["Cart"]) (fDc [3, 4] (lAny (fVar 2)) (gTu 2 (PL.gCons (gNm 3) (PL.gCons (gNm 4) gsNil))) (fVar 3) (fVar 4))) (sSeq (sPut 0 [] ("rows", ["Cart"]) (fOf gLst fNil)) (sSeq (sPut 0 [] ("is_failed", ["Cart"]) (fC (.bl false))) (sSeq (sPut 0 [] ("spent", ["Cart"]) (fC (.int 0))) (sPut 0 [] ("times_asked", ["Cart"]) (fC (.int 0))))))))
def F_Cart__init : Fn := fnF 3 2 g_Cart__init
theorem fok_Cart__init (S : Says K mg) {a : Addr} {fd : FuncData} (FD : FunD K d_Cart__init.name d_Cart__init.qual d_Cart__init.params d_Cart__init.body d_Cart__init.scope (d_Cart__init.dvs K) [] a fd) : FnOk P w K mg base CX0 1 a fd ["self", "book", "prices"] (spD K F_Cart__init) := by
  exact fn_ok0 (k := 0) FD sc_Cart__init fun cdv A outer s H E hr => by
    unfold g_Cart__init
    exact (ss_cons (s_put (pl_nil 0) (e_var 1) (m_fk_design S)) (ss_cons (s_put (pl_nil 0) (e_dc (own := [("item", 3), ("amount", 4)]) rfl sc_Cart__init.nd (i_any (e_var 2)) (blkOk_by (own := [("item", 3), ("amount", 4)]) (N := N_Cart__init) (sc := defScope s_Cart__init) (by decide +kernel)) (by decide) (fun _ _ _ _ _ => (g_tup rfl (gs_cons (g_name 3 sc_Cart__init.nd) (gs_cons (g_name 4 sc_Cart__init.nd) gs_nil)))) (fun _ _ _ _ _ => (e_var 3)) (fun _ _ _ _ _ => (e_var 4))) (m_fk_amounts S)) (ss_cons (s_put (pl_nil 0) (e_lst a_nil) (m_fk_rows S)) (ss_cons (s_put (pl_nil 0) e_bl (m_fk_is_failed S)) (ss_cons (s_put (pl_nil 0) e_int (m_fk_spent S)) (ss_one (s_put (pl_nil 0) e_int (m_fk_times_asked S))))))))
theorem kok_Cart__init (S : Says K mg) : MakOk P w K mg base 1 "Cart" [] F_Cart__init := by
  obtain ⟨fd, FD⟩ := S.c.def_ 11 (d := d_Cart__init) rfl
  exact ⟨m_glo_Cart S, _, fd, ["self", "book", "prices"], [], m_mkr_Cart S, FD.bindsN (fun _ _ _ _ _ _ us hl => match us, hl with | [_, _, _], _ => rfl), .nil, fok_Cart__init S FD⟩
def g_Shop__init : Sv := (sSeq (sIf (tNotT (fT (fD (fCall F_are_prices [] [none] (fCons (fVar 2) fNil))))) sNever sPass) (sSeq (sPut 0 [] ("cart", ["Shop"]) (fD (fMake "Cart" F_Cart__init [] [none, none] (fCons (fVar 1) (fCons (fVar 2) fNil))))) (sSeq (sPut 0 [] ("story", ["Shop"]) (fD (fOf gLst fNil))) (sPut 0 [] ("past", ["Shop"]) (fOf gLst fNil)))))
def F_Shop__init : Fn := fnF 3 0 g_Shop__init
theorem fok_Shop__init (S : Says K mg) {a : Addr} {fd : FuncData} (FD : FunD K d_Shop__init.name d_Shop__init.qual d_Shop__init.params d_Shop__init.body d_Shop__init.scope (d_Shop__init.dvs K) [] a fd) : FnOk P w K mg base CX0 5 a fd ["self", "book", "prices"] (spD K F_Shop__init) := by
  have dd_are_prices := dok_are_prices (P := P) (w := w) (base := base) S
  have mak_Cart__init := kok_Cart__init (P := P) (w := w) (base := base) S
  exact fn_ok0 (k := 4) FD sc_Shop__init fun cdv A outer s H E hr => by
    unfold g_Shop__init
    exact (ss_cons (s_if (t_not (t_v (e_d (e_call dd_are_prices (hr.mono (by decide)) (fun _ => rpl_nil) (a_cons (e_var 2) a_nil))))) (ss_one s_never) ss_nil) (ss_cons (s_put (pl_nil 0) (e_d (e_make mak_Cart__init (hr.mono (by decide)) (fun _ => rpl_nil) (a_cons (e_var 1) (a_cons (e_var 2) a_nil)))) (m_fk_cart S)) (ss_cons (s_put (pl_nil 0) (e_d (e_lst a_nil)) (m_fk_story S)) (ss_one (s_put (pl_nil 0) (e_lst a_nil) (m_fk_past S))))))
theorem k2ok_Shop__init (S : Says K mg) : MakKOk P w K mg base 5 "Shop" "prices" "book" F_Shop__init := by
  obtain ⟨fd, FD⟩ := S.c.def_ 12 (d := d_Shop__init) rfl
  exact ⟨m_glo_Shop S, _, fd, ["self", "book", "prices"], m_mkr_Shop S, funD_kbn FD 1 ["prices", "book"] (fun us ws => us ++ ws.reverse) (fun a b => a.append (vals_rev b)) (fun _ _ _ _ _ _ us ws h1 h2 => match us, ws, h1, h2 with | [_], [_, _], _, _ => rfl), fok_Shop__init S FD⟩
theorem kok_Shop__init (S : Says K mg) : MakOk P w K mg base 5 "Shop" [] F_Shop__init := by
  obtain ⟨fd, FD⟩ := S.c.def_ 12 (d := d_Shop__init) rfl
  exact ⟨m_glo_Shop S, _, fd, ["self", "book", "prices"], [], m_mkr_Shop S, FD.bindsN (fun _ _ _ _ _ _ us hl => match us, hl with | [_, _, _], _ => rfl), .nil, fok_Shop__init S FD⟩
def g_law_act : Sv := (sSeq (sSet 2 (fOp (g2m gAdd) (fC (.int 1)) (fD (fCall F_law_draw [] [some 0, none] (fIo 0 (fCons (fC (.int 9)) fNil)))))) (sSeq (sSet 3 (fD (fCall F_law_draw [] [some 0, none] (fIo 0 (fCons (fC (.int 6)) fNil))))) (sSeq (sIf (fT (fOp (g2 gLt) (fVar 3) (fC (.int 2)))) (sRet (fOf PL.gTup (fCons (fC (.str "price")) (fCons (fVar 1) (fCons (fD (fCall F_law_draw [] [some 0, none] (fIo 0 (fCons (fC (.int 5)) fNil)))) fNil))))) sPass) (sRet (fOp (g2 gIx) (fD (fOf gLst (fCons (fOf PL.gTup (fCons (fC (.str "put")) (fCons (fVar 1) (fCons (fVar 2) fNil)))) (fCons (fOf PL.gTup (fCons (fC (.str "look")) fNil)) (fCons (fOf PL.gTup (fCons (fC (.str "back")) fNil)) (fCons (fOf PL.gTup (fCons (fC (.str "pay")) (fCons (fOp (g2 gGt) (fVar 2) (fC (.int 4))) fNil))) fNil)))))) (fOp (g2 gSub) (fVar 3) (fC (.int 2))))))))
def F_law_act : Fn := fnF 2 2 g_law_act
theorem fok_law_act (S : Says K mg) {a : Addr} {fd : FuncData} (FD : FunD K d_law_act.name d_law_act.qual d_law_act.params d_law_act.body d_law_act.scope (d_law_act.dvs K) [] a fd) : FnOk P w K mg base CX0 2 a fd ["jar", "name"] (spD K F_law_act) := by
  have dd_law_draw := dok_law_draw (P := P) (w := w) (base := base) S
  exact fn_ok0 (k := 1) FD sc_law_act fun cdv A outer s H E hr => by
    unfold g_law_act
    exact (ss_cons (s_set 2 sc_law_act.nd (e_add e_int (e_d (e_call dd_law_draw (hr.mono (by decide)) (fun _ => rpl_nil) (a_io 0 (a_cons e_int a_nil)))))) (ss_cons (s_set 3 sc_law_act.nd (e_d (e_call dd_law_draw (hr.mono (by decide)) (fun _ => rpl_nil) (a_io 0 (a_cons e_int a_nil))))) (ss_cons (s_if (t_lt (e_var 3) e_int) (ss_one (s_ret (e_tup (a_cons e_str (a_cons (e_var 1) (a_cons (e_d (e_call dd_law_draw (hr.mono (by decide)) (fun _ => rpl_nil) (a_io 0 (a_cons e_int a_nil)))) a_nil)))))) ss_nil) (ss_one (s_ret (e_ix (e_d (e_lst (a_cons (e_tup (a_cons e_str (a_cons (e_var 1) (a_cons (e_var 2) a_nil)))) (a_cons (e_tup (a_cons e_str a_nil)) (a_cons (e_tup (a_cons e_str a_nil)) (a_cons (e_tup (a_cons e_str (a_cons (e_gt (e_var 2) e_int) a_nil))) a_nil)))))) (e_sub (e_var 3) e_int)))))))
theorem dok_law_act (S : Says K mg) : DefOk P w K mg base 2 "_law_act" 2 [] F_law_act := by
  obtain ⟨fd, FD⟩ := S.c.def_ 13 (d := d_law_act) rfl
  exact ⟨_, fd, ["jar", "name"], [], m_glo_law_act S, FD.kp, FD.bindsN (fun _ _ _ _ _ _ us hl => match us, hl with | [_, _], _ => rfl), .nil, fok_law_act S FD⟩

def g_is_number : Sv := (sRet (fAnd (fD (fCall F_is_whole [] [none] (fCons (fVar 0) fNil))) (fChain (fun i j => decide (i ≤ j)) (fun i j => decide (i ≤ j)) (fVar 1) (fVar 0) (fC (.int 1000)))))
def F_is_number : Fn := fnF 2 0 g_is_number
theorem fok_is_number (S : Says K mg) {a : Addr} {fd : FuncData} (FD : FunD K d_is_number.name d_is_number.qual d_is_number.params d_is_number.body d_is_number.scope (d_is_number.dvs K) [] a fd) : FnOk P w K mg base CX0 2 a fd ["thing", "least"] (spD K F_is_number) := by
  have dd_is_whole := dok_is_whole (P := P) (w := w) (base := base) S
  exact fn_ok0 (k := 1) FD sc_is_number fun cdv A outer s H E hr => by
    unfold g_is_number
    exact (ss_one (s_ret (e_and (e_d (e_call dd_is_whole (hr.mono (by decide)) (fun _ => rpl_nil) (a_cons (e_var 0) a_nil))) (e_one (e_chain op_le op_le (e_var 1) (e_var 0) (e_globI (m_int_MOST_NUMBER S)))))))
theorem dok1_is_number (S : Says K mg) : DefOk P w K mg base 2 "is_number" 2 [.int 1] F_is_number := by
  obtain ⟨fd, FD⟩ := S.c.def_ 14 (d := d_is_number) rfl
  obtain ⟨ds, hv, hb⟩ := FD.binds1 (ps := ["thing", "least"]) 1 0 (by simp [d_is_number, He.DefD.dvs]) rfl (fun T kV doc pm an cdv ct us its h1 h2 => match us, its, h1, h2 with | [_], [_], _, _ => ⟨_, rfl, rfl⟩)
  exact ⟨_, fd, ["thing", "least"], ds, m_glo_is_number S, FD.kp, hb, hv, fok_is_number S FD⟩
theorem dok_is_number (S : Says K mg) : DefOk P w K mg base 2 "is_number" 2 [] F_is_number := by
  obtain ⟨fd, FD⟩ := S.c.def_ 14 (d := d_is_number) rfl
  obtain ⟨ds, hv, hb⟩ := FD.binds1 (ps := ["thing", "least"]) 2 1 (by simp [d_is_number, He.DefD.dvs]) rfl (fun T kV doc pm an cdv ct us its h1 h2 => match us, its, h1, h2 with | [_, _], [_], _, _ => ⟨_, rfl, rfl⟩)
  exact ⟨_, fd, ["thing", "least"], ds, m_glo_is_number S, FD.kp, hb, hv, fok_is_number S FD⟩

def g_is_deed : Sv := (sSeq (sIf (tOrT (tNotT (fT (fOf (g22 gIsi) (fCons (fVar 0) (fCons (fC (.ty "tuple")) fNil))))) (tOrT (fT (fOp (g2 gEq) (fOf (PL.g1 gLen) (fCons (fVar 0) fNil)) (fC (.int 0)))) (tNotT (fT (fOf (g22 gIsi) (fCons (fOp (g2 gIx) (fVar 0) (fC (.int 0))) (fCons (fC (.ty "str")) fNil))))))) (sRet (fC (.bl false))) sPass) (sSeq (sPar 1 2 (fCons (fOp (g2 gIx) (fVar 0) (fC (.int 0))) (fCons (fD (fSl (fVar 0) (oSome (fC (.int 1))) oNone)) fNil))) (sSeq (sIf (fT (fOp (g2 (gIn false)) (fVar 1) (fOf PL.gTup (fCons (fC (.str "look")) (fCons (fC (.str "back")) fNil))))) (sRet (fOp (g2 gEq) (fVar 2) (fOf PL.gTup fNil))) sPass) (sSeq (sIf (fT (fOp (g2 gEq) (fVar 1) (fC (.str "pay")))) (sRet (fAnd (fOp (g2 gEq) (fOf (PL.g1 gLen) (fCons (fVar 2) fNil)) (fC (.int 1))) (fOf (g22 gIsi) (fCons (fOp (g2 gIx) (fVar 2) (fC (.int 0))) (fCons (fC (.ty "bool")) fNil))))) sPass) (sSeq (sIf (tOrT (fT (fOp (g2 gNe) (fOf (PL.g1 gLen) (fCons (fVar 2) fNil)) (fC (.int 2)))) (tNotT (fT (fD (fCall F_is_item [] [none] (fCons (fOp (g2 gIx) (fVar 2) (fC (.int 0))) fNil)))))) (sRet (fC (.bl false))) sPass) (sSeq (sIf (fT (fOp (g2 gEq) (fVar 1) (fC (.str "price")))) (sRet (fCall F_is_amount [] [none] (fCons (fOp (g2 gIx) (fVar 2) (fC (.int 1))) fNil))) sPass) (sSeq (sIf (fT (fOp (g2 gEq) (fVar 1) (fC (.str "put")))) (sRet (fCall F_is_number [.int 1] [none] (fCons (fOp (g2 gIx) (fVar 2) (fC (.int 1))) fNil))) sPass) (sRet (fAnd (fOp (g2 gEq) (fVar 1) (fC (.str "alter"))) (fD (fCall F_is_number [] [none, none] (fCons (fOp (g2 gIx) (fVar 2) (fC (.int 1))) (fCons (fC (.int 0)) fNil)))))))))))))
def F_is_deed : Fn := fnF 1 2 g_is_deed
theorem fok_is_deed (S : Says K mg) {a : Addr} {fd : FuncData} (FD : FunD K d_is_deed.name d_is_deed.qual d_is_deed.params d_is_deed.body d_is_deed.scope (d_is_deed.dvs K) [] a fd) : FnOk P w K mg base CX0 3 a fd ["thing"] (spD K F_is_deed) := by
  have dd_is_item := dok_is_item (P := P) (w := w) (base := base) S
  have dd_is_amount := dok_is_amount (P := P) (w := w) (base := base) S
  have dd1_is_number := dok1_is_number (P := P) (w := w) (base := base) S
  have dd_is_number := dok_is_number (P := P) (w := w) (base := base) S
  exact fn_ok0 (k := 2) FD sc_is_deed fun cdv A outer s H E hr => by
    unfold g_is_deed
    exact (ss_cons (s_if (t_w (w_or (t_not (t_v (e_isi (m_free_isinstance S) (a_cons (e_var 0) (a_cons (e_ty (m_free_tuple S) boot_tuple') a_nil))))) (w_or (t_eq hr (e_len (m_free_len S) (a_cons (e_var 0) a_nil)) e_int) (w_one (t_not (t_v (e_isi (m_free_isinstance S) (a_cons (e_ix (e_var 0) e_int) (a_cons (e_ty (m_free_str S) boot_str') a_nil))))) (.inr rfl))))) (ss_one (s_ret e_bl)) ss_nil) (ss_cons (s_par 1 2 rfl sc_is_deed.nd (a_cons (e_ix (e_var 0) e_int) (a_cons (e_d (e_sl (e_var 0) (o_some e_int) o_none)) a_nil))) (ss_cons (s_if (t_in (e_var 1) (e_tup (a_cons e_str (a_cons e_str a_nil)))) (ss_one (s_ret (e_eq hr (e_var 2) (e_tup a_nil)))) ss_nil) (ss_cons (s_if (t_eq hr (e_var 1) e_str) (ss_one (s_ret (e_and (e_eq hr (e_len (m_free_len S) (a_cons (e_var 2) a_nil)) e_int) (e_one (e_isi (m_free_isinstance S) (a_cons (e_ix (e_var 2) e_int) (a_cons (e_ty (m_free_bool S) boot_bool') a_nil))))))) ss_nil) (ss_cons (s_if (t_w (w_or (t_ne hr (e_len (m_free_len S) (a_cons (e_var 2) a_nil)) e_int) (w_one (t_not (t_v (e_d (e_call dd_is_item (hr.mono (by decide)) (fun _ => rpl_nil) (a_cons (e_ix (e_var 2) e_int) a_nil))))) (.inr rfl)))) (ss_one (s_ret e_bl)) ss_nil) (ss_cons (s_if (t_eq hr (e_var 1) e_str) (ss_one (s_ret (e_call dd_is_amount (hr.mono (by decide)) (fun _ => rpl_nil) (a_cons (e_ix (e_var 2) e_int) a_nil)))) ss_nil) (ss_cons (s_if (t_eq hr (e_var 1) e_str) (ss_one (s_ret (e_call dd1_is_number (hr.mono (by decide)) (fun _ => by simp [RpL, Rp]) (a_cons (e_ix (e_var 2) e_int) a_nil)))) ss_nil) (ss_one (s_ret (e_and (e_eq hr (e_var 1) e_str) (e_one (e_d (e_call dd_is_number (hr.mono (by decide)) (fun _ => rpl_nil) (a_cons (e_ix (e_var 2) e_int) (a_cons e_int a_nil)))))))))))))))
theorem dok_is_deed (S : Says K mg) : DefOk P w K mg base 3 "is_deed" 1 [] F_is_deed := by
  obtain ⟨fd, FD⟩ := S.c.def_ 15 (d := d_is_deed) rfl
  exact ⟨_, fd, ["thing"], [], m_glo_is_deed S, FD.kp, FD.bindsN (fun _ _ _ _ _ _ us hl => match us, hl with | [_], _ => rfl), .nil, fok_is_deed S FD⟩

def g_check_deeds : Sv := (sSeq (sIf (tNotT (fT (fOf (g22 gIsi) (fCons (fVar 0) (fCons (fC (.ty "list")) fNil))))) sNever sPass) (sFor (lEnum (fVar 0)) (gTu 2 (PL.gCons (gNm 2) (PL.gCons (gNm 3) gsNil))) (sIf (tNotT (fT (fD (fCall F_is_deed [] [none] (fCons (fVar 3) fNil))))) sNever sPass)))
def F_check_deeds : Fn := fnF 2 2 g_check_deeds
theorem fok_check_deeds (S : Says K mg) {a : Addr} {fd : FuncData} (FD : FunD K d_check_deeds.name d_check_deeds.qual d_check_deeds.params d_check_deeds.body d_check_deeds.scope (d_check_deeds.dvs K) [] a fd) : FnOk P w K mg base CX0 4 a fd ["deeds", "first"] (spD K F_check_deeds) := by
  have dd_is_deed := dok_is_deed (P := P) (w := w) (base := base) S
  exact fn_ok0 (k := 3) FD sc_check_deeds fun cdv A outer s H E hr => by
    unfold g_check_deeds
    exact (ss_cons (s_if (t_not (t_v (e_isi (m_free_isinstance S) (a_cons (e_var 0) (a_cons (e_ty (m_free_list S) boot_list') a_nil))))) (ss_one s_never) ss_nil) (ss_one (s_for PassesOwn.never rfl (i_enum (m_free_enumerate S) (e_var 0)) (g_tup rfl (gs_cons (g_name 2 sc_check_deeds.nd) (gs_cons (g_name 3 sc_check_deeds.nd) gs_nil))) (ss_one (s_if (t_not (t_v (e_d (e_call dd_is_deed (hr.mono (by decide)) (fun _ => rpl_nil) (a_cons (e_var 3) a_nil))))) (ss_one s_never) ss_nil)))))
theorem dok_check_deeds (S : Says K mg) : DefOk P w K mg base 4 "check_deeds" 2 [] F_check_deeds := by
  obtain ⟨fd, FD⟩ := S.c.def_ 16 (d := d_check_deeds) rfl
  exact ⟨_, fd, ["deeds", "first"], [], m_glo_check_deeds S, FD.kp, FD.bindsN (fun _ _ _ _ _ _ us hl => match us, hl with | [_, _], _ => rfl), .nil, fok_check_deeds S FD⟩

def g_CartLine__init : Sv := (sSeq (sPut 0 [] ("item", ["CartLine"]) (fVar 1)) (sSeq (sPut 0 [] ("number", ["CartLine"]) (fVar 2)) (sSeq (sPut 0 [] ("kept", ["CartLine"]) (fVar 3)) (sSeq (sPut 0 [] ("shown", ["CartLine"]) (fC .non)) (sPut 0 [] ("greatest", ["CartLine"]) (fC .non))))))
def F_CartLine__init : Fn := fnF 4 0 g_CartLine__init
theorem fok_CartLine__init (S : Says K mg) {a : Addr} {fd : FuncData} (FD : FunD K d_CartLine__init.name d_CartLine__init.qual d_CartLine__init.params d_CartLine__init.body d_CartLine__init.scope (d_CartLine__init.dvs K) [] a fd) : FnOk P w K mg base CX0 1 a fd ["self", "item", "number", "kept"] (spD K F_CartLine__init) := by
  exact fn_ok0 (k := 0) FD sc_CartLine__init fun cdv A outer s H E hr => by
    unfold g_CartLine__init
    exact (ss_cons (s_put (pl_nil 0) (e_var 1) (m_fk_item S)) (ss_cons (s_put (pl_nil 0) (e_var 2) (m_fk_number S)) (ss_cons (s_put (pl_nil 0) (e_var 3) (m_fk_kept S)) (ss_cons (s_put (pl_nil 0) e_non (m_fk_shown S)) (ss_one (s_put (pl_nil 0) e_non (m_fk_greatest S)))))))
theorem kok_CartLine__init (S : Says K mg) : MakOk P w K mg base 1 "CartLine" [] F_CartLine__init := by
  obtain ⟨fd, FD⟩ := S.c.def_ 17 (d := d_CartLine__init) rfl
  exact ⟨m_glo_CartLine S, _, fd, ["self", "item", "number", "kept"], [], m_mkr_CartLine S, FD.bindsN (fun _ _ _ _ _ _ us hl => match us, hl with | [_, _, _, _], _ => rfl), .nil, fok_CartLine__init S FD⟩
def g_CartLine_twin : Sv := (sSeq (sSet 1 (fMake "CartLine" F_CartLine__init [] [none, none, none] (fCons (fPl 0 [("item", ["CartLine"])]) (fCons (fPl 0 [("number", ["CartLine"])]) (fCons (fPl 0 [("kept", ["CartLine"])]) fNil))))) (sSeq (sAsg (fOf PL.gTup (fCons (fPl 0 [("shown", ["CartLine"])]) (fCons (fPl 0 [("greatest", ["CartLine"])]) fNil))) (gTu 2 (PL.gCons (gPut 1 [] ("shown", ["CartLine"])) (PL.gCons (gPut 1 [] ("greatest", ["CartLine"])) gsNil)))) (sRet (fMov 1))))
def F_CartLine_twin : Fn := fnF 1 1 g_CartLine_twin
theorem fok_CartLine_twin (S : Says K mg) {a : Addr} {fd : FuncData} (FD : FunD K d_CartLine_twin.name d_CartLine_twin.qual d_CartLine_twin.params d_CartLine_twin.body d_CartLine_twin.scope (d_CartLine_twin.dvs K) [] a fd) : FnOk P w K mg base CX0 3 a fd ["self"] (spD K F_CartLine_twin) := by
  have mak_CartLine__init := kok_CartLine__init (P := P) (w := w) (base := base) S
  exact fn_ok0 (k := 2) FD sc_CartLine_twin fun cdv A outer s H E hr => by
    unfold g_CartLine_twin
    exact (ss_cons (s_set 1 sc_CartLine_twin.nd (e_make mak_CartLine__init (hr.mono (by decide)) (fun _ => rpl_nil) (a_cons (e_pl (pl_cons (pl_nil 0) (m_fk_item S))) (a_cons (e_pl (pl_cons (pl_nil 0) (m_fk_number S))) (a_cons (e_pl (pl_cons (pl_nil 0) (m_fk_kept S))) a_nil))))) (ss_cons (s_asg (e_tup (a_cons (e_pl (pl_cons (pl_nil 0) (m_fk_shown S))) (a_cons (e_pl (pl_cons (pl_nil 0) (m_fk_greatest S))) a_nil))) (g_tup rfl (gs_cons (g_fld (pl_nil 1) (m_fk_shown S)) (gs_cons (g_fld (pl_nil 1) (m_fk_greatest S)) gs_nil)))) (ss_one (s_ret (e_mov 1)))))
theorem mok_CartLine_twin (S : Says K mg) : MetOk P w K mg base 3 "CartLine" "twin" [] F_CartLine_twin := by
  obtain ⟨fd, FD⟩ := S.c.def_ 18 (d := d_CartLine_twin) rfl
  exact ⟨m_cls_CartLine S, _, fd, ["self"], [], m_meth_CartLine_twin S, FD.bindsN (fun _ _ _ _ _ _ us hl => match us, hl with | [_], _ => rfl), .nil, fok_CartLine_twin S FD⟩
def g_Cart_twin : Sv := (sSeq (sSet 1 (fMake "Cart" F_Cart__init [] [none, none] (fCons (fPl 0 [("design", ["Cart"])]) (fCons (fOf PL.gTup fNil) fNil)))) (sSeq (sPut 1 [] ("amounts", ["Cart"]) (fOf gDictOf (fCons (fPl 0 [("amounts", ["Cart"])]) fNil))) (sSeq (sPut 1 [] ("rows", ["Cart"]) (fLc [2] (lAny (fPl 0 [("rows", ["Cart"])])) (gNm 2) tTrue (fMethO "CartLine" "twin" F_CartLine_twin [] 2 [] fNil))) (sSeq (sPut 1 [] ("is_failed", ["Cart"]) (fPl 0 [("is_failed", ["Cart"])])) (sSeq (sAsg (fOf PL.gTup (fCons (fPl 0 [("spent", ["Cart"])]) (fCons (fPl 0 [("times_asked", ["Cart"])]) fNil))) (gTu 2 (PL.gCons (gPut 1 [] ("spent", ["Cart"])) (PL.gCons (gPut 1 [] ("times_asked", ["Cart"])) gsNil)))) (sRet (fMov 1)))))))
def F_Cart_twin : Fn := fnF 1 2 g_Cart_twin
theorem fok_Cart_twin (S : Says K mg) {a : Addr} {fd : FuncData} (FD : FunD K d_Cart_twin.name d_Cart_twin.qual d_Cart_twin.params d_Cart_twin.body d_Cart_twin.scope (d_Cart_twin.dvs K) [] a fd) : FnOk P w K mg base CX0 4 a fd ["self"] (spD K F_Cart_twin) := by
  have mak_Cart__init := kok_Cart__init (P := P) (w := w) (base := base) S
  have met_CartLine_twin := mok_CartLine_twin (P := P) (w := w) (base := base) S
  exact fn_ok0 (k := 3) FD sc_Cart_twin fun cdv A outer s H E hr => by
    unfold g_Cart_twin
    exact (ss_cons (s_set 1 sc_Cart_twin.nd (e_make mak_Cart__init (hr.mono (by decide)) (fun _ => rpl_nil) (a_cons (e_pl (pl_cons (pl_nil 0) (m_fk_design S))) (a_cons (e_tup a_nil) a_nil)))) (ss_cons (s_put (pl_nil 1) (e_dictOf (m_free_dict S) (a_cons (e_pl (pl_cons (pl_nil 0) (m_fk_amounts S))) a_nil)) (m_fk_amounts S)) (ss_cons (s_put (pl_nil 1) (e_lc (own := [("row", 2)]) rfl sc_Cart_twin.nd (i_any (e_pl (pl_cons (pl_nil 0) (m_fk_rows S)))) (blkOk_by (own := [("row", 2)]) (N := N_Cart_twin) (sc := defScope s_Cart_twin) (by decide +kernel)) (by decide) (fun _ _ _ _ _ => (g_name 2 sc_Cart_twin.nd)) (fun _ _ _ _ _ => ts_nil) (fun _ _ _ _ _ => (e_methO0 2 met_CartLine_twin (hr.mono (by decide)) (fun _ => rpl_nil)))) (m_fk_rows S)) (ss_cons (s_put (pl_nil 1) (e_pl (pl_cons (pl_nil 0) (m_fk_is_failed S))) (m_fk_is_failed S)) (ss_cons (s_asg (e_tup (a_cons (e_pl (pl_cons (pl_nil 0) (m_fk_spent S))) (a_cons (e_pl (pl_cons (pl_nil 0) (m_fk_times_asked S))) a_nil))) (g_tup rfl (gs_cons (g_fld (pl_nil 1) (m_fk_spent S)) (gs_cons (g_fld (pl_nil 1) (m_fk_times_asked S)) gs_nil)))) (ss_one (s_ret (e_mov 1))))))))
theorem mok_Cart_twin (S : Says K mg) : MetOk P w K mg base 4 "Cart" "twin" [] F_Cart_twin := by
  obtain ⟨fd, FD⟩ := S.c.def_ 19 (d := d_Cart_twin) rfl
  exact ⟨m_cls_Cart S, _, fd, ["self"], [], m_meth_Cart_twin S, FD.bindsN (fun _ _ _ _ _ _ us hl => match us, hl with | [_], _ => rfl), .nil, fok_Cart_twin S FD⟩
def g_Cart_row_of : Sv := (sSeq (sFor (lAny (fPl 0 [("rows", ["Cart"])])) (gNm 2) (sIf (fT (fOp (g2 gEq) (fPl 2 [("item", ["CartLine"])]) (fVar 1))) (sRet (fVar 2)) sPass)) (sRet (fC .non)))
def F_Cart_row_of : Fn := fnF 2 1 g_Cart_row_of
theorem fok_Cart_row_of (S : Says K mg) {a : Addr} {fd : FuncData} (FD : FunD K d_Cart_row_of.name d_Cart_row_of.qual d_Cart_row_of.params d_Cart_row_of.body d_Cart_row_of.scope (d_Cart_row_of.dvs K) [] a fd) : FnOk P w K mg base CX0 1 a fd ["self", "item"] (spD K F_Cart_row_of) := by
  exact fn_ok0 (k := 0) FD sc_Cart_row_of fun cdv A outer s H E hr => by
    unfold g_Cart_row_of
    exact (ss_cons (s_for PassesOwn.never rfl (i_any (e_pl (pl_cons (pl_nil 0) (m_fk_rows S)))) (g_name 2 sc_Cart_row_of.nd) (ss_one (s_if (t_eq hr (e_pl (pl_cons (pl_nil 2) (m_fk_item S))) (e_var 1)) (ss_one (s_ret (e_var 2))) ss_nil))) (ss_one (s_ret e_non)))
theorem mok_Cart_row_of (S : Says K mg) : MetOk P w K mg base 1 "Cart" "row_of" [] F_Cart_row_of := by
  obtain ⟨fd, FD⟩ := S.c.def_ 20 (d := d_Cart_row_of) rfl
  exact ⟨m_cls_Cart S, _, fd, ["self", "item"], [], m_meth_Cart_row_of S, FD.bindsN (fun _ _ _ _ _ _ us hl => match us, hl with | [_, _], _ => rfl), .nil, fok_Cart_row_of S FD⟩
def g_Cart_check : Sv := (sSeq (sIf (tAndT (fT (fOp (g2 (gIn false)) (fOp (g2 gIx) (fVar 1) (fC (.int 0))) (fOf PL.gTup (fCons (fC (.str "price")) (fCons (fC (.str "put")) (fCons (fC (.str "alter")) fNil)))))) (tPeek (fT (fOp (g2 (gDIn true)) (fOp (g2 gIx) (fVar 1) (fC (.int 1))) (fPl 0 [("amounts", ["Cart"])]))))) sNever sPass) (sIf (tAndT (fT (fOp (g2 gEq) (fOp (g2 gIx) (fVar 1) (fC (.int 0))) (fC (.str "alter")))) (tPeek (fT (fOp (g2 (gIsN true)) (fD (fMethO "Cart" "row_of" F_Cart_row_of [] 0 [none] (fCons (fOp (g2 gIx) (fVar 1) (fC (.int 1))) fNil))) (fC .non))))) sNever sPass))
def F_Cart_check : Fn := fnF 3 0 g_Cart_check
theorem fok_Cart_check (S : Says K mg) {a : Addr} {fd : FuncData} (FD : FunD K d_Cart_check.name d_Cart_check.qual d_Cart_check.params d_Cart_check.body d_Cart_check.scope (d_Cart_check.dvs K) [] a fd) : FnOk P w K mg base CX0 2 a fd ["self", "deed", "index"] (spD K F_Cart_check) := by
  have met_Cart_row_of := mok_Cart_row_of (P := P) (w := w) (base := base) S
  exact fn_ok0 (k := 1) FD sc_Cart_check fun cdv A outer s H E hr => by
    unfold g_Cart_check
    exact (ss_cons (s_if (t_w (w_and (t_in (e_ix (e_var 1) e_int) (e_tup (a_cons e_str (a_cons e_str (a_cons e_str a_nil))))) (w_one (t_peek (t_dnotin hr (e_ix (e_var 1) e_int) (e_pl (pl_cons (pl_nil 0) (m_fk_amounts S))))) (.inl rfl)))) (ss_one s_never) ss_nil) (ss_one (s_if (t_w (w_and (t_eq hr (e_ix (e_var 1) e_int) e_str) (w_one (t_peek (t_isN (e_d (e_methO 0 met_Cart_row_of (hr.mono (by decide)) (fun _ => rpl_nil) (a_cons (e_ix (e_var 1) e_int) a_nil))) e_non)) (.inl rfl)))) (ss_one s_never) ss_nil)))
theorem mok_Cart_check (S : Says K mg) : MetOk P w K mg base 2 "Cart" "check" [] F_Cart_check := by
  obtain ⟨fd, FD⟩ := S.c.def_ 21 (d := d_Cart_check) rfl
  exact ⟨m_cls_Cart S, _, fd, ["self", "deed", "index"], [], m_meth_Cart_check S, FD.bindsN (fun _ _ _ _ _ _ us hl => match us, hl with | [_, _, _], _ => rfl), .nil, fok_Cart_check S FD⟩
def g_Cart_report : Sv := (sSeq (sFrz 3 (sSet 3 (fPeek (fLc [5] (lAny (fPl 0 [("rows", ["Cart"])])) (gNm 5) tTrue (fOf PL.gTup (fCons (fPl 5 [("item", ["CartLine"])]) (fCons (fPl 5 [("number", ["CartLine"])]) (fCons (fPl 5 [("shown", ["CartLine"])]) fNil)))))))) (sSeq (sIf (fT (fOp (g2 gNe) (fVar 1) (fOf PL.gTup (fCons (fC (.str "pay")) (fCons (fC (.bl true)) fNil))))) (sRet (fOf PL.gTup (fCons (fVar 3) (fCons (fVar 2) (fCons (fC .non) fNil))))) sPass) (sSeq (sFrz 4 (sSet 4 (fPeek (fLc [5] (lAny (fPl 0 [("rows", ["Cart"])])) (gNm 5) tTrue (fOf PL.gTup (fCons (fPl 5 [("item", ["CartLine"])]) (fCons (fPl 5 [("number", ["CartLine"])]) (fCons (fPl 5 [("kept", ["CartLine"])]) fNil)))))))) (sSeq (sAug 0 ("spent", ["Cart"]) (fOf (PL.g1 gSum) (fCons (fD (fLc [6, 7, 8] (lAny (fVar 4)) (gTu 3 (PL.gCons (gNm 6) (PL.gCons (gNm 7) (PL.gCons (gNm 8) gsNil)))) tTrue (fD (fOp (g2m gMul) (fVar 7) (fVar 8))))) fNil))) (sSeq (sPut 0 [] ("rows", ["Cart"]) (fOf gLst fNil)) (sRet (fOf PL.gTup (fCons (fVar 3) (fCons (fVar 2) (fCons (fVar 4) fNil))))))))))
def F_Cart_report : Fn := fnF 3 6 g_Cart_report
theorem fok_Cart_report (S : Says K mg) {a : Addr} {fd : FuncData} (FD : FunD K d_Cart_report.name d_Cart_report.qual d_Cart_report.params d_Cart_report.body d_Cart_report.scope (d_Cart_report.dvs K) [] a fd) : FnOk P w K mg base CX0 1 a fd ["self", "deed", "names"] (spD K F_Cart_report) := by
  exact fn_ok0 (k := 0) FD sc_Cart_report fun cdv A outer s H E hr => by
    unfold g_Cart_report
    exact (ss_cons (s_frz 3 (s_setLcP 3 (own := [("row", 5)]) rfl sc_Cart_report.nd (i_any (e_pl (pl_cons (pl_nil 0) (m_fk_rows S)))) (blkOk_by (own := [("row", 5)]) (N := N_Cart_report) (sc := defScope s_Cart_report) (by decide +kernel)) (by decide) (fun _ _ _ _ _ => (g_name 5 sc_Cart_report.nd)) (fun _ _ _ _ _ => ts_nil) (fun _ _ _ _ _ => (e_tup (a_cons (e_pl (pl_cons (pl_nil 5) (m_fk_item S))) (a_cons (e_pl (pl_cons (pl_nil 5) (m_fk_number S))) (a_cons (e_pl (pl_cons (pl_nil 5) (m_fk_shown S))) a_nil))))) (sw_true rfl rfl rfl (by decide +kernel)))) (ss_cons (s_if (t_ne hr (e_var 1) (e_tup (a_cons e_str (a_cons e_bl a_nil)))) (ss_one (s_ret (e_tup (a_cons (e_var 3) (a_cons (e_var 2) (a_cons e_non a_nil)))))) ss_nil) (ss_cons (s_frz 4 (s_setLcP 4 (own := [("row", 5)]) rfl sc_Cart_report.nd (i_any (e_pl (pl_cons (pl_nil 0) (m_fk_rows S)))) (blkOk_by (own := [("row", 5)]) (N := N_Cart_report) (sc := defScope s_Cart_report) (by decide +kernel)) (by decide) (fun _ _ _ _ _ => (g_name 5 sc_Cart_report.nd)) (fun _ _ _ _ _ => ts_nil) (fun _ _ _ _ _ => (e_tup (a_cons (e_pl (pl_cons (pl_nil 5) (m_fk_item S))) (a_cons (e_pl (pl_cons (pl_nil 5) (m_fk_number S))) (a_cons (e_pl (pl_cons (pl_nil 5) (m_fk_kept S))) a_nil))))) (sw_true rfl rfl rfl (by decide +kernel)))) (ss_cons (s_aug (pl_nil 0) (e_sum rfl (m_free_sum S) (a_cons (e_d (e_lc (own := [("item", 6), ("number", 7), ("amount", 8)]) rfl sc_Cart_report.nd (i_any (e_var 4)) (blkOk_by (own := [("item", 6), ("number", 7), ("amount", 8)]) (N := N_Cart_report) (sc := defScope s_Cart_report) (by decide +kernel)) (by decide) (fun _ _ _ _ _ => (g_tup rfl (gs_cons (g_name 6 sc_Cart_report.nd) (gs_cons (g_name 7 sc_Cart_report.nd) (gs_cons (g_name 8 sc_Cart_report.nd) gs_nil))))) (fun _ _ _ _ _ => ts_nil) (fun _ _ _ _ _ => (e_d (e_mul (e_var 7) (e_var 8)))))) a_nil)) (m_fk_spent S)) (ss_cons (s_put (pl_nil 0) (e_lst a_nil) (m_fk_rows S)) (ss_one (s_ret (e_tup (a_cons (e_var 3) (a_cons (e_var 2) (a_cons (e_var 4) a_nil)))))))))))
theorem mok_Cart_report (S : Says K mg) : MetOk P w K mg base 1 "Cart" "report" [] F_Cart_report := by
  obtain ⟨fd, FD⟩ := S.c.def_ 22 (d := d_Cart_report) rfl
  exact ⟨m_cls_Cart S, _, fd, ["self", "deed", "names"], [], m_meth_Cart_report S, FD.bindsN (fun _ _ _ _ _ _ us hl => match us, hl with | [_, _, _], _ => rfl), .nil, fok_Cart_report S FD⟩
def g_Cart_touched : Wv := (wSeq (wOf (sIf (fT (fOp (g2 (gIn true)) (fOp (g2 gIx) (fVar 1) (fC (.int 0))) (fOf PL.gTup (fCons (fC (.str "put")) (fCons (fC (.str "alter")) fNil))))) (sRet (fPeek (fOf (g1m gLstOf) (fCons (fPl 0 [("rows", ["Cart"])]) fNil)))) sPass)) (wSeq (wOf (sSet 2 (fPeek (fMethO "Cart" "row_of" F_Cart_row_of [] 0 [none] (fCons (fOp (g2 gIx) (fVar 1) (fC (.int 1))) fNil))))) (wSeq (wIf (fT (fOp (g2 gEq) (fOp (g2 gIx) (fVar 1) (fC (.int 0))) (fC (.str "alter")))) (wOf (sSeq (sPut 2 [] ("number", ["CartLine"]) (fOp (g2 gIx) (fVar 1) (fC (.int 2)))) (sIf (fT (fOp (g2 gEq) (fOp (g2 gIx) (fVar 1) (fC (.int 2))) (fC (.int 0)))) (sSeq (sPut 0 [] ("rows", ["Cart"]) (fPeek (fLc [3] (lAny (fPl 0 [("rows", ["Cart"])])) (gNm 3) (fT (fOp (g2 gNe) (fPl 3 [("item", ["CartLine"])]) (fOp (g2 gIx) (fVar 1) (fC (.int 1))))) (fVar 3)))) (sRet (fOf gLst fNil))) sPass))) (wIf (fT (fOp (g2 (gIsN true)) (fVar 2) (fC .non))) (wSeq (wCell 2 0 (sSet 2 (fMake "CartLine" F_CartLine__init [] [none, none, none] (fCons (fOp (g2 gIx) (fVar 1) (fC (.int 1))) (fCons (fOp (g2 gIx) (fVar 1) (fC (.int 2))) (fCons (fDGetP 0 [("amounts", ["Cart"])] (fPeek (fOp (g2 gIx) (fVar 1) (fC (.int 1))))) fNil)))))) (wOf (sAppP 0 [("rows", ["Cart"])] (fVar 2)))) (wOf (sAug 2 ("number", ["CartLine"]) (fOp (g2 gIx) (fVar 1) (fC (.int 2))))))) (wOf (sRet (fOf gLst (fCons (fVar 2) fNil)))))))
def W_Cart_touched : Wn := wnF 2 2 g_Cart_touched
theorem fokW_Cart_touched (S : Says K mg) {a : Addr} {fd : FuncData} (FD : FunD K d_Cart_touched.name d_Cart_touched.qual d_Cart_touched.params d_Cart_touched.body d_Cart_touched.scope (d_Cart_touched.dvs K) [] a fd) : FnOk P w K mg base CX0 3 a fd ["self", "deed"] (spW K W_Cart_touched) := by
  have met_Cart_row_of := mok_Cart_row_of (P := P) (w := w) (base := base) S
  have mak_CartLine__init := kok_CartLine__init (P := P) (w := w) (base := base) S
  exact fn_okW (k := 2) FD sc_Cart_touched fun cdv A outer s H E hr => by
    unfold g_Cart_touched
    exact (sws_cons (sw_of (s_if (t_nin (e_ix (e_var 1) e_int) (e_tup (a_cons e_str (a_cons e_str a_nil)))) (ss_one (s_ret (e_peek (e_lstOf (m_free_list S) (a_cons (e_pl (pl_cons (pl_nil 0) (m_fk_rows S))) a_nil))))) ss_nil)) (sws_cons (sw_of (s_set 2 sc_Cart_touched.nd (e_peek (e_methO 0 met_Cart_row_of (hr.mono (by decide)) (fun _ => rpl_nil) (a_cons (e_ix (e_var 1) e_int) a_nil))))) (sws_cons (sw_if (t_eq hr (e_ix (e_var 1) e_int) e_str) (sws_of (ss_cons (s_put (pl_nil 2) (e_ix (e_var 1) e_int) (m_fk_number S)) (ss_one (s_if (t_eq hr (e_ix (e_var 1) e_int) e_int) (ss_cons (s_put (pl_nil 0) (e_peek (e_lc (own := [("other", 3)]) rfl sc_Cart_touched.nd (i_any (e_pl (pl_cons (pl_nil 0) (m_fk_rows S)))) (blkOk_by (own := [("other", 3)]) (N := N_Cart_touched) (sc := defScope s_Cart_touched) (by decide +kernel)) (by decide) (fun _ _ _ _ _ => (g_name 3 sc_Cart_touched.nd)) (fun _ _ _ _ _ => (ts_one (t_ne hr (e_pl (pl_cons (pl_nil 3) (m_fk_item S))) (e_ix (e_var 1) e_int)))) (fun _ _ _ _ _ => (e_var 3)))) (m_fk_rows S)) (ss_one (s_ret (e_lst a_nil)))) ss_nil)))) (sws_one (sw_if (t_isN (e_var 2) e_non) (sws_cons (sw_cell 2 0 (s_set 2 sc_Cart_touched.nd (e_make mak_CartLine__init (hr.mono (by decide)) (fun _ => rpl_nil) (a_cons (e_ix (e_var 1) e_int) (a_cons (e_ix (e_var 1) e_int) (a_cons (e_dgetP hr (pl_cons (pl_nil 0) (m_fk_amounts S)) (k_peek (e_ix (e_var 1) e_int)) kp_peek) a_nil)))))) (sws_of (ss_one (s_appP (pl_cons (pl_nil 0) (m_fk_rows S)) (k_var 2) kp_var)))) (sws_of (ss_one (s_aug (pl_nil 2) (e_ix (e_var 1) e_int) (m_fk_number S))))))) (sws_of (ss_one (s_ret (e_lst (a_cons (e_var 2) a_nil))))))))
theorem mwok_Cart_touched (S : Says K mg) : MetWOk P w K mg base 3 "Cart" "touched" W_Cart_touched := by
  obtain ⟨fd, FD⟩ := S.c.def_ 23 (d := d_Cart_touched) rfl
  exact ⟨m_cls_Cart S, _, fd, ["self", "deed"], m_meth_Cart_touched S, FD.bindsN (fun _ _ _ _ _ _ us hl => match us, hl with | [_, _], _ => rfl), fokW_Cart_touched S FD⟩
def g_LineWork_carry_out : Sv := (sIf (fT (fOp (g2 gEq) (fVar 1) (fC (.str "take")))) (sPut 0 [] ("stays", ["LineWork"]) (fVar 2)) (sIf (fT (fOp (g2 gEq) (fVar 1) (fC (.str "least")))) (sPut 0 [] ("stays", ["LineWork"]) (fOf (g22 gMin) (fCons (fPl 0 [("stays", ["LineWork"])]) (fCons (fVar 2) fNil)))) (sIf (fT (fOp (g2 gEq) (fVar 1) (fC (.str "last")))) (sIf (fT (fOp (g2 (gIsN false)) (fPl 0 [("seen", ["LineWork"])]) (fC .non))) (sPut 0 [] ("stays", ["LineWork"]) (fPl 0 [("seen", ["LineWork"])])) sPass) (sIf (tOrT (fT (fOp (g2 gEq) (fVar 1) (fC (.str "show")))) (tOrT (fT (fOp (g2 (gIsN true)) (fPl 0 [("seen", ["LineWork"])]) (fC .non))) (fT (fOp (g2 gNe) (fPl 0 [("seen", ["LineWork"])]) (fPl 0 [("stays", ["LineWork"])]))))) (sSeq (sIf (fT (fOp (g2 gEq) (fVar 1) (fC (.str "ask")))) (sAug 0 ("times", ["LineWork"]) (fC (.int 1))) sPass) (sSeq (sPut 0 [] ("seen", ["LineWork"]) (fPl 0 [("stays", ["LineWork"])])) (sAppP 0 [("told", ["LineWork"])] (fPl 0 [("stays", ["LineWork"])])))) sPass))))
def F_LineWork_carry_out : Fn := fnF 3 0 g_LineWork_carry_out
theorem fok_LineWork_carry_out (S : Says K mg) {a : Addr} {fd : FuncData} (FD : FunD K d_LineWork_carry_out.name d_LineWork_carry_out.qual d_LineWork_carry_out.params d_LineWork_carry_out.body d_LineWork_carry_out.scope (d_LineWork_carry_out.dvs K) [] a fd) : FnOk P w K mg base CX0 1 a fd ["self", "action", "now"] (spD K F_LineWork_carry_out) := by
  exact fn_ok0 (k := 0) FD sc_LineWork_carry_out fun cdv A outer s H E hr => by
    unfold g_LineWork_carry_out
    exact (ss_one (s_if (t_eq hr (e_var 1) e_str) (ss_one (s_put (pl_nil 0) (e_var 2) (m_fk_stays S))) (ss_one (s_if (t_eq hr (e_var 1) e_str) (ss_one (s_put (pl_nil 0) (e_min rfl (m_free_min S) (a_cons (e_pl (pl_cons (pl_nil 0) (m_fk_stays S))) (a_cons (e_var 2) a_nil))) (m_fk_stays S))) (ss_one (s_if (t_eq hr (e_var 1) e_str) (ss_one (s_if (t_notN (e_pl (pl_cons (pl_nil 0) (m_fk_seen S))) e_non) (ss_one (s_put (pl_nil 0) (e_pl (pl_cons (pl_nil 0) (m_fk_seen S))) (m_fk_stays S))) ss_nil)) (ss_one (s_if (t_w (w_or (t_eq hr (e_var 1) e_str) (w_or (t_isN (e_pl (pl_cons (pl_nil 0) (m_fk_seen S))) e_non) (w_one (t_ne hr (e_pl (pl_cons (pl_nil 0) (m_fk_seen S))) (e_pl (pl_cons (pl_nil 0) (m_fk_stays S)))) (.inr rfl))))) (ss_cons (s_if (t_eq hr (e_var 1) e_str) (ss_one (s_aug (pl_nil 0) e_int (m_fk_times S))) ss_nil) (ss_cons (s_put (pl_nil 0) (e_pl (pl_cons (pl_nil 0) (m_fk_stays S))) (m_fk_seen S)) (ss_one (s_appP (pl_cons (pl_nil 0) (m_fk_told S)) (k_pl (pl_cons (pl_nil 0) (m_fk_stays S))) kp_pl)))) ss_nil))))))))
theorem mok_LineWork_carry_out (S : Says K mg) : MetOk P w K mg base 1 "LineWork" "carry_out" [] F_LineWork_carry_out := by
  obtain ⟨fd, FD⟩ := S.c.def_ 24 (d := d_LineWork_carry_out) rfl
  exact ⟨m_cls_LineWork S, _, fd, ["self", "action", "now"], [], m_meth_LineWork_carry_out S, FD.bindsN (fun _ _ _ _ _ _ us hl => match us, hl with | [_, _, _], _ => rfl), .nil, fok_LineWork_carry_out S FD⟩
def g_LineWork__init : Sv := (sSeq (sPut 0 [] ("stays", ["LineWork"]) (fVar 2)) (sSeq (sPut 0 [] ("seen", ["LineWork"]) (fVar 3)) (sSeq (sPut 0 [] ("told", ["LineWork"]) (fOf gLst fNil)) (sSeq (sPut 0 [] ("times", ["LineWork"]) (fC (.int 0))) (sFor (lAny (fVar 1)) (gNm 5) (sDrop (fMethO "LineWork" "carry_out" F_LineWork_carry_out [] 0 [none, none] (fCons (fVar 5) (fCons (fVar 4) fNil)))))))))
def F_LineWork__init : Fn := fnF 5 1 g_LineWork__init
theorem fok_LineWork__init (S : Says K mg) {a : Addr} {fd : FuncData} (FD : FunD K d_LineWork__init.name d_LineWork__init.qual d_LineWork__init.params d_LineWork__init.body d_LineWork__init.scope (d_LineWork__init.dvs K) [] a fd) : FnOk P w K mg base CX0 2 a fd ["self", "rule", "kept", "shown", "now"] (spD K F_LineWork__init) := by
  have met_LineWork_carry_out := mok_LineWork_carry_out (P := P) (w := w) (base := base) S
  exact fn_ok0 (k := 1) FD sc_LineWork__init fun cdv A outer s H E hr => by
    unfold g_LineWork__init
    exact (ss_cons (s_put (pl_nil 0) (e_var 2) (m_fk_stays S)) (ss_cons (s_put (pl_nil 0) (e_var 3) (m_fk_seen S)) (ss_cons (s_put (pl_nil 0) (e_lst a_nil) (m_fk_told S)) (ss_cons (s_put (pl_nil 0) e_int (m_fk_times S)) (ss_one (s_for PassesOwn.never rfl (i_any (e_var 1)) (g_name 5 sc_LineWork__init.nd) (ss_one (s_expr (e_methO 0 met_LineWork_carry_out (hr.mono (by decide)) (fun _ => rpl_nil) (a_cons (e_var 5) (a_cons (e_var 4) a_nil)))))))))))
theorem kok_LineWork__init (S : Says K mg) : MakOk P w K mg base 2 "LineWork" [] F_LineWork__init := by
  obtain ⟨fd, FD⟩ := S.c.def_ 25 (d := d_LineWork__init) rfl
  exact ⟨m_glo_LineWork S, _, fd, ["self", "rule", "kept", "shown", "now"], [], m_mkr_LineWork S, FD.bindsN (fun _ _ _ _ _ _ us hl => match us, hl with | [_, _, _, _, _], _ => rfl), .nil, fok_LineWork__init S FD⟩
def g_CartLine_carry_out : Sv := (sSeq (sSet 3 (fD (fMake "LineWork" F_LineWork__init [] [none, none, none, none] (fCons (fVar 1) (fCons (fPl 0 [("kept", ["CartLine"])]) (fCons (fPl 0 [("shown", ["CartLine"])]) (fCons (fVar 2) fNil))))))) (sSeq (sAsg (fOf PL.gTup (fCons (fPl 3 [("stays", ["LineWork"])]) (fCons (fPl 3 [("seen", ["LineWork"])]) fNil))) (gTu 2 (PL.gCons (gPut 0 [] ("kept", ["CartLine"])) (PL.gCons (gPut 0 [] ("shown", ["CartLine"])) gsNil)))) (sSeq (sFor (lAny (fPl 3 [("told", ["LineWork"])])) (gNm 4) (sPut 0 [] ("greatest", ["CartLine"]) (fD (fIf (fT (fOp (g2 (gIsN true)) (fPl 0 [("greatest", ["CartLine"])]) (fC .non))) (fVar 4) (fOf (g22 gMax) (fCons (fPl 0 [("greatest", ["CartLine"])]) (fCons (fVar 4) fNil))))))) (sRet (fPl 3 [("times", ["LineWork"])])))))
def F_CartLine_carry_out : Fn := fnF 3 2 g_CartLine_carry_out
theorem fok_CartLine_carry_out (S : Says K mg) {a : Addr} {fd : FuncData} (FD : FunD K d_CartLine_carry_out.name d_CartLine_carry_out.qual d_CartLine_carry_out.params d_CartLine_carry_out.body d_CartLine_carry_out.scope (d_CartLine_carry_out.dvs K) [] a fd) : FnOk P w K mg base CX0 4 a fd ["self", "rule", "now"] (spD K F_CartLine_carry_out) := by
  have mak_LineWork__init := kok_LineWork__init (P := P) (w := w) (base := base) S
  exact fn_ok0 (k := 3) FD sc_CartLine_carry_out fun cdv A outer s H E hr => by
    unfold g_CartLine_carry_out
    exact (ss_cons (s_set 3 sc_CartLine_carry_out.nd (e_d (e_make mak_LineWork__init (hr.mono (by decide)) (fun _ => rpl_nil) (a_cons (e_var 1) (a_cons (e_pl (pl_cons (pl_nil 0) (m_fk_kept S))) (a_cons (e_pl (pl_cons (pl_nil 0) (m_fk_shown S))) (a_cons (e_var 2) a_nil))))))) (ss_cons (s_asg (e_tup (a_cons (e_pl (pl_cons (pl_nil 3) (m_fk_stays S))) (a_cons (e_pl (pl_cons (pl_nil 3) (m_fk_seen S))) a_nil))) (g_tup rfl (gs_cons (g_fld (pl_nil 0) (m_fk_kept S)) (gs_cons (g_fld (pl_nil 0) (m_fk_shown S)) gs_nil)))) (ss_cons (s_for PassesOwn.never rfl (i_any (e_pl (pl_cons (pl_nil 3) (m_fk_told S)))) (g_name 4 sc_CartLine_carry_out.nd) (ss_one (s_put (pl_nil 0) (e_d (e_if (t_isN (e_pl (pl_cons (pl_nil 0) (m_fk_greatest S))) e_non) (e_var 4) (e_max rfl (m_free_max S) (a_cons (e_pl (pl_cons (pl_nil 0) (m_fk_greatest S))) (a_cons (e_var 4) a_nil))))) (m_fk_greatest S)))) (ss_one (s_ret (e_pl (pl_cons (pl_nil 3) (m_fk_times S))))))))
theorem mok_CartLine_carry_out (S : Says K mg) : MetOk P w K mg base 4 "CartLine" "carry_out" [] F_CartLine_carry_out := by
  obtain ⟨fd, FD⟩ := S.c.def_ 26 (d := d_CartLine_carry_out) rfl
  exact ⟨m_cls_CartLine S, _, fd, ["self", "rule", "now"], [], m_meth_CartLine_carry_out S, FD.bindsN (fun _ _ _ _ _ _ us hl => match us, hl with | [_, _, _], _ => rfl), .nil, fok_CartLine_carry_out S FD⟩
def g_is_door : Sv := (sRet (fAnd (fOf (g22 gIsi) (fCons (fVar 0) (fCons (fC (.ty "str")) fNil))) (fOp (g2 (gIn false)) (fVar 0) (fC (.tup [.str "put", .str "look", .str "alter", .str "back", .str "pay", .str "again"])))))
def F_is_door : Fn := fnF 1 0 g_is_door
theorem fok_is_door (S : Says K mg) {a : Addr} {fd : FuncData} (FD : FunD K d_is_door.name d_is_door.qual d_is_door.params d_is_door.body d_is_door.scope (d_is_door.dvs K) [] a fd) : FnOk P w K mg base CX0 1 a fd ["thing"] (spD K F_is_door) := by
  exact fn_ok0 (k := 0) FD sc_is_door fun cdv A outer s H E hr => by
    unfold g_is_door
    exact (ss_one (s_ret (e_and (e_isi (m_free_isinstance S) (a_cons (e_var 0) (a_cons (e_ty (m_free_str S) boot_str') a_nil))) (e_one (e_in (e_var 0) (e_globT (m_tup_DOORS S)))))))
theorem dok_is_door (S : Says K mg) : DefOk P w K mg base 1 "is_door" 1 [] F_is_door := by
  obtain ⟨fd, FD⟩ := S.c.def_ 27 (d := d_is_door) rfl
  exact ⟨_, fd, ["thing"], [], m_glo_is_door S, FD.kp, FD.bindsN (fun _ _ _ _ _ _ us hl => match us, hl with | [_], _ => rfl), .nil, fok_is_door S FD⟩

def g_Book_rule : Sv := (sSeq (sIf (tNotT (fT (fD (fCall F_is_door [] [none] (fCons (fVar 1) fNil))))) sNever sPass) (sRet (fOp (g2 gIx) (fPl 0 [("row", ["Book"])]) (fD (fUnD (gTidx ["put", "look", "alter", "back", "pay", "again"]) (fVar 1))))))
def F_Book_rule : Fn := fnF 2 0 g_Book_rule
theorem fok_Book_rule (S : Says K mg) {a : Addr} {fd : FuncData} (FD : FunD K d_Book_rule.name d_Book_rule.qual d_Book_rule.params d_Book_rule.body d_Book_rule.scope (d_Book_rule.dvs K) [] a fd) : FnOk P w K mg base CX0 2 a fd ["self", "door"] (spD K F_Book_rule) := by
  have dd_is_door := dok_is_door (P := P) (w := w) (base := base) S
  exact fn_ok0 (k := 1) FD sc_Book_rule fun cdv A outer s H E hr => by
    unfold g_Book_rule
    exact (ss_cons (s_if (t_not (t_v (e_d (e_call dd_is_door (hr.mono (by decide)) (fun _ => rpl_nil) (a_cons (e_var 1) a_nil))))) (ss_one s_never) ss_nil) (ss_one (s_ret (e_ix (e_pl (pl_cons (pl_nil 0) (m_fk_row S))) (e_d (e_tidx (m_tupx_DOORS S) (e_var 1)))))))
theorem mok_Book_rule (S : Says K mg) : MetOk P w K mg base 2 "Book" "rule" [] F_Book_rule := by
  obtain ⟨fd, FD⟩ := S.c.def_ 28 (d := d_Book_rule) rfl
  exact ⟨m_cls_Book S, _, fd, ["self", "door"], [], m_meth_Book_rule S, FD.bindsN (fun _ _ _ _ _ _ us hl => match us, hl with | [_, _], _ => rfl), .nil, fok_Book_rule S FD⟩
def g_Cart_carry_out : Wv := (wSeq (wOf (sSet 2 (fD (fIf (tAndT (fT (fOp (g2 gEq) (fOp (g2 gIx) (fVar 1) (fC (.int 0))) (fC (.str "pay")))) (fT (fPl 0 [("is_failed", ["Cart"])]))) (fC (.str "again")) (fOp (g2 gIx) (fVar 1) (fC (.int 0))))))) (wSeq (wOf (sSet 3 (fOf gLst fNil))) (wSeq (wFor (wList (wMethO "Cart" "touched" W_Cart_touched 0 [none] (fCons (fVar 1) fNil))) (gNm 4) (sSeq (sSet 5 (fD (fMethO "CartLine" "carry_out" F_CartLine_carry_out [] 4 [none, none] (fCons (fD (fMeth "Book" "rule" F_Book_rule [] (fPl 0 [("design", ["Cart"])]) [none] (fCons (fVar 2) fNil))) (fCons (fDGetP 0 [("amounts", ["Cart"])] (fPl 4 [("item", ["CartLine"])])) fNil))))) (sExt 3 (fOp gRep (fOf gLst (fCons (fPl 4 [("item", ["CartLine"])]) fNil)) (fVar 5))))) (wOf (sSeq (sPut 0 [] ("is_failed", ["Cart"]) (fOp (g2 gEq) (fVar 1) (fOf PL.gTup (fCons (fC (.str "pay")) (fCons (fC (.bl false)) fNil))))) (sSeq (sAug 0 ("times_asked", ["Cart"]) (fLenO 3)) (sRet (fMov 3))))))))
def W_Cart_carry_out : Wn := wnF 2 4 g_Cart_carry_out
theorem fokW_Cart_carry_out (S : Says K mg) {a : Addr} {fd : FuncData} (FD : FunD K d_Cart_carry_out.name d_Cart_carry_out.qual d_Cart_carry_out.params d_Cart_carry_out.body d_Cart_carry_out.scope (d_Cart_carry_out.dvs K) [] a fd) : FnOk P w K mg base CX0 5 a fd ["self", "deed"] (spW K W_Cart_carry_out) := by
  have metw_Cart_touched := mwok_Cart_touched (P := P) (w := w) (base := base) S
  have met_CartLine_carry_out := mok_CartLine_carry_out (P := P) (w := w) (base := base) S
  have met_Book_rule := mok_Book_rule (P := P) (w := w) (base := base) S
  exact fn_okW (k := 4) FD sc_Cart_carry_out fun cdv A outer s H E hr => by
    unfold g_Cart_carry_out
    exact (sws_cons (sw_of (s_set 2 sc_Cart_carry_out.nd (e_d (e_if (t_w (w_and (t_eq hr (e_ix (e_var 1) e_int) e_str) (w_one (t_v (e_pl (pl_cons (pl_nil 0) (m_fk_is_failed S)))) (.inl rfl)))) e_str (e_ix (e_var 1) e_int))))) (sws_cons (sw_of (s_set 3 sc_Cart_carry_out.nd (e_lst a_nil))) (sws_cons (s_forW PassesOwn.never rfl (i_listW (e_methOW 0 metw_Cart_touched (hr.mono (by decide)) (a_cons (e_var 1) a_nil))) (g_name 4 sc_Cart_carry_out.nd) (ss_cons (s_set 5 sc_Cart_carry_out.nd (e_d (e_methO 4 met_CartLine_carry_out (hr.mono (by decide)) (fun _ => rpl_nil) (a_cons (e_d (e_meth met_Book_rule (hr.mono (by decide)) (fun _ => rpl_nil) (e_pl (pl_cons (pl_nil 0) (m_fk_design S))) (a_cons (e_var 2) a_nil))) (a_cons (e_dgetP hr (pl_cons (pl_nil 0) (m_fk_amounts S)) (k_pl (pl_cons (pl_nil 4) (m_fk_item S))) kp_pl) a_nil))))) (ss_one (s_ext (pl_nil 3) (e_rep (e_lst (a_cons (e_pl (pl_cons (pl_nil 4) (m_fk_item S))) a_nil)) (e_var 5)))))) (sws_of (ss_cons (s_put (pl_nil 0) (e_eq hr (e_var 1) (e_tup (a_cons e_str (a_cons e_bl a_nil)))) (m_fk_is_failed S)) (ss_cons (s_aug (pl_nil 0) (e_lenO 3 (m_free_len S)) (m_fk_times_asked S)) (ss_one (s_ret (e_mov 3)))))))))
/-! ### what Cart.carry_out does, in plain Lean -/
def lineNs : List Str := ["item", "number", "kept", "shown", "greatest"]
def cartNs : List Str := ["design", "amounts", "rows", "is_failed", "spent", "times_asked"]
structure Ln where
  item : Str
  number : Int
  kept : Int
  shown : D
  greatest : D
def Ln.m (l : Ln) : M := .obj "CartLine" lineNs [.d (.str l.item), .d (.int l.number), .d (.int l.kept), .d l.shown, .d l.greatest]
def toLn : M → Option Ln
  | .obj C ns [.d (.str x), .d (.int n), .d (.int k), .d s, .d g] => if C = "CartLine" ∧ ns = lineNs then some ⟨x, n, k, s, g⟩ else none
  | _ => none
def toLns : List M → Option (List Ln)
  | [] => some []
  | m :: ms => (match toLn m, toLns ms with
    | some l, some ls => some (l :: ls)
    | _, _ => none)
def lnIx (x : Str) : List Ln → Option Nat
  | [] => none
  | l :: ls => if l.item = x then some 0 else (match lnIx x ls with
    | some i => some (i + 1)
    | none => none)
def amAt (ks : List Key) (ms : List M) (x : Str) : Option Int := match keyI (.inr x) ks with
  | some i => (match ms[i]? with
    | some (.d (.int a)) => some a
    | _ => none)
  | none => none
def touchedP (ks : List Key) (ms : List M) (word : Str) (rest : List D) (ls : List Ln) : Option (List Ln × List Nat) :=
  if word ≠ "put" ∧ word ≠ "alter" then some (ls, List.range ls.length) else (match rest with
    | .str x :: .int n :: _ => if PyData.strOk x = false then none else (match lnIx x ls with
      | some i => (match ls[i]? with
        | some l => if word = "alter" then (if n = 0 then (if ls.length ≤ 1000000 then some ((ls.set i { l with number := n }).filter (fun l => decide (l.item ≠ x)), []) else none) else some (ls.set i { l with number := n }, [i])) else some (ls.set i { l with number := l.number + n }, [i])
        | none => none)
      | none => if word = "alter" then none else (match amAt ks ms x with
        | some a => if ls.length < 1000000 then some (ls ++ [⟨x, n, a, .non, .non⟩], [ls.length]) else none
        | none => none))
    | _ => none)
def lineStep (ks : List Key) (ms : List M) (dsg : D) (door : Str) (ls : List Ln) (found : List Str) (i : Nat) : Option (List Ln × List Str) := match ls[i]? with
  | some l => (match F_Book_rule [.d dsg, .d (.str door)] with
    | some (.d rule, []) => (match amAt ks ms l.item with
      | some now => (match F_CartLine_carry_out [l.m, .d rule, .d (.int now)] with
        | some (.d (.int t), [m']) => (match toLn m' with
          | some l' => if 0 ≤ t ∧ found.length + t.toNat ≤ 1000000 ∧ l'.item = l.item then some (ls.set i l', found ++ List.replicate t.toNat l.item) else none
          | none => none)
        | _ => none)
      | none => none)
    | _ => none)
  | none => none
def lineSteps (ks : List Key) (ms : List M) (dsg : D) (door : Str) : List Nat → List Ln → List Str → Option (List Ln × List Str)
  | [], ls, found => some (ls, found)
  | i :: is, ls, found => (match lineStep ks ms dsg door ls found i with
    | some (ls', found') => lineSteps ks ms dsg door is ls' found'
    | none => none)
def cartM (dsg : D) (ks : List Key) (ms : List M) (ls : List Ln) (fl : Bool) (sp : D) (ta : Int) : M := .obj "Cart" cartNs [.d dsg, .dic ks ms, .lst (ls.map Ln.m), .d (.bl fl), .d sp, .d (.int ta)]
def carryP (dsg : D) (ks : List Key) (ms : List M) (ls : List Ln) (fl : Bool) (sp : D) (ta : Int) (word : Str) (rest : List D) : Option (M × List M) :=
  match touchedP ks ms word rest ls with
  | some (ls1, sel) => (match lineSteps ks ms dsg (if word = "pay" ∧ fl = true then "again" else word) sel ls1 [] with
    | some (ls2, found) => (match gEq (.tup (.str word :: rest)) (.tup [.str "pay", .bl false]) with
      | some (.bl fl2) => some (.lst (found.map fun x => .d (.str x)), [cartM dsg ks ms ls2 fl2 sp (ta + (found.length : Nat))])
      | _ => none)
    | none => none)
  | none => none
def bookB : D → Bool
  | .obj C ns _ => decide (C = "Book") && (fldI "rule" ns).isNone
  | _ => false
def F_Cart_carry_out : Fn
  | [.obj C ns [.d dsg, .dic ks ms, .lst rows, .d (.bl fl), .d sp, .d (.int ta)], .d (.tup (.str word :: rest))] => if C = "Cart" ∧ ns = cartNs ∧ bookB dsg = true then (match toLns rows with
      | some ls => if PyData.strOk word = true ∧ ls.all (fun l => PyData.strOk l.item) = true then carryP dsg ks ms ls fl sp ta word rest else none
      | none => none) else none
  | _ => none
theorem bq {α : Type} [BEq α] [LawfulBEq α] [DecidableEq α] (a b : α) : (a == b) = decide (a = b) := by
  by_cases h : a = b
  · subst h; simp
  · simp [h]
theorem gEq_ss (a b : Str) (ha : PyData.strOk a = true) (hb : PyData.strOk b = true) : gEq (.str a) (.str b) = some (.bl (decide (a = b))) := by
  simp [gEq, gNe, gCmp, D.py, SeqAt.shaped, PyData.eqv, PyData.canLay0, PyData.depth, bq, *]
theorem gNe_ss (a b : Str) (ha : PyData.strOk a = true) (hb : PyData.strOk b = true) : gNe (.str a) (.str b) = some (.bl (!decide (a = b))) := by
  simp [gEq, gNe, gCmp, D.py, SeqAt.shaped, PyData.eqv, PyData.canLay0, PyData.depth, bq, *]
theorem gEq_ii (a b : Int) : gEq (.int a) (.int b) = some (.bl (decide (a = b))) := by
  simp [gEq, gNe, gCmp, D.py, SeqAt.shaped, PyData.eqv, PyData.canLay0, PyData.depth, bq, *]
theorem gNe_ii (a b : Int) : gNe (.int a) (.int b) = some (.bl (!decide (a = b))) := by
  simp [gEq, gNe, gCmp, D.py, SeqAt.shaped, PyData.eqv, PyData.canLay0, PyData.depth, bq, *]
theorem ok_take : PyData.strOk (Str.ofString "take") = true := by decide +kernel
theorem ok_least : PyData.strOk (Str.ofString "least") = true := by decide +kernel
theorem ok_last : PyData.strOk (Str.ofString "last") = true := by decide +kernel
theorem ok_show : PyData.strOk (Str.ofString "show") = true := by decide +kernel
theorem ok_ask : PyData.strOk (Str.ofString "ask") = true := by decide +kernel
theorem ok_put : PyData.strOk (Str.ofString "put") = true := by decide +kernel
theorem ok_look : PyData.strOk (Str.ofString "look") = true := by decide +kernel
theorem ok_alter : PyData.strOk (Str.ofString "alter") = true := by decide +kernel
theorem ok_back : PyData.strOk (Str.ofString "back") = true := by decide +kernel
theorem ok_pay : PyData.strOk (Str.ofString "pay") = true := by decide +kernel
theorem ok_price : PyData.strOk (Str.ofString "price") = true := by decide +kernel
theorem ok_again : PyData.strOk (Str.ofString "again") = true := by decide +kernel
def lwNs : List Str := ["stays", "seen", "told", "times"]
def oD : Option Int → D
  | none => .non
  | some i => .int i
structure LWk where
  stays : Int
  seen : Option Int
  told : List Int
  times : Int
def LWk.m (w : LWk) : M := .obj "LineWork" lwNs [.d (.int w.stays), .d (oD w.seen), .lst (w.told.map fun i => .d (.int i)), .d (.int w.times)]
def actP (now : Int) (w : LWk) (a : Str) : LWk :=
  if a = "take" then { w with stays := now }
  else if a = "least" then { w with stays := if now < w.stays then now else w.stays }
  else if a = "last" then { w with stays := w.seen.getD w.stays }
  else if a = "show" ∨ w.seen ≠ some w.stays then { stays := w.stays, seen := some w.stays, told := w.told ++ [w.stays], times := if a = "ask" then w.times + 1 else w.times }
  else w
theorem p_lw (w : LWk) (a : Str) (now : Int) (ha : PyData.strOk a = true) (h : w.told.length < 1000000) : F_LineWork_carry_out [w.m, .d (.str a), .d (.int now)] = some (.d .non, [(actP now w a).m]) := by
  obtain ⟨s, z, ts, t⟩ := w
  simp only at h
  unfold actP
  by_cases h1 : a = "take"
  · subst h1
    simp (config := {decide := true}) [F_LineWork_carry_out, g_LineWork_carry_out, fnF, sRet, sRetN, sSeq, sIf, sSet, sPass, sFrz, sDrop, fT, fOp, fVar, fC, fMov, fFrz, fD, startE, M.isD, M.toD, M.toDs, M.toB, fIxO, isO, sIxO, atI, ixN, g2, g2m, fOf, PL.g1, g1m, g22, fCons, fNil, fIo, fCall, PL.fill, putb, M.argOf, M.hole, ownS, fin, finals, tNotT, tAndT, tOrT, fAnd, fOr, fNot, fIf, fChain, fPl, getP, setP, M.cell, M.setCell, M.sub, M.fld, fldI, sPut, M.setF, M.put, sAug, gPut, gTu, PL.gCons, gsNil, sAsg, sPar, fMethO, fMeth, fMake, appF, fLenO, sAppP, sApp, fLc, lcL, wipeB, tTrue, lAny, lRng, gNm, sFor, forL, PL.gLst, PL.gTup, M.datas, fUnD, fMethK, fMake2, fProp, sExt, fPopP, gC, gInt, gInt0, gMod, gDiv, PL.gSub, gAdd, gMul, gLt, gLe, gGt, gGe, gToInt, gAbs, gMax, gMin, gLen, gIsN, gTupOf, gLstOf, bF, tPeek, fPeek, gEq_ss, gNe_ss, gEq_ii, gNe_ii, ok_take, ok_least, ok_last, ok_show, ok_ask, ok_put, ok_look, ok_alter, ok_back, ok_pay, ok_price, ok_again, gEq_ss, LWk.m, lwNs]
  by_cases h2 : a = "least"
  · subst h2
    simp (config := {decide := true}) [F_LineWork_carry_out, g_LineWork_carry_out, fnF, sRet, sRetN, sSeq, sIf, sSet, sPass, sFrz, sDrop, fT, fOp, fVar, fC, fMov, fFrz, fD, startE, M.isD, M.toD, M.toDs, M.toB, fIxO, isO, sIxO, atI, ixN, g2, g2m, fOf, PL.g1, g1m, g22, fCons, fNil, fIo, fCall, PL.fill, putb, M.argOf, M.hole, ownS, fin, finals, tNotT, tAndT, tOrT, fAnd, fOr, fNot, fIf, fChain, fPl, getP, setP, M.cell, M.setCell, M.sub, M.fld, fldI, sPut, M.setF, M.put, sAug, gPut, gTu, PL.gCons, gsNil, sAsg, sPar, fMethO, fMeth, fMake, appF, fLenO, sAppP, sApp, fLc, lcL, wipeB, tTrue, lAny, lRng, gNm, sFor, forL, PL.gLst, PL.gTup, M.datas, fUnD, fMethK, fMake2, fProp, sExt, fPopP, gC, gInt, gInt0, gMod, gDiv, PL.gSub, gAdd, gMul, gLt, gLe, gGt, gGe, gToInt, gAbs, gMax, gMin, gLen, gIsN, gTupOf, gLstOf, bF, tPeek, fPeek, gEq_ss, gNe_ss, gEq_ii, gNe_ii, ok_take, ok_least, ok_last, ok_show, ok_ask, ok_put, ok_look, ok_alter, ok_back, ok_pay, ok_price, ok_again, gEq_ss, LWk.m, lwNs]
  by_cases h3 : a = "last"
  · subst h3
    cases z <;> simp (config := {decide := true}) [F_LineWork_carry_out, g_LineWork_carry_out, fnF, sRet, sRetN, sSeq, sIf, sSet, sPass, sFrz, sDrop, fT, fOp, fVar, fC, fMov, fFrz, fD, startE, M.isD, M.toD, M.toDs, M.toB, fIxO, isO, sIxO, atI, ixN, g2, g2m, fOf, PL.g1, g1m, g22, fCons, fNil, fIo, fCall, PL.fill, putb, M.argOf, M.hole, ownS, fin, finals, tNotT, tAndT, tOrT, fAnd, fOr, fNot, fIf, fChain, fPl, getP, setP, M.cell, M.setCell, M.sub, M.fld, fldI, sPut, M.setF, M.put, sAug, gPut, gTu, PL.gCons, gsNil, sAsg, sPar, fMethO, fMeth, fMake, appF, fLenO, sAppP, sApp, fLc, lcL, wipeB, tTrue, lAny, lRng, gNm, sFor, forL, PL.gLst, PL.gTup, M.datas, fUnD, fMethK, fMake2, fProp, sExt, fPopP, gC, gInt, gInt0, gMod, gDiv, PL.gSub, gAdd, gMul, gLt, gLe, gGt, gGe, gToInt, gAbs, gMax, gMin, gLen, gIsN, gTupOf, gLstOf, bF, tPeek, fPeek, gEq_ss, gNe_ss, gEq_ii, gNe_ii, ok_take, ok_least, ok_last, ok_show, ok_ask, ok_put, ok_look, ok_alter, ok_back, ok_pay, ok_price, ok_again, gEq_ss, LWk.m, lwNs, oD]
  by_cases h4 : a = "show"
  · subst h4
    simp (config := {decide := true}) [F_LineWork_carry_out, g_LineWork_carry_out, fnF, sRet, sRetN, sSeq, sIf, sSet, sPass, sFrz, sDrop, fT, fOp, fVar, fC, fMov, fFrz, fD, startE, M.isD, M.toD, M.toDs, M.toB, fIxO, isO, sIxO, atI, ixN, g2, g2m, fOf, PL.g1, g1m, g22, fCons, fNil, fIo, fCall, PL.fill, putb, M.argOf, M.hole, ownS, fin, finals, tNotT, tAndT, tOrT, fAnd, fOr, fNot, fIf, fChain, fPl, getP, setP, M.cell, M.setCell, M.sub, M.fld, fldI, sPut, M.setF, M.put, sAug, gPut, gTu, PL.gCons, gsNil, sAsg, sPar, fMethO, fMeth, fMake, appF, fLenO, sAppP, sApp, fLc, lcL, wipeB, tTrue, lAny, lRng, gNm, sFor, forL, PL.gLst, PL.gTup, M.datas, fUnD, fMethK, fMake2, fProp, sExt, fPopP, gC, gInt, gInt0, gMod, gDiv, PL.gSub, gAdd, gMul, gLt, gLe, gGt, gGe, gToInt, gAbs, gMax, gMin, gLen, gIsN, gTupOf, gLstOf, bF, tPeek, fPeek, gEq_ss, gNe_ss, gEq_ii, gNe_ii, ok_take, ok_least, ok_last, ok_show, ok_ask, ok_put, ok_look, ok_alter, ok_back, ok_pay, ok_price, ok_again, gEq_ss, LWk.m, lwNs, oD, h]
  cases z with
  | none =>
    by_cases h5 : a = "ask" <;> simp (config := {decide := true}) [F_LineWork_carry_out, g_LineWork_carry_out, fnF, sRet, sRetN, sSeq, sIf, sSet, sPass, sFrz, sDrop, fT, fOp, fVar, fC, fMov, fFrz, fD, startE, M.isD, M.toD, M.toDs, M.toB, fIxO, isO, sIxO, atI, ixN, g2, g2m, fOf, PL.g1, g1m, g22, fCons, fNil, fIo, fCall, PL.fill, putb, M.argOf, M.hole, ownS, fin, finals, tNotT, tAndT, tOrT, fAnd, fOr, fNot, fIf, fChain, fPl, getP, setP, M.cell, M.setCell, M.sub, M.fld, fldI, sPut, M.setF, M.put, sAug, gPut, gTu, PL.gCons, gsNil, sAsg, sPar, fMethO, fMeth, fMake, appF, fLenO, sAppP, sApp, fLc, lcL, wipeB, tTrue, lAny, lRng, gNm, sFor, forL, PL.gLst, PL.gTup, M.datas, fUnD, fMethK, fMake2, fProp, sExt, fPopP, gC, gInt, gInt0, gMod, gDiv, PL.gSub, gAdd, gMul, gLt, gLe, gGt, gGe, gToInt, gAbs, gMax, gMin, gLen, gIsN, gTupOf, gLstOf, bF, tPeek, fPeek, gEq_ss, gNe_ss, gEq_ii, gNe_ii, ok_take, ok_least, ok_last, ok_show, ok_ask, ok_put, ok_look, ok_alter, ok_back, ok_pay, ok_price, ok_again, gEq_ss, LWk.m, lwNs, oD, h, ha, h1, h2, h3, h4, h5]
  | some z =>
    by_cases h6 : z = s
    · subst h6
      simp (config := {decide := true}) [F_LineWork_carry_out, g_LineWork_carry_out, fnF, sRet, sRetN, sSeq, sIf, sSet, sPass, sFrz, sDrop, fT, fOp, fVar, fC, fMov, fFrz, fD, startE, M.isD, M.toD, M.toDs, M.toB, fIxO, isO, sIxO, atI, ixN, g2, g2m, fOf, PL.g1, g1m, g22, fCons, fNil, fIo, fCall, PL.fill, putb, M.argOf, M.hole, ownS, fin, finals, tNotT, tAndT, tOrT, fAnd, fOr, fNot, fIf, fChain, fPl, getP, setP, M.cell, M.setCell, M.sub, M.fld, fldI, sPut, M.setF, M.put, sAug, gPut, gTu, PL.gCons, gsNil, sAsg, sPar, fMethO, fMeth, fMake, appF, fLenO, sAppP, sApp, fLc, lcL, wipeB, tTrue, lAny, lRng, gNm, sFor, forL, PL.gLst, PL.gTup, M.datas, fUnD, fMethK, fMake2, fProp, sExt, fPopP, gC, gInt, gInt0, gMod, gDiv, PL.gSub, gAdd, gMul, gLt, gLe, gGt, gGe, gToInt, gAbs, gMax, gMin, gLen, gIsN, gTupOf, gLstOf, bF, tPeek, fPeek, gEq_ss, gNe_ss, gEq_ii, gNe_ii, ok_take, ok_least, ok_last, ok_show, ok_ask, ok_put, ok_look, ok_alter, ok_back, ok_pay, ok_price, ok_again, gEq_ss, gNe_ii, LWk.m, lwNs, oD, h, ha, h1, h2, h3, h4]
    · by_cases h5 : a = "ask" <;> simp (config := {decide := true}) [F_LineWork_carry_out, g_LineWork_carry_out, fnF, sRet, sRetN, sSeq, sIf, sSet, sPass, sFrz, sDrop, fT, fOp, fVar, fC, fMov, fFrz, fD, startE, M.isD, M.toD, M.toDs, M.toB, fIxO, isO, sIxO, atI, ixN, g2, g2m, fOf, PL.g1, g1m, g22, fCons, fNil, fIo, fCall, PL.fill, putb, M.argOf, M.hole, ownS, fin, finals, tNotT, tAndT, tOrT, fAnd, fOr, fNot, fIf, fChain, fPl, getP, setP, M.cell, M.setCell, M.sub, M.fld, fldI, sPut, M.setF, M.put, sAug, gPut, gTu, PL.gCons, gsNil, sAsg, sPar, fMethO, fMeth, fMake, appF, fLenO, sAppP, sApp, fLc, lcL, wipeB, tTrue, lAny, lRng, gNm, sFor, forL, PL.gLst, PL.gTup, M.datas, fUnD, fMethK, fMake2, fProp, sExt, fPopP, gC, gInt, gInt0, gMod, gDiv, PL.gSub, gAdd, gMul, gLt, gLe, gGt, gGe, gToInt, gAbs, gMax, gMin, gLen, gIsN, gTupOf, gLstOf, bF, tPeek, fPeek, gEq_ss, gNe_ss, gEq_ii, gNe_ii, ok_take, ok_least, ok_last, ok_show, ok_ask, ok_put, ok_look, ok_alter, ok_back, ok_pay, ok_price, ok_again, gEq_ss, gNe_ii, LWk.m, lwNs, oD, h, ha, h1, h2, h3, h4, h5, h6]

def okS (a : Str) : Prop := PyData.strOk a = true
theorem actP_told (now : Int) (w : LWk) (a : Str) : (actP now w a).told.length ≤ w.told.length + 1 := by
  unfold actP
  split
  · simp
  split
  · simp
  split
  · simp
  split
  · simp
  · simp
/-- the loop of LineWork.__init__ -/
theorem p_lw_loop (r k s : D) (now : Int) : ∀ (rule : List Str) (w : LWk) (x : B), (∀ a ∈ rule, okS a) → w.told.length + rule.length < 1000000 →
    ∃ x', forL (gNm 5) (sDrop (fMethO "LineWork" "carry_out" F_LineWork_carry_out [] 0 [none, none] (fCons (fVar 5) (fCons (fVar 4) fNil)))) (rule.map .str) [.o (some 0) w.m, .d r, .d k, .d s, .d (.int now), x]
      = some (.nx, [.o (some 0) (rule.foldl (actP now) w).m, .d r, .d k, .d s, .d (.int now), x'])
  | [], w, x, _, _ => ⟨x, rfl⟩
  | a :: rule, w, x, ha, hl => by
    have h1 := p_lw w a now (ha a (by simp)) (by simp at hl; omega)
    have h2 := actP_told now w a
    obtain ⟨x', h3⟩ := p_lw_loop r k s now rule (actP now w a) (.d (.str a)) (fun b hb => ha b (by simp [hb])) (by simp at hl; omega)
    refine ⟨x', ?_⟩
    simp only [List.map_cons, List.foldl_cons]
    rw [← h3]
    conv => lhs; unfold forL
    simp only [LWk.m, lwNs] at h1 ⊢
    simp (config := {decide := true}) [fnF, sRet, sRetN, sSeq, sIf, sSet, sPass, sFrz, sDrop, fT, fOp, fVar, fC, fMov, fFrz, fD, startE, M.isD, M.toD, M.toDs, M.toB, fIxO, isO, sIxO, atI, ixN, g2, g2m, fOf, PL.g1, g1m, g22, fCons, fNil, fIo, fCall, PL.fill, putb, M.argOf, M.hole, ownS, fin, finals, tNotT, tAndT, tOrT, fAnd, fOr, fNot, fIf, fChain, fPl, getP, setP, M.cell, M.setCell, M.sub, M.fld, fldI, sPut, M.setF, M.put, sAug, gPut, gTu, PL.gCons, gsNil, sAsg, sPar, fMethO, fMeth, fMake, appF, fLenO, sAppP, sApp, fLc, lcL, wipeB, tTrue, lAny, lRng, gNm, sFor, forL, PL.gLst, PL.gTup, M.datas, fUnD, fMethK, fMake2, fProp, sExt, fPopP, gC, gInt, gInt0, gMod, gDiv, PL.gSub, gAdd, gMul, gLt, gLe, gGt, gGe, gToInt, gAbs, gMax, gMin, gLen, gIsN, gTupOf, gLstOf, bF, tPeek, fPeek, gEq_ss, gNe_ss, gEq_ii, gNe_ii, ok_take, ok_least, ok_last, ok_show, ok_ask, ok_put, ok_look, ok_alter, ok_back, ok_pay, ok_price, ok_again, h1]

theorem p_lw_init (rule : List Str) (kept : Int) (sh : Option Int) (now : Int) (ha : ∀ a ∈ rule, okS a) (hl : rule.length < 1000) :
    F_LineWork__init [.obj "LineWork" [] [], .d (.tup (rule.map .str)), .d (.int kept), .d (oD sh), .d (.int now)] = some (.d .non, [(rule.foldl (actP now) ⟨kept, sh, [], 0⟩).m]) := by
  obtain ⟨x', h⟩ := p_lw_loop (.tup (rule.map .str)) (.int kept) (oD sh) now rule ⟨kept, sh, [], 0⟩ .no ha (by simp; omega)
  simp only [LWk.m, lwNs, List.map_nil] at h ⊢
  simp (config := {decide := true}) [F_LineWork__init, g_LineWork__init, fnF, sRet, sRetN, sSeq, sIf, sSet, sPass, sFrz, sDrop, fT, fOp, fVar, fC, fMov, fFrz, fD, startE, M.isD, M.toD, M.toDs, M.toB, fIxO, isO, sIxO, atI, ixN, g2, g2m, fOf, PL.g1, g1m, g22, fCons, fNil, fIo, fCall, PL.fill, putb, M.argOf, M.hole, ownS, fin, finals, tNotT, tAndT, tOrT, fAnd, fOr, fNot, fIf, fChain, fPl, getP, setP, M.cell, M.setCell, M.sub, M.fld, fldI, sPut, M.setF, M.put, sAug, gPut, gTu, PL.gCons, gsNil, sAsg, sPar, fMethO, fMeth, fMake, appF, fLenO, sAppP, sApp, fLc, wipeB, tTrue, lAny, lRng, gNm, PL.gLst, PL.gTup, M.datas, fUnD, fMethK, fMake2, fProp, sExt, fPopP, gC, gInt, gInt0, gMod, gDiv, PL.gSub, gAdd, gMul, gLt, gLe, gGt, gGe, gToInt, gAbs, gMax, gMin, gLen, gIsN, gTupOf, gLstOf, bF, tPeek, fPeek, gEq_ss, gNe_ss, gEq_ii, gNe_ii, ok_take, ok_least, ok_last, ok_show, ok_ask, ok_put, ok_look, ok_alter, ok_back, ok_pay, ok_price, ok_again, sFor, h]

/-- a line whose prices are known -/
structure Lk where
  item : Str
  number : Int
  kept : Int
  shown : Option Int
  greatest : Option Int
def Lk.ln (l : Lk) : Ln := ⟨l.item, l.number, l.kept, oD l.shown, oD l.greatest⟩
def gmx (g : Option Int) (a : Int) : Option Int := some (match g with
  | none => a
  | some g => if a > g then a else g)
def lkAct (rule : List Str) (now : Int) (l : Lk) : LWk := rule.foldl (actP now) ⟨l.kept, l.shown, [], 0⟩
def lkGo (rule : List Str) (now : Int) (l : Lk) : Lk := ⟨l.item, l.number, (lkAct rule now l).stays, (lkAct rule now l).seen, (lkAct rule now l).told.foldl gmx l.greatest⟩
theorem p_cl_loop (x n k s r w : D) (now : D) : ∀ (told : List Int) (g : Option Int) (y : B),
    ∃ y', forL (gNm 4) (sPut 0 [] ("greatest", ["CartLine"]) (fD (fIf (fT (fOp (g2 (gIsN true)) (fPl 0 [("greatest", ["CartLine"])]) (fC .non))) (fVar 4) (fOf (g22 gMax) (fCons (fPl 0 [("greatest", ["CartLine"])]) (fCons (fVar 4) fNil)))))) (told.map .int)
        [.o (some 0) (.obj "CartLine" ["item", "number", "kept", "shown", "greatest"] [.d x, .d n, .d k, .d s, .d (oD g)]), .d r, .d now, .d w, y]
      = some (.nx, [.o (some 0) (.obj "CartLine" ["item", "number", "kept", "shown", "greatest"] [.d x, .d n, .d k, .d s, .d (oD (told.foldl gmx g))]), .d r, .d now, .d w, y'])
  | [], g, y => ⟨y, rfl⟩
  | a :: told, g, y => by
    obtain ⟨y', h⟩ := p_cl_loop x n k s r w now told (gmx g a) (.d (.int a))
    refine ⟨y', ?_⟩
    simp only [List.map_cons, List.foldl_cons]
    rw [← h]
    conv => lhs; unfold forL
    cases g <;> simp (config := {decide := true}) [fnF, sRet, sRetN, sSeq, sIf, sSet, sPass, sFrz, sDrop, fT, fOp, fVar, fC, fMov, fFrz, fD, startE, M.isD, M.toD, M.toDs, M.toB, fIxO, isO, sIxO, atI, ixN, g2, g2m, fOf, PL.g1, g1m, g22, fCons, fNil, fIo, fCall, PL.fill, putb, M.argOf, M.hole, ownS, fin, finals, tNotT, tAndT, tOrT, fAnd, fOr, fNot, fIf, fChain, fPl, getP, setP, M.cell, M.setCell, M.sub, M.fld, fldI, sPut, M.setF, M.put, sAug, gPut, gTu, PL.gCons, gsNil, sAsg, sPar, fMethO, fMeth, fMake, appF, fLenO, sAppP, sApp, fLc, wipeB, tTrue, lAny, lRng, gNm, PL.gLst, PL.gTup, M.datas, fUnD, fMethK, fMake2, fProp, sExt, fPopP, gC, gInt, gInt0, gMod, gDiv, PL.gSub, gAdd, gMul, gLt, gLe, gGt, gGe, gToInt, gAbs, gMax, gMin, gLen, gIsN, gTupOf, gLstOf, bF, tPeek, fPeek, gEq_ss, gNe_ss, gEq_ii, gNe_ii, ok_take, ok_least, ok_last, ok_show, ok_ask, ok_put, ok_look, ok_alter, ok_back, ok_pay, ok_price, ok_again, oD, gmx]
theorem p_cl (l : Lk) (rule : List Str) (now : Int) (ha : ∀ a ∈ rule, okS a) (hl : rule.length < 1000) :
    F_CartLine_carry_out [l.ln.m, .d (.tup (rule.map .str)), .d (.int now)] = some (.d (.int (lkAct rule now l).times), [(lkGo rule now l).ln.m]) := by
  have h1 := p_lw_init rule l.kept l.shown now ha hl
  obtain ⟨y', h2⟩ := p_cl_loop (.str l.item) (.int l.number) (.int (lkAct rule now l).stays) (oD (lkAct rule now l).seen) (.tup (rule.map .str)) (lkAct rule now l).m.toD (.int now) (lkAct rule now l).told l.greatest .no
  have ht : M.toDs ((lkAct rule now l).told.map fun i => .d (.int i)) = (lkAct rule now l).told.map .int := by
    induction (lkAct rule now l).told with
    | nil => rfl
    | cons a t ih => simp [M.toDs, M.toD, ih]
  unfold lkAct at *
  simp only [LWk.m, lwNs, M.toD, M.toDs, ht] at h1 h2
  simp (config := {decide := true}) [F_CartLine_carry_out, g_CartLine_carry_out, Lk.ln, Ln.m, lineNs, lkGo, lkAct, fnF, sRet, sRetN, sSeq, sIf, sSet, sPass, sFrz, sDrop, fT, fOp, fVar, fC, fMov, fFrz, fD, startE, M.isD, M.toD, M.toDs, M.toB, fIxO, isO, sIxO, atI, ixN, g2, g2m, fOf, PL.g1, g1m, g22, fCons, fNil, fIo, fCall, PL.fill, putb, M.argOf, M.hole, ownS, fin, finals, tNotT, tAndT, tOrT, fAnd, fOr, fNot, fIf, fChain, fPl, getP, setP, M.cell, M.setCell, M.sub, M.fld, fldI, sPut, M.setF, M.put, sAug, gPut, gTu, PL.gCons, gsNil, sAsg, sPar, fMethO, fMeth, fMake, appF, fLenO, sAppP, sApp, fLc, wipeB, tTrue, lAny, lRng, gNm, PL.gLst, PL.gTup, M.datas, fUnD, fMethK, fMake2, fProp, sExt, fPopP, gC, gInt, gInt0, gMod, gDiv, PL.gSub, gAdd, gMul, gLt, gLe, gGt, gGe, gToInt, gAbs, gMax, gMin, gLen, gIsN, gTupOf, gLstOf, bF, tPeek, fPeek, gEq_ss, gNe_ss, gEq_ii, gNe_ii, ok_take, ok_least, ok_last, ok_show, ok_ask, ok_put, ok_look, ok_alter, ok_back, ok_pay, ok_price, ok_again, sFor, h1, h2, ht]
/-! ### Cart.carry_out, opened -/
theorem ress_map (as : List Addr) (cs : List D) : ∀ ds, D.ress as cs ds = ds.map (D.res as cs)
  | [] => rfl
  | d :: ds => by simp [D.ress, ress_map as cs ds]
theorem unals_map : ∀ ds, D.unals ds = ds.map D.unal
  | [] => rfl
  | d :: ds => by simp [D.unals, unals_map ds]
theorem toDs_map : ∀ ms, M.toDs ms = ms.map M.toD
  | [] => rfl
  | m :: ms => by simp [M.toDs, toDs_map ms]
theorem munals_map : ∀ ms, M.unals ms = ms.map M.unal
  | [] => rfl
  | m :: ms => by simp [M.unals, munals_map ms]
theorem msafes_all : ∀ ms, M.safes ms = ms.all M.safe
  | [] => rfl
  | m :: ms => by simp [M.safes, msafes_all ms]
def obaL (a : Addr) (l : Ln) : D := .oba a "CartLine" lineNs [.str l.item, .int l.number, .int l.kept, l.shown, l.greatest]
/-- rows, places, cells, lines -/
structure Rel (a : Addr) (as : List Addr) (cs : List M) (xs : List Addr) (ls : List Ln) : Prop where
  nd : (a :: as).Nodup
  xd : xs.Nodup
  sub : ∀ x ∈ xs, x ∈ as
  len : cs.length = as.length
  xl : xs.length = ls.length
  at_ : ∀ (i : Nat) (x : Addr) (l : Ln), xs[i]? = some x → ls[i]? = some l → cs[as.idxOf x]? = some l.m
theorem idx_cons {a x : Addr} {as : List Addr} (h : a ≠ x) : (a :: as).idxOf x = as.idxOf x + 1 := by
  have hb : (a == x) = false := by simpa using h
  simp [List.idxOf_cons, hb]
theorem idx_nd : ∀ {as : List Addr} {i : Nat} {x : Addr}, as.Nodup → as[i]? = some x → as.idxOf x = i
  | [], i, x, _, h => by simp at h
  | b :: as, 0, x, _, h => by simp at h; subst h; simp
  | b :: as, i + 1, x, nd, h => by
    have nd2 := List.nodup_cons.mp nd
    have hx : as[i]? = some x := by simpa using h
    have hm : x ∈ as := List.mem_of_getElem? hx
    have hne : b ≠ x := fun e => nd2.1 (e ▸ hm)
    rw [idx_cons hne, idx_nd nd2.2 hx]
theorem Rel.start {a : Addr} {as : List Addr} {ls : List Ln} (nd : (a :: as).Nodup) (l : as.length = ls.length) : Rel a as (ls.map Ln.m) as ls where
  nd := nd
  xd := (List.nodup_cons.mp nd).2
  sub := fun _ h => h
  len := by simp [l]
  xl := l
  at_ := fun i x l hx hl => by
    rw [idx_nd (List.nodup_cons.mp nd).2 hx, List.getElem?_map, hl]
    rfl
theorem Rel.res {a : Addr} {as : List Addr} {cs : List M} {xs : List Addr} {ls : List Ln} (R : Rel a as cs xs ls) (r : D) : D.ress (a :: as) (r :: M.toDs cs) (xs.map .adr) = List.zipWith obaL xs ls := by
  rw [ress_map, List.map_map]
  apply List.ext_getElem?
  intro i
  rw [List.getElem?_map, List.getElem?_zipWith]
  cases hx : xs[i]? with
  | none => simp
  | some x =>
    have hi : i < ls.length := by
      rw [← R.xl]; exact (List.getElem?_eq_some_iff.mp hx).1
    obtain ⟨l, hl⟩ : ∃ l, ls[i]? = some l := ⟨_, List.getElem?_eq_getElem hi⟩
    have hc := R.at_ i x l hx hl
    have hm := R.sub x (List.mem_of_getElem? hx)
    have hne : a ≠ x := fun e => (List.nodup_cons.mp R.nd).1 (e ▸ hm)
    rw [hl]
    simp only [Option.map_some, Function.comp, D.res]
    rw [idx_cons hne, List.getElem?_cons_succ, toDs_map, List.getElem?_map, hc]
    rfl
theorem toLn_m {m : M} {l : Ln} (h : toLn m = some l) : m = l.m := by
  unfold toLn at h
  split at h
  · split at h
    · rename_i e
      cases h
      obtain ⟨rfl, rfl⟩ := e
      rfl
    · cases h
  · cases h
theorem toLns_m : ∀ {ms : List M} {ls : List Ln}, toLns ms = some ls → ms = ls.map Ln.m
  | [], ls, h => by
    simp only [toLns, Option.some.injEq] at h
    subst h; rfl
  | m :: ms, ls, h => by
    unfold toLns at h
    split at h
    · rename_i l ls' h1 h2
      cases h
      rw [toLn_m h1, toLns_m h2]; rfl
    · cases h
/-- the cart's own cell -/
def rootM (dsg : D) (ks : List Key) (ms : List M) (xs : List Addr) (fl : Bool) (sp : D) (ta : Int) : M := .obj "Cart" ["design", "amounts", "rows", "is_failed", "spent", "times_asked"] [.d dsg, .dic ks ms, .lst (xs.map adrM), .d (.bl fl), .d sp, .d (.int ta)]
theorem Rel.pick {a : Addr} {as : List Addr} {cs : List M} {r : M} : ∀ {xs : List Addr} {ls : List Ln}, Rel a as cs xs ls → PL.pick (a :: as) (r :: cs) xs = some (ls.map Ln.m)
  | [], ls, R => by
    have : ls = [] := List.length_eq_zero_iff.mp R.xl.symm
    subst this
    rfl
  | x :: xs, ls, R => by
    cases ls with
    | nil => have := R.xl; simp at this
    | cons l ls =>
      have hm := R.sub x (by simp)
      have hne : a ≠ x := fun e => (List.nodup_cons.mp R.nd).1 (e ▸ hm)
      have hc := R.at_ 0 x l rfl rfl
      have R2 : Rel a as cs xs ls := ⟨R.nd, (List.nodup_cons.mp R.xd).2, fun y h => R.sub y (by simp [h]), R.len, by have := R.xl; simpa using this, fun i y k h1 h2 => R.at_ (i + 1) y k (by simpa using h1) (by simpa using h2)⟩
      unfold PL.pick
      rw [idx_cons hne, List.getElem?_cons_succ, hc, Rel.pick R2]
      rfl
theorem adrs_map : ∀ xs : List Addr, adrsOf (xs.map adrM) = some xs
  | [] => rfl
  | x :: xs => by
    rw [List.map_cons]
    unfold adrsOf
    simp only [adrM]
    have := adrs_map xs
    rw [this]
theorem Rel.close {a : Addr} {as : List Addr} {cs : List M} {xs : List Addr} {ls : List Ln} (R : Rel a as cs xs ls) (dsg : D) (ks : List Key) (ms : List M) (fl : Bool) (sp : D) (ta : Int) :
    closeM "rows" (.box a (a :: as) (rootM dsg ks ms xs fl sp ta :: cs)) = some (cartM dsg ks ms ls fl sp ta) := by
  have h := Rel.pick (r := rootM dsg ks ms xs fl sp ta) R
  have hn : (a :: xs).Nodup := List.nodup_cons.mpr ⟨fun hm => (List.nodup_cons.mp R.nd).1 (R.sub a hm), R.xd⟩
  unfold rootM at h
  simp (config := {decide := true}) [closeM, rootM, fldI, adrs_map, hn, h, cartM, cartNs]

/-! the loop -/
def lmLit (x : D) (n k s g : D) : M := .obj "CartLine" ["item", "number", "kept", "shown", "greatest"] [.d x, .d n, .d k, .d s, .d g]
def cboxB (a : Addr) (as : List Addr) (root : M) (cs : List M) : B := .o (some 0) (.box a (a :: as) (root :: cs))
def bodyC : Sv := (sSeq (sSet 5 (fD (fMethO "CartLine" "carry_out" F_CartLine_carry_out [] 4 [none, none] (fCons (fD (fMeth "Book" "rule" F_Book_rule [] (fPl 0 [("design", ["Cart"])]) [none] (fCons (fVar 2) fNil))) (fCons (fDGetP 0 [("amounts", ["Cart"])] (fPl 4 [("item", ["CartLine"])])) fNil))))) (sExt 3 (fOp gRep (fOf PL.gLst (fCons (fPl 4 [("item", ["CartLine"])]) fNil)) (fVar 5))))
theorem datas_one (x : D) : M.datas [.d x] = some [x] := rfl
theorem step_body {a x : Addr} {as : List Addr} {cs : List M} {l l' : Ln} {dsg : D} {ks : List Key} {ms : List M} {xs : List Addr} {fl : Bool} {sp : D} {ta : Int} {deed : D} {door : Str} {found : List M} {t now : Int} {rule : D} {B5 : B}
    (hne : a ≠ x) (hx : x ∈ as) (hc : cs[as.idxOf x]? = some l.m) (hr : F_Book_rule [.d dsg, .d (.str door)] = some (.d rule, [])) (hd : ∃ ns ds, dsg = .obj "Book" ns ds ∧ fldI "rule" ns = none) (hn : amAt ks ms l.item = some now)
    (hl : F_CartLine_carry_out [l.m, .d rule, .d (.int now)] = some (.d (.int t), [l'.m])) (ht : 0 ≤ t) (hf : found.length + t.toNat ≤ 1000000) (hi : l'.item = l.item) :
    bodyC [cboxB a as (rootM dsg ks ms xs fl sp ta) cs, .d deed, .d (.str door), .o none (.lst found), .d (.adr x), B5] = some (.nx, [cboxB a as (rootM dsg ks ms xs fl sp ta) (cs.set (as.idxOf x) l'.m), .d deed, .d (.str door), .o none (.lst (found ++ List.replicate t.toNat (.d (.str l.item)))), .d (.adr x), .d (.int t)]) := by
  obtain ⟨ns, ds, rfl, hrn⟩ := hd
  have hidx : as.idxOf x < cs.length := (List.getElem?_eq_some_iff.mp hc).1
  have hk : ∃ i, keyI (.inr l.item) ks = some i ∧ ms[i]? = some (.d (.int now)) := by
    unfold amAt at hn
    split at hn
    · rename_i i hi
      split at hn
      · rename_i aa ha
        cases hn
        exact ⟨i, hi, ha⟩
      · cases hn
    · cases hn
  obtain ⟨i, hk1, hk2⟩ := hk
  have hrep : (List.replicate t.toNat [M.d (D.str l.item)]).flatten = List.replicate t.toNat (.d (.str l.item)) := by
    rw [List.flatten_replicate_singleton]
  have h7 : -1000000 ≤ t := by omega
  have h8 : t ≤ 1000000 := by omega
  obtain ⟨it, nu, ke, sh, gr⟩ := l
  obtain ⟨it', nu', ke', sh', gr'⟩ := l'
  simp only at hi
  subst hi
  have h9 : ∀ m, (cs.set (as.idxOf x) m)[as.idxOf x]? = some m := fun m => List.getElem?_set_self hidx
  simp only [Ln.m, lineNs] at hc hl hk1 hrep ⊢
  simp (config := {decide := true}) [bodyC, cboxB, rootM, fnF, sRet, sRetN, sSeq, sIf, sSet, sPass, sFrz, sDrop, fT, fOp, fVar, fC, fMov, fFrz, fD, startE, M.isD, M.toD, M.toDs, M.toB, fIxO, isO, sIxO, atI, ixN, g2, g2m, fOf, PL.g1, g1m, g22, fCons, fNil, fIo, fCall, PL.fill, putb, M.argOf, M.hole, ownS, fin, finals, tNotT, tAndT, tOrT, fAnd, fOr, fNot, fIf, fChain, fPl, getP, setP, M.cell, M.setCell, M.sub, M.fld, fldI, sPut, M.setF, M.put, sAug, gPut, gTu, PL.gCons, gsNil, sAsg, sPar, fMethO, fMeth, fMake, appF, fLenO, sAppP, sApp, fLc, wipeB, tTrue, lAny, lRng, gNm, PL.gLst, PL.gTup, M.datas, fUnD, fMethK, fMake2, fProp, sExt, fPopP, gC, gInt, gInt0, gMod, gDiv, PL.gSub, gAdd, gMul, gLt, gLe, gGt, gGe, gToInt, gAbs, gMax, gMin, gLen, gIsN, gTupOf, gLstOf, bF, tPeek, fPeek, gEq_ss, gNe_ss, gEq_ii, gNe_ii, ok_take, ok_least, ok_last, ok_show, ok_ask, ok_put, ok_look, ok_alter, ok_back, ok_pay, ok_price, ok_again, boxAt, hx, hne, idx_cons hne, hc, hr, hrn, fDGetP, D.key, hk1, hk2, hl, gRep, datas_one, hrep, hf, ht, h7, h8, h9]

theorem Rel.set {a : Addr} {as : List Addr} {cs : List M} {xs : List Addr} {ls : List Ln} {i : Nat} {x : Addr} {l' : Ln} (R : Rel a as cs xs ls) (hx : xs[i]? = some x) : Rel a as (cs.set (as.idxOf x) l'.m) xs (ls.set i l') where
  nd := R.nd
  xd := R.xd
  sub := R.sub
  len := by simp [R.len]
  xl := by simp [R.xl]
  at_ := fun j y l hy hl => by
    have hm := R.sub x (List.mem_of_getElem? hx)
    have hmy := R.sub y (List.mem_of_getElem? hy)
    have h1 := List.idxOf_lt_length_of_mem hm
    have h2 := List.idxOf_lt_length_of_mem hmy
    by_cases e : i = j
    · subst e
      rw [hx] at hy
      cases hy
      have hi : i < ls.length := by
        rw [← R.xl]; exact (List.getElem?_eq_some_iff.mp hx).1
      rw [List.getElem?_set_self hi] at hl
      cases hl
      rw [List.getElem?_set_self (by rw [R.len]; exact h1)]
    · rw [List.getElem?_set_ne e] at hl
      have hne : as.idxOf x ≠ as.idxOf y := fun z => by
        have exy := idxOf_inj h1 z h2
        subst exy
        have := idx_nd R.xd hx
        have := idx_nd R.xd hy
        omega
      rw [List.getElem?_set_ne hne]
      exact R.at_ j y l hy hl
theorem bookB_ok {dsg : D} (h : bookB dsg = true) : ∃ ns ds, dsg = .obj "Book" ns ds ∧ fldI "rule" ns = none := by
  unfold bookB at h
  split at h
  · simp only [Bool.and_eq_true, decide_eq_true_eq, Option.isNone_iff_eq_none] at h
    exact ⟨_, _, by rw [h.1], h.2⟩
  · cases h
theorem p_loop {a : Addr} {as : List Addr} {dsg : D} {ks : List Key} {ms : List M} {xs : List Addr} {fl : Bool} {sp : D} {ta : Int} {deed : D} {door : Str} (hb : bookB dsg = true) :
    ∀ (sel : List Nat) (ls ls2 : List Ln) (cs : List M) (found found2 : List Str) (B4 B5 : B), Rel a as cs xs ls → lineSteps ks ms dsg door sel ls found = some (ls2, found2) → (∀ i ∈ sel, i < xs.length) →
      ∃ cs2 B4' B5', forL (gNm 4) bodyC (sel.map fun i => D.adr (xs.getD i 0)) [cboxB a as (rootM dsg ks ms xs fl sp ta) cs, .d deed, .d (.str door), .o none (.lst (found.map fun x => .d (.str x))), B4, B5]
        = some (.nx, [cboxB a as (rootM dsg ks ms xs fl sp ta) cs2, .d deed, .d (.str door), .o none (.lst (found2.map fun x => .d (.str x))), B4', B5']) ∧ Rel a as cs2 xs ls2
  | [], ls, ls2, cs, found, found2, B4, B5, R, h, _ => by
    simp only [lineSteps, Option.some.injEq, Prod.mk.injEq] at h
    obtain ⟨rfl, rfl⟩ := h
    exact ⟨cs, B4, B5, rfl, R⟩
  | i :: sel, ls, ls2, cs, found, found2, B4, B5, R, h, hs => by
    unfold lineSteps at h
    split at h
    · rename_i ls' found' h1
      unfold lineStep at h1
      split at h1
      · rename_i l hl
        split at h1
        · rename_i rule hr
          split at h1
          · rename_i now hn
            split at h1
            · rename_i t m' hc
              split at h1
              · rename_i l' hl'
                split at h1
                · rename_i hz
                  cases h1
                  obtain ⟨ht, hf, hi⟩ := hz
                  have hix := hs i (by simp)
                  have hx : xs[i]? = some (xs.getD i 0) := by
                    rw [List.getD_eq_getElem?_getD, List.getElem?_eq_getElem hix]
                    rfl
                  have hm := R.sub _ (List.mem_of_getElem? hx)
                  have hne : a ≠ xs.getD i 0 := fun e => (List.nodup_cons.mp R.nd).1 (e ▸ hm)
                  have hcell := R.at_ i _ l hx hl
                  have em := toLn_m hl'
                  subst em
                  have st := step_body (xs := xs) (fl := fl) (sp := sp) (ta := ta) (deed := deed) (found := found.map fun x => .d (.str x)) (B5 := B5) hne hm hcell hr (bookB_ok hb) hn hc ht (by simpa using hf) hi
                  obtain ⟨cs2, B4', B5', q1, q2⟩ := p_loop hb sel (ls.set i l') ls2 (cs.set (as.idxOf (xs.getD i 0)) l'.m) _ found2 (.d (.adr (xs.getD i 0))) (.d (.int t)) (R.set hx) h (fun j hj => hs j (by simp [hj]))
                  refine ⟨cs2, B4', B5', ?_, q2⟩
                  rw [List.map_cons]
                  unfold forL
                  simp only [gNm, List.length_cons, List.length_nil, Nat.reduceAdd, Nat.reduceLT, if_true, List.set_cons_succ, List.set_cons_zero]
                  rw [st]
                  simp only [List.map_append, List.map_replicate] at q1
                  exact q1
                · cases h1
              · cases h1
            · cases h1
          · cases h1
        · cases h1
      · cases h1
    · cases h
theorem gIn_2 (neg : Bool) (w a b : Str) : gIn neg (.str w) (.tup [.str a, .str b]) = some (.bl (if neg then !(decide (w = a) || decide (w = b)) else (decide (w = a) || decide (w = b)))) := by
  simp [gIn, D.flat, D.items, D.flats, inV, eqV, bq, eq_comm]
abbrev cartNm : List Str := ["design", "amounts", "rows", "is_failed", "spent", "times_asked"]
theorem box_view {a : Addr} {as : List Addr} {cs : List M} {xs : List Addr} {ls : List Ln} (R : Rel a as cs xs ls) (dsg : D) (ks : List Key) (ms : List M) (fl : Bool) (sp : D) (ta : Int) :
    ∃ d1 ds2 d5, boxD a (a :: as) (rootM dsg ks ms xs fl sp ta :: cs) = .obj "Cart" cartNm [d1, .dic ks ds2, .lst (List.zipWith obaL xs ls), .bl fl, d5, .int ta] := by
  have h := R.res (rootM dsg ks ms xs fl sp ta).toD
  have h2 : (xs.map adrM).map M.toD = xs.map .adr := by
    rw [List.map_map]
    rfl
  unfold boxD
  simp only [M.toDs, List.idxOf_cons_self, List.getElem?_cons_zero]
  refine ⟨D.res (a :: as) ((rootM dsg ks ms xs fl sp ta).toD :: M.toDs cs) dsg, D.ress (a :: as) ((rootM dsg ks ms xs fl sp ta).toD :: M.toDs cs) (M.toDs ms), D.res (a :: as) ((rootM dsg ks ms xs fl sp ta).toD :: M.toDs cs) sp, ?_⟩
  rw [← h]
  generalize M.toDs cs = C
  unfold rootM
  simp [M.toD, M.toDs, D.res, D.ress, toDs_map, h2]
theorem un_rows : ∀ (xs : List Addr) (ls : List Ln), xs.length = ls.length → M.unals ((List.zipWith obaL xs ls).map .d) = xs.map adrM
  | [], [], _ => rfl
  | x :: xs, l :: ls, h => by
    simp only [List.zipWith_cons_cons, List.map_cons, M.unals, obaL, M.unal, D.unal, adrM]
    rw [un_rows xs ls (by simpa using h)]
  | [], _ :: _, h => by simp at h
  | _ :: _, [], h => by simp at h
theorem safe_rows : ∀ xs : List Addr, M.safes (xs.map adrM) = true
  | [] => rfl
  | x :: xs => by
    simp only [List.map_cons, M.safes, safe_rows xs, adrM, M.safe, D.safe, Bool.and_self]
theorem p_row_loop (d0 : D) (x : Str) (hx : okS x) : ∀ (xs : List Addr) (ls : List Ln) (y : B), xs.length = ls.length → (∀ l ∈ ls, okS l.item) →
    ∃ y', forL (gNm 2) (sIf (fT (fOp (g2 gEq) (fPl 2 [("item", ["CartLine"])]) (fVar 1))) (sRet (fVar 2)) sPass) (List.zipWith obaL xs ls) [.d d0, .d (.str x), y]
      = (match lnIx x ls with
        | some i => some (.rt (.d (obaL (xs.getD i 0) (ls.getD i ⟨x, 0, 0, .non, .non⟩))), [.d d0, .d (.str x), y'])
        | none => some (.nx, [.d d0, .d (.str x), y']))
  | [], [], y, _, _ => ⟨y, rfl⟩
  | a :: xs, l :: ls, y, h, ok => by
    obtain ⟨y', ih⟩ := p_row_loop d0 x hx xs ls (.d (obaL a l)) (by simpa using h) (fun k hk => ok k (by simp [hk]))
    have hl : okS l.item := ok l (by simp)
    unfold okS at hx hl
    simp only [List.zipWith_cons_cons]
    unfold forL
    by_cases e : l.item = x
    · refine ⟨.d (obaL a l), ?_⟩
      subst e
      simp (config := {decide := true}) [fnF, sRet, sRetN, sSeq, sIf, sSet, sPass, sFrz, sDrop, fT, fOp, fVar, fC, fMov, fFrz, fD, startE, M.isD, M.toD, M.toDs, M.toB, fIxO, isO, sIxO, atI, ixN, g2, g2m, fOf, PL.g1, g1m, g22, fCons, fNil, fIo, fCall, PL.fill, putb, M.argOf, M.hole, ownS, fin, finals, tNotT, tAndT, tOrT, fAnd, fOr, fNot, fIf, fChain, fPl, getP, setP, M.cell, M.setCell, M.sub, M.fld, fldI, sPut, M.setF, M.put, sAug, gPut, gTu, PL.gCons, gsNil, sAsg, sPar, fMethO, fMeth, fMake, appF, fLenO, sAppP, sApp, fLc, wipeB, tTrue, lAny, lRng, gNm, PL.gLst, PL.gTup, M.datas, fUnD, fMethK, fMake2, fProp, sExt, fPopP, gC, gInt, gInt0, gMod, gDiv, PL.gSub, gAdd, gMul, gLt, gLe, gGt, gGe, gToInt, gAbs, gMax, gMin, gLen, gIsN, gTupOf, gLstOf, bF, tPeek, fPeek, gEq_ss, gNe_ss, gEq_ii, gNe_ii, ok_take, ok_least, ok_last, ok_show, ok_ask, ok_put, ok_look, ok_alter, ok_back, ok_pay, ok_price, ok_again, obaL, lineNs, hl, lnIx]
    · refine ⟨y', ?_⟩
      have st : sIf (fT (fOp (g2 gEq) (fPl 2 [("item", ["CartLine"])]) (fVar 1))) (sRet (fVar 2)) sPass [B.d d0, B.d (.str x), B.d (obaL a l)] = some (R.nx, [.d d0, .d (.str x), .d (obaL a l)])     := by
        simp (config := {decide := true}) [fnF, sRet, sRetN, sSeq, sIf, sSet, sPass, sFrz, sDrop, fT, fOp, fVar, fC, fMov, fFrz, fD, startE, M.isD, M.toD, M.toDs, M.toB, fIxO, isO, sIxO, atI, ixN, g2, g2m, fOf, PL.g1, g1m, g22, fCons, fNil, fIo, fCall, PL.fill, putb, M.argOf, M.hole, ownS, fin, finals, tNotT, tAndT, tOrT, fAnd, fOr, fNot, fIf, fChain, fPl, getP, setP, M.cell, M.setCell, M.sub, M.fld, fldI, sPut, M.setF, M.put, sAug, gPut, gTu, PL.gCons, gsNil, sAsg, sPar, fMethO, fMeth, fMake, appF, fLenO, sAppP, sApp, fLc, wipeB, tTrue, lAny, lRng, gNm, PL.gLst, PL.gTup, M.datas, fUnD, fMethK, fMake2, fProp, sExt, fPopP, gC, gInt, gInt0, gMod, gDiv, PL.gSub, gAdd, gMul, gLt, gLe, gGt, gGe, gToInt, gAbs, gMax, gMin, gLen, gIsN, gTupOf, gLstOf, bF, tPeek, fPeek, gEq_ss, gNe_ss, gEq_ii, gNe_ii, ok_take, ok_least, ok_last, ok_show, ok_ask, ok_put, ok_look, ok_alter, ok_back, ok_pay, ok_price, ok_again, obaL, lineNs, hl, hx, e]
      simp only [gNm, List.length_cons, List.length_nil, Nat.reduceAdd, Nat.reduceLT, if_true, List.set_cons_succ, List.set_cons_zero]
      rw [st]
      simp only []
      rw [ih]
      rw [show lnIx x (l :: ls) = (if l.item = x then some 0 else (match lnIx x ls with | some i => some (i + 1) | none => none)) from rfl, if_neg e]
      cases lnIx x ls <;> simp
  | [], _ :: _, _, h, _ => by simp at h
  | _ :: _, [], _, h, _ => by simp at h
theorem p_row_of (d1 d2 d4 d5 d6 : D) (x : Str) (xs : List Addr) (ls : List Ln) (hx : okS x) (hl : xs.length = ls.length) (ok : ∀ l ∈ ls, okS l.item) :
    F_Cart_row_of [.d (.obj "Cart" cartNm [d1, d2, .lst (List.zipWith obaL xs ls), d4, d5, d6]), .d (.str x)] = (match lnIx x ls with
        | some i => some (.d (obaL (xs.getD i 0) (ls.getD i ⟨x, 0, 0, .non, .non⟩)), [])
        | none => some (.d .non, [])) := by
  obtain ⟨y', h⟩ := p_row_loop (.obj "Cart" cartNm [d1, d2, .lst (List.zipWith obaL xs ls), d4, d5, d6]) x hx xs ls .no hl ok
  unfold cartNm at h ⊢
  cases e : lnIx x ls with
  | none =>
    rw [e] at h
    simp (config := {decide := true}) [F_Cart_row_of, g_Cart_row_of, fnF, sRet, sRetN, sSeq, sIf, sSet, sPass, sFrz, sDrop, fT, fOp, fVar, fC, fMov, fFrz, fD, startE, M.isD, M.toD, M.toDs, M.toB, fIxO, isO, sIxO, atI, ixN, g2, g2m, fOf, PL.g1, g1m, g22, fCons, fNil, fIo, fCall, PL.fill, putb, M.argOf, M.hole, ownS, fin, finals, tNotT, tAndT, tOrT, fAnd, fOr, fNot, fIf, fChain, fPl, getP, setP, M.cell, M.setCell, M.sub, M.fld, fldI, sPut, M.setF, M.put, sAug, gPut, gTu, PL.gCons, gsNil, sAsg, sPar, fMethO, fMeth, fMake, appF, fLenO, sAppP, sApp, fLc, wipeB, tTrue, lAny, lRng, gNm, PL.gLst, PL.gTup, M.datas, fUnD, fMethK, fMake2, fProp, sExt, fPopP, gC, gInt, gInt0, gMod, gDiv, PL.gSub, gAdd, gMul, gLt, gLe, gGt, gGe, gToInt, gAbs, gMax, gMin, gLen, gIsN, gTupOf, gLstOf, bF, tPeek, fPeek, gEq_ss, gNe_ss, gEq_ii, gNe_ii, ok_take, ok_least, ok_last, ok_show, ok_ask, ok_put, ok_look, ok_alter, ok_back, ok_pay, ok_price, ok_again, sFor, h]
  | some i =>
    rw [e] at h
    simp (config := {decide := true}) [F_Cart_row_of, g_Cart_row_of, fnF, sRet, sRetN, sSeq, sIf, sSet, sPass, sFrz, sDrop, fT, fOp, fVar, fC, fMov, fFrz, fD, startE, M.isD, M.toD, M.toDs, M.toB, fIxO, isO, sIxO, atI, ixN, g2, g2m, fOf, PL.g1, g1m, g22, fCons, fNil, fIo, fCall, PL.fill, putb, M.argOf, M.hole, ownS, fin, finals, tNotT, tAndT, tOrT, fAnd, fOr, fNot, fIf, fChain, fPl, getP, setP, M.cell, M.setCell, M.sub, M.fld, fldI, sPut, M.setF, M.put, sAug, gPut, gTu, PL.gCons, gsNil, sAsg, sPar, fMethO, fMeth, fMake, appF, fLenO, sAppP, sApp, fLc, wipeB, tTrue, lAny, lRng, gNm, PL.gLst, PL.gTup, M.datas, fUnD, fMethK, fMake2, fProp, sExt, fPopP, gC, gInt, gInt0, gMod, gDiv, PL.gSub, gAdd, gMul, gLt, gLe, gGt, gGe, gToInt, gAbs, gMax, gMin, gLen, gIsN, gTupOf, gLstOf, bF, tPeek, fPeek, gEq_ss, gNe_ss, gEq_ii, gNe_ii, ok_take, ok_least, ok_last, ok_show, ok_ask, ok_put, ok_look, ok_alter, ok_back, ok_pay, ok_price, ok_again, sFor, h]
theorem range_getD (xs : List Addr) : (List.range xs.length).map (fun i => M.d (D.adr (xs.getD i 0))) = xs.map adrM := by
  apply List.ext_getElem?
  intro i
  rw [List.getElem?_map, List.getElem?_map]
  by_cases h : i < xs.length
  · simp [h, adrM]
  · simp [h]
theorem ix0 (d : D) (ds : List D) : gIx (.tup (d :: ds)) (.int 0) = some d := by
  have : (0 : Int) < ds.length + 1 := by omega
  simp [gIx, atI, ixN, this]
theorem ix1 (d e : D) (ds : List D) : gIx (.tup (d :: e :: ds)) (.int 1) = some e := by
  have : (1 : Int) < ds.length + 1 + 1 := by omega
  simp [gIx, atI, ixN, this]
theorem ix2 (d e f : D) (ds : List D) : gIx (.tup (d :: e :: f :: ds)) (.int 2) = some f := by
  have : (2 : Int) < ds.length + 1 + 1 + 1 := by omega
  simp [gIx, atI, ixN, this]
/-- what touched hands over -/
def TPost (a : Addr) (dsg : D) (ks : List Key) (ms : List M) (fl : Bool) (sp : D) (ta : Int) (ls1 : List Ln) (sel : List Nat) (post : M → List M → Prop) : Prop :=
  ∀ as' cs' xs', Rel a as' cs' xs' ls1 → (∀ i ∈ sel, i < xs'.length) → post (.lst (sel.map fun i => M.d (D.adr (xs'.getD i 0)))) [.box a (a :: as') (rootM dsg ks ms xs' fl sp ta :: cs')]
theorem p_touched_all {a : Addr} {as : List Addr} {ls : List Ln} {dsg : D} {ks : List Key} {ms : List M} {fl : Bool} {sp : D} {ta : Int} {word : Str} {rest : List D} {post : M → List M → Prop}
    (nd : (a :: as).Nodup) (hl : as.length = ls.length) (h1 : word ≠ "put") (h2 : word ≠ "alter") (hp : TPost a dsg ks ms fl sp ta ls (List.range ls.length) post) :
    W_Cart_touched [.box a (a :: as) (rootM dsg ks ms as fl sp ta :: ls.map Ln.m), .d (.tup (.str word :: rest))] post := by
  have R := Rel.start nd hl
  obtain ⟨d1, ds2, d5, hv⟩ := box_view R dsg ks ms fl sp ta
  have hu := un_rows as ls hl
  rw [List.map_zipWith] at hu
  have hs := safe_rows as
  have key := hp as (ls.map Ln.m) as R (fun i hi => by rw [hl]; exact List.mem_range.mp hi)
  rw [← hl, range_getD] at key
  refine ⟨rfl, ?_⟩
  unfold g_Cart_touched
  refine ⟨.rt (.lst (as.map adrM)), [.o (some 0) (.box a (a :: as) (rootM dsg ks ms as fl sp ta :: ls.map Ln.m)), .d (.tup (.str word :: rest)), .no, .no], ?_, [_], ?_, key⟩
  · simp (config := {decide := true}) [fnF, sRet, sRetN, sSeq, sIf, sSet, sPass, sFrz, sDrop, fT, fOp, fVar, fC, fMov, fFrz, fD, startE, M.isD, M.toD, M.toDs, M.toB, fIxO, isO, sIxO, atI, ixN, g2, g2m, fOf, PL.g1, g1m, g22, fCons, fNil, fIo, fCall, PL.fill, putb, M.argOf, M.hole, ownS, fin, finals, tNotT, tAndT, tOrT, fAnd, fOr, fNot, fIf, fChain, fPl, getP, setP, M.cell, M.setCell, M.sub, M.fld, fldI, sPut, M.setF, M.put, sAug, gPut, gTu, PL.gCons, gsNil, sAsg, sPar, fMethO, fMeth, fMake, appF, fLenO, sAppP, sApp, fLc, lcL, wipeB, tTrue, lAny, lRng, gNm, sFor, forL, PL.gLst, PL.gTup, M.datas, fUnD, fMethK, fMake2, fProp, sExt, fPopP, gC, gInt, gInt0, gMod, gDiv, PL.gSub, gAdd, gMul, gLt, gLe, gGt, gGe, gToInt, gAbs, gMax, gMin, gLen, gIsN, gTupOf, gLstOf, bF, tPeek, fPeek, gEq_ss, gNe_ss, gEq_ii, gNe_ii, ok_take, ok_least, ok_last, ok_show, ok_ask, ok_put, ok_look, ok_alter, ok_back, ok_pay, ok_price, ok_again, ix0, gIn_2, h1, h2, hv, cartNm, M.unal, M.safe, hu, hs]
  · simp [finals, M.isD]

theorem lnIx_at {x : Str} : ∀ {ls : List Ln} {i : Nat}, lnIx x ls = some i → ∃ l, ls[i]? = some l ∧ l.item = x
  | [], i, h => by simp [lnIx] at h
  | l :: ls, i, h => by
    rw [show lnIx x (l :: ls) = (if l.item = x then some 0 else (match lnIx x ls with | some i => some (i + 1) | none => none)) from rfl] at h
    split at h
    · rename_i e
      cases h
      exact ⟨l, rfl, e⟩
    · split at h
      · rename_i j ej
        cases h
        obtain ⟨k, h1, h2⟩ := lnIx_at ej
        exact ⟨k, by simpa using h1, h2⟩
      · cases h
/-- put, the line is there -/
theorem p_touched_put {a : Addr} {as : List Addr} {ls : List Ln} {dsg : D} {ks : List Key} {ms : List M} {fl : Bool} {sp : D} {ta : Int} {rest : List D} {post : M → List M → Prop} {x : Str} {n : Int} {i : Nat} {l : Ln}
    (nd : (a :: as).Nodup) (hl : as.length = ls.length) (hx : okS x) (ok : ∀ l ∈ ls, okS l.item) (hi : lnIx x ls = some i) (hli : ls[i]? = some l) (hp : TPost a dsg ks ms fl sp ta (ls.set i { l with number := l.number + n }) [i] post) :
    W_Cart_touched [.box a (a :: as) (rootM dsg ks ms as fl sp ta :: ls.map Ln.m), .d (.tup (.str "put" :: .str x :: .int n :: rest))] post := by
  have R := Rel.start nd hl
  obtain ⟨d1, ds2, d5, hv⟩ := box_view R dsg ks ms fl sp ta
  have hro := p_row_of d1 (.dic ks ds2) (.bl fl) d5 (.int ta) x as ls hx hl ok
  rw [hi] at hro
  simp only at hro
  have hia : i < as.length := by
    rw [hl]; exact (List.getElem?_eq_some_iff.mp hli).1
  have hxa : as[i]? = some (as.getD i 0) := by
    rw [List.getD_eq_getElem?_getD, List.getElem?_eq_getElem hia]; rfl
  have hm : as.getD i 0 ∈ as := List.mem_of_getElem? hxa
  have hne : a ≠ as.getD i 0 := fun e => (List.nodup_cons.mp nd).1 (e ▸ hm)
  have hc := R.at_ i _ l hxa hli
  have R2 := R.set (l' := { l with number := l.number + n }) hxa
  have key := hp as _ as R2 (fun j hj => by simp at hj; subst hj; exact hia)
  simp only [List.map_cons, List.map_nil] at key
  have h9 : ∀ m, ((ls.map Ln.m).set (as.idxOf (as.getD i 0)) m)[as.idxOf (as.getD i 0)]? = some m := fun m => List.getElem?_set_self (by rw [R.len]; exact List.idxOf_lt_length_of_mem hm)
  obtain ⟨y, hy⟩ : ∃ y, y = as.getD i 0 := ⟨_, rfl⟩
  rw [← hy] at hro hxa hm hne hc key h9
  refine ⟨rfl, ?_⟩
  unfold g_Cart_touched
  obtain ⟨it, nu, ke, sh, gr⟩ := l
  simp only [Ln.m, lineNs] at hc
  refine ⟨.nx, [.o (some 0) (.box a (a :: as) (rootM dsg ks ms as fl sp ta :: ls.map Ln.m)), .d (.tup (.str "put" :: .str x :: .int n :: rest)), .no, .no], ?_, ?_⟩
  · simp (config := {decide := true}) [fnF, sRet, sRetN, sSeq, sIf, sSet, sPass, sFrz, sDrop, fT, fOp, fVar, fC, fMov, fFrz, fD, startE, M.isD, M.toD, M.toDs, M.toB, fIxO, isO, sIxO, atI, ixN, g2, g2m, fOf, PL.g1, g1m, g22, fCons, fNil, fIo, fCall, PL.fill, putb, M.argOf, M.hole, ownS, fin, finals, tNotT, tAndT, tOrT, fAnd, fOr, fNot, fIf, fChain, fPl, getP, setP, M.cell, M.setCell, M.sub, M.fld, fldI, sPut, M.setF, M.put, sAug, gPut, gTu, PL.gCons, gsNil, sAsg, sPar, fMethO, fMeth, fMake, appF, fLenO, sAppP, sApp, fLc, lcL, wipeB, tTrue, lAny, lRng, gNm, sFor, forL, PL.gLst, PL.gTup, M.datas, fUnD, fMethK, fMake2, fProp, sExt, fPopP, gC, gInt, gInt0, gMod, gDiv, PL.gSub, gAdd, gMul, gLt, gLe, gGt, gGe, gToInt, gAbs, gMax, gMin, gLen, gIsN, gTupOf, gLstOf, bF, tPeek, fPeek, gEq_ss, gNe_ss, gEq_ii, gNe_ii, ok_take, ok_least, ok_last, ok_show, ok_ask, ok_put, ok_look, ok_alter, ok_back, ok_pay, ok_price, ok_again, ix0, gIn_2]
  refine ⟨.nx, [.o (some 0) (.box a (a :: as) (rootM dsg ks ms as fl sp ta :: ls.map Ln.m)), .d (.tup (.str "put" :: .str x :: .int n :: rest)), .d (.adr y), .no], ?_, ?_⟩
  · simp only [cartNm] at hv hro
    simp (config := {decide := true}) [fnF, sRet, sRetN, sSeq, sIf, sSet, sPass, sFrz, sDrop, fT, fOp, fVar, fC, fMov, fFrz, fD, startE, M.isD, M.toD, M.toDs, M.toB, fIxO, isO, sIxO, atI, ixN, g2, g2m, fOf, PL.g1, g1m, g22, fCons, fNil, fIo, fCall, PL.fill, putb, M.argOf, M.hole, ownS, fin, finals, tNotT, tAndT, tOrT, fAnd, fOr, fNot, fIf, fChain, fPl, getP, setP, M.cell, M.setCell, M.sub, M.fld, fldI, sPut, M.setF, M.put, sAug, gPut, gTu, PL.gCons, gsNil, sAsg, sPar, fMethO, fMeth, fMake, appF, fLenO, sAppP, sApp, fLc, lcL, wipeB, tTrue, lAny, lRng, gNm, sFor, forL, PL.gLst, PL.gTup, M.datas, fUnD, fMethK, fMake2, fProp, sExt, fPopP, gC, gInt, gInt0, gMod, gDiv, PL.gSub, gAdd, gMul, gLt, gLe, gGt, gGe, gToInt, gAbs, gMax, gMin, gLen, gIsN, gTupOf, gLstOf, bF, tPeek, fPeek, gEq_ss, gNe_ss, gEq_ii, gNe_ii, ok_take, ok_least, ok_last, ok_show, ok_ask, ok_put, ok_look, ok_alter, ok_back, ok_pay, ok_price, ok_again, ix1, hv, hro, obaL, M.unal, D.unal, M.safe, D.safe]
  refine ⟨false, [.o (some 0) (.box a (a :: as) (rootM dsg ks ms as fl sp ta :: ls.map Ln.m)), .d (.tup (.str "put" :: .str x :: .int n :: rest)), .d (.adr y), .no], ?_, ?_⟩
  · simp (config := {decide := true}) [fnF, sRet, sRetN, sSeq, sIf, sSet, sPass, sFrz, sDrop, fT, fOp, fVar, fC, fMov, fFrz, fD, startE, M.isD, M.toD, M.toDs, M.toB, fIxO, isO, sIxO, atI, ixN, g2, g2m, fOf, PL.g1, g1m, g22, fCons, fNil, fIo, fCall, PL.fill, putb, M.argOf, M.hole, ownS, fin, finals, tNotT, tAndT, tOrT, fAnd, fOr, fNot, fIf, fChain, fPl, getP, setP, M.cell, M.setCell, M.sub, M.fld, fldI, sPut, M.setF, M.put, sAug, gPut, gTu, PL.gCons, gsNil, sAsg, sPar, fMethO, fMeth, fMake, appF, fLenO, sAppP, sApp, fLc, lcL, wipeB, tTrue, lAny, lRng, gNm, sFor, forL, PL.gLst, PL.gTup, M.datas, fUnD, fMethK, fMake2, fProp, sExt, fPopP, gC, gInt, gInt0, gMod, gDiv, PL.gSub, gAdd, gMul, gLt, gLe, gGt, gGe, gToInt, gAbs, gMax, gMin, gLen, gIsN, gTupOf, gLstOf, bF, tPeek, fPeek, gEq_ss, gNe_ss, gEq_ii, gNe_ii, ok_take, ok_least, ok_last, ok_show, ok_ask, ok_put, ok_look, ok_alter, ok_back, ok_pay, ok_price, ok_again, ix0]
  simp only [Bool.false_eq_true, if_false]
  refine ⟨false, [.o (some 0) (.box a (a :: as) (rootM dsg ks ms as fl sp ta :: ls.map Ln.m)), .d (.tup (.str "put" :: .str x :: .int n :: rest)), .d (.adr y), .no], ?_, ?_⟩
  · simp (config := {decide := true}) [fnF, sRet, sRetN, sSeq, sIf, sSet, sPass, sFrz, sDrop, fT, fOp, fVar, fC, fMov, fFrz, fD, startE, M.isD, M.toD, M.toDs, M.toB, fIxO, isO, sIxO, atI, ixN, g2, g2m, fOf, PL.g1, g1m, g22, fCons, fNil, fIo, fCall, PL.fill, putb, M.argOf, M.hole, ownS, fin, finals, tNotT, tAndT, tOrT, fAnd, fOr, fNot, fIf, fChain, fPl, getP, setP, M.cell, M.setCell, M.sub, M.fld, fldI, sPut, M.setF, M.put, sAug, gPut, gTu, PL.gCons, gsNil, sAsg, sPar, fMethO, fMeth, fMake, appF, fLenO, sAppP, sApp, fLc, lcL, wipeB, tTrue, lAny, lRng, gNm, sFor, forL, PL.gLst, PL.gTup, M.datas, fUnD, fMethK, fMake2, fProp, sExt, fPopP, gC, gInt, gInt0, gMod, gDiv, PL.gSub, gAdd, gMul, gLt, gLe, gGt, gGe, gToInt, gAbs, gMax, gMin, gLen, gIsN, gTupOf, gLstOf, bF, tPeek, fPeek, gEq_ss, gNe_ss, gEq_ii, gNe_ii, ok_take, ok_least, ok_last, ok_show, ok_ask, ok_put, ok_look, ok_alter, ok_back, ok_pay, ok_price, ok_again]
  simp only [Bool.false_eq_true, if_false]
  refine ⟨.nx, [.o (some 0) (.box a (a :: as) (rootM dsg ks ms as fl sp ta :: (ls.map Ln.m).set (as.idxOf y) (Ln.m ⟨it, nu + n, ke, sh, gr⟩))), .d (.tup (.str "put" :: .str x :: .int n :: rest)), .d (.adr y), .no], ?_, ?_⟩
  · simp (config := {decide := true}) [fnF, sRet, sRetN, sSeq, sIf, sSet, sPass, sFrz, sDrop, fT, fOp, fVar, fC, fMov, fFrz, fD, startE, M.isD, M.toD, M.toDs, M.toB, fIxO, isO, sIxO, atI, ixN, g2, g2m, fOf, PL.g1, g1m, g22, fCons, fNil, fIo, fCall, PL.fill, putb, M.argOf, M.hole, ownS, fin, finals, tNotT, tAndT, tOrT, fAnd, fOr, fNot, fIf, fChain, fPl, getP, setP, M.cell, M.setCell, M.sub, M.fld, fldI, sPut, M.setF, M.put, sAug, gPut, gTu, PL.gCons, gsNil, sAsg, sPar, fMethO, fMeth, fMake, appF, fLenO, sAppP, sApp, fLc, lcL, wipeB, tTrue, lAny, lRng, gNm, sFor, forL, PL.gLst, PL.gTup, M.datas, fUnD, fMethK, fMake2, fProp, sExt, fPopP, gC, gInt, gInt0, gMod, gDiv, PL.gSub, gAdd, gMul, gLt, gLe, gGt, gGe, gToInt, gAbs, gMax, gMin, gLen, gIsN, gTupOf, gLstOf, bF, tPeek, fPeek, gEq_ss, gNe_ss, gEq_ii, gNe_ii, ok_take, ok_least, ok_last, ok_show, ok_ask, ok_put, ok_look, ok_alter, ok_back, ok_pay, ok_price, ok_again, ix2, boxAt, hm, hne, idx_cons hne, hc, Ln.m, lineNs]
  refine ⟨.rt (.lst [.d (.adr y)]), [.o (some 0) (.box a (a :: as) (rootM dsg ks ms as fl sp ta :: (ls.map Ln.m).set (as.idxOf y) (Ln.m ⟨it, nu + n, ke, sh, gr⟩))), .d (.tup (.str "put" :: .str x :: .int n :: rest)), .d (.adr y), .no], ?_, [_], ?_, key⟩
  · simp (config := {decide := true}) [fnF, sRet, sRetN, sSeq, sIf, sSet, sPass, sFrz, sDrop, fT, fOp, fVar, fC, fMov, fFrz, fD, startE, M.isD, M.toD, M.toDs, M.toB, fIxO, isO, sIxO, atI, ixN, g2, g2m, fOf, PL.g1, g1m, g22, fCons, fNil, fIo, fCall, PL.fill, putb, M.argOf, M.hole, ownS, fin, finals, tNotT, tAndT, tOrT, fAnd, fOr, fNot, fIf, fChain, fPl, getP, setP, M.cell, M.setCell, M.sub, M.fld, fldI, sPut, M.setF, M.put, sAug, gPut, gTu, PL.gCons, gsNil, sAsg, sPar, fMethO, fMeth, fMake, appF, fLenO, sAppP, sApp, fLc, lcL, wipeB, tTrue, lAny, lRng, gNm, sFor, forL, PL.gLst, PL.gTup, M.datas, fUnD, fMethK, fMake2, fProp, sExt, fPopP, gC, gInt, gInt0, gMod, gDiv, PL.gSub, gAdd, gMul, gLt, gLe, gGt, gGe, gToInt, gAbs, gMax, gMin, gLen, gIsN, gTupOf, gLstOf, bF, tPeek, fPeek, gEq_ss, gNe_ss, gEq_ii, gNe_ii, ok_take, ok_least, ok_last, ok_show, ok_ask, ok_put, ok_look, ok_alter, ok_back, ok_pay, ok_price, ok_again]
  · simp [finals, M.isD]

theorem p_line_init (x n k : D) : F_CartLine__init [.obj "CartLine" [] [], .d x, .d n, .d k] = some (.d .non, [.obj "CartLine" lineNs [.d x, .d n, .d k, .d .non, .d .non]]) := by kernel_rfl
/-- alter, to a number -/
theorem p_touched_alter {a : Addr} {as : List Addr} {ls : List Ln} {dsg : D} {ks : List Key} {ms : List M} {fl : Bool} {sp : D} {ta : Int} {rest : List D} {post : M → List M → Prop} {x : Str} {n : Int} {i : Nat} {l : Ln}
    (nd : (a :: as).Nodup) (hl : as.length = ls.length) (hx : okS x) (ok : ∀ l ∈ ls, okS l.item) (hi : lnIx x ls = some i) (hli : ls[i]? = some l) (hn : n ≠ 0) (hp : TPost a dsg ks ms fl sp ta (ls.set i { l with number := n }) [i] post) :
    W_Cart_touched [.box a (a :: as) (rootM dsg ks ms as fl sp ta :: ls.map Ln.m), .d (.tup (.str "alter" :: .str x :: .int n :: rest))] post := by
  have R := Rel.start nd hl
  obtain ⟨d1, ds2, d5, hv⟩ := box_view R dsg ks ms fl sp ta
  have hro := p_row_of d1 (.dic ks ds2) (.bl fl) d5 (.int ta) x as ls hx hl ok
  rw [hi] at hro
  simp only at hro
  have hia : i < as.length := by
    rw [hl]; exact (List.getElem?_eq_some_iff.mp hli).1
  have hxa : as[i]? = some (as.getD i 0) := by
    rw [List.getD_eq_getElem?_getD, List.getElem?_eq_getElem hia]; rfl
  have hm : as.getD i 0 ∈ as := List.mem_of_getElem? hxa
  have hne : a ≠ as.getD i 0 := fun e => (List.nodup_cons.mp nd).1 (e ▸ hm)
  have hc := R.at_ i _ l hxa hli
  have R2 := R.set (l' := { l with number := n }) hxa
  have key := hp as _ as R2 (fun j hj => by simp at hj; subst hj; exact hia)
  simp only [List.map_cons, List.map_nil] at key
  obtain ⟨y, hy⟩ : ∃ y, y = as.getD i 0 := ⟨_, rfl⟩
  rw [← hy] at hro hxa hm hne hc key
  refine ⟨rfl, ?_⟩
  unfold g_Cart_touched
  obtain ⟨it, nu, ke, sh, gr⟩ := l
  simp only [Ln.m, lineNs] at hc
  refine ⟨.nx, [.o (some 0) (.box a (a :: as) (rootM dsg ks ms as fl sp ta :: ls.map Ln.m)), .d (.tup (.str "alter" :: .str x :: .int n :: rest)), .no, .no], ?_, ?_⟩
  · simp (config := {decide := true}) [fnF, sRet, sRetN, sSeq, sIf, sSet, sPass, sFrz, sDrop, fT, fOp, fVar, fC, fMov, fFrz, fD, startE, M.isD, M.toD, M.toDs, M.toB, fIxO, isO, sIxO, atI, ixN, g2, g2m, fOf, PL.g1, g1m, g22, fCons, fNil, fIo, fCall, PL.fill, putb, M.argOf, M.hole, ownS, fin, finals, tNotT, tAndT, tOrT, fAnd, fOr, fNot, fIf, fChain, fPl, getP, setP, M.cell, M.setCell, M.sub, M.fld, fldI, sPut, M.setF, M.put, sAug, gPut, gTu, PL.gCons, gsNil, sAsg, sPar, fMethO, fMeth, fMake, appF, fLenO, sAppP, sApp, fLc, lcL, wipeB, tTrue, lAny, lRng, gNm, sFor, forL, PL.gLst, PL.gTup, M.datas, fUnD, fMethK, fMake2, fProp, sExt, fPopP, gC, gInt, gInt0, gMod, gDiv, PL.gSub, gAdd, gMul, gLt, gLe, gGt, gGe, gToInt, gAbs, gMax, gMin, gLen, gIsN, gTupOf, gLstOf, bF, tPeek, fPeek, gEq_ss, gNe_ss, gEq_ii, gNe_ii, ok_take, ok_least, ok_last, ok_show, ok_ask, ok_put, ok_look, ok_alter, ok_back, ok_pay, ok_price, ok_again, ix0, gIn_2]
  refine ⟨.nx, [.o (some 0) (.box a (a :: as) (rootM dsg ks ms as fl sp ta :: ls.map Ln.m)), .d (.tup (.str "alter" :: .str x :: .int n :: rest)), .d (.adr y), .no], ?_, ?_⟩
  · simp only [cartNm] at hv hro
    simp (config := {decide := true}) [fnF, sRet, sRetN, sSeq, sIf, sSet, sPass, sFrz, sDrop, fT, fOp, fVar, fC, fMov, fFrz, fD, startE, M.isD, M.toD, M.toDs, M.toB, fIxO, isO, sIxO, atI, ixN, g2, g2m, fOf, PL.g1, g1m, g22, fCons, fNil, fIo, fCall, PL.fill, putb, M.argOf, M.hole, ownS, fin, finals, tNotT, tAndT, tOrT, fAnd, fOr, fNot, fIf, fChain, fPl, getP, setP, M.cell, M.setCell, M.sub, M.fld, fldI, sPut, M.setF, M.put, sAug, gPut, gTu, PL.gCons, gsNil, sAsg, sPar, fMethO, fMeth, fMake, appF, fLenO, sAppP, sApp, fLc, lcL, wipeB, tTrue, lAny, lRng, gNm, sFor, forL, PL.gLst, PL.gTup, M.datas, fUnD, fMethK, fMake2, fProp, sExt, fPopP, gC, gInt, gInt0, gMod, gDiv, PL.gSub, gAdd, gMul, gLt, gLe, gGt, gGe, gToInt, gAbs, gMax, gMin, gLen, gIsN, gTupOf, gLstOf, bF, tPeek, fPeek, gEq_ss, gNe_ss, gEq_ii, gNe_ii, ok_take, ok_least, ok_last, ok_show, ok_ask, ok_put, ok_look, ok_alter, ok_back, ok_pay, ok_price, ok_again, ix1, hv, hro, obaL, M.unal, D.unal, M.safe, D.safe]
  refine ⟨true, [.o (some 0) (.box a (a :: as) (rootM dsg ks ms as fl sp ta :: ls.map Ln.m)), .d (.tup (.str "alter" :: .str x :: .int n :: rest)), .d (.adr y), .no], ?_, ?_⟩
  · simp (config := {decide := true}) [fnF, sRet, sRetN, sSeq, sIf, sSet, sPass, sFrz, sDrop, fT, fOp, fVar, fC, fMov, fFrz, fD, startE, M.isD, M.toD, M.toDs, M.toB, fIxO, isO, sIxO, atI, ixN, g2, g2m, fOf, PL.g1, g1m, g22, fCons, fNil, fIo, fCall, PL.fill, putb, M.argOf, M.hole, ownS, fin, finals, tNotT, tAndT, tOrT, fAnd, fOr, fNot, fIf, fChain, fPl, getP, setP, M.cell, M.setCell, M.sub, M.fld, fldI, sPut, M.setF, M.put, sAug, gPut, gTu, PL.gCons, gsNil, sAsg, sPar, fMethO, fMeth, fMake, appF, fLenO, sAppP, sApp, fLc, lcL, wipeB, tTrue, lAny, lRng, gNm, sFor, forL, PL.gLst, PL.gTup, M.datas, fUnD, fMethK, fMake2, fProp, sExt, fPopP, gC, gInt, gInt0, gMod, gDiv, PL.gSub, gAdd, gMul, gLt, gLe, gGt, gGe, gToInt, gAbs, gMax, gMin, gLen, gIsN, gTupOf, gLstOf, bF, tPeek, fPeek, gEq_ss, gNe_ss, gEq_ii, gNe_ii, ok_take, ok_least, ok_last, ok_show, ok_ask, ok_put, ok_look, ok_alter, ok_back, ok_pay, ok_price, ok_again, ix0]
  simp only [if_true]
  refine ⟨.nx, [.o (some 0) (.box a (a :: as) (rootM dsg ks ms as fl sp ta :: (ls.map Ln.m).set (as.idxOf y) (Ln.m ⟨it, n, ke, sh, gr⟩))), .d (.tup (.str "alter" :: .str x :: .int n :: rest)), .d (.adr y), .no], ?_, ?_⟩
  · simp (config := {decide := true}) [fnF, sRet, sRetN, sSeq, sIf, sSet, sPass, sFrz, sDrop, fT, fOp, fVar, fC, fMov, fFrz, fD, startE, M.isD, M.toD, M.toDs, M.toB, fIxO, isO, sIxO, atI, ixN, g2, g2m, fOf, PL.g1, g1m, g22, fCons, fNil, fIo, fCall, PL.fill, putb, M.argOf, M.hole, ownS, fin, finals, tNotT, tAndT, tOrT, fAnd, fOr, fNot, fIf, fChain, fPl, getP, setP, M.cell, M.setCell, M.sub, M.fld, fldI, sPut, M.setF, M.put, sAug, gPut, gTu, PL.gCons, gsNil, sAsg, sPar, fMethO, fMeth, fMake, appF, fLenO, sAppP, sApp, fLc, lcL, wipeB, tTrue, lAny, lRng, gNm, sFor, forL, PL.gLst, PL.gTup, M.datas, fUnD, fMethK, fMake2, fProp, sExt, fPopP, gC, gInt, gInt0, gMod, gDiv, PL.gSub, gAdd, gMul, gLt, gLe, gGt, gGe, gToInt, gAbs, gMax, gMin, gLen, gIsN, gTupOf, gLstOf, bF, tPeek, fPeek, gEq_ss, gNe_ss, gEq_ii, gNe_ii, ok_take, ok_least, ok_last, ok_show, ok_ask, ok_put, ok_look, ok_alter, ok_back, ok_pay, ok_price, ok_again, ix2, boxAt, hm, hne, idx_cons hne, hc, Ln.m, lineNs, hn]
  refine ⟨.rt (.lst [.d (.adr y)]), [.o (some 0) (.box a (a :: as) (rootM dsg ks ms as fl sp ta :: (ls.map Ln.m).set (as.idxOf y) (Ln.m ⟨it, n, ke, sh, gr⟩))), .d (.tup (.str "alter" :: .str x :: .int n :: rest)), .d (.adr y), .no], ?_, [_], ?_, key⟩
  · simp (config := {decide := true}) [fnF, sRet, sRetN, sSeq, sIf, sSet, sPass, sFrz, sDrop, fT, fOp, fVar, fC, fMov, fFrz, fD, startE, M.isD, M.toD, M.toDs, M.toB, fIxO, isO, sIxO, atI, ixN, g2, g2m, fOf, PL.g1, g1m, g22, fCons, fNil, fIo, fCall, PL.fill, putb, M.argOf, M.hole, ownS, fin, finals, tNotT, tAndT, tOrT, fAnd, fOr, fNot, fIf, fChain, fPl, getP, setP, M.cell, M.setCell, M.sub, M.fld, fldI, sPut, M.setF, M.put, sAug, gPut, gTu, PL.gCons, gsNil, sAsg, sPar, fMethO, fMeth, fMake, appF, fLenO, sAppP, sApp, fLc, lcL, wipeB, tTrue, lAny, lRng, gNm, sFor, forL, PL.gLst, PL.gTup, M.datas, fUnD, fMethK, fMake2, fProp, sExt, fPopP, gC, gInt, gInt0, gMod, gDiv, PL.gSub, gAdd, gMul, gLt, gLe, gGt, gGe, gToInt, gAbs, gMax, gMin, gLen, gIsN, gTupOf, gLstOf, bF, tPeek, fPeek, gEq_ss, gNe_ss, gEq_ii, gNe_ii, ok_take, ok_least, ok_last, ok_show, ok_ask, ok_put, ok_look, ok_alter, ok_back, ok_pay, ok_price, ok_again]
  · simp [finals, M.isD]
theorem Rel.add {a a2 : Addr} {as : List Addr} {cs : List M} {xs : List Addr} {ls : List Ln} {l : Ln} (R : Rel a as cs xs ls) (h : a2 ∉ a :: as) : Rel a (as ++ [a2]) (cs ++ [l.m]) (xs ++ [a2]) (ls ++ [l]) where
  nd := by
    have := R.nd
    simp only [List.mem_cons, not_or] at h
    rw [← List.cons_append]
    refine List.nodup_append.mpr ⟨this, by simp, fun x hx y hy e => ?_⟩
    simp at hy
    subst hy e
    rcases List.mem_cons.mp hx with z | z
    · exact h.1 z
    · exact h.2 z
  xd := by
    refine List.nodup_append.mpr ⟨R.xd, by simp, fun x hx y hy e => ?_⟩
    simp at hy
    subst hy e
    exact h (by simp [R.sub x hx])
  sub := fun x hx => by
    rcases List.mem_append.mp hx with z | z
    · simp [R.sub x z]
    · simp at z; simp [z]
  len := by simp [R.len]
  xl := by simp [R.xl]
  at_ := fun i x k hx hk => by
    by_cases hi : i < xs.length
    · rw [List.getElem?_append_left hi] at hx
      rw [List.getElem?_append_left (by rw [← R.xl]; exact hi)] at hk
      have hm := R.sub x (List.mem_of_getElem? hx)
      have h1 : (as ++ [a2]).idxOf x = as.idxOf x := by rw [List.idxOf_append, if_pos hm]
      rw [h1, List.getElem?_append_left (by rw [R.len]; exact List.idxOf_lt_length_of_mem hm)]
      exact R.at_ i x k hx hk
    · rw [List.getElem?_append_right (by omega)] at hx
      rw [List.getElem?_append_right (by rw [← R.xl]; omega)] at hk
      have e : i = xs.length := by
        have := (List.getElem?_eq_some_iff.mp hx).1
        simp at this
        omega
      subst e
      simp only [Nat.sub_self, List.getElem?_cons_zero, Option.some.injEq] at hx
      rw [← R.xl] at hk
      simp only [Nat.sub_self, List.getElem?_cons_zero, Option.some.injEq] at hk
      subst hx hk
      have hn : a2 ∉ as := fun z => h (by simp [z])
      have h1 : (as ++ [a2]).idxOf a2 = as.length := by
        rw [List.idxOf_append, if_neg hn]; simp
      rw [h1, ← R.len]
      simp
/-- put, a new line -/
theorem p_touched_new {a : Addr} {as : List Addr} {ls : List Ln} {dsg : D} {ks : List Key} {ms : List M} {fl : Bool} {sp : D} {ta : Int} {rest : List D} {post : M → List M → Prop} {x : Str} {n am : Int}
    (nd : (a :: as).Nodup) (hl : as.length = ls.length) (hx : okS x) (ok : ∀ l ∈ ls, okS l.item) (hi : lnIx x ls = none) (ha : amAt ks ms x = some am) (hz : ls.length < 1000000) (hp : TPost a dsg ks ms fl sp ta (ls ++ [⟨x, n, am, .non, .non⟩]) [ls.length] post) :
    W_Cart_touched [.box a (a :: as) (rootM dsg ks ms as fl sp ta :: ls.map Ln.m), .d (.tup (.str "put" :: .str x :: .int n :: rest))] post := by
  have R := Rel.start nd hl
  obtain ⟨d1, ds2, d5, hv⟩ := box_view R dsg ks ms fl sp ta
  have hro := p_row_of d1 (.dic ks ds2) (.bl fl) d5 (.int ta) x as ls hx hl ok
  rw [hi] at hro
  simp only at hro
  have hk : ∃ i, keyI (.inr x) ks = some i ∧ ms[i]? = some (.d (.int am)) := by
    unfold amAt at ha
    split at ha
    · rename_i i hi
      split at ha
      · rename_i aa hb
        cases ha
        exact ⟨i, hi, hb⟩
      · cases ha
    · cases ha
  obtain ⟨i, hk1, hk2⟩ := hk
  have hpl : (ls.map Ln.m).all M.plain = true := by
    rw [List.all_map]
    exact List.all_eq_true.mpr fun l _ => rfl
  refine ⟨rfl, ?_⟩
  unfold g_Cart_touched
  refine ⟨.nx, [.o (some 0) (.box a (a :: as) (rootM dsg ks ms as fl sp ta :: ls.map Ln.m)), .d (.tup (.str "put" :: .str x :: .int n :: rest)), .no, .no], ?_, ?_⟩
  · simp (config := {decide := true}) [fnF, sRet, sRetN, sSeq, sIf, sSet, sPass, sFrz, sDrop, fT, fOp, fVar, fC, fMov, fFrz, fD, startE, M.isD, M.toD, M.toDs, M.toB, fIxO, isO, sIxO, atI, ixN, g2, g2m, fOf, PL.g1, g1m, g22, fCons, fNil, fIo, fCall, PL.fill, putb, M.argOf, M.hole, ownS, fin, finals, tNotT, tAndT, tOrT, fAnd, fOr, fNot, fIf, fChain, fPl, getP, setP, M.cell, M.setCell, M.sub, M.fld, fldI, sPut, M.setF, M.put, sAug, gPut, gTu, PL.gCons, gsNil, sAsg, sPar, fMethO, fMeth, fMake, appF, fLenO, sAppP, sApp, fLc, lcL, wipeB, tTrue, lAny, lRng, gNm, sFor, forL, PL.gLst, PL.gTup, M.datas, fUnD, fMethK, fMake2, fProp, sExt, fPopP, gC, gInt, gInt0, gMod, gDiv, PL.gSub, gAdd, gMul, gLt, gLe, gGt, gGe, gToInt, gAbs, gMax, gMin, gLen, gIsN, gTupOf, gLstOf, bF, tPeek, fPeek, gEq_ss, gNe_ss, gEq_ii, gNe_ii, ok_take, ok_least, ok_last, ok_show, ok_ask, ok_put, ok_look, ok_alter, ok_back, ok_pay, ok_price, ok_again, ix0, gIn_2]
  refine ⟨.nx, [.o (some 0) (.box a (a :: as) (rootM dsg ks ms as fl sp ta :: ls.map Ln.m)), .d (.tup (.str "put" :: .str x :: .int n :: rest)), .d .non, .no], ?_, ?_⟩
  · simp only [cartNm] at hv hro
    simp (config := {decide := true}) [fnF, sRet, sRetN, sSeq, sIf, sSet, sPass, sFrz, sDrop, fT, fOp, fVar, fC, fMov, fFrz, fD, startE, M.isD, M.toD, M.toDs, M.toB, fIxO, isO, sIxO, atI, ixN, g2, g2m, fOf, PL.g1, g1m, g22, fCons, fNil, fIo, fCall, PL.fill, putb, M.argOf, M.hole, ownS, fin, finals, tNotT, tAndT, tOrT, fAnd, fOr, fNot, fIf, fChain, fPl, getP, setP, M.cell, M.setCell, M.sub, M.fld, fldI, sPut, M.setF, M.put, sAug, gPut, gTu, PL.gCons, gsNil, sAsg, sPar, fMethO, fMeth, fMake, appF, fLenO, sAppP, sApp, fLc, lcL, wipeB, tTrue, lAny, lRng, gNm, sFor, forL, PL.gLst, PL.gTup, M.datas, fUnD, fMethK, fMake2, fProp, sExt, fPopP, gC, gInt, gInt0, gMod, gDiv, PL.gSub, gAdd, gMul, gLt, gLe, gGt, gGe, gToInt, gAbs, gMax, gMin, gLen, gIsN, gTupOf, gLstOf, bF, tPeek, fPeek, gEq_ss, gNe_ss, gEq_ii, gNe_ii, ok_take, ok_least, ok_last, ok_show, ok_ask, ok_put, ok_look, ok_alter, ok_back, ok_pay, ok_price, ok_again, ix1, hv, hro, obaL, M.unal, D.unal, M.safe, D.safe]
  refine ⟨false, [.o (some 0) (.box a (a :: as) (rootM dsg ks ms as fl sp ta :: ls.map Ln.m)), .d (.tup (.str "put" :: .str x :: .int n :: rest)), .d .non, .no], ?_, ?_⟩
  · simp (config := {decide := true}) [fnF, sRet, sRetN, sSeq, sIf, sSet, sPass, sFrz, sDrop, fT, fOp, fVar, fC, fMov, fFrz, fD, startE, M.isD, M.toD, M.toDs, M.toB, fIxO, isO, sIxO, atI, ixN, g2, g2m, fOf, PL.g1, g1m, g22, fCons, fNil, fIo, fCall, PL.fill, putb, M.argOf, M.hole, ownS, fin, finals, tNotT, tAndT, tOrT, fAnd, fOr, fNot, fIf, fChain, fPl, getP, setP, M.cell, M.setCell, M.sub, M.fld, fldI, sPut, M.setF, M.put, sAug, gPut, gTu, PL.gCons, gsNil, sAsg, sPar, fMethO, fMeth, fMake, appF, fLenO, sAppP, sApp, fLc, lcL, wipeB, tTrue, lAny, lRng, gNm, sFor, forL, PL.gLst, PL.gTup, M.datas, fUnD, fMethK, fMake2, fProp, sExt, fPopP, gC, gInt, gInt0, gMod, gDiv, PL.gSub, gAdd, gMul, gLt, gLe, gGt, gGe, gToInt, gAbs, gMax, gMin, gLen, gIsN, gTupOf, gLstOf, bF, tPeek, fPeek, gEq_ss, gNe_ss, gEq_ii, gNe_ii, ok_take, ok_least, ok_last, ok_show, ok_ask, ok_put, ok_look, ok_alter, ok_back, ok_pay, ok_price, ok_again, ix0]
  simp only [Bool.false_eq_true, if_false]
  refine ⟨true, [.o (some 0) (.box a (a :: as) (rootM dsg ks ms as fl sp ta :: ls.map Ln.m)), .d (.tup (.str "put" :: .str x :: .int n :: rest)), .d .non, .no], ?_, ?_⟩
  · simp (config := {decide := true}) [fnF, sRet, sRetN, sSeq, sIf, sSet, sPass, sFrz, sDrop, fT, fOp, fVar, fC, fMov, fFrz, fD, startE, M.isD, M.toD, M.toDs, M.toB, fIxO, isO, sIxO, atI, ixN, g2, g2m, fOf, PL.g1, g1m, g22, fCons, fNil, fIo, fCall, PL.fill, putb, M.argOf, M.hole, ownS, fin, finals, tNotT, tAndT, tOrT, fAnd, fOr, fNot, fIf, fChain, fPl, getP, setP, M.cell, M.setCell, M.sub, M.fld, fldI, sPut, M.setF, M.put, sAug, gPut, gTu, PL.gCons, gsNil, sAsg, sPar, fMethO, fMeth, fMake, appF, fLenO, sAppP, sApp, fLc, lcL, wipeB, tTrue, lAny, lRng, gNm, sFor, forL, PL.gLst, PL.gTup, M.datas, fUnD, fMethK, fMake2, fProp, sExt, fPopP, gC, gInt, gInt0, gMod, gDiv, PL.gSub, gAdd, gMul, gLt, gLe, gGt, gGe, gToInt, gAbs, gMax, gMin, gLen, gIsN, gTupOf, gLstOf, bF, tPeek, fPeek, gEq_ss, gNe_ss, gEq_ii, gNe_ii, ok_take, ok_least, ok_last, ok_show, ok_ask, ok_put, ok_look, ok_alter, ok_back, ok_pay, ok_price, ok_again]
  simp only [if_true]
  have mk := p_line_init (.str x) (.int n) (.int am)
  simp only [lineNs] at mk
  refine ⟨[.o (some 0) (.box a (a :: as) (rootM dsg ks ms as fl sp ta :: ls.map Ln.m)), .d (.tup (.str "put" :: .str x :: .int n :: rest)), .o none (Ln.m ⟨x, n, am, .non, .non⟩), .no], Ln.m ⟨x, n, am, .non, .non⟩, some 0, a, a :: as, rootM dsg ks ms as fl sp ta :: ls.map Ln.m, ?_, rfl, ⟨_, _, _, rfl⟩, by decide, rfl, ?_, fun a2 ha2 => ?_⟩
  · simp (config := {decide := true}) [fnF, sRet, sRetN, sSeq, sIf, sSet, sPass, sFrz, sDrop, fT, fOp, fVar, fC, fMov, fFrz, fD, startE, M.isD, M.toD, M.toDs, M.toB, fIxO, isO, sIxO, atI, ixN, g2, g2m, fOf, PL.g1, g1m, g22, fCons, fNil, fIo, fCall, PL.fill, putb, M.argOf, M.hole, ownS, fin, finals, tNotT, tAndT, tOrT, fAnd, fOr, fNot, fIf, fChain, fPl, getP, setP, M.cell, M.setCell, M.sub, M.fld, fldI, sPut, M.setF, M.put, sAug, gPut, gTu, PL.gCons, gsNil, sAsg, sPar, fMethO, fMeth, fMake, appF, fLenO, sAppP, sApp, fLc, lcL, wipeB, tTrue, lAny, lRng, gNm, sFor, forL, PL.gLst, PL.gTup, M.datas, fUnD, fMethK, fMake2, fProp, sExt, fPopP, gC, gInt, gInt0, gMod, gDiv, PL.gSub, gAdd, gMul, gLt, gLe, gGt, gGe, gToInt, gAbs, gMax, gMin, gLen, gIsN, gTupOf, gLstOf, bF, tPeek, fPeek, gEq_ss, gNe_ss, gEq_ii, gNe_ii, ok_take, ok_least, ok_last, ok_show, ok_ask, ok_put, ok_look, ok_alter, ok_back, ok_pay, ok_price, ok_again, ix1, ix2, mk, rootM, fDGetP, D.key, hk1, hk2, Ln.m, lineNs, M.unal, D.unal, M.safe, D.safe]
  · simp only [List.all_cons, hpl, Bool.and_true]; rfl
  · have key := hp (as ++ [a2]) _ (as ++ [a2]) (R.add ha2) (fun j hj => by simp at hj; subst hj; simp [hl])
    have hg : (as ++ [a2]).getD ls.length 0 = a2 := by
      rw [List.getD_eq_getElem?_getD, List.getElem?_append_right (by omega), hl]; simp
    simp only [List.map_cons, List.map_nil, hg] at key
    refine ⟨.nx, [.o (some 0) (.box a (a :: (as ++ [a2])) (rootM dsg ks ms (as ++ [a2]) fl sp ta :: (ls.map Ln.m ++ [Ln.m ⟨x, n, am, .non, .non⟩]))), .d (.tup (.str "put" :: .str x :: .int n :: rest)), .d (.adr a2), .no], ?_, ?_⟩
    · have hz2 : as.length < 1000000 := by omega
      simp (config := {decide := true}) [fnF, sRet, sRetN, sSeq, sIf, sSet, sPass, sFrz, sDrop, fT, fOp, fVar, fC, fMov, fFrz, fD, startE, M.isD, M.toD, M.toDs, M.toB, fIxO, isO, sIxO, atI, ixN, g2, g2m, fOf, PL.g1, g1m, g22, fCons, fNil, fIo, fCall, PL.fill, putb, M.argOf, M.hole, ownS, fin, finals, tNotT, tAndT, tOrT, fAnd, fOr, fNot, fIf, fChain, fPl, getP, setP, M.cell, M.setCell, M.sub, M.fld, fldI, sPut, M.setF, M.put, sAug, gPut, gTu, PL.gCons, gsNil, sAsg, sPar, fMethO, fMeth, fMake, appF, fLenO, sAppP, sApp, fLc, lcL, wipeB, tTrue, lAny, lRng, gNm, sFor, forL, PL.gLst, PL.gTup, M.datas, fUnD, fMethK, fMake2, fProp, sExt, fPopP, gC, gInt, gInt0, gMod, gDiv, PL.gSub, gAdd, gMul, gLt, gLe, gGt, gGe, gToInt, gAbs, gMax, gMin, gLen, gIsN, gTupOf, gLstOf, bF, tPeek, fPeek, gEq_ss, gNe_ss, gEq_ii, gNe_ii, ok_take, ok_least, ok_last, ok_show, ok_ask, ok_put, ok_look, ok_alter, ok_back, ok_pay, ok_price, ok_again, rootM, hz2, adrM]
    refine ⟨.rt (.lst [.d (.adr a2)]), [.o (some 0) (.box a (a :: (as ++ [a2])) (rootM dsg ks ms (as ++ [a2]) fl sp ta :: (ls.map Ln.m ++ [Ln.m ⟨x, n, am, .non, .non⟩]))), .d (.tup (.str "put" :: .str x :: .int n :: rest)), .d (.adr a2), .no], ?_, [_], ?_, key⟩
    · simp (config := {decide := true}) [fnF, sRet, sRetN, sSeq, sIf, sSet, sPass, sFrz, sDrop, fT, fOp, fVar, fC, fMov, fFrz, fD, startE, M.isD, M.toD, M.toDs, M.toB, fIxO, isO, sIxO, atI, ixN, g2, g2m, fOf, PL.g1, g1m, g22, fCons, fNil, fIo, fCall, PL.fill, putb, M.argOf, M.hole, ownS, fin, finals, tNotT, tAndT, tOrT, fAnd, fOr, fNot, fIf, fChain, fPl, getP, setP, M.cell, M.setCell, M.sub, M.fld, fldI, sPut, M.setF, M.put, sAug, gPut, gTu, PL.gCons, gsNil, sAsg, sPar, fMethO, fMeth, fMake, appF, fLenO, sAppP, sApp, fLc, lcL, wipeB, tTrue, lAny, lRng, gNm, sFor, forL, PL.gLst, PL.gTup, M.datas, fUnD, fMethK, fMake2, fProp, sExt, fPopP, gC, gInt, gInt0, gMod, gDiv, PL.gSub, gAdd, gMul, gLt, gLe, gGt, gGe, gToInt, gAbs, gMax, gMin, gLen, gIsN, gTupOf, gLstOf, bF, tPeek, fPeek, gEq_ss, gNe_ss, gEq_ii, gNe_ii, ok_take, ok_least, ok_last, ok_show, ok_ask, ok_put, ok_look, ok_alter, ok_back, ok_pay, ok_price, ok_again]
    · simp [finals, M.isD]
/-! alter to 0 -/
def keepA (x : Str) : List Addr → List Ln → List Addr
  | a :: xs, l :: ls => if l.item = x then keepA x xs ls else a :: keepA x xs ls
  | _, _ => []
theorem keepA_sub (x : Str) : ∀ (xs : List Addr) (ls : List Ln), (keepA x xs ls).Sublist xs
  | [], _ => by simp [keepA]
  | a :: xs, [] => by simp [keepA]
  | a :: xs, l :: ls => by
    unfold keepA
    split
    · exact (keepA_sub x xs ls).cons _
    · exact (keepA_sub x xs ls).cons_cons _
theorem keepA_len (x : Str) : ∀ (xs : List Addr) (ls : List Ln), xs.length = ls.length → (keepA x xs ls).length = (ls.filter fun l => decide (l.item ≠ x)).length
  | [], [], _ => rfl
  | a :: xs, l :: ls, h => by
    have ih := keepA_len x xs ls (by simpa using h)
    unfold keepA
    by_cases e : l.item = x <;> simp [e, ih]
  | [], _ :: _, h => by simp at h
  | _ :: _, [], h => by simp at h
theorem keepA_at (x : Str) : ∀ (xs : List Addr) (ls : List Ln), xs.length = ls.length → ∀ (i : Nat) (y : Addr) (l : Ln), (keepA x xs ls)[i]? = some y → (ls.filter fun l => decide (l.item ≠ x))[i]? = some l → ∃ j : Nat, xs[j]? = some y ∧ ls[j]? = some l
  | [], [], _, i, y, l, h, _ => by simp [keepA] at h
  | a :: xs, k :: ls, hl, i, y, l, h, h2 => by
    have ih := keepA_at x xs ls (by simpa using hl)
    unfold keepA at h
    by_cases e : k.item = x
    · simp only [e, if_true] at h
      simp only [e, List.filter_cons, ne_eq, not_true_eq_false, decide_false, Bool.false_eq_true, if_false] at h2
      obtain ⟨j, q1, q2⟩ := ih i y l h h2
      exact ⟨j + 1, by simpa using q1, by simpa using q2⟩
    · simp only [e, if_false] at h
      simp only [e, List.filter_cons, ne_eq, not_false_eq_true, decide_true, if_true] at h2
      cases i with
      | zero =>
        simp at h h2
        subst h h2
        exact ⟨0, rfl, rfl⟩
      | succ i =>
        obtain ⟨j, q1, q2⟩ := ih i y l (by simpa using h) (by simpa using h2)
        exact ⟨j + 1, by simpa using q1, by simpa using q2⟩
  | [], _ :: _, h, _, _, _, _, _ => by simp at h
  | _ :: _, [], h, _, _, _, _, _ => by simp at h
theorem Rel.keep {a : Addr} {as : List Addr} {cs : List M} {xs : List Addr} {ls : List Ln} (R : Rel a as cs xs ls) (x : Str) : Rel a as cs (keepA x xs ls) (ls.filter fun l => decide (l.item ≠ x)) where
  nd := R.nd
  xd := R.xd.sublist (keepA_sub x xs ls)
  sub := fun y hy => R.sub y ((keepA_sub x xs ls).subset hy)
  len := R.len
  xl := keepA_len x xs ls R.xl
  at_ := fun i y l hy hl => by
    obtain ⟨j, q1, q2⟩ := keepA_at x xs ls R.xl i y l hy hl
    exact R.at_ j y l q1 q2
theorem keep_loop (d0 d2 : D) (x : Str) (n : Int) (rest : List D) (w : D) (hx : okS x) : ∀ (xs : List Addr) (ls : List Ln), xs.length = ls.length → (∀ l ∈ ls, okS l.item) →
    lcL [3] (gNm 3) (fT (fOp (g2 gNe) (fPl 3 [("item", ["CartLine"])]) (fOp (g2 gIx) (fVar 1) (fC (.int 1))))) (fVar 3) (List.zipWith obaL xs ls) [.d d0, .d (.tup (w :: .str x :: .int n :: rest)), .d d2, .no]
      = some ((List.zipWith obaL (keepA x xs ls) (ls.filter fun l => decide (l.item ≠ x))).map .d, [.d d0, .d (.tup (w :: .str x :: .int n :: rest)), .d d2, .no])
  | [], [], _, _ => rfl
  | a :: xs, l :: ls, h, ok => by
    have ih := keep_loop d0 d2 x n rest w hx xs ls (by simpa using h) (fun k hk => ok k (by simp [hk]))
    have hl : okS l.item := ok l (by simp)
    unfold okS at hx hl
    simp only [List.zipWith_cons_cons]
    unfold lcL keepA
    by_cases e : l.item = x
    · simp (config := {decide := true}) [fnF, sRet, sRetN, sSeq, sIf, sSet, sPass, sFrz, sDrop, fT, fOp, fVar, fC, fMov, fFrz, fD, startE, M.isD, M.toD, M.toDs, M.toB, fIxO, isO, sIxO, atI, ixN, g2, g2m, fOf, PL.g1, g1m, g22, fCons, fNil, fIo, fCall, PL.fill, putb, M.argOf, M.hole, ownS, fin, finals, tNotT, tAndT, tOrT, fAnd, fOr, fNot, fIf, fChain, fPl, getP, setP, M.cell, M.setCell, M.sub, M.fld, fldI, sPut, M.setF, M.put, sAug, gPut, gTu, PL.gCons, gsNil, sAsg, sPar, fMethO, fMeth, fMake, appF, fLenO, sAppP, sApp, fLc, wipeB, tTrue, lAny, lRng, gNm, PL.gLst, PL.gTup, M.datas, fUnD, fMethK, fMake2, fProp, sExt, fPopP, gC, gInt, gInt0, gMod, gDiv, PL.gSub, gAdd, gMul, gLt, gLe, gGt, gGe, gToInt, gAbs, gMax, gMin, gLen, gIsN, gTupOf, gLstOf, bF, tPeek, fPeek, gEq_ss, gNe_ss, gEq_ii, gNe_ii, ok_take, ok_least, ok_last, ok_show, ok_ask, ok_put, ok_look, ok_alter, ok_back, ok_pay, ok_price, ok_again, obaL, lineNs, hl, hx, e, ix1, ih]
    · simp (config := {decide := true}) [fnF, sRet, sRetN, sSeq, sIf, sSet, sPass, sFrz, sDrop, fT, fOp, fVar, fC, fMov, fFrz, fD, startE, M.isD, M.toD, M.toDs, M.toB, fIxO, isO, sIxO, atI, ixN, g2, g2m, fOf, PL.g1, g1m, g22, fCons, fNil, fIo, fCall, PL.fill, putb, M.argOf, M.hole, ownS, fin, finals, tNotT, tAndT, tOrT, fAnd, fOr, fNot, fIf, fChain, fPl, getP, setP, M.cell, M.setCell, M.sub, M.fld, fldI, sPut, M.setF, M.put, sAug, gPut, gTu, PL.gCons, gsNil, sAsg, sPar, fMethO, fMeth, fMake, appF, fLenO, sAppP, sApp, fLc, wipeB, tTrue, lAny, lRng, gNm, PL.gLst, PL.gTup, M.datas, fUnD, fMethK, fMake2, fProp, sExt, fPopP, gC, gInt, gInt0, gMod, gDiv, PL.gSub, gAdd, gMul, gLt, gLe, gGt, gGe, gToInt, gAbs, gMax, gMin, gLen, gIsN, gTupOf, gLstOf, bF, tPeek, fPeek, gEq_ss, gNe_ss, gEq_ii, gNe_ii, ok_take, ok_least, ok_last, ok_show, ok_ask, ok_put, ok_look, ok_alter, ok_back, ok_pay, ok_price, ok_again, obaL, lineNs, hl, hx, e, ix1, ih]
  | [], _ :: _, h, _ => by simp at h
  | _ :: _, [], h, _ => by simp at h
theorem p_touched_alter0 {a : Addr} {as : List Addr} {ls : List Ln} {dsg : D} {ks : List Key} {ms : List M} {fl : Bool} {sp : D} {ta : Int} {rest : List D} {post : M → List M → Prop} {x : Str} {i : Nat} {l : Ln}
    (nd : (a :: as).Nodup) (hl : as.length = ls.length) (hz : ls.length ≤ 1000000) (hx : okS x) (ok : ∀ l ∈ ls, okS l.item) (hi : lnIx x ls = some i) (hli : ls[i]? = some l) (hp : TPost a dsg ks ms fl sp ta ((ls.set i { l with number := 0 }).filter fun l => decide (l.item ≠ x)) [] post) :
    W_Cart_touched [.box a (a :: as) (rootM dsg ks ms as fl sp ta :: ls.map Ln.m), .d (.tup (.str "alter" :: .str x :: .int 0 :: rest))] post := by
  have R := Rel.start nd hl
  obtain ⟨d1, ds2, d5, hv⟩ := box_view R dsg ks ms fl sp ta
  have hro := p_row_of d1 (.dic ks ds2) (.bl fl) d5 (.int ta) x as ls hx hl ok
  rw [hi] at hro
  simp only at hro
  have hia : i < as.length := by
    rw [hl]; exact (List.getElem?_eq_some_iff.mp hli).1
  have hxa : as[i]? = some (as.getD i 0) := by
    rw [List.getD_eq_getElem?_getD, List.getElem?_eq_getElem hia]; rfl
  have hm : as.getD i 0 ∈ as := List.mem_of_getElem? hxa
  have hne : a ≠ as.getD i 0 := fun e => (List.nodup_cons.mp nd).1 (e ▸ hm)
  have hc := R.at_ i _ l hxa hli
  have R2 := R.set (l' := { l with number := 0 }) hxa
  have R3 := R2.keep x
  have key := hp as _ _ R3 (fun j hj => by simp at hj)
  simp only [List.map_nil] at key
  have ok2 : ∀ k ∈ ls.set i { l with number := 0 }, okS k.item := fun k hk => by
    rcases List.mem_or_eq_of_mem_set hk with z | z
    · exact ok k z
    · subst z; exact ok l (List.mem_of_getElem? hli)
  obtain ⟨e1, es2, e5, hv2⟩ := box_view R2 dsg ks ms fl sp ta
  have hlz : (List.zipWith obaL as (ls.set i { l with number := 0 })).length ≤ 1000000 := by
    simp only [List.length_zipWith, List.length_set, hl, Nat.min_self]; exact hz
  have lp := fun d0 d2 => keep_loop d0 d2 x 0 rest (.str "alter") hx as (ls.set i { l with number := 0 }) (by simp [hl]) ok2
  have hu := un_rows (keepA x as (ls.set i { l with number := 0 })) _ R3.xl
  rw [List.map_zipWith] at hu
  have hs := safe_rows (keepA x as (ls.set i { l with number := 0 }))
  generalize keepA x as (ls.set i { l with number := 0 }) = zs at *
  generalize (ls.set i { l with number := 0 }).filter (fun l => decide (l.item ≠ x)) = ls3 at *
  generalize List.zipWith obaL as (ls.set i { l with number := 0 }) = rw2 at *
  obtain ⟨y, hy⟩ : ∃ y, y = as.getD i 0 := ⟨_, rfl⟩
  rw [← hy] at hro hxa hm hne hc key hv2
  refine ⟨rfl, ?_⟩
  unfold g_Cart_touched
  obtain ⟨it, nu, ke, sh, gr⟩ := l
  simp only [Ln.m, lineNs] at hc
  refine ⟨.nx, [.o (some 0) (.box a (a :: as) (rootM dsg ks ms as fl sp ta :: ls.map Ln.m)), .d (.tup (.str "alter" :: .str x :: .int 0 :: rest)), .no, .no], ?_, ?_⟩
  · simp (config := {decide := true}) [fnF, sRet, sRetN, sSeq, sIf, sSet, sPass, sFrz, sDrop, fT, fOp, fVar, fC, fMov, fFrz, fD, startE, M.isD, M.toD, M.toDs, M.toB, fIxO, isO, sIxO, atI, ixN, g2, g2m, fOf, PL.g1, g1m, g22, fCons, fNil, fIo, fCall, PL.fill, putb, M.argOf, M.hole, ownS, fin, finals, tNotT, tAndT, tOrT, fAnd, fOr, fNot, fIf, fChain, fPl, getP, setP, M.cell, M.setCell, M.sub, M.fld, fldI, sPut, M.setF, M.put, sAug, gPut, gTu, PL.gCons, gsNil, sAsg, sPar, fMethO, fMeth, fMake, appF, fLenO, sAppP, sApp, fLc, lcL, wipeB, tTrue, lAny, lRng, gNm, sFor, forL, PL.gLst, PL.gTup, M.datas, fUnD, fMethK, fMake2, fProp, sExt, fPopP, gC, gInt, gInt0, gMod, gDiv, PL.gSub, gAdd, gMul, gLt, gLe, gGt, gGe, gToInt, gAbs, gMax, gMin, gLen, gIsN, gTupOf, gLstOf, bF, tPeek, fPeek, gEq_ss, gNe_ss, gEq_ii, gNe_ii, ok_take, ok_least, ok_last, ok_show, ok_ask, ok_put, ok_look, ok_alter, ok_back, ok_pay, ok_price, ok_again, ix0, gIn_2]
  refine ⟨.nx, [.o (some 0) (.box a (a :: as) (rootM dsg ks ms as fl sp ta :: ls.map Ln.m)), .d (.tup (.str "alter" :: .str x :: .int 0 :: rest)), .d (.adr y), .no], ?_, ?_⟩
  · simp only [cartNm] at hv hro
    simp (config := {decide := true}) [fnF, sRet, sRetN, sSeq, sIf, sSet, sPass, sFrz, sDrop, fT, fOp, fVar, fC, fMov, fFrz, fD, startE, M.isD, M.toD, M.toDs, M.toB, fIxO, isO, sIxO, atI, ixN, g2, g2m, fOf, PL.g1, g1m, g22, fCons, fNil, fIo, fCall, PL.fill, putb, M.argOf, M.hole, ownS, fin, finals, tNotT, tAndT, tOrT, fAnd, fOr, fNot, fIf, fChain, fPl, getP, setP, M.cell, M.setCell, M.sub, M.fld, fldI, sPut, M.setF, M.put, sAug, gPut, gTu, PL.gCons, gsNil, sAsg, sPar, fMethO, fMeth, fMake, appF, fLenO, sAppP, sApp, fLc, lcL, wipeB, tTrue, lAny, lRng, gNm, sFor, forL, PL.gLst, PL.gTup, M.datas, fUnD, fMethK, fMake2, fProp, sExt, fPopP, gC, gInt, gInt0, gMod, gDiv, PL.gSub, gAdd, gMul, gLt, gLe, gGt, gGe, gToInt, gAbs, gMax, gMin, gLen, gIsN, gTupOf, gLstOf, bF, tPeek, fPeek, gEq_ss, gNe_ss, gEq_ii, gNe_ii, ok_take, ok_least, ok_last, ok_show, ok_ask, ok_put, ok_look, ok_alter, ok_back, ok_pay, ok_price, ok_again, ix1, hv, hro, obaL, M.unal, D.unal, M.safe, D.safe]
  refine ⟨true, [.o (some 0) (.box a (a :: as) (rootM dsg ks ms as fl sp ta :: ls.map Ln.m)), .d (.tup (.str "alter" :: .str x :: .int 0 :: rest)), .d (.adr y), .no], ?_, ?_⟩
  · simp (config := {decide := true}) [fnF, sRet, sRetN, sSeq, sIf, sSet, sPass, sFrz, sDrop, fT, fOp, fVar, fC, fMov, fFrz, fD, startE, M.isD, M.toD, M.toDs, M.toB, fIxO, isO, sIxO, atI, ixN, g2, g2m, fOf, PL.g1, g1m, g22, fCons, fNil, fIo, fCall, PL.fill, putb, M.argOf, M.hole, ownS, fin, finals, tNotT, tAndT, tOrT, fAnd, fOr, fNot, fIf, fChain, fPl, getP, setP, M.cell, M.setCell, M.sub, M.fld, fldI, sPut, M.setF, M.put, sAug, gPut, gTu, PL.gCons, gsNil, sAsg, sPar, fMethO, fMeth, fMake, appF, fLenO, sAppP, sApp, fLc, lcL, wipeB, tTrue, lAny, lRng, gNm, sFor, forL, PL.gLst, PL.gTup, M.datas, fUnD, fMethK, fMake2, fProp, sExt, fPopP, gC, gInt, gInt0, gMod, gDiv, PL.gSub, gAdd, gMul, gLt, gLe, gGt, gGe, gToInt, gAbs, gMax, gMin, gLen, gIsN, gTupOf, gLstOf, bF, tPeek, fPeek, gEq_ss, gNe_ss, gEq_ii, gNe_ii, ok_take, ok_least, ok_last, ok_show, ok_ask, ok_put, ok_look, ok_alter, ok_back, ok_pay, ok_price, ok_again, ix0]
  simp only [if_true]
  refine ⟨.rt (.lst []), [.o (some 0) (.box a (a :: as) (rootM dsg ks ms zs fl sp ta :: (ls.map Ln.m).set (as.idxOf y) (Ln.m ⟨it, 0, ke, sh, gr⟩))), .d (.tup (.str "alter" :: .str x :: .int 0 :: rest)), .d (.adr y), .no], ?_, [_], ?_, key⟩
  · simp only [Ln.m, lineNs] at hv2
    simp only [cartNm] at hv2 lp
    have hroot : rootM dsg ks ms as fl sp ta = M.obj "Cart" ["design", "amounts", "rows", "is_failed", "spent", "times_asked"] [.d dsg, .dic ks ms, .lst (as.map adrM), .d (.bl fl), .d sp, .d (.int ta)] := rfl
    have hroot2 : rootM dsg ks ms zs fl sp ta = M.obj "Cart" ["design", "amounts", "rows", "is_failed", "spent", "times_asked"] [.d dsg, .dic ks ms, .lst (zs.map adrM), .d (.bl fl), .d sp, .d (.int ta)] := rfl
    have st1 : sPut 2 [] ("number", ["CartLine"]) (fOp (g2 gIx) (fVar 1) (fC (.int 2))) [.o (some 0) (.box a (a :: as) (rootM dsg ks ms as fl sp ta :: ls.map Ln.m)), .d (.tup (.str "alter" :: .str x :: .int 0 :: rest)), .d (.adr y), .no]
        = some (PL.R.nx, [.o (some 0) (.box a (a :: as) (rootM dsg ks ms as fl sp ta :: (ls.map Ln.m).set (as.idxOf y) (Ln.m ⟨it, 0, ke, sh, gr⟩))), .d (.tup (.str "alter" :: .str x :: .int 0 :: rest)), .d (.adr y), .no]) := by
      simp (config := {decide := true}) [fnF, sRet, sRetN, sSeq, sIf, sSet, sPass, sFrz, sDrop, fT, fOp, fVar, fC, fMov, fFrz, fD, startE, M.isD, M.toD, M.toDs, M.toB, fIxO, isO, sIxO, atI, ixN, g2, g2m, fOf, PL.g1, g1m, g22, fCons, fNil, fIo, fCall, PL.fill, putb, M.argOf, M.hole, ownS, fin, finals, tNotT, tAndT, tOrT, fAnd, fOr, fNot, fIf, fChain, fPl, getP, setP, M.cell, M.setCell, M.sub, M.fld, fldI, sPut, M.setF, M.put, sAug, gPut, gTu, PL.gCons, gsNil, sAsg, sPar, fMethO, fMeth, fMake, appF, fLenO, sAppP, sApp, fLc, lcL, wipeB, tTrue, lAny, lRng, gNm, sFor, forL, PL.gLst, PL.gTup, M.datas, fUnD, fMethK, fMake2, fProp, sExt, fPopP, gC, gInt, gInt0, gMod, gDiv, PL.gSub, gAdd, gMul, gLt, gLe, gGt, gGe, gToInt, gAbs, gMax, gMin, gLen, gIsN, gTupOf, gLstOf, bF, tPeek, fPeek, gEq_ss, gNe_ss, gEq_ii, gNe_ii, ok_take, ok_least, ok_last, ok_show, ok_ask, ok_put, ok_look, ok_alter, ok_back, ok_pay, ok_price, ok_again, ix2, boxAt, hm, hne, idx_cons hne, hc, Ln.m, lineNs]
    have st2 : fPeek (fLc [3] (lAny (fPl 0 [("rows", ["Cart"])])) (gNm 3) (fT (fOp (g2 gNe) (fPl 3 [("item", ["CartLine"])]) (fOp (g2 gIx) (fVar 1) (fC (.int 1))))) (fVar 3))
        [.o (some 0) (.box a (a :: as) (rootM dsg ks ms as fl sp ta :: (ls.map Ln.m).set (as.idxOf y) (Ln.m ⟨it, 0, ke, sh, gr⟩))), .d (.tup (.str "alter" :: .str x :: .int 0 :: rest)), .d (.adr y), .no]
        = some (.lst (zs.map adrM), [.o (some 0) (.box a (a :: as) (rootM dsg ks ms as fl sp ta :: (ls.map Ln.m).set (as.idxOf y) (Ln.m ⟨it, 0, ke, sh, gr⟩))), .d (.tup (.str "alter" :: .str x :: .int 0 :: rest)), .d (.adr y), .no]) := by
      rw [fPeek]
      simp (config := {decide := true}) only [List.map_cons, List.map_nil, bF, Ln.m, lineNs, hv2, hlz]
      simp (config := {decide := true}) [fnF, sRet, sRetN, sSeq, sIf, sSet, sPass, sFrz, sDrop, fT, fOp, fVar, fC, fMov, fFrz, fD, startE, M.isD, M.toD, M.toDs, M.toB, fIxO, isO, sIxO, atI, ixN, g2, g2m, fOf, PL.g1, g1m, g22, fCons, fNil, fIo, fCall, PL.fill, putb, M.argOf, M.hole, ownS, fin, finals, tNotT, tAndT, tOrT, fAnd, fOr, fNot, fIf, fChain, fPl, getP, setP, M.cell, M.setCell, M.sub, M.fld, fldI, sPut, M.setF, M.put, sAug, gPut, gTu, PL.gCons, gsNil, sAsg, sPar, fMethO, fMeth, fMake, appF, fLenO, sAppP, sApp, fLc, wipeB, tTrue, lAny, lRng, gNm, PL.gLst, PL.gTup, M.datas, fUnD, fMethK, fMake2, fProp, sExt, fPopP, gC, gInt, gInt0, gMod, gDiv, PL.gSub, gAdd, gMul, gLt, gLe, gGt, gGe, gToInt, gAbs, gMax, gMin, gLen, gIsN, gTupOf, gLstOf, bF, tPeek, fPeek, gEq_ss, gNe_ss, gEq_ii, gNe_ii, ok_take, ok_least, ok_last, ok_show, ok_ask, ok_put, ok_look, ok_alter, ok_back, ok_pay, ok_price, ok_again, hlz, lp, M.unal, hu, M.safe, hs]
    rw [sSeq, st1]
    simp only []
    have st3 : sSeq (sPut 0 [] ("rows", ["Cart"]) (fPeek (fLc [3] (lAny (fPl 0 [("rows", ["Cart"])])) (gNm 3) (fT (fOp (g2 gNe) (fPl 3 [("item", ["CartLine"])]) (fOp (g2 gIx) (fVar 1) (fC (.int 1))))) (fVar 3)))) (sRet (fOf PL.gLst fNil))
        [.o (some 0) (.box a (a :: as) (rootM dsg ks ms as fl sp ta :: (ls.map Ln.m).set (as.idxOf y) (Ln.m ⟨it, 0, ke, sh, gr⟩))), .d (.tup (.str "alter" :: .str x :: .int 0 :: rest)), .d (.adr y), .no]
        = some (PL.R.rt (.lst []), [.o (some 0) (.box a (a :: as) (rootM dsg ks ms zs fl sp ta :: (ls.map Ln.m).set (as.idxOf y) (Ln.m ⟨it, 0, ke, sh, gr⟩))), .d (.tup (.str "alter" :: .str x :: .int 0 :: rest)), .d (.adr y), .no]) := by
      simp only [sSeq, sPut, st2]
      rw [hroot, hroot2]
      simp (config := {decide := true}) [fnF, sRet, sRetN, sSeq, sIf, sSet, sPass, sFrz, sDrop, fT, fOp, fVar, fC, fMov, fFrz, fD, startE, M.isD, M.toD, M.toDs, M.toB, fIxO, isO, sIxO, atI, ixN, g2, g2m, fOf, PL.g1, g1m, g22, fCons, fNil, fIo, fCall, PL.fill, putb, M.argOf, M.hole, ownS, fin, finals, tNotT, tAndT, tOrT, fAnd, fOr, fNot, fIf, fChain, fPl, getP, setP, M.cell, M.setCell, M.sub, M.fld, fldI, sPut, M.setF, M.put, sAug, gPut, gTu, PL.gCons, gsNil, sAsg, sPar, fMethO, fMeth, fMake, appF, fLenO, sAppP, sApp, fLc, lcL, wipeB, tTrue, lAny, lRng, gNm, sFor, forL, PL.gLst, PL.gTup, M.datas, fUnD, fMethK, fMake2, fProp, sExt, fPopP, gC, gInt, gInt0, gMod, gDiv, PL.gSub, gAdd, gMul, gLt, gLe, gGt, gGe, gToInt, gAbs, gMax, gMin, gLen, gIsN, gTupOf, gLstOf, bF, tPeek, fPeek, gEq_ss, gNe_ss, gEq_ii, gNe_ii, ok_take, ok_least, ok_last, ok_show, ok_ask, ok_put, ok_look, ok_alter, ok_back, ok_pay, ok_price, ok_again]
    simp (config := {decide := true}) [sIf, fT, fOp, fVar, fC, g2, ix2, gEq_ii]
    exact st3
  · simp [finals, M.isD]
theorem p_touched {a : Addr} {as : List Addr} {ls ls1 : List Ln} {sel : List Nat} {dsg : D} {ks : List Key} {ms : List M} {fl : Bool} {sp : D} {ta : Int} {word : Str} {rest : List D} {post : M → List M → Prop}
    (nd : (a :: as).Nodup) (hl : as.length = ls.length) (ok : ∀ l ∈ ls, okS l.item) (ht : touchedP ks ms word rest ls = some (ls1, sel)) (hp : TPost a dsg ks ms fl sp ta ls1 sel post) :
    W_Cart_touched [.box a (a :: as) (rootM dsg ks ms as fl sp ta :: ls.map Ln.m), .d (.tup (.str word :: rest))] post := by
  unfold touchedP at ht
  split at ht
  · rename_i h
    cases ht
    exact p_touched_all nd hl h.1 h.2 hp
  · rename_i h
    split at ht
    · rename_i x n r
      split at ht
      · cases ht
      · rename_i hx
        have hx : okS x := by
          unfold okS
          cases q : PyData.strOk x with
          | true => rfl
          | false => exact absurd q hx
        split at ht
        · rename_i i hi
          split at ht
          · rename_i l hli
            split at ht
            · rename_i hw
              subst hw
              split at ht
              · rename_i hn
                subst hn
                split at ht
                · rename_i hz
                  cases ht
                  exact p_touched_alter0 nd hl hz hx ok hi hli hp
                · cases ht
              · rename_i hn
                cases ht
                exact p_touched_alter nd hl hx ok hi hli hn hp
            · rename_i hw
              cases ht
              have : word = "put" := by
                by_cases e : word = "put"
                · exact e
                · exact absurd ⟨e, hw⟩ h
              subst this
              exact p_touched_put nd hl hx ok hi hli hp
          · cases ht
        · rename_i hi
          split at ht
          · cases ht
          · rename_i hw
            split at ht
            · rename_i am ha
              split at ht
              · rename_i hz
                cases ht
                have : word = "put" := by
                  by_cases e : word = "put"
                  · exact e
                  · exact absurd ⟨e, hw⟩ h
                subst this
                exact p_touched_new nd hl hx ok hi ha hz hp
              · cases ht
            · cases ht
    · cases ht
theorem pF_carry : ∀ ms r os, F_Cart_carry_out ms = some (r, os) → ∃ (m0 : M) (ds : List D) (N : Nat) (m1 : M), ms = m0 :: ds.map M.d ∧ os = [m1] ∧ openN "rows" m0 = some N ∧
      ∀ a as, (a :: as).Nodup → as.length = N → W_Cart_carry_out (openM "rows" m0 a as :: ds.map M.d) fun r' os' => r' = r ∧ ∃ bx, os' = [bx] ∧ closeM "rows" bx = some m1 := by
  intro ms0 r os h
  unfold F_Cart_carry_out at h
  split at h
  · rename_i C ns dsg ks ms rows fl sp ta word rest
    split at h
    · rename_i hc
      obtain ⟨rfl, rfl, hb⟩ := hc
      split at h
      · rename_i ls hr
        have er := toLns_m hr
        subst er
        split at h
        · rename_i hok
          obtain ⟨hw, hok⟩ := hok
          have ok : ∀ l ∈ ls, okS l.item := fun l hl => List.all_eq_true.mp hok l hl
          unfold carryP at h
          split at h
          · rename_i ls1 sel ht
            split at h
            · rename_i ls2 found hs
              split at h
              · rename_i fl2 hq
                cases h
                have hpl : (ls.map Ln.m).all M.plain = true := by
                  rw [List.all_map]
                  exact List.all_eq_true.mpr fun l _ => rfl
                refine ⟨_, [.tup (.str word :: rest)], ls.length, _, rfl, rfl, ?_, fun a as nd hl => ?_⟩
                · simp (config := {decide := true}) [openN, fldI, cartNs, hpl]
                · have eo : openM "rows" (M.obj "Cart" cartNs [.d dsg, .dic ks ms, .lst (ls.map Ln.m), .d (.bl fl), .d sp, .d (.int ta)]) a as = .box a (a :: as) (rootM dsg ks ms as fl sp ta :: ls.map Ln.m) := by
                    simp (config := {decide := true}) [openM, fldI, cartNs, rootM]
                  rw [eo]
                  obtain ⟨door, hdoor⟩ : ∃ d, d = (if word = "pay" ∧ fl = true then "again" else word : Str) := ⟨_, rfl⟩
                  rw [← hdoor] at hs
                  refine ⟨rfl, ?_⟩
                  unfold g_Cart_carry_out
                  refine ⟨.nx, [.o (some 0) (.box a (a :: as) (rootM dsg ks ms as fl sp ta :: ls.map Ln.m)), .d (.tup (.str word :: rest)), .d (.str door), .no, .no, .no], ?_, ?_⟩
                  · by_cases e1 : word = "pay"
                    · subst e1
                      cases fl <;> simp (config := {decide := true}) [fnF, sRet, sRetN, sSeq, sIf, sSet, sPass, sFrz, sDrop, fT, fOp, fVar, fC, fMov, fFrz, fD, startE, M.isD, M.toD, M.toDs, M.toB, fIxO, isO, sIxO, atI, ixN, g2, g2m, fOf, PL.g1, g1m, g22, fCons, fNil, fIo, fCall, PL.fill, putb, M.argOf, M.hole, ownS, fin, finals, tNotT, tAndT, tOrT, fAnd, fOr, fNot, fIf, fChain, fPl, getP, setP, M.cell, M.setCell, M.sub, M.fld, fldI, sPut, M.setF, M.put, sAug, gPut, gTu, PL.gCons, gsNil, sAsg, sPar, fMethO, fMeth, fMake, appF, fLenO, sAppP, sApp, fLc, lcL, wipeB, tTrue, lAny, lRng, gNm, sFor, forL, PL.gLst, PL.gTup, M.datas, fUnD, fMethK, fMake2, fProp, sExt, fPopP, gC, gInt, gInt0, gMod, gDiv, PL.gSub, gAdd, gMul, gLt, gLe, gGt, gGe, gToInt, gAbs, gMax, gMin, gLen, gIsN, gTupOf, gLstOf, bF, tPeek, fPeek, gEq_ss, gNe_ss, gEq_ii, gNe_ii, ok_take, ok_least, ok_last, ok_show, ok_ask, ok_put, ok_look, ok_alter, ok_back, ok_pay, ok_price, ok_again, ix0, rootM, hdoor]
                    · simp (config := {decide := true}) [fnF, sRet, sRetN, sSeq, sIf, sSet, sPass, sFrz, sDrop, fT, fOp, fVar, fC, fMov, fFrz, fD, startE, M.isD, M.toD, M.toDs, M.toB, fIxO, isO, sIxO, atI, ixN, g2, g2m, fOf, PL.g1, g1m, g22, fCons, fNil, fIo, fCall, PL.fill, putb, M.argOf, M.hole, ownS, fin, finals, tNotT, tAndT, tOrT, fAnd, fOr, fNot, fIf, fChain, fPl, getP, setP, M.cell, M.setCell, M.sub, M.fld, fldI, sPut, M.setF, M.put, sAug, gPut, gTu, PL.gCons, gsNil, sAsg, sPar, fMethO, fMeth, fMake, appF, fLenO, sAppP, sApp, fLc, lcL, wipeB, tTrue, lAny, lRng, gNm, sFor, forL, PL.gLst, PL.gTup, M.datas, fUnD, fMethK, fMake2, fProp, sExt, fPopP, gC, gInt, gInt0, gMod, gDiv, PL.gSub, gAdd, gMul, gLt, gLe, gGt, gGe, gToInt, gAbs, gMax, gMin, gLen, gIsN, gTupOf, gLstOf, bF, tPeek, fPeek, gEq_ss, gNe_ss, gEq_ii, gNe_ii, ok_take, ok_least, ok_last, ok_show, ok_ask, ok_put, ok_look, ok_alter, ok_back, ok_pay, ok_price, ok_again, ix0, rootM, hdoor, e1, hw]
                  refine ⟨.nx, [.o (some 0) (.box a (a :: as) (rootM dsg ks ms as fl sp ta :: ls.map Ln.m)), .d (.tup (.str word :: rest)), .d (.str door), .o none (.lst []), .no, .no], ?_, ?_⟩
                  · simp (config := {decide := true}) [fnF, sRet, sRetN, sSeq, sIf, sSet, sPass, sFrz, sDrop, fT, fOp, fVar, fC, fMov, fFrz, fD, startE, M.isD, M.toD, M.toDs, M.toB, fIxO, isO, sIxO, atI, ixN, g2, g2m, fOf, PL.g1, g1m, g22, fCons, fNil, fIo, fCall, PL.fill, putb, M.argOf, M.hole, ownS, fin, finals, tNotT, tAndT, tOrT, fAnd, fOr, fNot, fIf, fChain, fPl, getP, setP, M.cell, M.setCell, M.sub, M.fld, fldI, sPut, M.setF, M.put, sAug, gPut, gTu, PL.gCons, gsNil, sAsg, sPar, fMethO, fMeth, fMake, appF, fLenO, sAppP, sApp, fLc, lcL, wipeB, tTrue, lAny, lRng, gNm, sFor, forL, PL.gLst, PL.gTup, M.datas, fUnD, fMethK, fMake2, fProp, sExt, fPopP, gC, gInt, gInt0, gMod, gDiv, PL.gSub, gAdd, gMul, gLt, gLe, gGt, gGe, gToInt, gAbs, gMax, gMin, gLen, gIsN, gTupOf, gLstOf, bF, tPeek, fPeek, gEq_ss, gNe_ss, gEq_ii, gNe_ii, ok_take, ok_least, ok_last, ok_show, ok_ask, ok_put, ok_look, ok_alter, ok_back, ok_pay, ok_price, ok_again]
                  refine ⟨"Cart", ["design", "amounts", "rows", "is_failed", "spent", "times_asked"], [.d dsg, .dic ks ms, .lst (as.map adrM), .d (.bl fl), .d sp, .d (.int ta)], [.d (.tup (.str word :: rest))], [.o (some 0) (.box a (a :: as) (rootM dsg ks ms as fl sp ta :: ls.map Ln.m)), .d (.tup (.str word :: rest)), .d (.str door), .o none (.lst []), .no, .no], [.box a (a :: as) (rootM dsg ks ms as fl sp ta :: ls.map Ln.m), .d (.tup (.str word :: rest))], [(0, some 0, none)], [.no, .d (.tup (.str word :: rest)), .d (.str door), .o none (.lst []), .no, .no], ?_, rfl, by decide, ?_, ?_, ?_⟩
                  · simp (config := {decide := true}) [fnF, sRet, sRetN, sSeq, sIf, sSet, sPass, sFrz, sDrop, fT, fOp, fVar, fC, fMov, fFrz, fD, startE, M.isD, M.toD, M.toDs, M.toB, fIxO, isO, sIxO, atI, ixN, g2, g2m, fOf, PL.g1, g1m, g22, fCons, fNil, fIo, fCall, PL.fill, putb, M.argOf, M.hole, ownS, fin, finals, tNotT, tAndT, tOrT, fAnd, fOr, fNot, fIf, fChain, fPl, getP, setP, M.cell, M.setCell, M.sub, M.fld, fldI, sPut, M.setF, M.put, sAug, gPut, gTu, PL.gCons, gsNil, sAsg, sPar, fMethO, fMeth, fMake, appF, fLenO, sAppP, sApp, fLc, lcL, wipeB, tTrue, lAny, lRng, gNm, sFor, forL, PL.gLst, PL.gTup, M.datas, fUnD, fMethK, fMake2, fProp, sExt, fPopP, gC, gInt, gInt0, gMod, gDiv, PL.gSub, gAdd, gMul, gLt, gLe, gGt, gGe, gToInt, gAbs, gMax, gMin, gLen, gIsN, gTupOf, gLstOf, bF, tPeek, fPeek, gEq_ss, gNe_ss, gEq_ii, gNe_ii, ok_take, ok_least, ok_last, ok_show, ok_ask, ok_put, ok_look, ok_alter, ok_back, ok_pay, ok_price, ok_again, rootM]
                  · simp (config := {decide := true}) [fnF, sRet, sRetN, sSeq, sIf, sSet, sPass, sFrz, sDrop, fT, fOp, fVar, fC, fMov, fFrz, fD, startE, M.isD, M.toD, M.toDs, M.toB, fIxO, isO, sIxO, atI, ixN, g2, g2m, fOf, PL.g1, g1m, g22, fCons, fNil, fIo, fCall, PL.fill, putb, M.argOf, M.hole, ownS, fin, finals, tNotT, tAndT, tOrT, fAnd, fOr, fNot, fIf, fChain, fPl, getP, setP, M.cell, M.setCell, M.sub, M.fld, fldI, sPut, M.setF, M.put, sAug, gPut, gTu, PL.gCons, gsNil, sAsg, sPar, fMethO, fMeth, fMake, appF, fLenO, sAppP, sApp, fLc, lcL, wipeB, tTrue, lAny, lRng, gNm, sFor, forL, PL.gLst, PL.gTup, M.datas, fUnD, fMethK, fMake2, fProp, sExt, fPopP, gC, gInt, gInt0, gMod, gDiv, PL.gSub, gAdd, gMul, gLt, gLe, gGt, gGe, gToInt, gAbs, gMax, gMin, gLen, gIsN, gTupOf, gLstOf, bF, tPeek, fPeek, gEq_ss, gNe_ss, gEq_ii, gNe_ii, ok_take, ok_least, ok_last, ok_show, ok_ask, ok_put, ok_look, ok_alter, ok_back, ok_pay, ok_price, ok_again]
                  · simp (config := {decide := true}) [fnF, sRet, sRetN, sSeq, sIf, sSet, sPass, sFrz, sDrop, fT, fOp, fVar, fC, fMov, fFrz, fD, startE, M.isD, M.toD, M.toDs, M.toB, fIxO, isO, sIxO, atI, ixN, g2, g2m, fOf, PL.g1, g1m, g22, fCons, fNil, fIo, fCall, PL.fill, putb, M.argOf, M.hole, ownS, fin, finals, tNotT, tAndT, tOrT, fAnd, fOr, fNot, fIf, fChain, fPl, getP, setP, M.cell, M.setCell, M.sub, M.fld, fldI, sPut, M.setF, M.put, sAug, gPut, gTu, PL.gCons, gsNil, sAsg, sPar, fMethO, fMeth, fMake, appF, fLenO, sAppP, sApp, fLc, lcL, wipeB, tTrue, lAny, lRng, gNm, sFor, forL, PL.gLst, PL.gTup, M.datas, fUnD, fMethK, fMake2, fProp, sExt, fPopP, gC, gInt, gInt0, gMod, gDiv, PL.gSub, gAdd, gMul, gLt, gLe, gGt, gGe, gToInt, gAbs, gMax, gMin, gLen, gIsN, gTupOf, gLstOf, bF, tPeek, fPeek, gEq_ss, gNe_ss, gEq_ii, gNe_ii, ok_take, ok_least, ok_last, ok_show, ok_ask, ok_put, ok_look, ok_alter, ok_back, ok_pay, ok_price, ok_again]
                  refine p_touched nd hl ok ht fun as' cs' xs' R hsel => ?_
                  obtain ⟨cs2, B4, B5, hlp, R2⟩ := p_loop (fl := fl) (sp := sp) (ta := ta) (deed := .tup (.str word :: rest)) hb sel ls1 ls2 cs' [] found .no .no R hs hsel
                  refine ⟨[cboxB a as' (rootM dsg ks ms xs' fl sp ta) cs', .d (.tup (.str word :: rest)), .d (.str door), .o none (.lst []), .no, .no], ?_, sel.map (fun i => D.adr (xs'.getD i 0)), ?_, .nx, _, hlp, ?_⟩
                  · simp [putb, cboxB, M.isD]
                  · simp [M.toD, toDs_map]
                  refine ⟨.rt (.lst (found.map fun x => .d (.str x))), [.o (some 0) (.box a (a :: as') (rootM dsg ks ms xs' fl2 sp (ta + (found.length : Nat)) :: cs2)), .d (.tup (.str word :: rest)), .d (.str door), .no, B4, B5], ?_, [_], ?_, rfl, _, rfl, R2.close dsg ks ms fl2 sp (ta + (found.length : Nat))⟩
                  · simp (config := {decide := true}) [fnF, sRet, sRetN, sSeq, sIf, sSet, sPass, sFrz, sDrop, fT, fOp, fVar, fC, fMov, fFrz, fD, startE, M.isD, M.toD, M.toDs, M.toB, fIxO, isO, sIxO, atI, ixN, g2, g2m, fOf, PL.g1, g1m, g22, fCons, fNil, fIo, fCall, PL.fill, putb, M.argOf, M.hole, ownS, fin, finals, tNotT, tAndT, tOrT, fAnd, fOr, fNot, fIf, fChain, fPl, getP, setP, M.cell, M.setCell, M.sub, M.fld, fldI, sPut, M.setF, M.put, sAug, gPut, gTu, PL.gCons, gsNil, sAsg, sPar, fMethO, fMeth, fMake, appF, fLenO, sAppP, sApp, fLc, lcL, wipeB, tTrue, lAny, lRng, gNm, sFor, forL, PL.gLst, PL.gTup, M.datas, fUnD, fMethK, fMake2, fProp, sExt, fPopP, gC, gInt, gInt0, gMod, gDiv, PL.gSub, gAdd, gMul, gLt, gLe, gGt, gGe, gToInt, gAbs, gMax, gMin, gLen, gIsN, gTupOf, gLstOf, bF, tPeek, fPeek, gEq_ss, gNe_ss, gEq_ii, gNe_ii, ok_take, ok_least, ok_last, ok_show, ok_ask, ok_put, ok_look, ok_alter, ok_back, ok_pay, ok_price, ok_again, cboxB, rootM, hq]
                  · simp [finals, M.isD]
              · cases h
            · cases h
          · cases h
        · cases h
      · cases h
    · cases h
  · cases h
theorem hF_Cart_carry_out : ∀ ms r os, F_Cart_carry_out ms = some (r, os) → ∃ (m0 : M) (ds : List D) (N : Nat) (m1 : M), ms = m0 :: ds.map M.d ∧ os = [m1] ∧ openN "rows" m0 = some N ∧
      ∀ a as, (a :: as).Nodup → as.length = N → W_Cart_carry_out (openM "rows" m0 a as :: ds.map M.d) fun r' os' => r' = r ∧ ∃ bx, os' = [bx] ∧ closeM "rows" bx = some m1 := pF_carry

theorem fok_Cart_carry_out (S : Says K mg) {a : Addr} {fd : FuncData} (FD : FunD K d_Cart_carry_out.name d_Cart_carry_out.qual d_Cart_carry_out.params d_Cart_carry_out.body d_Cart_carry_out.scope (d_Cart_carry_out.dvs K) [] a fd) : FnOk P w K mg base CX0 5 a fd ["self", "deed"] (spD K F_Cart_carry_out) := (fokW_Cart_carry_out S FD).imp (open_imp hF_Cart_carry_out)
theorem mok_Cart_carry_out (S : Says K mg) : MetOk P w K mg base 5 "Cart" "carry_out" [] F_Cart_carry_out := by
  obtain ⟨fd, FD⟩ := S.c.def_ 29 (d := d_Cart_carry_out) rfl
  exact ⟨m_cls_Cart S, _, fd, ["self", "deed"], [], m_meth_Cart_carry_out S, FD.bindsN (fun _ _ _ _ _ _ us hl => match us, hl with | [_, _], _ => rfl), .nil, fok_Cart_carry_out S FD⟩
def g_Cart_play_deed : Sv := (sSeq (sIf (fT (fOp (g2 gEq) (fOp (g2 gIx) (fVar 1) (fC (.int 0))) (fC (.str "price")))) (sSeq (sDPutP 0 [("amounts", ["Cart"])] (fPeek (fOp (g2 gIx) (fVar 1) (fC (.int 1)))) (fOp (g2 gIx) (fVar 1) (fC (.int 2)))) (sRet (fC .non))) sPass) (sRet (fMethO "Cart" "report" F_Cart_report [] 0 [none, none] (fCons (fVar 1) (fCons (fD (fMethO "Cart" "carry_out" F_Cart_carry_out [] 0 [none] (fCons (fVar 1) fNil))) fNil)))))
def F_Cart_play_deed : Fn := fnF 2 0 g_Cart_play_deed
theorem fok_Cart_play_deed (S : Says K mg) {a : Addr} {fd : FuncData} (FD : FunD K d_Cart_play_deed.name d_Cart_play_deed.qual d_Cart_play_deed.params d_Cart_play_deed.body d_Cart_play_deed.scope (d_Cart_play_deed.dvs K) [] a fd) : FnOk P w K mg base CX0 6 a fd ["self", "deed"] (spD K F_Cart_play_deed) := by
  have met_Cart_report := mok_Cart_report (P := P) (w := w) (base := base) S
  have met_Cart_carry_out := mok_Cart_carry_out (P := P) (w := w) (base := base) S
  exact fn_ok0 (k := 5) FD sc_Cart_play_deed fun cdv A outer s H E hr => by
    unfold g_Cart_play_deed
    exact (ss_cons (s_if (t_eq hr (e_ix (e_var 1) e_int) e_str) (ss_cons (s_dputP hr (pl_cons (pl_nil 0) (m_fk_amounts S)) (k_peek (e_ix (e_var 1) e_int)) kp_peek (e_ix (e_var 1) e_int)) (ss_one (s_ret e_non))) ss_nil) (ss_one (s_ret (e_methO 0 met_Cart_report (hr.mono (by decide)) (fun _ => rpl_nil) (a_cons (e_var 1) (a_cons (e_d (e_methO 0 met_Cart_carry_out (hr.mono (by decide)) (fun _ => rpl_nil) (a_cons (e_var 1) a_nil))) a_nil))))))
theorem mok_Cart_play_deed (S : Says K mg) : MetOk P w K mg base 6 "Cart" "play_deed" [] F_Cart_play_deed := by
  obtain ⟨fd, FD⟩ := S.c.def_ 30 (d := d_Cart_play_deed) rfl
  exact ⟨m_cls_Cart S, _, fd, ["self", "deed"], [], m_meth_Cart_play_deed S, FD.bindsN (fun _ _ _ _ _ _ us hl => match us, hl with | [_, _], _ => rfl), .nil, fok_Cart_play_deed S FD⟩
def g_Shop_go_to : Sv := (sSeq (sAppP 0 [("past", ["Shop"])] (fOf PL.gTup (fCons (fPl 0 [("cart", ["Shop"])]) (fCons (fPl 0 [("story", ["Shop"])]) fNil)))) (sSeq (sPut 0 [] ("cart", ["Shop"]) (fVar 1)) (sPut 0 [] ("story", ["Shop"]) (fVar 2))))
def F_Shop_go_to : Fn := fnF 3 0 g_Shop_go_to
theorem fok_Shop_go_to (S : Says K mg) {a : Addr} {fd : FuncData} (FD : FunD K d_Shop_go_to.name d_Shop_go_to.qual d_Shop_go_to.params d_Shop_go_to.body d_Shop_go_to.scope (d_Shop_go_to.dvs K) [] a fd) : FnOk P w K mg base CX0 1 a fd ["self", "cart", "story"] (spD K F_Shop_go_to) := by
  exact fn_ok0 (k := 0) FD sc_Shop_go_to fun cdv A outer s H E hr => by
    unfold g_Shop_go_to
    exact (ss_cons (s_appP (pl_cons (pl_nil 0) (m_fk_past S)) (k_tup (ka_cons (k_pl (pl_cons (pl_nil 0) (m_fk_cart S))) kp_pl (ka_cons (k_pl (pl_cons (pl_nil 0) (m_fk_story S))) kp_pl ka_nil)) (kp_cons kp_pl (kp_cons kp_pl kp_nil))) (kp_of (kp_cons kp_pl (kp_cons kp_pl kp_nil)))) (ss_cons (s_put (pl_nil 0) (e_var 1) (m_fk_cart S)) (ss_one (s_put (pl_nil 0) (e_var 2) (m_fk_story S)))))
theorem mok_Shop_go_to (S : Says K mg) : MetOk P w K mg base 1 "Shop" "go_to" [] F_Shop_go_to := by
  obtain ⟨fd, FD⟩ := S.c.def_ 31 (d := d_Shop_go_to) rfl
  exact ⟨m_cls_Shop S, _, fd, ["self", "cart", "story"], [], m_meth_Shop_go_to S, FD.bindsN (fun _ _ _ _ _ _ us hl => match us, hl with | [_, _, _], _ => rfl), .nil, fok_Shop_go_to S FD⟩
def g_Shop_play_all : Sv := (sSeq (sPar 2 3 (fCons (fMeth "Cart" "twin" F_Cart_twin [] (fPl 0 [("cart", ["Shop"])]) [] fNil) (fCons (fOf gLst fNil) fNil))) (sSeq (sFor (lEnum (fVar 1)) (gTu 2 (PL.gCons (gNm 4) (PL.gCons (gNm 5) gsNil))) (sSeq (sDrop (fMethO "Cart" "check" F_Cart_check [] 2 [none, none] (fCons (fVar 5) (fCons (fOp (g2m gAdd) (fOf (PL.g1 gLen) (fCons (fPl 0 [("story", ["Shop"])]) fNil)) (fVar 4)) fNil)))) (sApp 3 (fD (fMethO "Cart" "play_deed" F_Cart_play_deed [] 2 [none] (fCons (fVar 5) fNil)))))) (sSeq (sDrop (fMethO "Shop" "go_to" F_Shop_go_to [] 0 [none, none] (fCons (fFrz 2) (fCons (fD (fOp (g2m gAdd) (fPl 0 [("story", ["Shop"])]) (fVar 1))) fNil)))) (sRet (fMov 3)))))
def F_Shop_play_all : Fn := fnF 2 4 g_Shop_play_all
theorem fok_Shop_play_all (S : Says K mg) {a : Addr} {fd : FuncData} (FD : FunD K d_Shop_play_all.name d_Shop_play_all.qual d_Shop_play_all.params d_Shop_play_all.body d_Shop_play_all.scope (d_Shop_play_all.dvs K) [] a fd) : FnOk P w K mg base CX0 7 a fd ["self", "deeds"] (spD K F_Shop_play_all) := by
  have met_Cart_twin := mok_Cart_twin (P := P) (w := w) (base := base) S
  have met_Cart_check := mok_Cart_check (P := P) (w := w) (base := base) S
  have met_Cart_play_deed := mok_Cart_play_deed (P := P) (w := w) (base := base) S
  have met_Shop_go_to := mok_Shop_go_to (P := P) (w := w) (base := base) S
  exact fn_ok0 (k := 6) FD sc_Shop_play_all fun cdv A outer s H E hr => by
    unfold g_Shop_play_all
    exact (ss_cons (s_par 2 3 rfl sc_Shop_play_all.nd (a_cons (e_meth0 met_Cart_twin (hr.mono (by decide)) (fun _ => rpl_nil) (e_pl (pl_cons (pl_nil 0) (m_fk_cart S)))) (a_cons (e_lst a_nil) a_nil))) (ss_cons (s_for PassesOwn.never rfl (i_enum (m_free_enumerate S) (e_var 1)) (g_tup rfl (gs_cons (g_name 4 sc_Shop_play_all.nd) (gs_cons (g_name 5 sc_Shop_play_all.nd) gs_nil))) (ss_cons (s_expr (e_methO 2 met_Cart_check (hr.mono (by decide)) (fun _ => rpl_nil) (a_cons (e_var 5) (a_cons (e_add (e_len (m_free_len S) (a_cons (e_pl (pl_cons (pl_nil 0) (m_fk_story S))) a_nil)) (e_var 4)) a_nil)))) (ss_one (s_app 3 (e_d (e_methO 2 met_Cart_play_deed (hr.mono (by decide)) (fun _ => rpl_nil) (a_cons (e_var 5) a_nil))))))) (ss_cons (s_expr (e_methO 0 met_Shop_go_to (hr.mono (by decide)) (fun _ => rpl_nil) (a_cons (e_frz 2) (a_cons (e_d (e_add (e_pl (pl_cons (pl_nil 0) (m_fk_story S))) (e_var 1))) a_nil)))) (ss_one (s_ret (e_mov 3))))))
theorem mok_Shop_play_all (S : Says K mg) : MetOk P w K mg base 7 "Shop" "play_all" [] F_Shop_play_all := by
  obtain ⟨fd, FD⟩ := S.c.def_ 32 (d := d_Shop_play_all) rfl
  exact ⟨m_cls_Shop S, _, fd, ["self", "deeds"], [], m_meth_Shop_play_all S, FD.bindsN (fun _ _ _ _ _ _ us hl => match us, hl with | [_, _], _ => rfl), .nil, fok_Shop_play_all S FD⟩
def g_Shop_do : Sv := (sSeq (sDrop (fCall F_check_deeds [] [none, none] (fCons (fD (fOf gLst (fCons (fVar 1) fNil))) (fCons (fOf (PL.g1 gLen) (fCons (fPl 0 [("story", ["Shop"])]) fNil)) fNil)))) (sRet (fOp (g2 gIx) (fD (fMethO "Shop" "play_all" F_Shop_play_all [] 0 [none] (fCons (fD (fOf gLst (fCons (fVar 1) fNil))) fNil))) (fC (.int 0)))))
def F_Shop_do : Fn := fnF 2 0 g_Shop_do
theorem fok_Shop_do (S : Says K mg) {a : Addr} {fd : FuncData} (FD : FunD K d_Shop_do.name d_Shop_do.qual d_Shop_do.params d_Shop_do.body d_Shop_do.scope (d_Shop_do.dvs K) [] a fd) : FnOk P w K mg base CX0 8 a fd ["self", "deed"] (spD K F_Shop_do) := by
  have dd_check_deeds := dok_check_deeds (P := P) (w := w) (base := base) S
  have met_Shop_play_all := mok_Shop_play_all (P := P) (w := w) (base := base) S
  exact fn_ok0 (k := 7) FD sc_Shop_do fun cdv A outer s H E hr => by
    unfold g_Shop_do
    exact (ss_cons (s_expr (e_call dd_check_deeds (hr.mono (by decide)) (fun _ => rpl_nil) (a_cons (e_d (e_lst (a_cons (e_var 1) a_nil))) (a_cons (e_len (m_free_len S) (a_cons (e_pl (pl_cons (pl_nil 0) (m_fk_story S))) a_nil)) a_nil)))) (ss_one (s_ret (e_ix (e_d (e_methO 0 met_Shop_play_all (hr.mono (by decide)) (fun _ => rpl_nil) (a_cons (e_d (e_lst (a_cons (e_var 1) a_nil))) a_nil))) e_int))))
theorem mkok_Shop_do (S : Says K mg) : MetKOk P w K mg base 8 "Shop" "do" "deed" F_Shop_do := by
  obtain ⟨fd, FD⟩ := S.c.def_ 33 (d := d_Shop_do) rfl
  exact ⟨m_cls_Shop S, _, fd, ["self", "deed"], m_meth_Shop_do S, funD_kbn FD 1 ["deed"] (fun us ws => us ++ ws) (fun a b => a.append b) (fun _ _ _ _ _ _ us ws h1 h2 => match us, ws, h1, h2 with | [_], [_], _, _ => rfl), fok_Shop_do S FD⟩
theorem mok_Shop_do (S : Says K mg) : MetOk P w K mg base 8 "Shop" "do" [] F_Shop_do := by
  obtain ⟨fd, FD⟩ := S.c.def_ 33 (d := d_Shop_do) rfl
  exact ⟨m_cls_Shop S, _, fd, ["self", "deed"], [], m_meth_Shop_do S, FD.bindsN (fun _ _ _ _ _ _ us hl => match us, hl with | [_, _], _ => rfl), .nil, fok_Shop_do S FD⟩
def g_Shop_do_all : Sv := (sSeq (sDrop (fCall F_check_deeds [] [none, none] (fCons (fVar 1) (fCons (fOf (PL.g1 gLen) (fCons (fPl 0 [("story", ["Shop"])]) fNil)) fNil)))) (sRet (fMethO "Shop" "play_all" F_Shop_play_all [] 0 [none] (fCons (fD (fOf (g1m gLstOf) (fCons (fVar 1) fNil))) fNil))))
def F_Shop_do_all : Fn := fnF 2 0 g_Shop_do_all
theorem fok_Shop_do_all (S : Says K mg) {a : Addr} {fd : FuncData} (FD : FunD K d_Shop_do_all.name d_Shop_do_all.qual d_Shop_do_all.params d_Shop_do_all.body d_Shop_do_all.scope (d_Shop_do_all.dvs K) [] a fd) : FnOk P w K mg base CX0 8 a fd ["self", "deeds"] (spD K F_Shop_do_all) := by
  have dd_check_deeds := dok_check_deeds (P := P) (w := w) (base := base) S
  have met_Shop_play_all := mok_Shop_play_all (P := P) (w := w) (base := base) S
  exact fn_ok0 (k := 7) FD sc_Shop_do_all fun cdv A outer s H E hr => by
    unfold g_Shop_do_all
    exact (ss_cons (s_expr (e_call dd_check_deeds (hr.mono (by decide)) (fun _ => rpl_nil) (a_cons (e_var 1) (a_cons (e_len (m_free_len S) (a_cons (e_pl (pl_cons (pl_nil 0) (m_fk_story S))) a_nil)) a_nil)))) (ss_one (s_ret (e_methO 0 met_Shop_play_all (hr.mono (by decide)) (fun _ => rpl_nil) (a_cons (e_d (e_lstOf (m_free_list S) (a_cons (e_var 1) a_nil))) a_nil)))))
theorem mkok_Shop_do_all (S : Says K mg) : MetKOk P w K mg base 8 "Shop" "do_all" "deeds" F_Shop_do_all := by
  obtain ⟨fd, FD⟩ := S.c.def_ 34 (d := d_Shop_do_all) rfl
  exact ⟨m_cls_Shop S, _, fd, ["self", "deeds"], m_meth_Shop_do_all S, funD_kbn FD 1 ["deeds"] (fun us ws => us ++ ws) (fun a b => a.append b) (fun _ _ _ _ _ _ us ws h1 h2 => match us, ws, h1, h2 with | [_], [_], _, _ => rfl), fok_Shop_do_all S FD⟩
theorem mok_Shop_do_all (S : Says K mg) : MetOk P w K mg base 8 "Shop" "do_all" [] F_Shop_do_all := by
  obtain ⟨fd, FD⟩ := S.c.def_ 34 (d := d_Shop_do_all) rfl
  exact ⟨m_cls_Shop S, _, fd, ["self", "deeds"], [], m_meth_Shop_do_all S, FD.bindsN (fun _ _ _ _ _ _ us hl => match us, hl with | [_, _], _ => rfl), .nil, fok_Shop_do_all S FD⟩
def g_Shop_change : Sv := (sSeq (sSet 2 (fMeth "Cart" "twin" F_Cart_twin [] (fPl 0 [("cart", ["Shop"])]) [] fNil)) (sSeq (sPut 2 [] ("design", ["Cart"]) (fVar 1)) (sDrop (fMethO "Shop" "go_to" F_Shop_go_to [] 0 [none, none] (fCons (fFrz 2) (fCons (fPl 0 [("story", ["Shop"])]) fNil))))))
def F_Shop_change : Fn := fnF 2 1 g_Shop_change
theorem fok_Shop_change (S : Says K mg) {a : Addr} {fd : FuncData} (FD : FunD K d_Shop_change.name d_Shop_change.qual d_Shop_change.params d_Shop_change.body d_Shop_change.scope (d_Shop_change.dvs K) [] a fd) : FnOk P w K mg base CX0 5 a fd ["self", "book"] (spD K F_Shop_change) := by
  have met_Cart_twin := mok_Cart_twin (P := P) (w := w) (base := base) S
  have met_Shop_go_to := mok_Shop_go_to (P := P) (w := w) (base := base) S
  exact fn_ok0 (k := 4) FD sc_Shop_change fun cdv A outer s H E hr => by
    unfold g_Shop_change
    exact (ss_cons (s_set 2 sc_Shop_change.nd (e_meth0 met_Cart_twin (hr.mono (by decide)) (fun _ => rpl_nil) (e_pl (pl_cons (pl_nil 0) (m_fk_cart S))))) (ss_cons (s_put (pl_nil 2) (e_var 1) (m_fk_design S)) (ss_one (s_expr (e_methO 0 met_Shop_go_to (hr.mono (by decide)) (fun _ => rpl_nil) (a_cons (e_frz 2) (a_cons (e_pl (pl_cons (pl_nil 0) (m_fk_story S))) a_nil)))))))
theorem mkok_Shop_change (S : Says K mg) : MetKOk P w K mg base 5 "Shop" "change" "book" F_Shop_change := by
  obtain ⟨fd, FD⟩ := S.c.def_ 35 (d := d_Shop_change) rfl
  exact ⟨m_cls_Shop S, _, fd, ["self", "book"], m_meth_Shop_change S, funD_kbn FD 1 ["book"] (fun us ws => us ++ ws) (fun a b => a.append b) (fun _ _ _ _ _ _ us ws h1 h2 => match us, ws, h1, h2 with | [_], [_], _, _ => rfl), fok_Shop_change S FD⟩
theorem mok_Shop_change (S : Says K mg) : MetOk P w K mg base 5 "Shop" "change" [] F_Shop_change := by
  obtain ⟨fd, FD⟩ := S.c.def_ 35 (d := d_Shop_change) rfl
  exact ⟨m_cls_Shop S, _, fd, ["self", "book"], [], m_meth_Shop_change S, FD.bindsN (fun _ _ _ _ _ _ us hl => match us, hl with | [_, _], _ => rfl), .nil, fok_Shop_change S FD⟩
def g_law_called : Sv := (sSeq (sSet 5 (fD (fCall F_law_draw [] [some 0, none] (fIo 0 (fCons (fC (.int 5)) fNil))))) (sSeq (sIf (fT (fOp (g2 gLt) (fVar 5) (fC (.int 2)))) (sSeq (sSet 7 (fD (fCall F_law_act [] [some 0, none] (fIo 0 (fCons (fVar 3) fNil))))) (sRet (fOp (g2 gEq) (fD (fMethK "Shop" "do" F_Shop_do 1 (fVar 7))) (fD (fMethO "Shop" "do" F_Shop_do [] 2 [none] (fCons (fVar 7) fNil)))))) sPass) (sSeq (sIf (fT (fOp (g2 gEq) (fVar 5) (fC (.int 2)))) (sSeq (sSet 8 (fD (fOf gLst (fCons (fD (fCall F_law_act [] [some 0, none] (fIo 0 (fCons (fVar 3) fNil)))) (fCons (fD (fCall F_law_act [] [some 0, none] (fIo 0 (fCons (fVar 3) fNil)))) fNil))))) (sRet (fOp (g2 gEq) (fD (fMethK "Shop" "do_all" F_Shop_do_all 1 (fD (fOf (g1m gLstOf) (fCons (fVar 8) fNil))))) (fD (fMethO "Shop" "do_all" F_Shop_do_all [] 2 [none] (fCons (fVar 8) fNil)))))) sPass) (sSeq (sSet 6 (fOp (g2 gIx) (fVar 4) (fD (fCall F_law_draw [] [some 0, none] (fIo 0 (fCons (fC (.int 2)) fNil)))))) (sRet (fAnd (fOp (g2 (gIsN true)) (fD (fMethK "Shop" "change" F_Shop_change 1 (fVar 6))) (fC .non)) (fOp (g2 (gIsN true)) (fD (fMethO "Shop" "change" F_Shop_change [] 2 [none] (fCons (fVar 6) fNil))) (fC .non))))))))
def F_law_called : Fn := fnF 5 4 g_law_called
theorem fok_law_called (S : Says K mg) {a : Addr} {fd : FuncData} (FD : FunD K d_law_called.name d_law_called.qual d_law_called.params d_law_called.body d_law_called.scope (d_law_called.dvs K) [] a fd) : FnOk P w K mg base CX0 9 a fd ["jar", "one", "two", "name", "plans"] (spD K F_law_called) := by
  have dd_law_draw := dok_law_draw (P := P) (w := w) (base := base) S
  have dd_law_act := dok_law_act (P := P) (w := w) (base := base) S
  have metk_Shop_do := mkok_Shop_do (P := P) (w := w) (base := base) S
  have met_Shop_do := mok_Shop_do (P := P) (w := w) (base := base) S
  have metk_Shop_do_all := mkok_Shop_do_all (P := P) (w := w) (base := base) S
  have met_Shop_do_all := mok_Shop_do_all (P := P) (w := w) (base := base) S
  have metk_Shop_change := mkok_Shop_change (P := P) (w := w) (base := base) S
  have met_Shop_change := mok_Shop_change (P := P) (w := w) (base := base) S
  exact fn_ok0 (k := 8) FD sc_law_called fun cdv A outer s H E hr => by
    unfold g_law_called
    exact (ss_cons (s_set 5 sc_law_called.nd (e_d (e_call dd_law_draw (hr.mono (by decide)) (fun _ => rpl_nil) (a_io 0 (a_cons e_int a_nil))))) (ss_cons (s_if (t_lt (e_var 5) e_int) (ss_cons (s_set 7 sc_law_called.nd (e_d (e_call dd_law_act (hr.mono (by decide)) (fun _ => rpl_nil) (a_io 0 (a_cons (e_var 3) a_nil))))) (ss_one (s_ret (e_eq hr (e_d (e_methK 1 metk_Shop_do (hr.mono (by decide)) (e_var 7))) (e_d (e_methO 2 met_Shop_do (hr.mono (by decide)) (fun _ => rpl_nil) (a_cons (e_var 7) a_nil))))))) ss_nil) (ss_cons (s_if (t_eq hr (e_var 5) e_int) (ss_cons (s_set 8 sc_law_called.nd (e_d (e_lst (a_cons (e_d (e_call dd_law_act (hr.mono (by decide)) (fun _ => rpl_nil) (a_io 0 (a_cons (e_var 3) a_nil)))) (a_cons (e_d (e_call dd_law_act (hr.mono (by decide)) (fun _ => rpl_nil) (a_io 0 (a_cons (e_var 3) a_nil)))) a_nil))))) (ss_one (s_ret (e_eq hr (e_d (e_methK 1 metk_Shop_do_all (hr.mono (by decide)) (e_d (e_lstOf (m_free_list S) (a_cons (e_var 8) a_nil))))) (e_d (e_methO 2 met_Shop_do_all (hr.mono (by decide)) (fun _ => rpl_nil) (a_cons (e_var 8) a_nil))))))) ss_nil) (ss_cons (s_set 6 sc_law_called.nd (e_ix (e_var 4) (e_d (e_call dd_law_draw (hr.mono (by decide)) (fun _ => rpl_nil) (a_io 0 (a_cons e_int a_nil)))))) (ss_one (s_ret (e_and (e_isN (e_d (e_methK 1 metk_Shop_change (hr.mono (by decide)) (e_var 6))) e_non) (e_one (e_isN (e_d (e_methO 2 met_Shop_change (hr.mono (by decide)) (fun _ => rpl_nil) (a_cons (e_var 6) a_nil))) e_non)))))))))
theorem dok_law_called (S : Says K mg) : DefOk P w K mg base 9 "_law_called" 5 [] F_law_called := by
  obtain ⟨fd, FD⟩ := S.c.def_ 36 (d := d_law_called) rfl
  exact ⟨_, fd, ["jar", "one", "two", "name", "plans"], [], m_glo_law_called S, FD.kp, FD.bindsN (fun _ _ _ _ _ _ us hl => match us, hl with | [_, _, _, _, _], _ => rfl), .nil, fok_law_called S FD⟩

def g_Shop_lines : Sv := (sRet (fLc [1] (lAny (fPl 0 (("rows", ["Cart"]) :: [("cart", ["Shop"])]))) (gNm 1) tTrue (fOf PL.gTup (fCons (fPl 1 [("item", ["CartLine"])]) (fCons (fPl 1 [("number", ["CartLine"])]) (fCons (fPl 1 [("kept", ["CartLine"])]) (fCons (fPl 1 [("shown", ["CartLine"])]) fNil)))))))
def F_Shop_lines : Fn := fnF 1 1 g_Shop_lines
theorem fok_Shop_lines (S : Says K mg) {a : Addr} {fd : FuncData} (FD : FunD K d_Shop_lines.name d_Shop_lines.qual d_Shop_lines.params d_Shop_lines.body d_Shop_lines.scope (d_Shop_lines.dvs K) [] a fd) : FnOk P w K mg base CX0 1 a fd ["self"] (spD K F_Shop_lines) := by
  exact fn_ok0 (k := 0) FD sc_Shop_lines fun cdv A outer s H E hr => by
    unfold g_Shop_lines
    exact (ss_one (s_ret (e_lc (own := [("row", 1)]) rfl sc_Shop_lines.nd (i_any (e_pl (pl_cons (pl_cons (pl_nil 0) (m_fk_cart S)) (m_fk_rows S)))) (blkOk_by (own := [("row", 1)]) (N := N_Shop_lines) (sc := defScope s_Shop_lines) (by decide +kernel)) (by decide) (fun _ _ _ _ _ => (g_name 1 sc_Shop_lines.nd)) (fun _ _ _ _ _ => ts_nil) (fun _ _ _ _ _ => (e_tup (a_cons (e_pl (pl_cons (pl_nil 1) (m_fk_item S))) (a_cons (e_pl (pl_cons (pl_nil 1) (m_fk_number S))) (a_cons (e_pl (pl_cons (pl_nil 1) (m_fk_kept S))) (a_cons (e_pl (pl_cons (pl_nil 1) (m_fk_shown S))) a_nil)))))))))
theorem mok_Shop_lines (S : Says K mg) : MetOk P w K mg base 1 "Shop" "lines" [] F_Shop_lines := by
  obtain ⟨fd, FD⟩ := S.c.def_ 37 (d := d_Shop_lines) rfl
  exact ⟨m_cls_Shop S, _, fd, ["self"], [], m_meth_Shop_lines S, FD.bindsN (fun _ _ _ _ _ _ us hl => match us, hl with | [_], _ => rfl), .nil, fok_Shop_lines S FD⟩
def g_Shop_paid : Sv := (sRet (fPl 0 (("spent", ["Cart"]) :: [("cart", ["Shop"])])))
def F_Shop_paid : Fn := fnF 1 0 g_Shop_paid
theorem fok_Shop_paid (S : Says K mg) {a : Addr} {fd : FuncData} (FD : FunD K d_Shop_paid.name d_Shop_paid.qual d_Shop_paid.params d_Shop_paid.body d_Shop_paid.scope (d_Shop_paid.dvs K) [] a fd) : FnOk P w K mg base CX0 1 a fd ["self"] (spD K F_Shop_paid) := by
  exact fn_ok0 (k := 0) FD sc_Shop_paid fun cdv A outer s H E hr => by
    unfold g_Shop_paid
    exact (ss_one (s_ret (e_pl (pl_cons (pl_cons (pl_nil 0) (m_fk_cart S)) (m_fk_spent S)))))
theorem mok_Shop_paid (S : Says K mg) : MetOk P w K mg base 1 "Shop" "paid" [] F_Shop_paid := by
  obtain ⟨fd, FD⟩ := S.c.def_ 38 (d := d_Shop_paid) rfl
  exact ⟨m_cls_Shop S, _, fd, ["self"], [], m_meth_Shop_paid S, FD.bindsN (fun _ _ _ _ _ _ us hl => match us, hl with | [_], _ => rfl), .nil, fok_Shop_paid S FD⟩
def g_Shop_total : Sv := (sRet (fOf (PL.g1 gSum) (fCons (fD (fLc [1] (lAny (fPl 0 (("rows", ["Cart"]) :: [("cart", ["Shop"])]))) (gNm 1) tTrue (fD (fOp (g2m gMul) (fPl 1 [("number", ["CartLine"])]) (fPl 1 [("kept", ["CartLine"])]))))) fNil)))
def F_Shop_total : Fn := fnF 1 1 g_Shop_total
theorem fok_Shop_total (S : Says K mg) {a : Addr} {fd : FuncData} (FD : FunD K d_Shop_total.name d_Shop_total.qual d_Shop_total.params d_Shop_total.body d_Shop_total.scope [] [] a fd) : FnOk P w K mg base CX0 1 a fd ["self"] (spD K F_Shop_total) := by
  exact fn_ok0 (k := 0) FD sc_Shop_total fun cdv A outer s H E hr => by
    unfold g_Shop_total
    exact (ss_one (s_ret (e_sum rfl (m_free_sum S) (a_cons (e_d (e_lc (own := [("row", 1)]) rfl sc_Shop_total.nd (i_any (e_pl (pl_cons (pl_cons (pl_nil 0) (m_fk_cart S)) (m_fk_rows S)))) (blkOk_by (own := [("row", 1)]) (N := N_Shop_total) (sc := defScope s_Shop_total) (by decide +kernel)) (by decide) (fun _ _ _ _ _ => (g_name 1 sc_Shop_total.nd)) (fun _ _ _ _ _ => ts_nil) (fun _ _ _ _ _ => (e_d (e_mul (e_pl (pl_cons (pl_nil 1) (m_fk_number S))) (e_pl (pl_cons (pl_nil 1) (m_fk_kept S)))))))) a_nil))))
theorem pok_Shop_total (S : Says K mg) : ProOk P w K mg base 1 "Shop" "total" F_Shop_total := by
  obtain ⟨fd, FD⟩ := funD_at (obsP_at S.p 0 (q := ("Shop", "total", d_Shop_total)) rfl) (bool_of (bool_of (bool_of (bool_of (bool_of (bool_of S.m).2).2).2).2).2).1
  exact ⟨m_cls_Shop S, _, _, fd, ["self"], propB_ok (bool_of (bool_of (bool_of (bool_of (bool_of S.m).2).2).2).2).1, FD.bindsN (fun _ _ _ _ _ _ us hl => match us, hl with | [_], _ => rfl), fok_Shop_total S FD⟩
def g_Shop_asked : Sv := (sRet (fPl 0 (("times_asked", ["Cart"]) :: [("cart", ["Shop"])])))
def F_Shop_asked : Fn := fnF 1 0 g_Shop_asked
theorem fok_Shop_asked (S : Says K mg) {a : Addr} {fd : FuncData} (FD : FunD K d_Shop_asked.name d_Shop_asked.qual d_Shop_asked.params d_Shop_asked.body d_Shop_asked.scope [] [] a fd) : FnOk P w K mg base CX0 1 a fd ["self"] (spD K F_Shop_asked) := by
  exact fn_ok0 (k := 0) FD sc_Shop_asked fun cdv A outer s H E hr => by
    unfold g_Shop_asked
    exact (ss_one (s_ret (e_pl (pl_cons (pl_cons (pl_nil 0) (m_fk_cart S)) (m_fk_times_asked S)))))
theorem pok_Shop_asked (S : Says K mg) : ProOk P w K mg base 1 "Shop" "asked" F_Shop_asked := by
  obtain ⟨fd, FD⟩ := funD_at (obsP_at S.p 1 (q := ("Shop", "asked", d_Shop_asked)) rfl) (bool_of (bool_of (bool_of (bool_of (bool_of (bool_of (bool_of (bool_of S.m).2).2).2).2).2).2).2).1
  exact ⟨m_cls_Shop S, _, _, fd, ["self"], propB_ok (bool_of (bool_of (bool_of (bool_of (bool_of (bool_of (bool_of S.m).2).2).2).2).2).2).1, FD.bindsN (fun _ _ _ _ _ _ us hl => match us, hl with | [_], _ => rfl), fok_Shop_asked S FD⟩
def g_Shop__len : Sv := (sRet (fOf (PL.g1 gLen) (fCons (fPl 0 [("story", ["Shop"])]) fNil)))
def F_Shop__len : Fn := fnF 1 0 g_Shop__len
theorem fok_Shop__len (S : Says K mg) {a : Addr} {fd : FuncData} (FD : FunD K d_Shop__len.name d_Shop__len.qual d_Shop__len.params d_Shop__len.body d_Shop__len.scope (d_Shop__len.dvs K) [] a fd) : FnOk P w K mg base CX0 1 a fd ["self"] (spD K F_Shop__len) := by
  exact fn_ok0 (k := 0) FD sc_Shop__len fun cdv A outer s H E hr => by
    unfold g_Shop__len
    exact (ss_one (s_ret (e_len (m_free_len S) (a_cons (e_pl (pl_cons (pl_nil 0) (m_fk_story S))) a_nil))))
theorem mok_Shop__len (S : Says K mg) : MetOk P w K mg base 1 "Shop" "__len__" [] F_Shop__len := by
  obtain ⟨fd, FD⟩ := S.c.def_ 39 (d := d_Shop__len) rfl
  exact ⟨m_cls_Shop S, _, fd, ["self"], [], m_meth_Shop_len S, FD.bindsN (fun _ _ _ _ _ _ us hl => match us, hl with | [_], _ => rfl), .nil, fok_Shop__len S FD⟩
def g_Shop_price : Sv := (sSeq (sIf (tOrT (tNotT (fT (fOf (g22 gIsi) (fCons (fVar 1) (fCons (fC (.ty "str")) fNil))))) (fT (fOp (g2 (gDIn true)) (fVar 1) (fPl 0 (("amounts", ["Cart"]) :: [("cart", ["Shop"])]))))) sNever sPass) (sRet (fOp (g2 gDGet) (fPl 0 (("amounts", ["Cart"]) :: [("cart", ["Shop"])])) (fVar 1))))
def F_Shop_price : Fn := fnF 2 0 g_Shop_price
theorem fok_Shop_price (S : Says K mg) {a : Addr} {fd : FuncData} (FD : FunD K d_Shop_price.name d_Shop_price.qual d_Shop_price.params d_Shop_price.body d_Shop_price.scope (d_Shop_price.dvs K) [] a fd) : FnOk P w K mg base CX0 1 a fd ["self", "item"] (spD K F_Shop_price) := by
  exact fn_ok0 (k := 0) FD sc_Shop_price fun cdv A outer s H E hr => by
    unfold g_Shop_price
    exact (ss_cons (s_if (t_w (w_or (t_not (t_v (e_isi (m_free_isinstance S) (a_cons (e_var 1) (a_cons (e_ty (m_free_str S) boot_str') a_nil))))) (w_one (t_dnotin hr (e_var 1) (e_pl (pl_cons (pl_cons (pl_nil 0) (m_fk_cart S)) (m_fk_amounts S)))) (.inr rfl)))) (ss_one s_never) ss_nil) (ss_one (s_ret (e_dget hr (e_pl (pl_cons (pl_cons (pl_nil 0) (m_fk_cart S)) (m_fk_amounts S))) (e_var 1)))))
theorem mok_Shop_price (S : Says K mg) : MetOk P w K mg base 1 "Shop" "price" [] F_Shop_price := by
  obtain ⟨fd, FD⟩ := S.c.def_ 40 (d := d_Shop_price) rfl
  exact ⟨m_cls_Shop S, _, fd, ["self", "item"], [], m_meth_Shop_price S, FD.bindsN (fun _ _ _ _ _ _ us hl => match us, hl with | [_, _], _ => rfl), .nil, fok_Shop_price S FD⟩
theorem mkok_Shop_price (S : Says K mg) : MetKOk P w K mg base 1 "Shop" "price" "item" F_Shop_price := by
  obtain ⟨fd, FD⟩ := S.c.def_ 40 (d := d_Shop_price) rfl
  exact ⟨m_cls_Shop S, _, fd, ["self", "item"], m_meth_Shop_price S, funD_kbn FD 1 ["item"] (fun us ws => us ++ ws) (fun a b => a.append b) (fun _ _ _ _ _ _ us ws h1 h2 => match us, ws, h1, h2 with | [_], [_], _, _ => rfl), fok_Shop_price S FD⟩
def g_Book_rules : Sv := (sRet (fPl 0 [("row", ["Book"])]))
def F_Book_rules : Fn := fnF 1 0 g_Book_rules
theorem fok_Book_rules (S : Says K mg) {a : Addr} {fd : FuncData} (FD : FunD K d_Book_rules.name d_Book_rules.qual d_Book_rules.params d_Book_rules.body d_Book_rules.scope (d_Book_rules.dvs K) [] a fd) : FnOk P w K mg base CX0 1 a fd ["self"] (spD K F_Book_rules) := by
  exact fn_ok0 (k := 0) FD sc_Book_rules fun cdv A outer s H E hr => by
    unfold g_Book_rules
    exact (ss_one (s_ret (e_pl (pl_cons (pl_nil 0) (m_fk_row S)))))
theorem mok_Book_rules (S : Says K mg) : MetOk P w K mg base 1 "Book" "rules" [] F_Book_rules := by
  obtain ⟨fd, FD⟩ := S.c.def_ 41 (d := d_Book_rules) rfl
  exact ⟨m_cls_Book S, _, fd, ["self"], [], m_meth_Book_rules S, FD.bindsN (fun _ _ _ _ _ _ us hl => match us, hl with | [_], _ => rfl), .nil, fok_Book_rules S FD⟩
def g_Shop_book : Sv := (sRet (fPl 0 (("design", ["Cart"]) :: [("cart", ["Shop"])])))
def F_Shop_book : Fn := fnF 1 0 g_Shop_book
theorem fok_Shop_book (S : Says K mg) {a : Addr} {fd : FuncData} (FD : FunD K d_Shop_book.name d_Shop_book.qual d_Shop_book.params d_Shop_book.body d_Shop_book.scope [] [] a fd) : FnOk P w K mg base CX0 1 a fd ["self"] (spD K F_Shop_book) := by
  exact fn_ok0 (k := 0) FD sc_Shop_book fun cdv A outer s H E hr => by
    unfold g_Shop_book
    exact (ss_one (s_ret (e_pl (pl_cons (pl_cons (pl_nil 0) (m_fk_cart S)) (m_fk_design S)))))
theorem pok_Shop_book (S : Says K mg) : ProOk P w K mg base 1 "Shop" "book" F_Shop_book := by
  obtain ⟨fd, FD⟩ := funD_at (obsP_at S.p 2 (q := ("Shop", "book", d_Shop_book)) rfl) (bool_of (bool_of (bool_of (bool_of (bool_of (bool_of (bool_of (bool_of (bool_of (bool_of S.m).2).2).2).2).2).2).2).2).2).1
  exact ⟨m_cls_Shop S, _, _, fd, ["self"], propB_ok (bool_of (bool_of (bool_of (bool_of (bool_of (bool_of (bool_of (bool_of (bool_of S.m).2).2).2).2).2).2).2).2).1, FD.bindsN (fun _ _ _ _ _ _ us hl => match us, hl with | [_], _ => rfl), fok_Shop_book S FD⟩
def g_law_stand : Sv := (sRet (fOf gLst (fCons (fD (fMethO "Shop" "lines" F_Shop_lines [] 0 [] fNil)) (fCons (fD (fMethO "Shop" "paid" F_Shop_paid [] 0 [] fNil)) (fCons (fProp "Shop" "total" F_Shop_total (fVar 0)) (fCons (fProp "Shop" "asked" F_Shop_asked (fVar 0)) (fCons (fOf (gLenI "Shop" F_Shop__len) (fCons (fVar 0) fNil)) (fCons (fD (fMethO "Shop" "price" F_Shop_price [] 0 [none] (fCons (fVar 1) fNil))) (fCons (fD (fMeth "Book" "rules" F_Book_rules [] (fProp "Shop" "book" F_Shop_book (fVar 0)) [] fNil)) fNil)))))))))
def F_law_stand : Fn := fnF 2 0 g_law_stand
theorem fok_law_stand (S : Says K mg) {a : Addr} {fd : FuncData} (FD : FunD K d_law_stand.name d_law_stand.qual d_law_stand.params d_law_stand.body d_law_stand.scope (d_law_stand.dvs K) [] a fd) : FnOk P w K mg base CX0 3 a fd ["shop", "name"] (spD K F_law_stand) := by
  have met_Shop_lines := mok_Shop_lines (P := P) (w := w) (base := base) S
  have met_Shop_paid := mok_Shop_paid (P := P) (w := w) (base := base) S
  have pro_Shop_total := pok_Shop_total (P := P) (w := w) (base := base) S
  have pro_Shop_asked := pok_Shop_asked (P := P) (w := w) (base := base) S
  have met_Shop__len := mok_Shop__len (P := P) (w := w) (base := base) S
  have met_Shop_price := mok_Shop_price (P := P) (w := w) (base := base) S
  have met_Book_rules := mok_Book_rules (P := P) (w := w) (base := base) S
  have pro_Shop_book := pok_Shop_book (P := P) (w := w) (base := base) S
  exact fn_ok0 (k := 2) FD sc_law_stand fun cdv A outer s H E hr => by
    unfold g_law_stand
    exact (ss_one (s_ret (e_lst (a_cons (e_d (e_methO0 0 met_Shop_lines (hr.mono (by decide)) (fun _ => rpl_nil))) (a_cons (e_d (e_methO0 0 met_Shop_paid (hr.mono (by decide)) (fun _ => rpl_nil))) (a_cons (e_prop pro_Shop_total (hr.mono (by decide)) (e_var 0)) (a_cons (e_prop pro_Shop_asked (hr.mono (by decide)) (e_var 0)) (a_cons (e_lenI met_Shop__len (hr.mono (by decide)) (m_free_len S) (a_cons (e_var 0) a_nil)) (a_cons (e_d (e_methO 0 met_Shop_price (hr.mono (by decide)) (fun _ => rpl_nil) (a_cons (e_var 1) a_nil))) (a_cons (e_d (e_meth0 met_Book_rules (hr.mono (by decide)) (fun _ => rpl_nil) (e_prop pro_Shop_book (hr.mono (by decide)) (e_var 0)))) a_nil))))))))))
theorem dok_law_stand (S : Says K mg) : DefOk P w K mg base 3 "_law_stand" 2 [] F_law_stand := by
  obtain ⟨fd, FD⟩ := S.c.def_ 42 (d := d_law_stand) rfl
  exact ⟨_, fd, ["shop", "name"], [], m_glo_law_stand S, FD.kp, FD.bindsN (fun _ _ _ _ _ _ us hl => match us, hl with | [_, _], _ => rfl), .nil, fok_law_stand S FD⟩

def g_Shop_undo : Sv := (sSeq (sIf (tPeek (fT (fOp (g2 gEqX) (fPl 0 [("past", ["Shop"])]) (fD (fOf gLst fNil))))) sNever sPass) (sAsg (fD (fPopP 0 [("past", ["Shop"])])) (gTu 2 (PL.gCons (gPut 0 [] ("cart", ["Shop"])) (PL.gCons (gPut 0 [] ("story", ["Shop"])) gsNil)))))
def F_Shop_undo : Fn := fnF 1 0 g_Shop_undo
theorem fok_Shop_undo (S : Says K mg) {a : Addr} {fd : FuncData} (FD : FunD K d_Shop_undo.name d_Shop_undo.qual d_Shop_undo.params d_Shop_undo.body d_Shop_undo.scope (d_Shop_undo.dvs K) [] a fd) : FnOk P w K mg base CX0 1 a fd ["self"] (spD K F_Shop_undo) := by
  exact fn_ok0 (k := 0) FD sc_Shop_undo fun cdv A outer s H E hr => by
    unfold g_Shop_undo
    exact (ss_cons (s_if (t_peek (t_eqX hr (e_pl (pl_cons (pl_nil 0) (m_fk_past S))) (e_d (e_lst a_nil)))) (ss_one s_never) ss_nil) (ss_one (s_asg (e_d (e_popP (pl_cons (pl_nil 0) (m_fk_past S)))) (g_tup rfl (gs_cons (g_fld (pl_nil 0) (m_fk_cart S)) (gs_cons (g_fld (pl_nil 0) (m_fk_story S)) gs_nil))))))
theorem mok_Shop_undo (S : Says K mg) : MetOk P w K mg base 1 "Shop" "undo" [] F_Shop_undo := by
  obtain ⟨fd, FD⟩ := S.c.def_ 43 (d := d_Shop_undo) rfl
  exact ⟨m_cls_Shop S, _, fd, ["self"], [], m_meth_Shop_undo S, FD.bindsN (fun _ _ _ _ _ _ us hl => match us, hl with | [_], _ => rfl), .nil, fok_Shop_undo S FD⟩
def g_law_right : Sv := (sSeq (sSet 1 (fD (fOp (g2 gJoin) (fC (.str "")) (fD (fLc [3] (lRng (fCons (fOp (g2m gAdd) (fC (.int 1)) (fD (fCall F_law_draw [] [some 0, none] (fIo 0 (fCons (fC (.int 8)) fNil))))) fNil)) (gNm 3) tTrue (fOp (g2 gIx) (fC (.str "abcdefghijklmnopqrstuvwxyz")) (fD (fCall F_law_draw [] [some 0, none] (fIo 0 (fCons (fC (.int 26)) fNil)))))))))) (sSeq (sSet 2 (fOf gLst fNil)) (sSeq (sFor (lRng (fCons (fC (.int 2)) fNil)) (gNm 3) (sSeq (sSet 8 (fD (fCall F_law_six [] [some 0] (fIo 0 fNil)))) (sApp 2 (fD (fMake "Book" F_Book__init [] [none, none, none, none, none, none] (fCons (fOp (g2 gIx) (fVar 8) (fC (.int 0))) (fCons (fOp (g2 gIx) (fVar 8) (fC (.int 1))) (fCons (fOp (g2 gIx) (fVar 8) (fC (.int 2))) (fCons (fOp (g2 gIx) (fVar 8) (fC (.int 3))) (fCons (fOp (g2 gIx) (fVar 8) (fC (.int 4))) (fCons (fOp (g2 gIx) (fVar 8) (fC (.int 5))) fNil))))))))))) (sSeq (sSet 4 (fOf PL.gTup (fCons (fOf PL.gTup (fCons (fVar 1) (fCons (fD (fCall F_law_draw [] [some 0, none] (fIo 0 (fCons (fOp (g2m gAdd) (fOp (g2 gPow) (fC (.int 10)) (fC (.int 12))) (fC (.int 1))) fNil)))) fNil))) fNil))) (sSeq (sPar 5 6 (fCons (fMake2 "Shop" F_Shop__init (fVar 4) (fIxO 2 (fC (.int 0)))) (fCons (fMake "Shop" F_Shop__init [] [none, none] (fCons (fIxO 2 (fC (.int 0))) (fCons (fVar 4) fNil))) fNil))) (sSeq (sFor (lRng (fCons (fD (fCall F_law_draw [] [some 0, none] (fIo 0 (fCons (fC (.int 13)) fNil)))) fNil)) (gNm 7) (sSeq (sIf (tNotT (fT (fD (fCall F_law_called [] [some 0, some 5, some 6, none, none] (fIo 0 (fIo 5 (fIo 6 (fCons (fVar 1) (fCons (fFrz 2) fNil))))))))) (sRet (fC (.bl false))) sPass) (sSeq (sIf (tOrT (tPeek (fT (fOp (g2 gNe) (fD (fCall F_law_stand [] [none, none] (fCons (fFrz 5) (fCons (fVar 1) fNil)))) (fD (fCall F_law_stand [] [none, none] (fCons (fFrz 6) (fCons (fVar 1) fNil))))))) (tPeek (fT (fOp (g2 gNe) (fD (fMethK "Shop" "price" F_Shop_price 5 (fVar 1))) (fD (fMethO "Shop" "price" F_Shop_price [] 6 [none] (fCons (fVar 1) fNil))))))) (sRet (fC (.bl false))) sPass) (sIf (fT (fOp (g2 gEq) (fD (fCall F_law_draw [] [some 0, none] (fIo 0 (fCons (fC (.int 4)) fNil)))) (fC (.int 0)))) (sSeq (sDrop (fMethO "Shop" "undo" F_Shop_undo [] 5 [] fNil)) (sSeq (sDrop (fMethO "Shop" "undo" F_Shop_undo [] 6 [] fNil)) (sIf (tPeek (fT (fOp (g2 gNe) (fD (fCall F_law_stand [] [none, none] (fCons (fFrz 5) (fCons (fVar 1) fNil)))) (fD (fCall F_law_stand [] [none, none] (fCons (fFrz 6) (fCons (fVar 1) fNil))))))) (sRet (fC (.bl false))) sPass))) sPass)))) (sRet (fC (.bl true)))))))))
def F_law_right : Fn := fnF 1 8 g_law_right
theorem fok_law_right (S : Says K mg) {a : Addr} {fd : FuncData} (FD : FunD K d_law_right.name d_law_right.qual d_law_right.params d_law_right.body d_law_right.scope (d_law_right.dvs K) [] a fd) : FnOk P w K mg base CX0 10 a fd ["jar"] (spD K F_law_right) := by
  have dd_law_draw := dok_law_draw (P := P) (w := w) (base := base) S
  have dd_law_six := dok_law_six (P := P) (w := w) (base := base) S
  have mak_Book__init := kok_Book__init (P := P) (w := w) (base := base) S
  have mak2_Shop__init := k2ok_Shop__init (P := P) (w := w) (base := base) S
  have mak_Shop__init := kok_Shop__init (P := P) (w := w) (base := base) S
  have dd_law_called := dok_law_called (P := P) (w := w) (base := base) S
  have dd_law_stand := dok_law_stand (P := P) (w := w) (base := base) S
  have metk_Shop_price := mkok_Shop_price (P := P) (w := w) (base := base) S
  have met_Shop_price := mok_Shop_price (P := P) (w := w) (base := base) S
  have met_Shop_undo := mok_Shop_undo (P := P) (w := w) (base := base) S
  exact fn_ok0 (k := 9) FD sc_law_right fun cdv A outer s H E hr => by
    unfold g_law_right
    exact (ss_cons (s_set 1 sc_law_right.nd (e_d (e_join e_str (e_d (e_lc (own := [("k", 3)]) rfl sc_law_right.nd (i_rng1 (m_free_range S) (a_cons (e_add e_int (e_d (e_call dd_law_draw (hr.mono (by decide)) (fun _ => rpl_nil) (a_io 0 (a_cons e_int a_nil))))) a_nil)) (blkOk_by (own := [("k", 3)]) (N := N_law_right) (sc := defScope s_law_right) (by decide +kernel)) (by decide) (fun _ _ _ _ _ => (g_name 3 sc_law_right.nd)) (fun _ _ _ _ _ => ts_nil) (fun _ _ _ _ _ => (e_ix e_str (e_d (e_call dd_law_draw (hr.mono (by decide)) (fun _ => rpl_nil) (a_io 0 (a_cons e_int a_nil)))))))) fC_str))) (ss_cons (s_set 2 sc_law_right.nd (e_lst a_nil)) (ss_cons (s_for PassesOwn.never rfl (i_rng1 (m_free_range S) (a_cons e_int a_nil)) (g_name 3 sc_law_right.nd) (ss_cons (s_set 8 sc_law_right.nd (e_d (e_call dd_law_six (hr.mono (by decide)) (fun _ => rpl_nil) (a_io 0 a_nil)))) (ss_one (s_app 2 (e_d (e_make mak_Book__init (hr.mono (by decide)) (fun _ => rpl_nil) (a_cons (e_ix (e_var 8) e_int) (a_cons (e_ix (e_var 8) e_int) (a_cons (e_ix (e_var 8) e_int) (a_cons (e_ix (e_var 8) e_int) (a_cons (e_ix (e_var 8) e_int) (a_cons (e_ix (e_var 8) e_int) a_nil)))))))))))) (ss_cons (s_set 4 sc_law_right.nd (e_tup (a_cons (e_tup (a_cons (e_var 1) (a_cons (e_d (e_call dd_law_draw (hr.mono (by decide)) (fun _ => rpl_nil) (a_io 0 (a_cons (e_add (e_pow e_int e_int) e_int) a_nil)))) a_nil))) a_nil))) (ss_cons (s_par 5 6 rfl sc_law_right.nd (a_cons (e_make2 mak2_Shop__init (hr.mono (by decide)) (e_var 4) (e_ixO 2 e_int)) (a_cons (e_make mak_Shop__init (hr.mono (by decide)) (fun _ => rpl_nil) (a_cons (e_ixO 2 e_int) (a_cons (e_var 4) a_nil))) a_nil))) (ss_cons (s_for PassesOwn.never rfl (i_rng1 (m_free_range S) (a_cons (e_d (e_call dd_law_draw (hr.mono (by decide)) (fun _ => rpl_nil) (a_io 0 (a_cons e_int a_nil)))) a_nil)) (g_name 7 sc_law_right.nd) (ss_cons (s_if (t_not (t_v (e_d (e_call dd_law_called (hr.mono (by decide)) (fun _ => rpl_nil) (a_io 0 (a_io 5 (a_io 6 (a_cons (e_var 1) (a_cons (e_frz 2) a_nil))))))))) (ss_one (s_ret e_bl)) ss_nil) (ss_cons (s_if (t_w (w_or (t_peek (t_ne hr (e_d (e_call dd_law_stand (hr.mono (by decide)) (fun _ => rpl_nil) (a_cons (e_frz 5) (a_cons (e_var 1) a_nil)))) (e_d (e_call dd_law_stand (hr.mono (by decide)) (fun _ => rpl_nil) (a_cons (e_frz 6) (a_cons (e_var 1) a_nil)))))) (w_one (t_peek (t_ne hr (e_d (e_methK 5 metk_Shop_price (hr.mono (by decide)) (e_var 1))) (e_d (e_methO 6 met_Shop_price (hr.mono (by decide)) (fun _ => rpl_nil) (a_cons (e_var 1) a_nil))))) (.inr rfl)))) (ss_one (s_ret e_bl)) ss_nil) (ss_one (s_if (t_eq hr (e_d (e_call dd_law_draw (hr.mono (by decide)) (fun _ => rpl_nil) (a_io 0 (a_cons e_int a_nil)))) e_int) (ss_cons (s_expr (e_methO0 5 met_Shop_undo (hr.mono (by decide)) (fun _ => rpl_nil))) (ss_cons (s_expr (e_methO0 6 met_Shop_undo (hr.mono (by decide)) (fun _ => rpl_nil))) (ss_one (s_if (t_peek (t_ne hr (e_d (e_call dd_law_stand (hr.mono (by decide)) (fun _ => rpl_nil) (a_cons (e_frz 5) (a_cons (e_var 1) a_nil)))) (e_d (e_call dd_law_stand (hr.mono (by decide)) (fun _ => rpl_nil) (a_cons (e_frz 6) (a_cons (e_var 1) a_nil)))))) (ss_one (s_ret e_bl)) ss_nil)))) ss_nil))))) (ss_one (s_ret e_bl))))))))
theorem dok_law_right (S : Says K mg) : DefOk P w K mg base 10 "_law_right" 1 [] F_law_right := by
  obtain ⟨fd, FD⟩ := S.c.def_ 44 (d := d_law_right) rfl
  exact ⟨_, fd, ["jar"], [], m_glo_law_right S, FD.kp, FD.bindsN (fun _ _ _ _ _ _ us hl => match us, hl with | [_], _ => rfl), .nil, fok_law_right S FD⟩

def g_law : Sv := (sSeq (sFor (lRng (fCons (fOf (g22 gMax) (fCons (fC (.int 1)) (fCons (fOf (g22 gMin) (fCons (fC (.int 8)) (fCons (fOf (PL.g1 gLen) (fCons (fVar 0) fNil)) fNil))) fNil))) fNil)) (gNm 1) (sIf (tNotT (fT (fD (fCall F_law_right [] [none] (fCons (fCall F_law_jar [] [none, none] (fCons (fVar 0) (fCons (fVar 1) fNil))) fNil))))) (sRet (fC (.bl false))) sPass)) (sRet (fC (.bl true))))
def F_law : Fn := fnF 1 1 g_law
theorem fok_law (S : Says K mg) {a : Addr} {fd : FuncData} (FD : FunD K d_law.name d_law.qual d_law.params d_law.body d_law.scope (d_law.dvs K) [] a fd) : FnOk P w K mg base CX0 11 a fd ["script"] (spD K F_law) := by
  have dd_law_jar := dok_law_jar (P := P) (w := w) (base := base) S
  have dd_law_right := dok_law_right (P := P) (w := w) (base := base) S
  exact fn_ok0 (k := 10) FD sc_law fun cdv A outer s H E hr => by
    unfold g_law
    exact (ss_cons (s_for PassesOwn.never rfl (i_rng1 (m_free_range S) (a_cons (e_max rfl (m_free_max S) (a_cons e_int (a_cons (e_min rfl (m_free_min S) (a_cons e_int (a_cons (e_len (m_free_len S) (a_cons (e_var 0) a_nil)) a_nil))) a_nil))) a_nil)) (g_name 1 sc_law.nd) (ss_one (s_if (t_not (t_v (e_d (e_call dd_law_right (hr.mono (by decide)) (fun _ => rpl_nil) (a_cons (e_call dd_law_jar (hr.mono (by decide)) (fun _ => rpl_nil) (a_cons (e_var 0) (a_cons (e_var 1) a_nil))) a_nil))))) (ss_one (s_ret e_bl)) ss_nil))) (ss_one (s_ret e_bl)))
theorem dok_law (S : Says K mg) : DefOk P w K mg base 11 "law" 1 [] F_law := by
  obtain ⟨fd, FD⟩ := S.c.def_ 45 (d := d_law) rfl
  exact ⟨_, fd, ["script"], [], m_glo_law S, FD.kp, FD.bindsN (fun _ _ _ _ _ _ us hl => match us, hl with | [_], _ => rfl), .nil, fok_law S FD⟩
end
end Lw

set_option exponentiation.threshold 100000
namespace Lw
open PySem PySem.Spec PyProof.Rows L2 PL
/-! ### draws -/
def jarM (x y z : Int) : M := .lst [.d (.int x), .d (.int y), .d (.int z)]
theorem gPow_ok (i j : Int) (h : i.natAbs < 10 ^ 60) (h0 : 0 ≤ j) (h1 : j ≤ 64) : gPow (.int i) (.int j) = some (.int (i ^ j.toNat)) := by
  have h2 : i.natAbs < 2 ^ 20000 := Nat.lt_of_lt_of_le h (by decide +kernel)
  unfold gPow gInt
  simp only [h0, h1, h2, and_self, decide_true, if_true]
theorem gDiv_ok (i j : Int) (h : 0 < j) (h0 : j.natAbs < 10 ^ 60) : gDiv (.int i) (.int j) = some (.int (i / j)) := by
  have h2 : j.natAbs < 2 ^ 8000 := Nat.lt_of_lt_of_le h0 (by decide +kernel)
  unfold gDiv gInt
  simp only [h, h2, and_self, decide_true, if_true]
theorem gMod_ok (i j : Int) (h : 0 < j) : gMod (.int i) (.int j) = some (.int (i % j)) := by
  unfold gMod gInt
  simp only [h, decide_true, if_true]
theorem gMul_ok (i j : Int) (h : i.natAbs < 2 ^ 60) : gMul (.int i) (.int j) = some (.d (.int (i * j))) := by
  unfold gMul
  simp only [h, true_or, if_true]
/-- a jar behind at most n draws -/
def JarOk (n : Nat) (J : M) : Prop := ∃ x y z, J = jarM x y z ∧ 0 ≤ x ∧ 0 ≤ y ∧ y < 10 ^ 37 ∧ 0 ≤ z ∧ z ≤ n
theorem p_draw {n : Nat} {J : M} {m : Int} (h : JarOk n J) (hn : n < 1000000) (hm : 0 < m) (hm2 : m ≤ 10 ^ 13) : ∃ r J', F_law_draw [J, .d (.int m)] = some (.d (.int r), [J']) ∧ 0 ≤ r ∧ r < m ∧ JarOk (n + 1) J' := by
  obtain ⟨x, y, z, rfl, hx, hy, hy2, hz, hz2⟩ := h
  by_cases h0 : 0 < x
  · have hm3 : m.natAbs < 2 ^ 8000 := by
      have : m.natAbs ≤ 10 ^ 13 := by omega
      exact Nat.lt_of_le_of_lt this (by decide +kernel)
    refine ⟨x % m, jarM (x / m) y z, ?_, Int.emod_nonneg _ (by omega), Int.emod_lt_of_pos _ hm, x / m, y, z, rfl, Int.ediv_nonneg hx (by omega), hy, hy2, hz, by push_cast; omega⟩
    simp (config := {decide := true}) [F_law_draw, g_law_draw, jarM, fnF, sRet, sRetN, sSeq, sIf, sSet, sPass, sFrz, sDrop, fT, fOp, fVar, fC, fMov, fFrz, fD, startE, M.isD, M.toD, M.toDs, M.toB, fIxO, isO, sIxO, atI, ixN, g2, g2m, fOf, PL.g1, g1m, g22, fCons, fNil, fIo, fCall, PL.fill, putb, M.argOf, M.hole, ownS, fin, finals, tNotT, tAndT, tOrT, fAnd, fOr, fNot, fIf, fChain, fPl, getP, setP, M.cell, M.setCell, M.sub, M.fld, fldI, sPut, M.setF, M.put, sAug, gPut, gTu, PL.gCons, gsNil, sAsg, sPar, fMethO, fMeth, fMake, appF, fLenO, sAppP, sApp, fLc, lcL, wipeB, tTrue, lAny, lRng, gNm, sFor, forL, PL.gLst, PL.gTup, M.datas, fUnD, fMethK, fMake2, fProp, sExt, fPopP, gC, gInt, gInt0, gMod, gDiv, PL.gSub, gAdd, gMul, gLt, gLe, gGt, gGe, gToInt, gAbs, gMax, gMin, gLen, gIsN, gTupOf, gLstOf, bF, tPeek, fPeek, gEq_ss, gNe_ss, gEq_ii, gNe_ii, ok_take, ok_least, ok_last, ok_show, ok_ask, ok_put, ok_look, ok_alter, ok_back, ok_pay, ok_price, ok_again, h0, hm, hm3]
  · have hx0 : x = 0 := by omega
    subst hx0
    have a1 : gMul (.int 15485867) (.int (z + 1)) = some (.d (.int (15485867 * (z + 1)))) := gMul_ok _ _ (by decide)
    have a2 : gPow (.int (y + 15485867 * (z + 1))) (.int 4) = some (.int ((y + 15485867 * (z + 1)) ^ 4)) := gPow_ok _ _ (by omega) (by decide) (by decide)
    have a3 : gMul (.int 3) (.int (z + 1)) = some (.d (.int (3 * (z + 1)))) := gMul_ok _ _ (by decide)
    have a4 : gPow (.int 10) (.int 42) = some (.int (10 ^ 42)) := gPow_ok _ _ (by decide) (by decide) (by decide)
    have a5 : gMod (.int ((y + 15485867 * (z + 1)) ^ 4 + 3 * (z + 1))) (.int (10 ^ 42 + 63)) = some (.int (((y + 15485867 * (z + 1)) ^ 4 + 3 * (z + 1)) % (10 ^ 42 + 63))) := gMod_ok _ _ (by decide)
    obtain ⟨u, hu⟩ : ∃ u, u = ((y + 15485867 * (z + 1)) ^ 4 + 3 * (z + 1)) % (10 ^ 42 + 63) := ⟨_, rfl⟩
    have u0 : 0 ≤ u := by rw [hu]; exact Int.emod_nonneg _ (by decide)
    have u1 : u < 10 ^ 42 + 63 := by rw [hu]; exact Int.emod_lt_of_pos _ (by decide)
    rw [← hu] at a5
    have b1 : gMul (.int 32452867) (.int (z + 1)) = some (.d (.int (32452867 * (z + 1)))) := gMul_ok _ _ (by decide)
    have b2 : gPow (.int (u + 32452867 * (z + 1))) (.int 3) = some (.int ((u + 32452867 * (z + 1)) ^ 3)) := gPow_ok _ _ (by omega) (by decide) (by decide)
    have b4 : gPow (.int 10) (.int 40) = some (.int (10 ^ 40)) := gPow_ok _ _ (by decide) (by decide) (by decide)
    have b5 : gMod (.int ((u + 32452867 * (z + 1)) ^ 3)) (.int (10 ^ 40 + 121)) = some (.int (((u + 32452867 * (z + 1)) ^ 3) % (10 ^ 40 + 121))) := gMod_ok _ _ (by decide)
    obtain ⟨t, ht⟩ : ∃ t, t = ((u + 32452867 * (z + 1)) ^ 3) % (10 ^ 40 + 121) := ⟨_, rfl⟩
    rw [← ht] at b5
    have c1 : gPow (.int 10) (.int 6) = some (.int (10 ^ 6)) := gPow_ok _ _ (by decide) (by decide) (by decide)
    have c2 : gDiv (.int t) (.int (10 ^ 6)) = some (.int (t / 10 ^ 6)) := gDiv_ok _ _ (by decide) (by decide)
    have c3 : gMod (.int (t / 10 ^ 6)) (.int m) = some (.int (t / 10 ^ 6 % m)) := gMod_ok _ _ hm
    refine ⟨t / 10 ^ 6 % m, jarM 0 y (z + 1), ?_, Int.emod_nonneg _ (by omega), Int.emod_lt_of_pos _ hm, 0, y, z + 1, rfl, by omega, hy, hy2, by omega, by push_cast; omega⟩
    generalize hA : (10 : Int) ^ 42 = A at *
    generalize hB : (10 : Int) ^ 40 = B at *
    generalize hC : (10 : Int) ^ 6 = C at *
    simp (config := {decide := true}) [F_law_draw, g_law_draw, jarM, fnF, sRet, sRetN, sSeq, sIf, sSet, sPass, sFrz, sDrop, fT, fOp, fVar, fC, fMov, fFrz, fD, startE, M.isD, M.toD, M.toDs, M.toB, fIxO, isO, sIxO, atI, ixN, g2, g2m, fOf, PL.g1, g1m, g22, fCons, fNil, fIo, fCall, PL.fill, putb, M.argOf, M.hole, ownS, fin, finals, tNotT, tAndT, tOrT, fAnd, fOr, fNot, fIf, fChain, fPl, getP, setP, M.cell, M.setCell, M.sub, M.fld, fldI, sPut, M.setF, M.put, sAug, gPut, gTu, PL.gCons, gsNil, sAsg, sPar, fMethO, fMeth, fMake, appF, fLenO, sAppP, sApp, fLc, wipeB, tTrue, lAny, lRng, gNm, PL.gLst, PL.gTup, M.datas, fUnD, fMethK, fMake2, fProp, sExt, fPopP, gC, gInt, gInt0, PL.gSub, gAdd, gLt, gLe, gGt, gGe, gToInt, gAbs, gMax, gMin, gLen, gIsN, gTupOf, gLstOf, bF, tPeek, fPeek, gEq_ss, gNe_ss, gEq_ii, gNe_ii, ok_take, ok_least, ok_last, ok_show, ok_ask, ok_put, ok_look, ok_alter, ok_back, ok_pay, ok_price, ok_again, a1, a2, a3, a4, a5, b1, b2, b4, b5, c1, c2, c3]
end Lw

namespace Lw
open PySem PySem.Spec PyProof.Rows L2 PL
theorem isDd (x : D) : (M.d x).isD = true := rfl
theorem isDl (x : List M) : (M.lst x).isD = false := rfl
theorem isDo (C : Str) (ns : List Str) (x : List M) : (M.obj C ns x).isD = false := rfl
theorem isDk (ks : List Key) (x : List M) : (M.dic ks x).isD = false := rfl
theorem isDb (a : Addr) (as : List Addr) (x : List M) : (M.box a as x).isD = false := rfl
theorem JarOk.isD {n : Nat} {J : M} (h : JarOk n J) : J.isD = false := by
  obtain ⟨x, y, z, rfl, _⟩ := h
  rfl
theorem JarOk.mono {n k : Nat} {J : M} (h : JarOk n J) (hk : n ≤ k) : JarOk k J := by
  obtain ⟨x, y, z, e, h1, h2, h3, h4, h5⟩ := h
  exact ⟨x, y, z, e, h1, h2, h3, h4, by omega⟩
def acts5 : List Str := ["take", "least", "last", "show", "ask"]
theorem acts5_ok : ∀ a ∈ acts5, okS a := by
  intro a ha
  simp [acts5] at ha
  rcases ha with rfl | rfl | rfl | rfl | rfl <;> (unfold okS; decide +kernel)
theorem act_at {r : Int} (h0 : 0 ≤ r) (h1 : r < 5) : ∃ a, a ∈ acts5 ∧ gIx (.lst [.str "take", .str "least", .str "last", .str "show", .str "ask"]) (.int r) = some (.str a) := by
  have : r = 0 ∨ r = 1 ∨ r = 2 ∨ r = 3 ∨ r = 4 := by omega
  rcases this with rfl | rfl | rfl | rfl | rfl
  · exact ⟨"take", by simp [acts5], rfl⟩
  · exact ⟨"least", by simp [acts5], rfl⟩
  · exact ⟨"last", by simp [acts5], rfl⟩
  · exact ⟨"show", by simp [acts5], rfl⟩
  · exact ⟨"ask", by simp [acts5], rfl⟩
theorem p_rule_loop (most : D) : ∀ (ds : List D) (n : Nat) (J : M), JarOk n J → n + ds.length < 1000000 → ∃ (acts : List Str) (J' : M), lcL [3] (gNm 3) tTrue (fOp (g2 gIx) (fVar 2) (fD (fCall F_law_draw [] [some 0, none] (fIo 0 (fCons (fC (.int 5)) fNil))))) ds
      [.o (some 0) J, .d most, .d (.lst [.str "take", .str "least", .str "last", .str "show", .str "ask"]), .no] = some (acts.map (fun a => M.d (.str a)), [.o (some 0) J', .d most, .d (.lst [.str "take", .str "least", .str "last", .str "show", .str "ask"]), .no]) ∧ acts.length = ds.length ∧ (∀ a ∈ acts, a ∈ acts5) ∧ JarOk (n + ds.length) J'
  | [], n, J, h, _ => ⟨[], J, rfl, rfl, by simp, h⟩
  | d :: ds, n, J, h, hn => by
    obtain ⟨r, J1, h1, r0, r1, h2⟩ := p_draw h (by simp at hn; omega) (m := 5) (by decide) (by decide)
    obtain ⟨a, ha, hg⟩ := act_at r0 r1
    obtain ⟨acts, J', q1, q2, q3, q4⟩ := p_rule_loop most ds (n + 1) J1 h2 (by simp at hn; omega)
    have e1 := h.isD
    have e2 := h2.isD
    refine ⟨a :: acts, J', ?_, by simp [q2], fun b hb => by
      rcases List.mem_cons.mp hb with rfl | hb
      · exact ha
      · exact q3 b hb, by simp only [List.length_cons]; exact q4.mono (by omega)⟩
    unfold lcL
    simp (config := {decide := true}) [fnF, sRet, sRetN, sSeq, sIf, sSet, sPass, sFrz, sDrop, fT, fOp, fVar, fC, fMov, fFrz, fD, startE, M.toD, M.toDs, M.toB, fIxO, isO, sIxO, atI, ixN, g2, g2m, fOf, PL.g1, g1m, g22, fCons, fNil, fIo, fCall, PL.fill, putb, M.argOf, M.hole, ownS, fin, finals, tNotT, tAndT, tOrT, fAnd, fOr, fNot, fIf, fChain, fPl, getP, setP, M.cell, M.setCell, M.sub, M.fld, fldI, sPut, M.setF, M.put, sAug, gPut, gTu, PL.gCons, gsNil, sAsg, sPar, fMethO, fMeth, fMake, appF, fLenO, sAppP, sApp, fLc, wipeB, tTrue, lAny, lRng, gNm, PL.gLst, PL.gTup, M.datas, fUnD, fMethK, fMake2, fProp, sExt, fPopP, gC, gInt, gInt0, gMod, gDiv, PL.gSub, gAdd, gMul, gLt, gLe, gGt, gGe, gToInt, gAbs, gMax, gMin, gLen, gIsN, gTupOf, gLstOf, bF, tPeek, fPeek, gEq_ss, gNe_ss, gEq_ii, gNe_ii, ok_take, ok_least, ok_last, ok_show, ok_ask, ok_put, ok_look, ok_alter, ok_back, ok_pay, ok_price, ok_again, isDd, isDl, isDo, isDk, isDb, h1, e1, e2, hg, q1]
theorem strs_toDs : ∀ acts : List Str, M.toDs (acts.map fun a => M.d (.str a)) = acts.map .str
  | [] => rfl
  | a :: acts => by simp only [List.map_cons, M.toDs, M.toD, strs_toDs acts]
theorem p_rule_draw {n : Nat} {J : M} {most : Int} (h : JarOk n J) (hn : n < 100000) (h0 : 0 ≤ most) (h6 : most ≤ 6) : ∃ (acts : List Str) (J' : M), F_law_rule [J, .d (.int most)] = some (.d (.tup (acts.map .str)), [J']) ∧ acts.length ≤ 6 ∧ (∀ a ∈ acts, a ∈ acts5) ∧ JarOk (n + 7) J' := by
  obtain ⟨r, J1, h1, r0, r1, h2⟩ := p_draw h (by omega) (m := most + 1) (by omega) (by omega)
  have hl : (rngD 0 r.toNat).length = r.toNat := by simp [rngD]
  obtain ⟨acts, J', q1, q2, q3, q4⟩ := p_rule_loop (.int most) (rngD 0 r.toNat) (n + 1) J1 h2 (by rw [hl]; omega)
  rw [hl] at q2 q4
  have e1 := h.isD
  have e2 := h2.isD
  have r2 : -1000000 ≤ r := by omega
  have r3 : r ≤ 1000000 := by omega
  have r4 : r.toNat ≤ 1000000 := by omega
  refine ⟨acts, J', ?_, by omega, q3, q4.mono (by omega)⟩
  simp (config := {decide := true}) [F_law_rule, g_law_rule, fnF, sRet, sRetN, sSeq, sIf, sSet, sPass, sFrz, sDrop, fT, fOp, fVar, fC, fMov, fFrz, fD, startE, M.toD, M.toDs, M.toB, fIxO, isO, sIxO, atI, ixN, g2, g2m, fOf, PL.g1, g1m, g22, fCons, fNil, fIo, fCall, PL.fill, putb, M.argOf, M.hole, ownS, fin, finals, tNotT, tAndT, tOrT, fAnd, fOr, fNot, fIf, fChain, fPl, getP, setP, M.cell, M.setCell, M.sub, M.fld, fldI, sPut, M.setF, M.put, sAug, gPut, gTu, PL.gCons, gsNil, sAsg, sPar, fMethO, fMeth, fMake, appF, fLenO, sAppP, sApp, fLc, wipeB, tTrue, lAny, lRng, gNm, PL.gLst, PL.gTup, M.datas, fUnD, fMethK, fMake2, fProp, sExt, fPopP, gC, gInt, gInt0, gMod, gDiv, PL.gSub, gAdd, gMul, gLt, gLe, gGt, gGe, gToInt, gAbs, gMax, gMin, gLen, gIsN, gTupOf, gLstOf, bF, tPeek, fPeek, gEq_ss, gNe_ss, gEq_ii, gNe_ii, ok_take, ok_least, ok_last, ok_show, ok_ask, ok_put, ok_look, ok_alter, ok_back, ok_pay, ok_price, ok_again, isDd, isDl, isDo, isDk, isDb, h1, e1, e2, r2, r3, r4, hl, q1, strs_toDs]
end Lw

namespace Lw
open PySem PySem.Spec PyProof.Rows L2 PL
/-! ### data that may be compared -/
mutual
def fineD : Nat → D → Bool
  | _, .non => true
  | _, .bl _ => true
  | _, .int _ => true
  | _, .str x => PyData.strOk x
  | n, .tup ds => decide (1 ≤ n) && fineDs (n - 1) ds
  | n, .lst ds => decide (1 ≤ n) && fineDs (n - 1) ds
  | _, _ => false
def fineDs : Nat → List D → Bool
  | _, [] => true
  | n, d :: ds => fineD n d && fineDs n ds
end
mutual
theorem fine_py : ∀ (n : Nat) (d : D), fineD n d = true → ∃ p, d.py = some p ∧ p.canLay0 = true ∧ p.depth ≤ n ∧ PyData.eqv p p = true
  | n, .non, _ => ⟨_, rfl, rfl, by simp [PyData.depth], by simp [PyData.eqv]⟩
  | n, .bl b, _ => ⟨_, rfl, rfl, by simp [PyData.depth], by simp [PyData.eqv]⟩
  | n, .int i, _ => ⟨_, rfl, rfl, by simp [PyData.depth], by simp [PyData.eqv]⟩
  | n, .str x, h => ⟨_, rfl, by simpa [fineD, PyData.canLay0] using h, by simp [PyData.depth], by simp [PyData.eqv]⟩
  | n, .tup ds, h => by
    simp only [fineD, Bool.and_eq_true, decide_eq_true_eq] at h
    obtain ⟨ps, h1, h2, h3, h4⟩ := fines_py (n - 1) ds h.2
    exact ⟨.tuple ps, by simp [D.py, h1], by simp [PyData.canLay0, h2], by simp only [PyData.depth]; omega, by simp [PyData.eqv, h4]⟩
  | n, .lst ds, h => by
    simp only [fineD, Bool.and_eq_true, decide_eq_true_eq] at h
    obtain ⟨ps, h1, h2, h3, h4⟩ := fines_py (n - 1) ds h.2
    exact ⟨.list ps, by simp [D.py, h1], by simp [PyData.canLay0, h2], by simp only [PyData.depth]; omega, by simp [PyData.eqv, h4]⟩
  | n, .adr _, h => by simp [fineD] at h
  | n, .ty _, h => by simp [fineD] at h
  | n, .obj .., h => by simp [fineD] at h
  | n, .dic .., h => by simp [fineD] at h
  | n, .seq _, h => by simp [fineD] at h
  | n, .any, h => by simp [fineD] at h
  | n, .oba .., h => by simp [fineD] at h
theorem fines_py : ∀ (n : Nat) (ds : List D), fineDs n ds = true → ∃ ps, D.pys ds = some ps ∧ PyData.canLayAll0 ps = true ∧ PyData.depthAll ps ≤ n ∧ PyData.eqvAll ps ps = true
  | n, [], _ => ⟨[], rfl, rfl, by simp [PyData.depthAll], by simp [PyData.eqvAll]⟩
  | n, d :: ds, h => by
    simp only [fineDs, Bool.and_eq_true] at h
    obtain ⟨p, h1, h2, h3, h4⟩ := fine_py n d h.1
    obtain ⟨ps, k1, k2, k3, k4⟩ := fines_py n ds h.2
    exact ⟨p :: ps, by simp [D.pys, h1, k1], by simp [PyData.canLayAll0, h2, k2], by simp only [PyData.depthAll]; omega, by simp [PyData.eqvAll, h4, k4]⟩
end
theorem gEq_fine {d : D} (h : fineD 60 d = true) : gEq d d = some (.bl true) := by
  obtain ⟨p, h1, h2, h3, h4⟩ := fine_py 60 d h
  have : SeqAt.shaped p = true := by
    simp only [SeqAt.shaped, h2, Bool.true_and, decide_eq_true_eq]; omega
  simp [gEq, gCmp, h1, this, h4]
theorem gNe_fine {d : D} (h : fineD 60 d = true) : gNe d d = some (.bl false) := by
  obtain ⟨p, h1, h2, h3, h4⟩ := fine_py 60 d h
  have : SeqAt.shaped p = true := by
    simp only [SeqAt.shaped, h2, Bool.true_and, decide_eq_true_eq]; omega
  simp [gNe, gCmp, h1, this, h4]
theorem gEq_two {d e : D} (h : fineD 60 d = true) (h' : fineD 60 e = true) : ∃ k, gEq d e = some (.bl k) := by
  obtain ⟨p, h1, h2, h3, h4⟩ := fine_py 60 d h
  obtain ⟨q, k1, k2, k3, k4⟩ := fine_py 60 e h'
  have e1 : SeqAt.shaped p = true := by
    simp only [SeqAt.shaped, h2, Bool.true_and, decide_eq_true_eq]; omega
  have e2 : SeqAt.shaped q = true := by
    simp only [SeqAt.shaped, k2, Bool.true_and, decide_eq_true_eq]; omega
  exact ⟨PyData.eqv p q, by simp [gEq, gCmp, h1, k1, e1, e2]⟩
theorem gNe_two {d e : D} (h : fineD 60 d = true) (h' : fineD 60 e = true) : ∃ k, gNe d e = some (.bl k) := by
  obtain ⟨p, h1, h2, h3, h4⟩ := fine_py 60 d h
  obtain ⟨q, k1, k2, k3, k4⟩ := fine_py 60 e h'
  have e1 : SeqAt.shaped p = true := by
    simp only [SeqAt.shaped, h2, Bool.true_and, decide_eq_true_eq]; omega
  have e2 : SeqAt.shaped q = true := by
    simp only [SeqAt.shaped, k2, Bool.true_and, decide_eq_true_eq]; omega
  exact ⟨!PyData.eqv p q, by simp [gNe, gCmp, h1, k1, e1, e2]⟩
theorem fines_all (n : Nat) : ∀ ds, fineDs n ds = ds.all (fineD n)
  | [] => rfl
  | d :: ds => by simp [fineDs, fines_all n ds]
end Lw

namespace Lw
open PySem PySem.Spec PyProof.Rows L2 PL
/-! ### six rules -/
def ruleD (r : List Str) : D := .tup (r.map .str)
def RuleOk (r : List Str) : Prop := r.length ≤ 6 ∧ ∀ a ∈ r, a ∈ acts5
theorem fine_strs (n : Nat) : ∀ r : List Str, (∀ a ∈ r, okS a) → fineDs n (r.map .str) = true
  | [], _ => rfl
  | a :: r, h => by
    have := h a (by simp)
    unfold okS at this
    simp only [List.map_cons, fineDs, fineD, this, Bool.true_and]
    exact fine_strs n r fun b hb => h b (by simp [hb])
theorem RuleOk.strs {r : List Str} (h : RuleOk r) : ∀ a ∈ r, okS a := fun a ha => acts5_ok a (h.2 a ha)
theorem fine_rule {r : List Str} (h : RuleOk r) (n : Nat) (hn : 1 ≤ n) : fineD n (ruleD r) = true := by
  unfold ruleD fineD
  simp [hn, fine_strs _ r h.strs]
theorem toDs_rules : ∀ rs : List (List Str), M.toDs (rs.map fun r => M.d (ruleD r)) = rs.map ruleD
  | [] => rfl
  | r :: rs => by simp only [List.map_cons, M.toDs, M.toD, toDs_rules rs]
theorem fine_rules (n : Nat) (hn : 1 ≤ n) : ∀ rs : List (List Str), (∀ r ∈ rs, RuleOk r) → fineDs n (rs.map ruleD) = true
  | [], _ => rfl
  | r :: rs, h => by
    simp only [List.map_cons, fineDs, fine_rule (h r (by simp)) n hn, Bool.true_and]
    exact fine_rules n hn rs fun b hb => h b (by simp [hb])
theorem gNe_rules {rs : List (List Str)} (h : ∀ r ∈ rs, RuleOk r) : ∃ k, gNe (.lst (rs.map ruleD)) (.lst []) = some (.bl k) ∧ (k = true → rs ≠ []) := by
  obtain ⟨k, hk⟩ := gNe_two (d := .lst (rs.map ruleD)) (e := .lst []) (by unfold fineD; simp [fine_rules 59 (by decide) rs h]) (by rfl)
  refine ⟨k, hk, fun e he => ?_⟩
  subst he e
  have : gNe (.lst (([] : List (List Str)).map ruleD)) (.lst []) = some (.bl false) := by kernel_rfl
  rw [this] at hk
  cases hk

def bodySix : Sv := (sSeq (sSet 3 (fD (fCall F_law_rule [] [some 0, none] (fIo 0 (fCons (fOp (g2 gIx) (fD (fOf PL.gLst (fCons (fC (.int 1)) (fCons (fC (.int 2)) (fCons (fC (.int 3)) (fCons (fC (.int 6)) fNil)))))) (fD (fCall F_law_draw [] [some 0, none] (fIo 0 (fCons (fC (.int 4)) fNil))))) fNil))))) (sSeq (sIf (tAndT (fT (fOpO gNe 1 (fD (fOf PL.gLst fNil)))) (fT (fOp (g2 gEq) (fD (fCall F_law_draw [] [some 0, none] (fIo 0 (fCons (fC (.int 4)) fNil)))) (fC (.int 0))))) (sSet 3 (fIxO 1 (fD (fCall F_law_draw [] [some 0, none] (fIo 0 (fCons (fLenO 1) fNil)))))) sPass) (sApp 1 (fVar 3))))
theorem most_at {r : Int} (h0 : 0 ≤ r) (h1 : r < 4) : ∃ k : Int, 1 ≤ k ∧ k ≤ 6 ∧ gIx (.lst [.int 1, .int 2, .int 3, .int 6]) (.int r) = some (.int k) := by
  have : r = 0 ∨ r = 1 ∨ r = 2 ∨ r = 3 := by omega
  rcases this with rfl | rfl | rfl | rfl
  · exact ⟨1, by decide, by decide, rfl⟩
  · exact ⟨2, by decide, by decide, rfl⟩
  · exact ⟨3, by decide, by decide, rfl⟩
  · exact ⟨6, by decide, by decide, rfl⟩
def rulesM (rs : List (List Str)) : M := .lst (rs.map fun r => M.d (ruleD r))
theorem p_six_step {n : Nat} {J : M} {rs : List (List Str)} (B2 B3 : B) (h : JarOk n J) (hn : n < 90000) (hr : ∀ r ∈ rs, RuleOk r) (hl : rs.length ≤ 6) :
    ∃ (r : List Str) (J' : M), RuleOk r ∧ JarOk (n + 10) J' ∧ bodySix [.o (some 0) J, .o none (rulesM rs), B2, B3] = some (.nx, [.o (some 0) J', .o none (rulesM (rs ++ [r])), B2, .d (ruleD r)]) := by
  obtain ⟨i, J1, a1, a2, a3, a4⟩ := p_draw h (by omega) (m := 4) (by decide) (by decide)
  obtain ⟨k, k1, k2, k3⟩ := most_at a2 a3
  obtain ⟨r, J2, b1, b2, b3, b4⟩ := p_rule_draw a4 (by omega) (by omega) k2
  obtain ⟨q, hq, hne⟩ := gNe_rules hr
  have e0 := h.isD
  have e1 := a4.isD
  have e2 := b4.isD
  have ha : ((rs.map fun r => M.d (ruleD r)) ++ [M.d (ruleD r)]) = (rs ++ [r]).map fun r => M.d (ruleD r) := by simp
  have hl2 : rs.length < 1000000 := by omega
  have b1' : F_law_rule [J1, .d (.int k)] = some (.d (ruleD r), [J2]) := b1
  cases q with
  | false =>
    refine ⟨r, J2, ⟨b2, b3⟩, b4.mono (by omega), ?_⟩
    simp (config := {decide := true}) [bodySix, rulesM, fOpO, toDs_rules, fnF, sRet, sRetN, sSeq, sIf, sSet, sPass, sFrz, sDrop, fT, fOp, fVar, fC, fMov, fFrz, fD, startE, M.toD, M.toDs, M.toB, fIxO, isO, sIxO, atI, ixN, g2, g2m, fOf, PL.g1, g1m, g22, fCons, fNil, fIo, fCall, PL.fill, putb, M.argOf, M.hole, ownS, fin, finals, tNotT, tAndT, tOrT, fAnd, fOr, fNot, fIf, fChain, fPl, getP, setP, M.cell, M.setCell, M.sub, M.fld, fldI, sPut, M.setF, M.put, sAug, gPut, gTu, PL.gCons, gsNil, sAsg, sPar, fMethO, fMeth, fMake, appF, fLenO, sAppP, sApp, fLc, wipeB, tTrue, lAny, lRng, gNm, PL.gLst, PL.gTup, M.datas, fUnD, fMethK, fMake2, fProp, sExt, fPopP, gC, gInt, gInt0, gMod, gDiv, PL.gSub, gAdd, gMul, gLt, gLe, gGt, gGe, gToInt, gAbs, gMax, gMin, gLen, gIsN, gTupOf, gLstOf, bF, tPeek, fPeek, gEq_ss, gNe_ss, gEq_ii, gNe_ii, ok_take, ok_least, ok_last, ok_show, ok_ask, ok_put, ok_look, ok_alter, ok_back, ok_pay, ok_price, ok_again, isDd, isDl, isDo, isDk, isDb, a1, b1', k3, e0, e1, e2, hq, hl2]
  | true =>
    obtain ⟨j, J3, c1, c2, c3, c4⟩ := p_draw b4 (by omega) (m := 4) (by decide) (by decide)
    have e3 := c4.isD
    by_cases hj : j = 0
    · subst hj
      have hpos : 0 < rs.length := List.length_pos_iff.mpr (hne rfl)
      obtain ⟨l, J4, d1, d2, d3, d4⟩ := p_draw c4 (by omega) (m := (rs.length : Nat)) (by omega) (by omega)
      have e4 := d4.isD
      have hlt : l.toNat < rs.length := by omega
      have hx : rs[l.toNat]? = some rs[l.toNat] := List.getElem?_eq_getElem hlt
      have hro : RuleOk rs[l.toNat] := hr _ (List.getElem_mem hlt)
      refine ⟨rs[l.toNat], J4, hro, d4.mono (by omega), ?_⟩
      simp (config := {decide := true}) [bodySix, rulesM, fOpO, toDs_rules, fnF, sRet, sRetN, sSeq, sIf, sSet, sPass, sFrz, sDrop, fT, fOp, fVar, fC, fMov, fFrz, fD, startE, M.toD, M.toDs, M.toB, fIxO, isO, sIxO, atI, ixN, g2, g2m, fOf, PL.g1, g1m, g22, fCons, fNil, fIo, fCall, PL.fill, putb, M.argOf, M.hole, ownS, fin, finals, tNotT, tAndT, tOrT, fAnd, fOr, fNot, fIf, fChain, fPl, getP, setP, M.cell, M.setCell, M.sub, M.fld, fldI, sPut, M.setF, M.put, sAug, gPut, gTu, PL.gCons, gsNil, sAsg, sPar, fMethO, fMeth, fMake, appF, fLenO, sAppP, sApp, fLc, wipeB, tTrue, lAny, lRng, gNm, PL.gLst, PL.gTup, M.datas, fUnD, fMethK, fMake2, fProp, sExt, fPopP, gC, gInt, gInt0, gMod, gDiv, PL.gSub, gAdd, gMul, gLt, gLe, gGt, gGe, gToInt, gAbs, gMax, gMin, gLen, gIsN, gTupOf, gLstOf, bF, tPeek, fPeek, gEq_ss, gNe_ss, gEq_ii, gNe_ii, ok_take, ok_least, ok_last, ok_show, ok_ask, ok_put, ok_look, ok_alter, ok_back, ok_pay, ok_price, ok_again, isDd, isDl, isDo, isDk, isDb, a1, b1', k3, e0, e1, e2, e3, e4, hq, hl2, c1, d1, d2, d3, hx]
    · refine ⟨r, J3, ⟨b2, b3⟩, c4.mono (by omega), ?_⟩
      simp (config := {decide := true}) [bodySix, rulesM, fOpO, toDs_rules, fnF, sRet, sRetN, sSeq, sIf, sSet, sPass, sFrz, sDrop, fT, fOp, fVar, fC, fMov, fFrz, fD, startE, M.toD, M.toDs, M.toB, fIxO, isO, sIxO, atI, ixN, g2, g2m, fOf, PL.g1, g1m, g22, fCons, fNil, fIo, fCall, PL.fill, putb, M.argOf, M.hole, ownS, fin, finals, tNotT, tAndT, tOrT, fAnd, fOr, fNot, fIf, fChain, fPl, getP, setP, M.cell, M.setCell, M.sub, M.fld, fldI, sPut, M.setF, M.put, sAug, gPut, gTu, PL.gCons, gsNil, sAsg, sPar, fMethO, fMeth, fMake, appF, fLenO, sAppP, sApp, fLc, wipeB, tTrue, lAny, lRng, gNm, PL.gLst, PL.gTup, M.datas, fUnD, fMethK, fMake2, fProp, sExt, fPopP, gC, gInt, gInt0, gMod, gDiv, PL.gSub, gAdd, gMul, gLt, gLe, gGt, gGe, gToInt, gAbs, gMax, gMin, gLen, gIsN, gTupOf, gLstOf, bF, tPeek, fPeek, gEq_ss, gNe_ss, gEq_ii, gNe_ii, ok_take, ok_least, ok_last, ok_show, ok_ask, ok_put, ok_look, ok_alter, ok_back, ok_pay, ok_price, ok_again, isDd, isDl, isDo, isDk, isDb, a1, b1', k3, e0, e1, e2, e3, hq, hl2, c1, hj]

theorem p_six_loop : ∀ (ds : List D) (n : Nat) (J : M) (rs : List (List Str)) (B2 B3 : B), JarOk n J → n + 10 * ds.length < 90000 → (∀ r ∈ rs, RuleOk r) → rs.length + ds.length ≤ 6 →
    ∃ (rs' : List (List Str)) (J' : M) (B2' B3' : B), forL (gNm 2) bodySix ds [.o (some 0) J, .o none (rulesM rs), B2, B3] = some (.nx, [.o (some 0) J', .o none (rulesM rs'), B2', B3']) ∧ (∀ r ∈ rs', RuleOk r) ∧ rs'.length = rs.length + ds.length ∧ JarOk (n + 10 * ds.length) J'
  | [], n, J, rs, B2, B3, h, _, hr, _ => ⟨rs, J, B2, B3, rfl, hr, by simp, h⟩
  | d :: ds, n, J, rs, B2, B3, h, hn, hr, hl => by
    simp only [List.length_cons] at hn hl
    obtain ⟨r, J1, q1, q2, q3⟩ := p_six_step (.d d) B3 h (by omega) hr (by omega)
    obtain ⟨rs', J', B2', B3', w1, w2, w3, w4⟩ := p_six_loop ds (n + 10) J1 (rs ++ [r]) (.d d) (.d (ruleD r)) q2 (by omega) (fun x hx => by
      rcases List.mem_append.mp hx with z | z
      · exact hr x z
      · rw [List.mem_singleton.mp z]; exact q1) (by simp; omega)
    refine ⟨rs', J', B2', B3', ?_, w2, by simp at w3 ⊢; omega, w4.mono (by simp; omega)⟩
    unfold forL
    simp only [gNm, List.length_cons, List.length_nil, Nat.reduceAdd, Nat.reduceLT, if_true, List.set_cons_succ, List.set_cons_zero]
    rw [q3]
    exact w1
theorem p_six {n : Nat} {J : M} (h : JarOk n J) (hn : n < 80000) : ∃ (rs : List (List Str)) (J' : M), F_law_six [J] = some (.d (.tup (rs.map ruleD)), [J']) ∧ rs.length = 6 ∧ (∀ r ∈ rs, RuleOk r) ∧ JarOk (n + 60) J' := by
  obtain ⟨rs, J', B2, B3, q1, q2, q3, q4⟩ := p_six_loop (rngD 0 6) n J [] .no .no h (by simp [rngD]; omega) (by simp) (by simp [rngD])
  have e0 := h.isD
  have e1 := q4.isD
  refine ⟨rs, J', ?_, by simpa [rngD] using q3, q2, q4.mono (by simp [rngD])⟩
  unfold bodySix rulesM at q1
  simp only [List.map_nil] at q1
  simp (config := {decide := true}) [F_law_six, g_law_six, fnF, sRet, sRetN, sSeq, sIf, sSet, sPass, sFrz, sDrop, fT, fOp, fVar, fC, fMov, fFrz, fD, startE, M.toD, M.toDs, M.toB, fIxO, isO, sIxO, atI, ixN, g2, g2m, fOf, PL.g1, g1m, g22, fCons, fNil, fIo, fCall, PL.fill, putb, M.argOf, M.hole, ownS, fin, finals, tNotT, tAndT, tOrT, fAnd, fOr, fNot, fIf, fChain, fPl, getP, setP, M.cell, M.setCell, M.sub, M.fld, fldI, sPut, M.setF, M.put, sAug, gPut, gTu, PL.gCons, gsNil, sAsg, sPar, fMethO, fMeth, fMake, appF, fLenO, sAppP, sApp, fLc, wipeB, tTrue, lAny, lRng, gNm, PL.gLst, PL.gTup, M.datas, fUnD, fMethK, fMake2, fProp, sExt, fPopP, gC, gInt, gInt0, gMod, gDiv, PL.gSub, gAdd, gMul, gLt, gLe, gGt, gGe, gToInt, gAbs, gMax, gMin, gLen, gIsN, gTupOf, gLstOf, bF, tPeek, fPeek, gEq_ss, gNe_ss, gEq_ii, gNe_ii, ok_take, ok_least, ok_last, ok_show, ok_ask, ok_put, ok_look, ok_alter, ok_back, ok_pay, ok_price, ok_again, isDd, isDl, isDo, isDk, isDb, sFor, e0, e1, q1, toDs_rules]
end Lw

namespace Lw
open PySem PySem.Spec PyProof.Rows L2 PL
/-! ### deeds that are drawn -/
/-- the deeds of this law, at one item -/
inductive Deed (x : Str) : D → Prop where
  | price (a : Int) (h0 : 0 ≤ a) (h1 : a < 5) : Deed x (.tup [.str "price", .str x, .int a])
  | put (a : Int) (h0 : 1 ≤ a) (h1 : a ≤ 9) : Deed x (.tup [.str "put", .str x, .int a])
  | look : Deed x (.tup [.str "look"])
  | back : Deed x (.tup [.str "back"])
  | pay (b : Bool) : Deed x (.tup [.str "pay", .bl b])
theorem p_act {n : Nat} {J : M} (x : Str) (h : JarOk n J) (hn : n < 80000) : ∃ (d : D) (J' : M), F_law_act [J, .d (.str x)] = some (.d d, [J']) ∧ Deed x d ∧ JarOk (n + 3) J' := by
  obtain ⟨a, J1, a1, a2, a3, a4⟩ := p_draw h (by omega) (m := 9) (by decide) (by decide)
  obtain ⟨w, J2, b1, b2, b3, b4⟩ := p_draw a4 (by omega) (m := 6) (by decide) (by decide)
  have e0 := h.isD
  have e1 := a4.isD
  have e2 := b4.isD
  by_cases hw : w < 2
  · obtain ⟨p, J3, c1, c2, c3, c4⟩ := p_draw b4 (by omega) (m := 5) (by decide) (by decide)
    have e3 := c4.isD
    refine ⟨_, J3, ?_, .price p c2 c3, c4⟩
    simp (config := {decide := true}) [F_law_act, g_law_act, fnF, sRet, sRetN, sSeq, sIf, sSet, sPass, sFrz, sDrop, fT, fOp, fVar, fC, fMov, fFrz, fD, startE, M.toD, M.toDs, M.toB, fIxO, isO, sIxO, atI, ixN, g2, g2m, fOf, PL.g1, g1m, g22, fCons, fNil, fIo, fCall, PL.fill, putb, M.argOf, M.hole, ownS, fin, finals, tNotT, tAndT, tOrT, fAnd, fOr, fNot, fIf, fChain, fPl, getP, setP, M.cell, M.setCell, M.sub, M.fld, fldI, sPut, M.setF, M.put, sAug, gPut, gTu, PL.gCons, gsNil, sAsg, sPar, fMethO, fMeth, fMake, appF, fLenO, sAppP, sApp, fLc, wipeB, tTrue, lAny, lRng, gNm, PL.gLst, PL.gTup, M.datas, fUnD, fMethK, fMake2, fProp, sExt, fPopP, gC, gInt, gInt0, gMod, gDiv, PL.gSub, gAdd, gMul, gLt, gLe, gGt, gGe, gToInt, gAbs, gMax, gMin, gLen, gIsN, gTupOf, gLstOf, bF, tPeek, fPeek, gEq_ss, gNe_ss, gEq_ii, gNe_ii, ok_take, ok_least, ok_last, ok_show, ok_ask, ok_put, ok_look, ok_alter, ok_back, ok_pay, ok_price, ok_again, isDd, isDl, isDo, isDk, isDb, a1, b1, c1, e0, e1, e2, e3, hw]
  · have hv : w = 2 ∨ w = 3 ∨ w = 4 ∨ w = 5 := by omega
    rcases hv with rfl | rfl | rfl | rfl
    · refine ⟨_, J2, ?_, .put (1 + a) (by omega) (by omega), b4.mono (by omega)⟩
      simp (config := {decide := true}) [F_law_act, g_law_act, fnF, sRet, sRetN, sSeq, sIf, sSet, sPass, sFrz, sDrop, fT, fOp, fVar, fC, fMov, fFrz, fD, startE, M.toD, M.toDs, M.toB, fIxO, isO, sIxO, atI, ixN, g2, g2m, fOf, PL.g1, g1m, g22, fCons, fNil, fIo, fCall, PL.fill, putb, M.argOf, M.hole, ownS, fin, finals, tNotT, tAndT, tOrT, fAnd, fOr, fNot, fIf, fChain, fPl, getP, setP, M.cell, M.setCell, M.sub, M.fld, fldI, sPut, M.setF, M.put, sAug, gPut, gTu, PL.gCons, gsNil, sAsg, sPar, fMethO, fMeth, fMake, appF, fLenO, sAppP, sApp, fLc, wipeB, tTrue, lAny, lRng, gNm, PL.gLst, PL.gTup, M.datas, fUnD, fMethK, fMake2, fProp, sExt, fPopP, gC, gInt, gInt0, gMod, gDiv, PL.gSub, gAdd, gMul, gLt, gLe, gGt, gGe, gToInt, gAbs, gMax, gMin, gLen, gIsN, gTupOf, gLstOf, bF, tPeek, fPeek, gEq_ss, gNe_ss, gEq_ii, gNe_ii, ok_take, ok_least, ok_last, ok_show, ok_ask, ok_put, ok_look, ok_alter, ok_back, ok_pay, ok_price, ok_again, isDd, isDl, isDo, isDk, isDb, a1, b1, e0, e1, e2, gIx]
    · refine ⟨_, J2, ?_, .look, b4.mono (by omega)⟩
      simp (config := {decide := true}) [F_law_act, g_law_act, fnF, sRet, sRetN, sSeq, sIf, sSet, sPass, sFrz, sDrop, fT, fOp, fVar, fC, fMov, fFrz, fD, startE, M.toD, M.toDs, M.toB, fIxO, isO, sIxO, atI, ixN, g2, g2m, fOf, PL.g1, g1m, g22, fCons, fNil, fIo, fCall, PL.fill, putb, M.argOf, M.hole, ownS, fin, finals, tNotT, tAndT, tOrT, fAnd, fOr, fNot, fIf, fChain, fPl, getP, setP, M.cell, M.setCell, M.sub, M.fld, fldI, sPut, M.setF, M.put, sAug, gPut, gTu, PL.gCons, gsNil, sAsg, sPar, fMethO, fMeth, fMake, appF, fLenO, sAppP, sApp, fLc, wipeB, tTrue, lAny, lRng, gNm, PL.gLst, PL.gTup, M.datas, fUnD, fMethK, fMake2, fProp, sExt, fPopP, gC, gInt, gInt0, gMod, gDiv, PL.gSub, gAdd, gMul, gLt, gLe, gGt, gGe, gToInt, gAbs, gMax, gMin, gLen, gIsN, gTupOf, gLstOf, bF, tPeek, fPeek, gEq_ss, gNe_ss, gEq_ii, gNe_ii, ok_take, ok_least, ok_last, ok_show, ok_ask, ok_put, ok_look, ok_alter, ok_back, ok_pay, ok_price, ok_again, isDd, isDl, isDo, isDk, isDb, a1, b1, e0, e1, e2, gIx]
    · refine ⟨_, J2, ?_, .back, b4.mono (by omega)⟩
      simp (config := {decide := true}) [F_law_act, g_law_act, fnF, sRet, sRetN, sSeq, sIf, sSet, sPass, sFrz, sDrop, fT, fOp, fVar, fC, fMov, fFrz, fD, startE, M.toD, M.toDs, M.toB, fIxO, isO, sIxO, atI, ixN, g2, g2m, fOf, PL.g1, g1m, g22, fCons, fNil, fIo, fCall, PL.fill, putb, M.argOf, M.hole, ownS, fin, finals, tNotT, tAndT, tOrT, fAnd, fOr, fNot, fIf, fChain, fPl, getP, setP, M.cell, M.setCell, M.sub, M.fld, fldI, sPut, M.setF, M.put, sAug, gPut, gTu, PL.gCons, gsNil, sAsg, sPar, fMethO, fMeth, fMake, appF, fLenO, sAppP, sApp, fLc, wipeB, tTrue, lAny, lRng, gNm, PL.gLst, PL.gTup, M.datas, fUnD, fMethK, fMake2, fProp, sExt, fPopP, gC, gInt, gInt0, gMod, gDiv, PL.gSub, gAdd, gMul, gLt, gLe, gGt, gGe, gToInt, gAbs, gMax, gMin, gLen, gIsN, gTupOf, gLstOf, bF, tPeek, fPeek, gEq_ss, gNe_ss, gEq_ii, gNe_ii, ok_take, ok_least, ok_last, ok_show, ok_ask, ok_put, ok_look, ok_alter, ok_back, ok_pay, ok_price, ok_again, isDd, isDl, isDo, isDk, isDb, a1, b1, e0, e1, e2, gIx]
    · refine ⟨_, J2, ?_, .pay (decide (4 < 1 + a)), b4.mono (by omega)⟩
      simp (config := {decide := true}) [F_law_act, g_law_act, fnF, sRet, sRetN, sSeq, sIf, sSet, sPass, sFrz, sDrop, fT, fOp, fVar, fC, fMov, fFrz, fD, startE, M.toD, M.toDs, M.toB, fIxO, isO, sIxO, atI, ixN, g2, g2m, fOf, PL.g1, g1m, g22, fCons, fNil, fIo, fCall, PL.fill, putb, M.argOf, M.hole, ownS, fin, finals, tNotT, tAndT, tOrT, fAnd, fOr, fNot, fIf, fChain, fPl, getP, setP, M.cell, M.setCell, M.sub, M.fld, fldI, sPut, M.setF, M.put, sAug, gPut, gTu, PL.gCons, gsNil, sAsg, sPar, fMethO, fMeth, fMake, appF, fLenO, sAppP, sApp, fLc, wipeB, tTrue, lAny, lRng, gNm, PL.gLst, PL.gTup, M.datas, fUnD, fMethK, fMake2, fProp, sExt, fPopP, gC, gInt, gInt0, gMod, gDiv, PL.gSub, gAdd, gMul, gLt, gLe, gGt, gGe, gToInt, gAbs, gMax, gMin, gLen, gIsN, gTupOf, gLstOf, bF, tPeek, fPeek, gEq_ss, gNe_ss, gEq_ii, gNe_ii, ok_take, ok_least, ok_last, ok_show, ok_ask, ok_put, ok_look, ok_alter, ok_back, ok_pay, ok_price, ok_again, isDd, isDl, isDo, isDk, isDb, a1, b1, e0, e1, e2, gIx]
/-- the jar -/
theorem p_jar (script : List D) (k : Nat) (hs : ∀ d ∈ script, ∃ i, d = .int i) (hk : k < 64) : ∃ J, F_law_jar [.d (.seq script), .d (.int k)] = some (J, []) ∧ JarOk 0 J := by
  have a4 : gPow (.int 10) (.int 18) = some (.int (10 ^ 18)) := gPow_ok _ _ (by decide) (by decide) (by decide)
  have a5 : gPow (.int 10) (.int 36) = some (.int (10 ^ 36)) := gPow_ok _ _ (by decide) (by decide) (by decide)
  have mk : ∀ c : Int, 0 ≤ c → JarOk 0 (jarM (if c - 10 ^ 18 > 0 then c - 10 ^ 18 else 0) (c % (10 ^ 36 + 67) + 1299709 * k) 0) := fun c hc => by
    have u0 : 0 ≤ c % (10 ^ 36 + 67) := Int.emod_nonneg _ (by decide)
    have u1 : c % (10 ^ 36 + 67) < 10 ^ 36 + 67 := Int.emod_lt_of_pos _ (by decide)
    refine ⟨_, _, _, rfl, ?_, by omega, by omega, by decide, by decide⟩
    split <;> omega
  by_cases hl : k < script.length
  · obtain ⟨i, hi⟩ := hs _ (List.getElem_mem hl)
    have hx : gIx (.seq script) (.int k) = some (.int i) := by
      simp [gIx, atI, ixN, hl, hi]
    obtain ⟨c, hc⟩ : ∃ c, c = (if i < 0 then -i else i) := ⟨_, rfl⟩
    have c0 : 0 ≤ c := by rw [hc]; split <;> omega
    have b0 : gAbs (.int i) = some (.int c) := by rw [hc]; rfl
    refine ⟨_, ?_, mk c c0⟩
    have b1 : gMod (.int c) (.int (10 ^ 36 + 67)) = some (.int (c % (10 ^ 36 + 67))) := gMod_ok _ _ (by decide)
    have b2 : gMul (.int 1299709) (.int k) = some (.d (.int (1299709 * k))) := gMul_ok _ _ (by decide)
    generalize hA : (10 : Int) ^ 36 = A at *
    generalize hB : (10 : Int) ^ 18 = B at *
    simp (config := {decide := true}) [F_law_jar, g_law_jar, jarM, fnF, sRet, sRetN, sSeq, sIf, sSet, sPass, sFrz, sDrop, fT, fOp, fVar, fC, fMov, fFrz, fD, startE, M.toD, M.toDs, M.toB, fIxO, isO, sIxO, atI, ixN, g2, g2m, fOf, PL.g1, g1m, g22, fCons, fNil, fIo, fCall, PL.fill, putb, M.argOf, M.hole, ownS, fin, finals, tNotT, tAndT, tOrT, fAnd, fOr, fNot, fIf, fChain, fPl, getP, setP, M.cell, M.setCell, M.sub, M.fld, fldI, sPut, M.setF, M.put, sAug, gPut, gTu, PL.gCons, gsNil, sAsg, sPar, fMethO, fMeth, fMake, appF, fLenO, sAppP, sApp, fLc, wipeB, tTrue, lAny, lRng, gNm, PL.gLst, PL.gTup, M.datas, fUnD, fMethK, fMake2, fProp, sExt, fPopP, gC, gInt, gInt0, PL.gSub, gAdd, gLt, gLe, gGt, gGe, gToInt, gMax, gMin, gLen, gIsN, gTupOf, gLstOf, bF, tPeek, fPeek, gEq_ss, gNe_ss, gEq_ii, gNe_ii, ok_take, ok_least, ok_last, ok_show, ok_ask, ok_put, ok_look, ok_alter, ok_back, ok_pay, ok_price, ok_again, isDd, isDl, isDo, isDk, isDb, hl, hx, b0, b1, b2, a4, a5]
  · refine ⟨_, ?_, mk 0 (by decide)⟩
    have b1 : gMod (.int 0) (.int (10 ^ 36 + 67)) = some (.int (0 % (10 ^ 36 + 67))) := gMod_ok _ _ (by decide)
    have b2 : gMul (.int 1299709) (.int k) = some (.d (.int (1299709 * k))) := gMul_ok _ _ (by decide)
    generalize hA : (10 : Int) ^ 36 = A at *
    generalize hB : (10 : Int) ^ 18 = B at *
    simp (config := {decide := true}) [F_law_jar, g_law_jar, jarM, fnF, sRet, sRetN, sSeq, sIf, sSet, sPass, sFrz, sDrop, fT, fOp, fVar, fC, fMov, fFrz, fD, startE, M.toD, M.toDs, M.toB, fIxO, isO, sIxO, atI, ixN, g2, g2m, fOf, PL.g1, g1m, g22, fCons, fNil, fIo, fCall, PL.fill, putb, M.argOf, M.hole, ownS, fin, finals, tNotT, tAndT, tOrT, fAnd, fOr, fNot, fIf, fChain, fPl, getP, setP, M.cell, M.setCell, M.sub, M.fld, fldI, sPut, M.setF, M.put, sAug, gPut, gTu, PL.gCons, gsNil, sAsg, sPar, fMethO, fMeth, fMake, appF, fLenO, sAppP, sApp, fLc, wipeB, tTrue, lAny, lRng, gNm, PL.gLst, PL.gTup, M.datas, fUnD, fMethK, fMake2, fProp, sExt, fPopP, gC, gInt, gInt0, PL.gSub, gAdd, gLt, gLe, gGt, gGe, gToInt, gMax, gMin, gLen, gIsN, gTupOf, gLstOf, bF, tPeek, fPeek, gEq_ss, gNe_ss, gEq_ii, gNe_ii, ok_take, ok_least, ok_last, ok_show, ok_ask, ok_put, ok_look, ok_alter, ok_back, ok_pay, ok_price, ok_again, isDd, isDl, isDo, isDk, isDb, hl, b1, b2, a4, a5]
end Lw

namespace Lw
open PySem PySem.Spec PyProof.Rows L2 PL
theorem isrule_loop (d0 : D) : ∀ (r : List Str) (B1 : B), (∀ a ∈ r, a ∈ acts5) → lcL [1] (gNm 1) tTrue (fAnd (fOf (g22 gIsi) (fCons (fVar 1) (fCons (fC (.ty "str")) fNil))) (fOp (g2 (gIn false)) (fVar 1) (fC (.tup [.str "take", .str "least", .str "last", .str "show", .str "ask"])))) (r.map .str) [.d d0, .no]
      = some (r.map fun _ => M.d (.bl true), [.d d0, .no])
  | [], _, _ => rfl
  | a :: r, B1, h => by
    have ih := isrule_loop d0 r B1 fun b hb => h b (by simp [hb])
    have ha := h a (by simp)
    simp [acts5] at ha
    simp only [List.map_cons]
    unfold lcL
    rcases ha with rfl | rfl | rfl | rfl | rfl
    all_goals
      first
        | (rw [show (fAnd (fOf (g22 gIsi) (fCons (fVar 1) (fCons (fC (.ty "str")) fNil))) (fOp (g2 (gIn false)) (fVar 1) (fC (.tup [.str "take", .str "least", .str "last", .str "show", .str "ask"])))) = (fAnd (fOf (g22 gIsi) (fCons (fVar 1) (fCons (fC (.ty "str")) fNil))) (fOp (g2 (gIn false)) (fVar 1) (fC (.tup [.str "take", .str "least", .str "last", .str "show", .str "ask"])))) from rfl]
           simp (config := {decide := true}) [fnF, sRet, sRetN, sSeq, sIf, sSet, sPass, sFrz, sDrop, fT, fOp, fVar, fC, fMov, fFrz, fD, startE, M.toD, M.toDs, M.toB, fIxO, isO, sIxO, atI, ixN, g2, g2m, fOf, PL.g1, g1m, g22, fCons, fNil, fIo, fCall, PL.fill, putb, M.argOf, M.hole, ownS, fin, finals, tNotT, tAndT, tOrT, fAnd, fOr, fNot, fIf, fChain, fPl, getP, setP, M.cell, M.setCell, M.sub, M.fld, fldI, sPut, M.setF, M.put, sAug, gPut, gTu, PL.gCons, gsNil, sAsg, sPar, fMethO, fMeth, fMake, appF, fLenO, sAppP, sApp, fLc, wipeB, tTrue, lAny, lRng, gNm, PL.gLst, PL.gTup, M.datas, fUnD, fMethK, fMake2, fProp, sExt, fPopP, gC, gInt, gInt0, gMod, gDiv, PL.gSub, gAdd, gMul, gLt, gLe, gGt, gGe, gToInt, gAbs, gMax, gMin, gLen, gIsN, gTupOf, gLstOf, bF, tPeek, fPeek, gEq_ss, gNe_ss, gEq_ii, gNe_ii, ok_take, ok_least, ok_last, ok_show, ok_ask, ok_put, ok_look, ok_alter, ok_back, ok_pay, ok_price, ok_again, isDd, isDl, isDo, isDk, isDb, gIsi, tyN, isiB, gIn, D.flat, D.flats, D.items, inV, eqV, ih])

theorem bls_true (r : List Str) : D.bls (M.toDs (r.map fun _ => M.d (.bl true))) = some (r.map fun _ => true) := by
  induction r with
  | nil => rfl
  | cons a r ih => simp only [List.map_cons, M.toDs, M.toD, D.bls, ih]
theorem p_is_rule {r : List Str} (h : RuleOk r) : F_is_rule [.d (ruleD r)] = some (.d (.bl true), []) := by
  have h1 := isrule_loop (ruleD r) r .no h.2
  have h2 := h.1
  have h3 : ¬ (6 < (r.length : Int)) := by omega
  have h4 : r.length ≤ 1000000 := by omega
  have hb := bls_true r
  have ha : (r.map fun _ => true).all id = true := by simp
  unfold ruleD at h1 ⊢
  simp (config := {decide := true}) [F_is_rule, g_is_rule, fnF, sRet, sRetN, sSeq, sIf, sSet, sPass, sFrz, sDrop, fT, fOp, fVar, fC, fMov, fFrz, fD, startE, M.toD, M.toDs, M.toB, fIxO, isO, sIxO, atI, ixN, g2, g2m, fOf, PL.g1, g1m, g22, fCons, fNil, fIo, fCall, PL.fill, putb, M.argOf, M.hole, ownS, fin, finals, tNotT, tAndT, tOrT, fAnd, fOr, fNot, fIf, fChain, fPl, getP, setP, M.cell, M.setCell, M.sub, M.fld, fldI, sPut, M.setF, M.put, sAug, gPut, gTu, PL.gCons, gsNil, sAsg, sPar, fMethO, fMeth, fMake, appF, fLenO, sAppP, sApp, fLc, wipeB, tTrue, lAny, lRng, gNm, PL.gLst, PL.gTup, M.datas, fUnD, fMethK, fMake2, fProp, sExt, fPopP, gC, gInt, gInt0, gMod, gDiv, PL.gSub, gAdd, gMul, gLt, gLe, gGt, gGe, gToInt, gAbs, gMax, gMin, gLen, gIsN, gTupOf, gLstOf, bF, tPeek, fPeek, gEq_ss, gNe_ss, gEq_ii, gNe_ii, ok_take, ok_least, ok_last, ok_show, ok_ask, ok_put, ok_look, ok_alter, ok_back, ok_pay, ok_price, ok_again, isDd, isDl, isDo, isDk, isDb, gIsi, tyN, isiB, h1, h3, h4, gAll, hb, ha]

def bookD (rs : List (List Str)) : D := .obj "Book" ["row"] [.tup (rs.map ruleD)]
def bookM (rs : List (List Str)) : M := .obj "Book" ["row"] [.d (.tup (rs.map ruleD))]
theorem p_book (r1 r2 r3 r4 r5 r6 : List Str) (h : ∀ r ∈ [r1, r2, r3, r4, r5, r6], RuleOk r) :
    F_Book__init [.obj "Book" [] [], .d (ruleD r1), .d (ruleD r2), .d (ruleD r3), .d (ruleD r4), .d (ruleD r5), .d (ruleD r6)] = some (.d .non, [bookM [r1, r2, r3, r4, r5, r6]]) := by
  have h1 := p_is_rule (h r1 (by simp))
  have h2 := p_is_rule (h r2 (by simp))
  have h3 := p_is_rule (h r3 (by simp))
  have h4 := p_is_rule (h r4 (by simp))
  have h5 := p_is_rule (h r5 (by simp))
  have h6 := p_is_rule (h r6 (by simp))
  generalize e1 : ruleD r1 = x1 at *
  generalize e2 : ruleD r2 = x2 at *
  generalize e3 : ruleD r3 = x3 at *
  generalize e4 : ruleD r4 = x4 at *
  generalize e5 : ruleD r5 = x5 at *
  generalize e6 : ruleD r6 = x6 at *
  simp (config := {decide := true}) [F_Book__init, g_Book__init, bookM, e1, e2, e3, e4, e5, e6, fnF, sRet, sRetN, sSeq, sIf, sSet, sPass, sFrz, sDrop, fT, fOp, fVar, fC, fMov, fFrz, fD, startE, M.isD, M.toD, M.toDs, M.toB, fIxO, isO, sIxO, atI, ixN, g2, g2m, fOf, PL.g1, g1m, g22, fCons, fNil, fIo, fCall, PL.fill, putb, M.argOf, M.hole, ownS, fin, finals, tNotT, tAndT, tOrT, fAnd, fOr, fNot, fIf, fChain, fPl, getP, setP, M.cell, M.setCell, M.sub, M.fld, fldI, sPut, M.setF, M.put, sAug, gPut, gTu, PL.gCons, gsNil, sAsg, sPar, fMethO, fMeth, fMake, appF, fLenO, sAppP, sApp, fLc, lcL, wipeB, tTrue, lAny, lRng, gNm, sFor, forL, PL.gLst, PL.gTup, M.datas, fUnD, fMethK, fMake2, fProp, sExt, fPopP, gC, gInt, gInt0, gMod, gDiv, PL.gSub, gAdd, gMul, gLt, gLe, gGt, gGe, gToInt, gAbs, gMax, gMin, gLen, gIsN, gTupOf, gLstOf, bF, tPeek, fPeek, gEq_ss, gNe_ss, gEq_ii, gNe_ii, ok_take, ok_least, ok_last, ok_show, ok_ask, ok_put, ok_look, ok_alter, ok_back, ok_pay, ok_price, ok_again, lZip, zipD, h1, h2, h3, h4, h5, h6]
end Lw

namespace Lw
open PySem PySem.Spec PyProof.Rows L2 PL
/-! ### names -/
def chr (r : Nat) : Str := ⟨#[97 + r]⟩
theorem letters_in : ∀ r, r < 26 → gInS false (.str (chr r)) (.str "abcdefghijklmnopqrstuvwxyz") = some (.bl true) := by
  have h : ((List.range 26).all fun r => !(Builtin.Str.occurrences "abcdefghijklmnopqrstuvwxyz" (chr r) 0 (Str.length "abcdefghijklmnopqrstuvwxyz") 1).isEmpty) = true := by decide +kernel
  intro r hr
  have := List.all_eq_true.mp h r (List.mem_range.mpr hr)
  simp only [gInS, Bool.false_eq_true, if_false, this]
theorem letter_at : ∀ r : Nat, r < 26 → gIx (.str "abcdefghijklmnopqrstuvwxyz") (.int r) = some (.str (chr r)) := by
  intro r hr
  have h : ∀ r ∈ List.range 26, gIx (.str "abcdefghijklmnopqrstuvwxyz") (.int (r : Nat)) = some (.str (chr r)) := by
    intro r hr
    have hr := List.mem_range.mp hr
    have : r = 0 ∨ r = 1 ∨ r = 2 ∨ r = 3 ∨ r = 4 ∨ r = 5 ∨ r = 6 ∨ r = 7 ∨ r = 8 ∨ r = 9 ∨ r = 10 ∨ r = 11 ∨ r = 12 ∨ r = 13 ∨ r = 14 ∨ r = 15 ∨ r = 16 ∨ r = 17 ∨ r = 18 ∨ r = 19 ∨ r = 20 ∨ r = 21 ∨ r = 22 ∨ r = 23 ∨ r = 24 ∨ r = 25 := by omega
    rcases this with rfl | rfl | rfl | rfl | rfl | rfl | rfl | rfl | rfl | rfl | rfl | rfl | rfl | rfl | rfl | rfl | rfl | rfl | rfl | rfl | rfl | rfl | rfl | rfl | rfl | rfl <;> kernel_rfl
  exact h r (List.mem_range.mpr hr)

/-- a name: letters -/
def nameS (rs : List Nat) : Str := ⟨(rs.map fun r => 97 + r).toArray⟩
theorem join_chr : ∀ rs : List Nat, Txt.join "" (rs.map chr) = nameS rs := by
  have hj : ∀ rs : List Nat, Str.join "" (rs.map chr) = nameS rs := by
    intro rs
    induction rs with
    | nil => rfl
    | cons r rs ih =>
      cases rs with
      | nil => rfl
      | cons q rs =>
        rw [List.map_cons, List.map_cons]
        show chr r ++ "" ++ Str.join "" (chr q :: rs.map chr) = _
        rw [← List.map_cons, ih]
        show (⟨(chr r).cps ++ (Str.ofString "").cps ++ (nameS (q :: rs)).cps⟩ : Str) = _
        have : (Str.ofString "").cps = #[] := by decide +kernel
        rw [this]
        simp [chr, nameS]
  intro rs
  show Builtin.Str.glued "" (rs.map chr) = _
  rw [PySem.StrLaws.glued_eq_join]
  exact hj rs
theorem p_name_loop (B1 B2 B4 : B) : ∀ (ds : List D) (n : Nat) (J : M), JarOk n J → n + ds.length < 80000 → ∃ (rs : List Nat) (J' : M), lcL [3] (gNm 3) tTrue (fOp (g2 gIx) (fC (.str "abcdefghijklmnopqrstuvwxyz")) (fD (fCall F_law_draw [] [some 0, none] (fIo 0 (fCons (fC (.int 26)) fNil))))) ds
      [.o (some 0) J, .no, .no, .no, .no, .no, .no, .no, .no] = some (rs.map (fun r => M.d (.str (chr r))), [.o (some 0) J', .no, .no, .no, .no, .no, .no, .no, .no]) ∧ rs.length = ds.length ∧ (∀ r ∈ rs, r < 26) ∧ JarOk (n + ds.length) J'
  | [], n, J, h, _ => ⟨[], J, rfl, rfl, by simp, h⟩
  | d :: ds, n, J, h, hn => by
    obtain ⟨r, J1, h1, r0, r1, h2⟩ := p_draw h (by simp at hn; omega) (m := 26) (by decide) (by decide)
    have hg := letter_at r.toNat (by omega)
    rw [Int.toNat_of_nonneg r0] at hg
    obtain ⟨rs, J', q1, q2, q3, q4⟩ := p_name_loop B1 B2 B4 ds (n + 1) J1 h2 (by simp at hn; omega)
    have e1 := h.isD
    have e2 := h2.isD
    refine ⟨r.toNat :: rs, J', ?_, by simp [q2], fun b hb => ?_, by simp only [List.length_cons]; exact q4.mono (by omega)⟩
    · unfold lcL
      simp (config := {decide := true}) [fnF, sRet, sRetN, sSeq, sIf, sSet, sPass, sFrz, sDrop, fT, fOp, fVar, fC, fMov, fFrz, fD, startE, M.toD, M.toDs, M.toB, fIxO, isO, sIxO, atI, ixN, g2, g2m, fOf, PL.g1, g1m, g22, fCons, fNil, fIo, fCall, PL.fill, putb, M.argOf, M.hole, ownS, fin, finals, tNotT, tAndT, tOrT, fAnd, fOr, fNot, fIf, fChain, fPl, getP, setP, M.cell, M.setCell, M.sub, M.fld, fldI, sPut, M.setF, M.put, sAug, gPut, gTu, PL.gCons, gsNil, sAsg, sPar, fMethO, fMeth, fMake, appF, fLenO, sAppP, sApp, fLc, wipeB, tTrue, lAny, lRng, gNm, PL.gLst, PL.gTup, M.datas, fUnD, fMethK, fMake2, fProp, sExt, fPopP, gC, gInt, gInt0, gMod, gDiv, PL.gSub, gAdd, gMul, gLt, gLe, gGt, gGe, gToInt, gAbs, gMax, gMin, gLen, gIsN, gTupOf, gLstOf, bF, tPeek, fPeek, gEq_ss, gNe_ss, gEq_ii, gNe_ii, ok_take, ok_least, ok_last, ok_show, ok_ask, ok_put, ok_look, ok_alter, ok_back, ok_pay, ok_price, ok_again, isDd, isDl, isDo, isDk, isDb, h1, e1, e2, hg, q1]
    · rcases List.mem_cons.mp hb with rfl | hb
      · omega
      · exact q3 b hb

theorem nameS_ok (rs : List Nat) (h : ∀ r ∈ rs, r < 26) : okS (nameS rs) := by
  unfold okS PyData.strOk nameS
  simp only [List.all_toArray, List.all_map, List.all_eq_true, Function.comp, decide_eq_true_eq]
  intro r hr
  have := h r hr
  omega
theorem item_loop (d0 : D) : ∀ (rs : List Nat), (∀ r ∈ rs, r < 26) → lcL [1] (gNm 1) tTrue (fOp (g2 (gInS false)) (fVar 1) (fC (.str "abcdefghijklmnopqrstuvwxyz"))) (rs.map fun r => .str (chr r)) [.d d0, .no] = some (rs.map fun _ => M.d (.bl true), [.d d0, .no])
  | [], _ => rfl
  | r :: rs, h => by
    have ih := item_loop d0 rs fun b hb => h b (by simp [hb])
    have hg := letters_in r (h r (by simp))
    simp only [List.map_cons]
    unfold lcL
    simp (config := {decide := true}) [fOp, fVar, fC, gNm, tTrue, g2, wipeB, hg, ih]
theorem blsN_true (r : List Nat) : D.bls (M.toDs (r.map fun _ => M.d (.bl true))) = some (r.map fun _ => true) := by
  induction r with
  | nil => rfl
  | cons a r ih => simp only [List.map_cons, M.toDs, M.toD, D.bls, ih]
theorem p_is_item (rs : List Nat) (h : ∀ r ∈ rs, r < 26) (h1 : 1 ≤ rs.length) (h8 : rs.length ≤ 8) : F_is_item [.d (.str (nameS rs))] = some (.d (.bl true), []) := by
  have hl : (nameS rs).length = rs.length := by simp [nameS, Str.length]
  have hc : (nameS rs).cps.toList.map (fun c => D.str ⟨#[c]⟩) = rs.map fun r => .str (chr r) := by
    simp [nameS, chr]
  have lp := item_loop (.str (nameS rs)) rs h
  have hb := blsN_true rs
  have ha : (rs.map fun _ => true).all id = true := by simp
  have z1 : (1 : Int) ≤ rs.length := by omega
  have z2 : (rs.length : Int) ≤ 8 := by omega
  have z3 : rs.length ≤ 1000000 := by omega
  generalize nameS rs = x at *
  simp (config := {decide := true}) [F_is_item, g_is_item, fnF, sRet, sRetN, sSeq, sIf, sSet, sPass, sFrz, sDrop, fT, fOp, fVar, fC, fMov, fFrz, fD, startE, M.toD, M.toDs, M.toB, fIxO, isO, sIxO, atI, ixN, g2, g2m, fOf, PL.g1, g1m, g22, fCons, fNil, fIo, fCall, PL.fill, putb, M.argOf, M.hole, ownS, fin, finals, tNotT, tAndT, tOrT, fAnd, fOr, fNot, fIf, fChain, fPl, getP, setP, M.cell, M.setCell, M.sub, M.fld, fldI, sPut, M.setF, M.put, sAug, gPut, gTu, PL.gCons, gsNil, sAsg, sPar, fMethO, fMeth, fMake, appF, fLenO, sAppP, sApp, fLc, wipeB, tTrue, lAny, lRng, gNm, PL.gLst, PL.gTup, M.datas, fUnD, fMethK, fMake2, fProp, sExt, fPopP, gC, gInt, gInt0, gMod, gDiv, PL.gSub, gAdd, gMul, gLt, gLe, gGt, gGe, gToInt, gAbs, gMax, gMin, gLen, gIsN, gTupOf, gLstOf, bF, tPeek, fPeek, gEq_ss, gNe_ss, gEq_ii, gNe_ii, ok_take, ok_least, ok_last, ok_show, ok_ask, ok_put, ok_look, ok_alter, ok_back, ok_pay, ok_price, ok_again, isDd, isDl, isDo, isDk, isDb, gIsi, tyN, isiB, hl, hc, lp, gAll, hb, ha, z1, z2, z3]
end Lw

namespace Lw
open PySem PySem.Spec PyProof.Rows L2 PL
structure NameOk (x : Str) : Prop where
  ok : okS x
  item : F_is_item [.d (.str x)] = some (.d (.bl true), [])
theorem p_is_whole (i : Int) : F_is_whole [.d (.int i)] = some (.d (.bl true), []) := by rfl
theorem p_is_amount (i : Int) (h0 : 0 ≤ i) (h1 : i ≤ 10 ^ 12) : F_is_amount [.d (.int i)] = some (.d (.bl true), []) := by
  have h2 : i ≤ 1000000000000 := h1
  simp (config := {decide := true}) [F_is_amount, g_is_amount, fnF, sRet, sRetN, sSeq, sIf, sSet, sPass, sFrz, sDrop, fT, fOp, fVar, fC, fMov, fFrz, fD, startE, M.toD, M.toDs, M.toB, fIxO, isO, sIxO, atI, ixN, g2, g2m, fOf, PL.g1, g1m, g22, fCons, fNil, fIo, fCall, PL.fill, putb, M.argOf, M.hole, ownS, fin, finals, tNotT, tAndT, tOrT, fAnd, fOr, fNot, fIf, fChain, fPl, getP, setP, M.cell, M.setCell, M.sub, M.fld, fldI, sPut, M.setF, M.put, sAug, gPut, gTu, PL.gCons, gsNil, sAsg, sPar, fMethO, fMeth, fMake, appF, fLenO, sAppP, sApp, fLc, wipeB, tTrue, lAny, lRng, gNm, PL.gLst, PL.gTup, M.datas, fUnD, fMethK, fMake2, fProp, sExt, fPopP, gC, gInt, gInt0, gMod, gDiv, PL.gSub, gAdd, gMul, gLt, gLe, gGt, gGe, gToInt, gAbs, gMax, gMin, gLen, gIsN, gTupOf, gLstOf, bF, tPeek, fPeek, gEq_ss, gNe_ss, gEq_ii, gNe_ii, ok_take, ok_least, ok_last, ok_show, ok_ask, ok_put, ok_look, ok_alter, ok_back, ok_pay, ok_price, ok_again, isDd, isDl, isDo, isDk, isDb, p_is_whole, h0, h2]
theorem p_is_number (i : Int) (h0 : 1 ≤ i) (h1 : i ≤ 1000) : F_is_number [.d (.int i), .d (.int 1)] = some (.d (.bl true), []) := by
  simp (config := {decide := true}) [F_is_number, g_is_number, fnF, sRet, sRetN, sSeq, sIf, sSet, sPass, sFrz, sDrop, fT, fOp, fVar, fC, fMov, fFrz, fD, startE, M.toD, M.toDs, M.toB, fIxO, isO, sIxO, atI, ixN, g2, g2m, fOf, PL.g1, g1m, g22, fCons, fNil, fIo, fCall, PL.fill, putb, M.argOf, M.hole, ownS, fin, finals, tNotT, tAndT, tOrT, fAnd, fOr, fNot, fIf, fChain, fPl, getP, setP, M.cell, M.setCell, M.sub, M.fld, fldI, sPut, M.setF, M.put, sAug, gPut, gTu, PL.gCons, gsNil, sAsg, sPar, fMethO, fMeth, fMake, appF, fLenO, sAppP, sApp, fLc, wipeB, tTrue, lAny, lRng, gNm, PL.gLst, PL.gTup, M.datas, fUnD, fMethK, fMake2, fProp, sExt, fPopP, gC, gInt, gInt0, gMod, gDiv, PL.gSub, gAdd, gMul, gLt, gLe, gGt, gGe, gToInt, gAbs, gMax, gMin, gLen, gIsN, gTupOf, gLstOf, bF, tPeek, fPeek, gEq_ss, gNe_ss, gEq_ii, gNe_ii, ok_take, ok_least, ok_last, ok_show, ok_ask, ok_put, ok_look, ok_alter, ok_back, ok_pay, ok_price, ok_again, isDd, isDl, isDo, isDk, isDb, p_is_whole, h0, h1]
theorem p_is_deed {x : Str} {d : D} (hx : NameOk x) (h : Deed x d) : F_is_deed [.d d] = some (.d (.bl true), []) := by
  have h0 := hx.ok
  have h1 := hx.item
  cases h with
  | price a h2 h3 =>
    have h4 := p_is_amount a h2 (by omega)
    simp (config := {decide := true}) [F_is_deed, g_is_deed, fnF, sRet, sRetN, sSeq, sIf, sSet, sPass, sFrz, sDrop, fT, fOp, fVar, fC, fMov, fFrz, fD, startE, M.toD, M.toDs, M.toB, fIxO, isO, sIxO, atI, ixN, g2, g2m, fOf, PL.g1, g1m, g22, fCons, fNil, fIo, fCall, PL.fill, putb, M.argOf, M.hole, ownS, fin, finals, tNotT, tAndT, tOrT, fAnd, fOr, fNot, fIf, fChain, fPl, getP, setP, M.cell, M.setCell, M.sub, M.fld, fldI, sPut, M.setF, M.put, sAug, gPut, gTu, PL.gCons, gsNil, sAsg, sPar, fMethO, fMeth, fMake, appF, fLenO, sAppP, sApp, fLc, wipeB, tTrue, lAny, lRng, gNm, PL.gLst, PL.gTup, M.datas, fUnD, fMethK, fMake2, fProp, sExt, fPopP, gC, gInt, gInt0, gMod, gDiv, PL.gSub, gAdd, gMul, gLt, gLe, gGt, gGe, gToInt, gAbs, gMax, gMin, gLen, gIsN, gTupOf, gLstOf, bF, tPeek, fPeek, gEq_ss, gNe_ss, gEq_ii, gNe_ii, ok_take, ok_least, ok_last, ok_show, ok_ask, ok_put, ok_look, ok_alter, ok_back, ok_pay, ok_price, ok_again, isDd, isDl, isDo, isDk, isDb, gIsi, tyN, isiB, gIx, gSl, PL.cutD, HT.sIx, gIn_2, fSl, oSome, oNone, h1, h4]
  | put a h2 h3 =>
    have h4 := p_is_number a h2 (by omega)
    simp (config := {decide := true}) [F_is_deed, g_is_deed, fnF, sRet, sRetN, sSeq, sIf, sSet, sPass, sFrz, sDrop, fT, fOp, fVar, fC, fMov, fFrz, fD, startE, M.toD, M.toDs, M.toB, fIxO, isO, sIxO, atI, ixN, g2, g2m, fOf, PL.g1, g1m, g22, fCons, fNil, fIo, fCall, PL.fill, putb, M.argOf, M.hole, ownS, fin, finals, tNotT, tAndT, tOrT, fAnd, fOr, fNot, fIf, fChain, fPl, getP, setP, M.cell, M.setCell, M.sub, M.fld, fldI, sPut, M.setF, M.put, sAug, gPut, gTu, PL.gCons, gsNil, sAsg, sPar, fMethO, fMeth, fMake, appF, fLenO, sAppP, sApp, fLc, wipeB, tTrue, lAny, lRng, gNm, PL.gLst, PL.gTup, M.datas, fUnD, fMethK, fMake2, fProp, sExt, fPopP, gC, gInt, gInt0, gMod, gDiv, PL.gSub, gAdd, gMul, gLt, gLe, gGt, gGe, gToInt, gAbs, gMax, gMin, gLen, gIsN, gTupOf, gLstOf, bF, tPeek, fPeek, gEq_ss, gNe_ss, gEq_ii, gNe_ii, ok_take, ok_least, ok_last, ok_show, ok_ask, ok_put, ok_look, ok_alter, ok_back, ok_pay, ok_price, ok_again, isDd, isDl, isDo, isDk, isDb, gIsi, tyN, isiB, gIx, gSl, PL.cutD, HT.sIx, gIn_2, fSl, oSome, oNone, h1, h4]
  | look => kernel_rfl
  | back => kernel_rfl
  | pay b => cases b <;> kernel_rfl
end Lw

namespace Lw
open PySem PySem.Spec PyProof.Rows L2 PL
/-! ### carts with known contents -/
inductive Dd where
  | price (x : Str) (a : Int) | put (x : Str) (n : Int) | look | alter (x : Str) (n : Int) | back | pay (b : Bool)
def Dd.word : Dd → Str
  | .price .. => "price" | .put .. => "put" | .look => "look" | .alter .. => "alter" | .back => "back" | .pay _ => "pay"
def Dd.rest : Dd → List D
  | .price x a => [.str x, .int a]
  | .put x n => [.str x, .int n]
  | .look => []
  | .alter x n => [.str x, .int n]
  | .back => []
  | .pay b => [.bl b]
def Dd.d (d : Dd) : D := .tup (.str d.word :: d.rest)
structure Ct where
  rs : List (List Str)
  am : List (Str × Int)
  ls : List Lk
  fl : Bool
  sp : Int
  ta : Int
def amKs (am : List (Str × Int)) : List Key := am.map fun p => .inr p.1
def amMs (am : List (Str × Int)) : List M := am.map fun p => M.d (.int p.2)
def amDs (am : List (Str × Int)) : List D := am.map fun p => D.int p.2
def Ct.m (c : Ct) : M := .obj "Cart" cartNm [.d (bookD c.rs), .dic (amKs c.am) (amMs c.am), .lst (c.ls.map fun l => l.ln.m), .d (.bl c.fl), .d (.int c.sp), .d (.int c.ta)]
def lkD (l : Lk) : D := .obj "CartLine" lineNs [.str l.item, .int l.number, .int l.kept, oD l.shown, oD l.greatest]
def Ct.d (c : Ct) : D := .obj "Cart" cartNm [bookD c.rs, .dic (amKs c.am) (amDs c.am), .lst (c.ls.map lkD), .bl c.fl, .int c.sp, .int c.ta]
theorem Ct.toD (c : Ct) : c.m.toD = c.d := by
  simp only [Ct.m, Ct.d, M.toD, M.toDs, toDs_map, amMs, amDs, List.map_map]
  rfl
def AmtOk (a : Int) : Prop := 0 ≤ a ∧ a ≤ 1000000000000
structure CtOk (c : Ct) : Prop where
  r6 : c.rs.length = 6
  ro : ∀ r ∈ c.rs, RuleOk r
  nd : (amKs c.am).Nodup
  an : ∀ p ∈ c.am, okS p.1
  ab : ∀ p ∈ c.am, AmtOk p.2
  a6 : c.am.length ≤ 6
  ln : (c.ls.map fun l => l.item).Nodup
  la : ∀ l ∈ c.ls, ∃ a, (l.item, a) ∈ c.am
  lk : ∀ l ∈ c.ls, AmtOk l.kept
  ls : ∀ l ∈ c.ls, ∀ a, l.shown = some a → AmtOk a
theorem nodup_le {α : Type} [DecidableEq α] : ∀ (xs ys : List α), xs.Nodup → (∀ x ∈ xs, x ∈ ys) → xs.length ≤ ys.length
  | [], ys, _, _ => by simp
  | x :: xs, ys, nd, h => by
    have nd2 := List.nodup_cons.mp nd
    have hx := h x (by simp)
    have ih := nodup_le xs (ys.erase x) nd2.2 fun y hy => (List.mem_erase_of_ne (by rintro rfl; exact nd2.1 hy)).mpr (h y (by simp [hy]))
    rw [List.length_erase_of_mem hx] at ih
    have : 0 < ys.length := List.length_pos_of_mem hx
    simp only [List.length_cons]
    omega
theorem CtOk.l6 {c : Ct} (h : CtOk c) : c.ls.length ≤ 6 := by
  have := nodup_le (c.ls.map fun l => l.item) (c.am.map fun p => p.1) h.ln fun x hx => by
    obtain ⟨l, hl, rfl⟩ := List.mem_map.mp hx
    obtain ⟨a, ha⟩ := h.la l hl
    exact List.mem_map.mpr ⟨_, ha, rfl⟩
  simp only [List.length_map] at this
  have := h.a6
  omega
theorem CtOk.items {c : Ct} (h : CtOk c) : ∀ l ∈ c.ls, okS l.item := fun l hl => by
  obtain ⟨a, ha⟩ := h.la l hl
  exact h.an _ ha
/-- the price of an item -/
def amT (am : List (Str × Int)) (x : Str) : Option Int := am.lookup x
theorem amT_at (am : List (Str × Int)) (x : Str) : amAt (amKs am) (amMs am) x = amT am x := by
  induction am with
  | nil => rfl
  | cons p am ih =>
    obtain ⟨y, a⟩ := p
    unfold amAt amKs amMs amT at *
    simp only [List.map_cons, keyI, List.lookup]
    by_cases e : y = x
    · subst e
      simp
    · have e1 : ¬ (Sum.inr y : Key) = Sum.inr x := fun h => e (Sum.inr.inj h)
      have e2 : (x == y) = false := by simpa using fun h => e h.symm
      rw [if_neg e1, e2]
      cases q : keyI (Sum.inr x) (am.map fun p => (Sum.inr p.1 : Key)) with
      | none => rw [q] at ih; simpa using ih
      | some i => rw [q] at ih; simpa using ih
theorem amT_mem {am : List (Str × Int)} {x : Str} {a : Int} (h : (x, a) ∈ am) : ∃ b, amT am x = some b := by
  induction am with
  | nil => simp at h
  | cons p am ih =>
    obtain ⟨y, c⟩ := p
    unfold amT at *
    by_cases e : x = y
    · subst e
      exact ⟨c, by simp [List.lookup]⟩
    · have e2 : (x == y) = false := by simpa using e
      rcases List.mem_cons.mp h with z | z
      · cases z; exact absurd rfl e
      · obtain ⟨b, hb⟩ := ih z
        exact ⟨b, by simp only [List.lookup, e2, hb]⟩
/-- a book's rule at a door -/
def doorIx (w : Str) : Nat := (tidx w ["put", "look", "alter", "back", "pay", "again"]).getD 0
theorem p_rule_at {rs : List (List Str)} (h : rs.length = 6) {w : Str} (hw : w ∈ (["put", "look", "alter", "back", "pay", "again"] : List Str)) :
    F_Book_rule [.d (bookD rs), .d (.str w)] = some (.d (ruleD (rs.getD (doorIx w) [])), []) := by
  obtain ⟨r1, r2, r3, r4, r5, r6, rfl⟩ : ∃ r1 r2 r3 r4 r5 r6, rs = [r1, r2, r3, r4, r5, r6] := by
    match rs, h with
    | [r1, r2, r3, r4, r5, r6], _ => exact ⟨r1, r2, r3, r4, r5, r6, rfl⟩
  simp only [List.mem_cons, List.not_mem_nil, or_false] at hw
  rcases hw with rfl | rfl | rfl | rfl | rfl | rfl <;> kernel_rfl
end Lw

namespace Lw
open PySem PySem.Spec PyProof.Rows L2 PL
/-! ### Cart.carry_out on known contents -/
theorem act_times (now : Int) (w : LWk) (a : Str) : w.times ≤ (actP now w a).times ∧ (actP now w a).times ≤ w.times + 1 := by
  unfold actP
  split
  · simp only; omega
  split
  · simp only; omega
  split
  · simp only; omega
  split
  · simp only
    split <;> omega
  · omega
theorem acts_times (now : Int) : ∀ (rule : List Str) (w : LWk), w.times ≤ (rule.foldl (actP now) w).times ∧ (rule.foldl (actP now) w).times ≤ w.times + rule.length
  | [], w => by simp
  | a :: rule, w => by
    have h1 := act_times now w a
    have h2 := acts_times now rule (actP now w a)
    simp only [List.foldl_cons, List.length_cons]
    push_cast
    omega
theorem lkAct_times (rule : List Str) (now : Int) (l : Lk) : 0 ≤ (lkAct rule now l).times ∧ (lkAct rule now l).times ≤ rule.length := by
  have := acts_times now rule ⟨l.kept, l.shown, [], 0⟩
  unfold lkAct
  simpa using this
def lkIx (x : Str) : List Lk → Option Nat
  | [] => none
  | l :: ls => if l.item = x then some 0 else (match lkIx x ls with
    | some i => some (i + 1)
    | none => none)
theorem lkIx_ln (x : Str) : ∀ ls : List Lk, lnIx x (ls.map Lk.ln) = lkIx x ls
  | [] => rfl
  | l :: ls => by
    simp only [List.map_cons]
    rw [show lnIx x (l.ln :: ls.map Lk.ln) = (if l.ln.item = x then some 0 else (match lnIx x (ls.map Lk.ln) with | some i => some (i + 1) | none => none)) from rfl, lkIx_ln x ls]
    rfl
/-- the lines that are touched -/
def touchT (am : List (Str × Int)) (d : Dd) (ls : List Lk) : Option (List Lk × List Nat) := match d with
  | .put x n => (match lkIx x ls with
    | some i => (match ls[i]? with
      | some l => some (ls.set i { l with number := l.number + n }, [i])
      | none => none)
    | none => (match amT am x with
      | some a => some (ls ++ [⟨x, n, a, none, none⟩], [ls.length])
      | none => none))
  | .alter x n => (match lkIx x ls with
    | some i => (match ls[i]? with
      | some l => if n = 0 then some (ls.filter (fun l => decide (l.item ≠ x)), []) else some (ls.set i { l with number := n }, [i])
      | none => none)
    | none => none)
  | _ => some (ls, List.range ls.length)
def goT (am : List (Str × Int)) (rule : List Str) : List Nat → List Lk → List Str → Option (List Lk × List Str)
  | [], ls, found => some (ls, found)
  | i :: is, ls, found => (match ls[i]? with
    | some l => (match amT am l.item with
      | some now => goT am rule is (ls.set i (lkGo rule now l)) (found ++ List.replicate (lkAct rule now l).times.toNat l.item)
      | none => none)
    | none => none)
def doorW (d : Dd) (fl : Bool) : Str := if d.word = "pay" ∧ fl = true then "again" else d.word
def Dd.fails : Dd → Bool
  | .pay b => !b
  | _ => false
def carryT (c : Ct) (d : Dd) : Option (List Str × Ct) := match touchT c.am d c.ls with
  | some (ls1, sel) => (match goT c.am (c.rs.getD (doorIx (doorW d c.fl)) []) sel ls1 [] with
    | some (ls2, found) => some (found, { c with ls := ls2, fl := d.fails, ta := c.ta + found.length })
    | none => none)
  | none => none
theorem toLn_lk (l : Lk) : toLn l.ln.m = some l.ln := by
  simp (config := {decide := true}) [toLn, Ln.m, Lk.ln]
theorem toLns_lk : ∀ ls : List Lk, toLns (ls.map fun l => l.ln.m) = some (ls.map Lk.ln)
  | [] => rfl
  | l :: ls => by
    simp only [List.map_cons]
    unfold toLns
    rw [toLn_lk, toLns_lk ls]
/-- deeds whose texts may be compared, at numbers that leave a line -/
def DdOk : Dd → Prop
  | .price x _ => okS x
  | .put x _ => okS x
  | .alter x _ => okS x
  | _ => True
theorem filter_set {α : Type} (p : α → Bool) : ∀ {ls : List α} {i : Nat} {l l' : α}, ls[i]? = some l → p l = false → p l' = false → (ls.set i l').filter p = ls.filter p
  | [], _, _, _, h, _, _ => by simp at h
  | a :: ls, 0, l, l', h, h1, h2 => by
    simp at h
    subst h
    simp [List.filter_cons, h1, h2]
  | a :: ls, i + 1, l, l', h, h1, h2 => by
    have ih := filter_set p (ls := ls) (i := i) (by simpa using h) h1 h2
    simp [List.set_cons_succ, List.filter_cons, ih]
theorem lkIx_item {x : Str} : ∀ {ls : List Lk} {i : Nat} {l : Lk}, lkIx x ls = some i → ls[i]? = some l → l.item = x
  | [], _, _, h, _ => by simp [lkIx] at h
  | a :: ls, i, l, h, h2 => by
    unfold lkIx at h
    split at h
    · rename_i e
      cases h
      simp at h2
      subst h2
      exact e
    · split at h
      · rename_i j hj
        cases h
        exact lkIx_item hj (by simpa using h2)
      · cases h
theorem touch_ok {am : List (Str × Int)} {d : Dd} {ls ls1 : List Lk} {sel : List Nat} (hd : DdOk d) (hl : ls.length < 1000000) (hp : ∀ x a, d ≠ .price x a) (h : touchT am d ls = some (ls1, sel)) :
    touchedP (amKs am) (amMs am) d.word d.rest (ls.map Lk.ln) = some (ls1.map Lk.ln, sel) := by
  cases d with
  | price x a => exact absurd rfl (hp x a)
  | look =>
    simp only [touchT, Option.some.injEq, Prod.mk.injEq] at h
    obtain ⟨rfl, rfl⟩ := h
    simp (config := {decide := true}) [touchedP, Dd.word]
  | back =>
    simp only [touchT, Option.some.injEq, Prod.mk.injEq] at h
    obtain ⟨rfl, rfl⟩ := h
    simp (config := {decide := true}) [touchedP, Dd.word]
  | pay b =>
    simp only [touchT, Option.some.injEq, Prod.mk.injEq] at h
    obtain ⟨rfl, rfl⟩ := h
    simp (config := {decide := true}) [touchedP, Dd.word]
  | put x n =>
    have hx : PyData.strOk x = true := hd
    simp only [touchT] at h
    have hw : ¬ ((Str.ofString "put") = Str.ofString "alter") := by decide
    split at h
    · rename_i i hi
      split at h
      · rename_i l hl2
        cases h
        have hg : (ls.map Lk.ln)[i]? = some l.ln := by rw [List.getElem?_map, hl2]; rfl
        simp (config := {decide := true}) [touchedP, Dd.word, Dd.rest, hx, lkIx_ln, hi, hg, List.map_set, Lk.ln]
      · cases h
    · rename_i hi
      split at h
      · rename_i a ha
        cases h
        simp (config := {decide := true}) [touchedP, Dd.word, Dd.rest, hx, lkIx_ln, hi, amT_at, ha, hl, Lk.ln, oD]
      · cases h
  | alter x n =>
    have hx : PyData.strOk x = true := hd
    simp only [touchT] at h
    split at h
    · rename_i i hi
      split at h
      · rename_i l hl2
        have hg : (ls.map Lk.ln)[i]? = some l.ln := by rw [List.getElem?_map, hl2]; rfl
        split at h
        · rename_i hn
          subst hn
          cases h
          have hix := lkIx_item hi hl2
          have hl3 : (ls.map Lk.ln).length ≤ 1000000 := by simp; omega
          have hf : (((ls.map Lk.ln).set i { l.ln with number := 0 }).filter fun l => decide (l.item ≠ x)) = (ls.filter fun l => decide (l.item ≠ x)).map Lk.ln := by
            rw [filter_set (fun l : Ln => decide (l.item ≠ x)) hg (by simp [Lk.ln, hix]) (by simp [Lk.ln, hix]), List.filter_map]
            rfl
          have hl4 : ls.length ≤ 1000000 := by omega
          rw [← hf]
          simp (config := {decide := true}) [touchedP, Dd.word, Dd.rest, hx, lkIx_ln, hi, hg, hl4]
        · rename_i hn
          cases h
          simp (config := {decide := true}) [touchedP, Dd.word, Dd.rest, hx, lkIx_ln, hi, hg, List.map_set, Lk.ln, hn]
      · cases h
    · cases h
end Lw

namespace Lw
open PySem PySem.Spec PyProof.Rows L2 PL
/-! ### Cart.carry_out, report, play_deed on known contents -/
abbrev door6 : List Str := ["put", "look", "alter", "back", "pay", "again"]
theorem go_steps {am : List (Str × Int)} {rs : List (List Str)} (h6 : rs.length = 6) {w : Str} (hw : w ∈ door6) (hr : RuleOk (rs.getD (doorIx w) [])) : ∀ (sel : List Nat) (ls ls2 : List Lk) (found found2 : List Str),
    goT am (rs.getD (doorIx w) []) sel ls found = some (ls2, found2) → found.length + 6 * sel.length ≤ 1000000 → lineSteps (amKs am) (amMs am) (bookD rs) w sel (ls.map Lk.ln) found = some (ls2.map Lk.ln, found2)
  | [], ls, ls2, found, found2, h, _ => by
    simp only [goT, Option.some.injEq, Prod.mk.injEq] at h
    obtain ⟨rfl, rfl⟩ := h
    rfl
  | i :: sel, ls, ls2, found, found2, h, hl => by
    unfold goT at h
    split at h
    · rename_i l hli
      split at h
      · rename_i now hn
        have ht := lkAct_times (rs.getD (doorIx w) []) now l
        have h1 := hr.1
        have ht2 : (lkAct (rs.getD (doorIx w) []) now l).times.toNat ≤ 6 := by omega
        simp only [List.length_cons] at hl
        have ih := go_steps h6 hw hr sel _ ls2 _ found2 h (by simp only [List.length_append, List.length_replicate]; omega)
        have hc := p_cl l (rs.getD (doorIx w) []) now hr.strs (by omega)
        have hb := p_rule_at h6 hw
        have e0 : (ls.map Lk.ln)[i]? = some l.ln := by rw [List.getElem?_map, hli]; rfl
        have e1 : amAt (amKs am) (amMs am) l.ln.item = some now := by rw [amT_at]; exact hn
        have e2 : F_CartLine_carry_out [l.ln.m, .d (ruleD (rs.getD (doorIx w) [])), .d (.int now)] = some (.d (.int (lkAct (rs.getD (doorIx w) []) now l).times), [(lkGo (rs.getD (doorIx w) []) now l).ln.m]) := hc
        have st : lineStep (amKs am) (amMs am) (bookD rs) w (ls.map Lk.ln) found i = some ((ls.set i (lkGo (rs.getD (doorIx w) []) now l)).map Lk.ln, found ++ List.replicate (lkAct (rs.getD (doorIx w) []) now l).times.toNat l.item) := by
          unfold lineStep
          rw [e0]
          simp only [hb, e1, e2, toLn_lk]
          rw [if_pos ⟨ht.1, by omega, rfl⟩, List.map_set]
          rfl
        unfold lineSteps
        rw [st]
        exact ih
      · cases h
    · cases h
/-- deeds of the person -/
def Dd.mine : Dd → Bool
  | .price .. => false
  | _ => true
theorem Dd.door {d : Dd} (h : d.mine = true) (fl : Bool) : doorW d fl ∈ door6 := by
  unfold doorW
  cases d <;> simp [Dd.mine] at h <;> simp (config := {decide := true}) [Dd.word]
  all_goals (split <;> simp)
theorem door_rule {rs : List (List Str)} (h : ∀ r ∈ rs, RuleOk r) (w : Str) : RuleOk (rs.getD (doorIx w) []) := by
  by_cases e : doorIx w < rs.length
  · rw [List.getD_eq_getElem?_getD, List.getElem?_eq_getElem e]
    exact h _ (List.getElem_mem e)
  · rw [List.getD_eq_getElem?_getD, List.getElem?_eq_none (by omega)]
    exact ⟨by simp, by simp⟩
theorem pay_false {d : Dd} (h : DdOk d) : gEq (.tup (.str d.word :: d.rest)) (.tup [.str "pay", .bl false]) = some (.bl d.fails) := by
  cases d with
  | price x a => have h : PyData.strOk x = true := h; simp (config := {decide := true}) [gEq, gCmp, D.py, D.pys, Dd.word, Dd.rest, SeqAt.shaped, PyData.eqv, PyData.eqvAll, PyData.canLay0, PyData.canLayAll0, PyData.depth, PyData.depthAll, Dd.fails, h, ok_price, ok_put, ok_alter, ok_pay]
  | put x a => have h : PyData.strOk x = true := h; simp (config := {decide := true}) [gEq, gCmp, D.py, D.pys, Dd.word, Dd.rest, SeqAt.shaped, PyData.eqv, PyData.eqvAll, PyData.canLay0, PyData.canLayAll0, PyData.depth, PyData.depthAll, Dd.fails, h, ok_price, ok_put, ok_alter, ok_pay]
  | alter x a => have h : PyData.strOk x = true := h; simp (config := {decide := true}) [gEq, gCmp, D.py, D.pys, Dd.word, Dd.rest, SeqAt.shaped, PyData.eqv, PyData.eqvAll, PyData.canLay0, PyData.canLayAll0, PyData.depth, PyData.depthAll, Dd.fails, h, ok_price, ok_put, ok_alter, ok_pay]
  | look => kernel_rfl
  | back => kernel_rfl
  | pay b => cases b <;> kernel_rfl
theorem Dd.word_ok (d : Dd) : PyData.strOk d.word = true := by
  cases d <;> first | exact ok_price | exact ok_put | exact ok_look | exact ok_alter | exact ok_back | exact ok_pay
theorem toLns_ms (ls : List Lk) : toLns (ls.map fun l => l.ln.m) = some (ls.map Lk.ln) := toLns_lk ls
theorem p_carry {c c' : Ct} {d : Dd} {names : List Str} (hc : CtOk c) (hd : DdOk d) (hm : d.mine = true) (h : carryT c d = some (names, c')) (hn : ∀ ls1 sel, touchT c.am d c.ls = some (ls1, sel) → sel.length ≤ 1000) :
    F_Cart_carry_out [c.m, .d d.d] = some (.lst (names.map fun x => .d (.str x)), [c'.m]) := by
  unfold carryT at h
  split at h
  · rename_i ls1 sel ht
    split at h
    · rename_i ls2 found hg
      cases h
      have hi := hc.items
      have h1 := touch_ok hd (by have := hc.l6; omega) (by intro x a e; subst e; simp [Dd.mine] at hm) ht
      have h2 := go_steps hc.r6 (Dd.door hm c.fl) (door_rule hc.ro _) sel ls1 ls2 [] names hg (by have := hn _ _ ht; simp; omega)
      have h3 := pay_false hd
      have h4 := d.word_ok
      have h5 : (c.ls.map Lk.ln).all (fun l => PyData.strOk l.item) = true := by
        rw [List.all_map]
        exact List.all_eq_true.mpr fun l hl => hi l hl
      have hb : bookB (bookD c.rs) = true := by unfold bookD; rfl
      have hcy : carryP (bookD c.rs) (amKs c.am) (amMs c.am) (c.ls.map Lk.ln) c.fl (.int c.sp) c.ta d.word d.rest = some (.lst (names.map fun x => .d (.str x)), [(Ct.m { c with ls := ls2, fl := d.fails, ta := c.ta + names.length })]) := by
        unfold carryP
        rw [h1]
        simp only []
        unfold doorW at h2
        rw [h2]
        simp only [h3]
        simp [cartM, Ct.m, cartNs, cartNm, List.map_map, Function.comp]
      have hts := toLns_ms c.ls
      show F_Cart_carry_out [.obj "Cart" cartNm [.d (bookD c.rs), .dic (amKs c.am) (amMs c.am), .lst (c.ls.map fun l => l.ln.m), .d (.bl c.fl), .d (.int c.sp), .d (.int c.ta)], .d (.tup (.str d.word :: d.rest))] = _
      unfold F_Cart_carry_out
      simp only []
      rw [if_pos ⟨trivial, rfl, hb⟩, hts]
      simp only []
      rw [if_pos ⟨h4, h5⟩, hcy]
    · cases h
  · cases h
end Lw

namespace Lw
open PySem PySem.Spec PyProof.Rows L2 PL
/-! ### Cart.report, Cart.play_deed -/
def toldD (l : Lk) : D := .tup [.str l.item, .int l.number, oD l.shown]
def boughtD (l : Lk) : D := .tup [.str l.item, .int l.number, .int l.kept]
theorem rep_told_loop (d0 d1 d2 : D) (B3 B4 B6 B7 B8 : B) : ∀ ls : List Lk, lcL [5] (gNm 5) tTrue (fOf PL.gTup (fCons (fPl 5 [("item", ["CartLine"])]) (fCons (fPl 5 [("number", ["CartLine"])]) (fCons (fPl 5 [("shown", ["CartLine"])]) fNil)))) (ls.map lkD) [.d d0, .d d1, .d d2, B3, B4, .no, B6, B7, B8]
      = some (ls.map (fun l => M.d (toldD l)), [.d d0, .d d1, .d d2, B3, B4, .no, B6, B7, B8])
  | [] => rfl
  | l :: ls => by
    have ih := rep_told_loop d0 d1 d2 B3 B4 B6 B7 B8 ls
    simp only [List.map_cons]
    unfold lcL
    simp (config := {decide := true}) [fnF, sRet, sRetN, sSeq, sIf, sSet, sPass, sFrz, sDrop, fT, fOp, fVar, fC, fMov, fFrz, fD, startE, M.isD, M.toD, M.toDs, M.toB, fIxO, isO, sIxO, atI, ixN, g2, g2m, fOf, PL.g1, g1m, g22, fCons, fNil, fIo, fCall, PL.fill, putb, M.argOf, M.hole, ownS, fin, finals, tNotT, tAndT, tOrT, fAnd, fOr, fNot, fIf, fChain, fPl, getP, setP, M.cell, M.setCell, M.sub, M.fld, fldI, sPut, M.setF, M.put, sAug, gPut, gTu, PL.gCons, gsNil, sAsg, sPar, fMethO, fMeth, fMake, appF, fLenO, sAppP, sApp, fLc, wipeB, tTrue, lAny, lRng, gNm, PL.gLst, PL.gTup, M.datas, fUnD, fMethK, fMake2, fProp, sExt, fPopP, gC, gInt, gInt0, gMod, gDiv, PL.gSub, gAdd, gMul, gLt, gLe, gGt, gGe, gToInt, gAbs, gMax, gMin, gLen, gIsN, gTupOf, gLstOf, bF, tPeek, fPeek, gEq_ss, gNe_ss, gEq_ii, gNe_ii, ok_take, ok_least, ok_last, ok_show, ok_ask, ok_put, ok_look, ok_alter, ok_back, ok_pay, ok_price, ok_again, lkD, lineNs, toldD, ih]
theorem rep_bought_loop (d0 d1 d2 : D) (B3 B4 B6 B7 B8 : B) : ∀ ls : List Lk, lcL [5] (gNm 5) tTrue (fOf PL.gTup (fCons (fPl 5 [("item", ["CartLine"])]) (fCons (fPl 5 [("number", ["CartLine"])]) (fCons (fPl 5 [("kept", ["CartLine"])]) fNil)))) (ls.map lkD) [.d d0, .d d1, .d d2, B3, B4, .no, B6, B7, B8]
      = some (ls.map (fun l => M.d (boughtD l)), [.d d0, .d d1, .d d2, B3, B4, .no, B6, B7, B8])
  | [] => rfl
  | l :: ls => by
    have ih := rep_bought_loop d0 d1 d2 B3 B4 B6 B7 B8 ls
    simp only [List.map_cons]
    unfold lcL
    simp (config := {decide := true}) [fnF, sRet, sRetN, sSeq, sIf, sSet, sPass, sFrz, sDrop, fT, fOp, fVar, fC, fMov, fFrz, fD, startE, M.isD, M.toD, M.toDs, M.toB, fIxO, isO, sIxO, atI, ixN, g2, g2m, fOf, PL.g1, g1m, g22, fCons, fNil, fIo, fCall, PL.fill, putb, M.argOf, M.hole, ownS, fin, finals, tNotT, tAndT, tOrT, fAnd, fOr, fNot, fIf, fChain, fPl, getP, setP, M.cell, M.setCell, M.sub, M.fld, fldI, sPut, M.setF, M.put, sAug, gPut, gTu, PL.gCons, gsNil, sAsg, sPar, fMethO, fMeth, fMake, appF, fLenO, sAppP, sApp, fLc, wipeB, tTrue, lAny, lRng, gNm, PL.gLst, PL.gTup, M.datas, fUnD, fMethK, fMake2, fProp, sExt, fPopP, gC, gInt, gInt0, gMod, gDiv, PL.gSub, gAdd, gMul, gLt, gLe, gGt, gGe, gToInt, gAbs, gMax, gMin, gLen, gIsN, gTupOf, gLstOf, bF, tPeek, fPeek, gEq_ss, gNe_ss, gEq_ii, gNe_ii, ok_take, ok_least, ok_last, ok_show, ok_ask, ok_put, ok_look, ok_alter, ok_back, ok_pay, ok_price, ok_again, lkD, lineNs, boughtD, ih]
theorem gMul_okR (i j : Int) (h : j.natAbs < 2 ^ 60) : gMul (.int i) (.int j) = some (.d (.int (i * j))) := by
  unfold gMul
  simp only [h, or_true, if_true]
def BigI (i : Int) : Prop := i.natAbs < 2 ^ 60
theorem rep_sum_loop (B0 B1 B2 B3 B4 B5 : B) : ∀ ls : List Lk, (∀ l ∈ ls, BigI l.kept) → lcL [6, 7, 8] (gTu 3 (PL.gCons (gNm 6) (PL.gCons (gNm 7) (PL.gCons (gNm 8) gsNil)))) tTrue (fD (fOp (g2m gMul) (fVar 7) (fVar 8))) (ls.map boughtD) [B0, B1, B2, B3, B4, B5, .no, .no, .no]
      = some (ls.map (fun l => M.d (.int (l.number * l.kept))), [B0, B1, B2, B3, B4, B5, .no, .no, .no])
  | [], _ => rfl
  | l :: ls, h => by
    have ih := rep_sum_loop B0 B1 B2 B3 B4 B5 ls fun k hk => h k (by simp [hk])
    have hm := gMul_okR l.number l.kept (h l (by simp))
    simp only [List.map_cons]
    unfold lcL
    simp (config := {decide := true}) [fnF, sRet, sRetN, sSeq, sIf, sSet, sPass, sFrz, sDrop, fT, fOp, fVar, fC, fMov, fFrz, fD, startE, M.isD, M.toD, M.toDs, M.toB, fIxO, isO, sIxO, atI, ixN, g2, g2m, fOf, PL.g1, g1m, g22, fCons, fNil, fIo, fCall, PL.fill, putb, M.argOf, M.hole, ownS, fin, finals, tNotT, tAndT, tOrT, fAnd, fOr, fNot, fIf, fChain, fPl, getP, setP, M.cell, M.setCell, M.sub, M.fld, fldI, sPut, M.setF, M.put, sAug, gPut, gTu, PL.gCons, gsNil, sAsg, sPar, fMethO, fMeth, fMake, appF, fLenO, sAppP, sApp, fLc, wipeB, tTrue, lAny, lRng, gNm, PL.gLst, PL.gTup, M.datas, fUnD, fMethK, fMake2, fProp, sExt, fPopP, gC, gInt, gInt0, PL.gSub, gAdd, gLt, gLe, gGt, gGe, gToInt, gAbs, gMax, gMin, gLen, gIsN, gTupOf, gLstOf, bF, tPeek, fPeek, gEq_ss, gNe_ss, gEq_ii, gNe_ii, ok_take, ok_least, ok_last, ok_show, ok_ask, ok_put, ok_look, ok_alter, ok_back, ok_pay, ok_price, ok_again, boughtD, hm, ih]
theorem ints_map {α : Type} (f : α → Int) : ∀ ls : List α, D.ints (ls.map fun l => .int (f l)) = some (ls.map f)
  | [] => rfl
  | l :: ls => by simp [D.ints, ints_map f ls]
/-- a report -/
structure Rep where
  ls : List Lk
  names : List Str
  paid : Bool
def Rep.d (r : Rep) : D := .tup [.lst (r.ls.map toldD), .lst (r.names.map .str), if r.paid then .lst (r.ls.map boughtD) else .non]
def Dd.pays : Dd → Bool
  | .pay b => b
  | _ => false
theorem pay_true {d : Dd} (h : DdOk d) : gNe (.tup (.str d.word :: d.rest)) (.tup [.str "pay", .bl true]) = some (.bl (!d.pays)) := by
  cases d with
  | price x a => have h : PyData.strOk x = true := h; simp (config := {decide := true}) [gNe, gCmp, D.py, D.pys, Dd.word, Dd.rest, SeqAt.shaped, PyData.eqv, PyData.eqvAll, PyData.canLay0, PyData.canLayAll0, PyData.depth, PyData.depthAll, Dd.pays, h, ok_price, ok_put, ok_alter, ok_pay]
  | put x a => have h : PyData.strOk x = true := h; simp (config := {decide := true}) [gNe, gCmp, D.py, D.pys, Dd.word, Dd.rest, SeqAt.shaped, PyData.eqv, PyData.eqvAll, PyData.canLay0, PyData.canLayAll0, PyData.depth, PyData.depthAll, Dd.pays, h, ok_price, ok_put, ok_alter, ok_pay]
  | alter x a => have h : PyData.strOk x = true := h; simp (config := {decide := true}) [gNe, gCmp, D.py, D.pys, Dd.word, Dd.rest, SeqAt.shaped, PyData.eqv, PyData.eqvAll, PyData.canLay0, PyData.canLayAll0, PyData.depth, PyData.depthAll, Dd.pays, h, ok_price, ok_put, ok_alter, ok_pay]
  | look => kernel_rfl
  | back => kernel_rfl
  | pay b => cases b <;> kernel_rfl
def worth (ls : List Lk) : Int := (ls.map fun l => l.number * l.kept).sum
def repT (c : Ct) (d : Dd) (names : List Str) : Rep × Ct := (⟨c.ls, names, d.pays⟩, if d.pays then { c with ls := [], sp := c.sp + worth c.ls } else c)
theorem strs_toDs2 (names : List Str) : M.toDs (names.map fun a => M.d (.str a)) = names.map .str := by
  rw [toDs_map, List.map_map]; rfl
theorem told_toDs (ls : List Lk) : M.toDs (ls.map fun l => M.d (toldD l)) = ls.map toldD := by
  rw [toDs_map, List.map_map]; rfl
theorem bought_toDs (ls : List Lk) : M.toDs (ls.map fun l => M.d (boughtD l)) = ls.map boughtD := by
  rw [toDs_map, List.map_map]; rfl
theorem prod_toDs (ls : List Lk) : M.toDs (ls.map fun l => M.d (.int (l.number * l.kept))) = ls.map fun l => .int (l.number * l.kept) := by
  rw [toDs_map, List.map_map]; rfl
theorem oD_unal (o : Option Int) : (oD o).unal = oD o := by cases o <;> rfl
theorem oD_safe (o : Option Int) : (oD o).safe = true := by cases o <;> rfl
theorem told_unal (ls : List Lk) : M.unals (ls.map fun l => M.d (toldD l)) = ls.map fun l => M.d (toldD l) := by
  rw [munals_map, List.map_map]
  apply List.map_congr_left
  intro l _
  simp [Function.comp, M.unal, toldD, D.unal, D.unals, oD_unal]
theorem bought_unal (ls : List Lk) : M.unals (ls.map fun l => M.d (boughtD l)) = ls.map fun l => M.d (boughtD l) := by
  rw [munals_map, List.map_map]
  apply List.map_congr_left
  intro l _
  simp [Function.comp, M.unal, boughtD, D.unal, D.unals]
theorem told_safe (ls : List Lk) : M.safes (ls.map fun l => M.d (toldD l)) = true := by
  rw [msafes_all, List.all_map]
  apply List.all_eq_true.mpr
  intro l _
  simp [Function.comp, M.safe, toldD, D.safe, D.safes, oD_safe]
theorem bought_safe (ls : List Lk) : M.safes (ls.map fun l => M.d (boughtD l)) = true := by
  rw [msafes_all, List.all_map]
  apply List.all_eq_true.mpr
  intro l _
  simp [Function.comp, M.safe, boughtD, D.safe, D.safes]
theorem rows_toDs (ls : List Lk) : M.toDs (ls.map fun l => l.ln.m) = ls.map lkD := by
  rw [toDs_map, List.map_map]; rfl
theorem p_report {c : Ct} {d : Dd} (names : List Str) (hd : DdOk d) (hl : c.ls.length ≤ 6) (hk : ∀ l ∈ c.ls, BigI l.kept) :
    F_Cart_report [c.m, .d d.d, .d (.lst (names.map .str))] = some (.d (repT c d names).1.d, [(repT c d names).2.m]) := by
  have h1 := pay_true hd
  have l1 := fun d0 d1 d2 B3 B4 B6 B7 B8 => rep_told_loop d0 d1 d2 B3 B4 B6 B7 B8 c.ls
  have l2 := fun d0 d1 d2 B3 B4 B6 B7 B8 => rep_bought_loop d0 d1 d2 B3 B4 B6 B7 B8 c.ls
  have l3 := fun B0 B1 B2 B3 B4 B5 => rep_sum_loop B0 B1 B2 B3 B4 B5 c.ls hk
  have hs : gSum (.lst (c.ls.map fun l => .int (l.number * l.kept))) = some (.int (worth c.ls)) := by
    have z : D.ints (c.ls.map fun l => .int (l.number * l.kept)) = some (c.ls.map fun l => l.number * l.kept) := ints_map (fun l => l.number * l.kept) c.ls
    simp only [gSum, z, worth]
  have e1 := told_toDs c.ls
  have e2 := bought_toDs c.ls
  have e3 := prod_toDs c.ls
  have e4 := told_unal c.ls
  have e5 := bought_unal c.ls
  have e6 := told_safe c.ls
  have e7 := bought_safe c.ls
  have e8 := rows_toDs c.ls
  have hl2 : c.ls.length ≤ 1000000 := by omega
  unfold Ct.m Dd.d repT Rep.d
  cases hp : d.pays with
  | false =>
    rw [hp] at h1
    simp (config := {decide := true}) [F_Cart_report, g_Cart_report, fnF, sRet, sRetN, sSeq, sIf, sSet, sPass, sFrz, sDrop, fT, fOp, fVar, fC, fMov, fFrz, fD, startE, M.isD, M.toD, M.toDs, M.toB, fIxO, isO, sIxO, atI, ixN, g2, g2m, fOf, PL.g1, g1m, g22, fCons, fNil, fIo, fCall, PL.fill, putb, M.argOf, M.hole, ownS, fin, finals, tNotT, tAndT, tOrT, fAnd, fOr, fNot, fIf, fChain, fPl, getP, setP, M.cell, M.setCell, M.sub, M.fld, fldI, sPut, M.setF, M.put, sAug, gPut, gTu, PL.gCons, gsNil, sAsg, sPar, fMethO, fMeth, fMake, appF, fLenO, sAppP, sApp, fLc, wipeB, tTrue, lAny, lRng, gNm, PL.gLst, PL.gTup, M.datas, fUnD, fMethK, fMake2, fProp, sExt, fPopP, gC, gInt, gInt0, PL.gSub, gAdd, gLt, gLe, gGt, gGe, gToInt, gAbs, gMax, gMin, gLen, gIsN, gTupOf, gLstOf, bF, tPeek, fPeek, gEq_ss, gNe_ss, gEq_ii, gNe_ii, ok_take, ok_least, ok_last, ok_show, ok_ask, ok_put, ok_look, ok_alter, ok_back, ok_pay, ok_price, ok_again, Ct.m, cartNm, h1, l1, e1, e4, e6, e8, hl2, M.unal, M.safe, toDs_map, rows_toDs]
  | true =>
    rw [hp] at h1
    simp (config := {decide := true}) [F_Cart_report, g_Cart_report, fnF, sRet, sRetN, sSeq, sIf, sSet, sPass, sFrz, sDrop, fT, fOp, fVar, fC, fMov, fFrz, fD, startE, M.isD, M.toD, M.toDs, M.toB, fIxO, isO, sIxO, atI, ixN, g2, g2m, fOf, PL.g1, g1m, g22, fCons, fNil, fIo, fCall, PL.fill, putb, M.argOf, M.hole, ownS, fin, finals, tNotT, tAndT, tOrT, fAnd, fOr, fNot, fIf, fChain, fPl, getP, setP, M.cell, M.setCell, M.sub, M.fld, fldI, sPut, M.setF, M.put, sAug, gPut, gTu, PL.gCons, gsNil, sAsg, sPar, fMethO, fMeth, fMake, appF, fLenO, sAppP, sApp, fLc, wipeB, tTrue, lAny, lRng, gNm, PL.gLst, PL.gTup, M.datas, fUnD, fMethK, fMake2, fProp, sExt, fPopP, gC, gInt, gInt0, PL.gSub, gAdd, gLt, gLe, gGt, gGe, gToInt, gAbs, gMax, gMin, gLen, gIsN, gTupOf, gLstOf, bF, tPeek, fPeek, gEq_ss, gNe_ss, gEq_ii, gNe_ii, ok_take, ok_least, ok_last, ok_show, ok_ask, ok_put, ok_look, ok_alter, ok_back, ok_pay, ok_price, ok_again, Ct.m, cartNm, h1, l1, l2, l3, hs, e1, e2, e3, e4, e5, e6, e7, e8, hl2, M.unal, M.safe, rows_toDs]
end Lw

namespace Lw
open PySem PySem.Spec PyProof.Rows L2 PL
/-! ### a deed played on known contents -/
def amPut (am : List (Str × Int)) (x : Str) (a : Int) : List (Str × Int) := am.map fun p => if p.1 = x then (p.1, a) else p
theorem amPut_ks (am : List (Str × Int)) (x : Str) (a : Int) : amKs (amPut am x a) = amKs am := by
  unfold amKs amPut
  rw [List.map_map]
  apply List.map_congr_left
  intro p _
  simp only [Function.comp]
  split <;> rfl
theorem amPut_ms {x : Str} {a : Int} : ∀ {am : List (Str × Int)} {i : Nat}, keyI (.inr x) (amKs am) = some i → (amKs am).Nodup → (amMs am).set i (.d (.int a)) = amMs (amPut am x a)
  | [], i, h, _ => by simp [amKs, keyI] at h
  | p :: am, i, h, nd => by
    have nd2 := List.nodup_cons.mp nd
    simp only [amKs, List.map_cons, keyI] at h
    split at h
    · rename_i e
      cases h
      have e := Sum.inr.inj e
      have z : amPut am x a = am := by
        unfold amPut
        rw [List.map_congr_left (g := id), List.map_id]
        intro q hq
        split
        · rename_i e2
          exact absurd (List.mem_map.mpr ⟨q, hq, by rw [e2, ← e]⟩) nd2.1
        · rfl
      show M.d (.int a) :: amMs am = amMs ((if p.1 = x then (p.1, a) else p) :: amPut am x a)
      rw [if_pos e, z]
      rfl
    · rename_i e
      split at h
      · rename_i j hj
        cases h
        have ih := amPut_ms (a := a) hj nd2.2
        show M.d (.int p.2) :: (amMs am).set j (.d (.int a)) = amMs ((if p.1 = x then (p.1, a) else p) :: amPut am x a)
        rw [ih, if_neg fun z => e (by rw [z])]
        rfl
      · cases h
theorem key_at {x : Str} : ∀ {am : List (Str × Int)} {a : Int}, (x, a) ∈ am → ∃ i, keyI (.inr x) (amKs am) = some i ∧ i < am.length
  | p :: am, a, h => by
    simp only [amKs, List.map_cons, keyI]
    by_cases e : p.1 = x
    · exact ⟨0, by rw [if_pos (by rw [e])], by simp⟩
    · rcases List.mem_cons.mp h with z | z
      · subst z; exact absurd rfl e
      · obtain ⟨i, hi, hl⟩ := key_at z
        refine ⟨i + 1, ?_, by simp; omega⟩
        unfold amKs at hi
        rw [if_neg fun z => e (Sum.inr.inj z), hi]
def playT (c : Ct) (d : Dd) : Option (Option Rep × Ct) := match d with
  | .price x a => some (none, { c with am := amPut c.am x a })
  | d => (match carryT c d with
    | some (names, c1) => some (some (repT c1 d names).1, (repT c1 d names).2)
    | none => none)
def repO : Option Rep → D
  | none => .non
  | some r => r.d
/-- deeds that can be played -/
def DdIn (c : Ct) : Dd → Prop
  | .price x a => (∃ b, (x, b) ∈ c.am) ∧ AmtOk a
  | .put x _ => ∃ b, (x, b) ∈ c.am
  | .alter x _ => ∃ l ∈ c.ls, l.item = x
  | _ => True
theorem DdIn.ok {c : Ct} (h : CtOk c) {d : Dd} (hd : DdIn c d) : DdOk d := by
  cases d with
  | price x a => obtain ⟨⟨b, hb⟩, _⟩ := hd; exact h.an _ hb
  | put x a => obtain ⟨b, hb⟩ := hd; exact h.an _ hb
  | alter x a =>
    obtain ⟨l, hl, rfl⟩ := hd
    exact h.items l hl
  | look => trivial
  | back => trivial
  | pay b => trivial
theorem AmtOk.big {a : Int} (h : AmtOk a) : BigI a := by
  unfold AmtOk at h
  unfold BigI
  have : a.natAbs ≤ 1000000000000 := by omega
  exact Nat.lt_of_le_of_lt this (by decide)
/-! prices stay prices -/
def WkOk (w : LWk) : Prop := AmtOk w.stays ∧ ∀ a, w.seen = some a → AmtOk a
theorem act_amt {now : Int} (hn : AmtOk now) {w : LWk} (h : WkOk w) (a : Str) : WkOk (actP now w a) := by
  unfold actP
  split
  · exact ⟨hn, h.2⟩
  split
  · refine ⟨?_, h.2⟩
    show AmtOk (if now < w.stays then now else w.stays)
    split
    · exact hn
    · exact h.1
  split
  · refine ⟨?_, h.2⟩
    show AmtOk (w.seen.getD w.stays)
    cases hs : w.seen with
    | none => exact h.1
    | some z => exact h.2 z hs
  split
  · exact ⟨h.1, fun a e => by cases e; exact h.1⟩
  · exact h
theorem acts_amt {now : Int} (hn : AmtOk now) : ∀ (rule : List Str) {w : LWk}, WkOk w → WkOk (rule.foldl (actP now) w)
  | [], w, h => h
  | a :: rule, w, h => acts_amt hn rule (act_amt hn h a)
structure LkOk (am : List (Str × Int)) (l : Lk) : Prop where
  la : ∃ a, (l.item, a) ∈ am
  lk : AmtOk l.kept
  ls : ∀ a, l.shown = some a → AmtOk a
theorem LkOk.go {am : List (Str × Int)} {l : Lk} (h : LkOk am l) {now : Int} (hn : AmtOk now) (rule : List Str) : LkOk am (lkGo rule now l) := by
  have := acts_amt hn rule (w := ⟨l.kept, l.shown, [], 0⟩) ⟨h.lk, h.ls⟩
  exact ⟨h.la, this.1, this.2⟩
theorem amT_ok {am : List (Str × Int)} (h : ∀ p ∈ am, AmtOk p.2) {x : Str} {a : Int} (e : amT am x = some a) : AmtOk a := by
  induction am with
  | nil => simp [amT] at e
  | cons p am ih =>
    obtain ⟨y, b⟩ := p
    unfold amT at *
    simp only [List.lookup] at e
    split at e
    · cases e
      exact h (y, a) (by simp)
    · exact ih (fun q hq => h q (by simp [hq])) e
theorem set_all {α : Type} {p : α → Prop} {ls : List α} {i : Nat} {l' : α} (h : ∀ l ∈ ls, p l) (h' : p l') : ∀ l ∈ ls.set i l', p l := fun l hl => by
  rcases List.mem_or_eq_of_mem_set hl with z | z
  · exact h l z
  · subst z; exact h'
theorem set_items {ls : List Lk} {i : Nat} {l l' : Lk} (h : ls[i]? = some l) (e : l'.item = l.item) : (ls.set i l').map (fun l => l.item) = ls.map fun l => l.item := by
  rw [List.map_set]
  apply List.ext_getElem?
  intro j
  by_cases q : i = j
  · subst q
    have hi := (List.getElem?_eq_some_iff.mp h).1
    rw [List.getElem?_set_self (by simpa using hi), List.getElem?_map, h, e]
    rfl
  · rw [List.getElem?_set_ne q]
theorem go_ok {am : List (Str × Int)} (hb : ∀ p ∈ am, AmtOk p.2) (rule : List Str) : ∀ (sel : List Nat) (ls : List Lk) (found : List Str), (∀ i ∈ sel, i < ls.length) → (∀ l ∈ ls, LkOk am l) →
    ∃ ls2 found2, goT am rule sel ls found = some (ls2, found2) ∧ (∀ l ∈ ls2, LkOk am l) ∧ ls2.map (fun l => l.item) = ls.map (fun l => l.item)
  | [], ls, found, _, h => ⟨ls, found, rfl, h, rfl⟩
  | i :: sel, ls, found, hs, h => by
    have hi := hs i (by simp)
    have hli : ls[i]? = some ls[i] := List.getElem?_eq_getElem hi
    have hl := h _ (List.getElem_mem hi)
    obtain ⟨a, ha⟩ := hl.la
    obtain ⟨now, hn⟩ := amT_mem ha
    have hno := amT_ok hb hn
    obtain ⟨ls2, found2, q1, q2, q3⟩ := go_ok hb rule sel (ls.set i (lkGo rule now ls[i])) (found ++ List.replicate (lkAct rule now ls[i]).times.toNat ls[i].item) (fun j hj => by rw [List.length_set]; exact hs j (by simp [hj])) (set_all h (hl.go hno rule))
    refine ⟨ls2, found2, ?_, q2, by rw [q3, set_items (l' := lkGo rule now ls[i]) hli rfl]⟩
    unfold goT
    rw [hli]
    simp only [hn]
    exact q1
theorem lkIx_none {x : Str} : ∀ {ls : List Lk}, lkIx x ls = none → ∀ l ∈ ls, l.item ≠ x
  | [], _ => by simp
  | l :: ls, h => by
    unfold lkIx at h
    split at h
    · cases h
    · rename_i e
      split at h
      · cases h
      · rename_i h2
        intro k hk
        rcases List.mem_cons.mp hk with rfl | hk
        · exact e
        · exact lkIx_none h2 k hk
theorem lkIx_there {x : Str} {ls : List Lk} {l : Lk} (h : l ∈ ls) (e : l.item = x) : ∃ i k, lkIx x ls = some i ∧ ls[i]? = some k ∧ k.item = x := by
  cases hi : lkIx x ls with
  | none => exact absurd e (lkIx_none hi l h)
  | some i =>
    have : i < ls.length := by
      clear h e l
      induction ls generalizing i with
      | nil => simp [lkIx] at hi
      | cons l ls ih =>
        unfold lkIx at hi
        split at hi
        · cases hi; simp
        · split at hi
          · rename_i j hj
            cases hi
            have := ih _ hj
            simp; omega
          · cases hi
    have hk := List.getElem?_eq_getElem this
    exact ⟨i, _, rfl, hk, lkIx_item hi hk⟩
end Lw

namespace Lw
open PySem PySem.Spec PyProof.Rows L2 PL
theorem CtOk.lines {c : Ct} (h : CtOk c) : ∀ l ∈ c.ls, LkOk c.am l := fun l hl => ⟨h.la l hl, h.lk l hl, h.ls l hl⟩
theorem CtOk.with {c : Ct} (h : CtOk c) {ls : List Lk} {fl : Bool} {sp ta : Int} (hl : ∀ l ∈ ls, LkOk c.am l) (hn : (ls.map fun l => l.item).Nodup) : CtOk { c with ls := ls, fl := fl, sp := sp, ta := ta } :=
  ⟨h.r6, h.ro, h.nd, h.an, h.ab, h.a6, hn, fun l q => (hl l q).la, fun l q => (hl l q).lk, fun l q => (hl l q).ls⟩
theorem touch_some {c : Ct} (hc : CtOk c) {d : Dd} (hd : DdIn c d) (hm : d.mine = true) : ∃ ls1 sel, touchT c.am d c.ls = some (ls1, sel) ∧ (∀ l ∈ ls1, LkOk c.am l) ∧ (ls1.map fun l => l.item).Nodup ∧ (∀ i ∈ sel, i < ls1.length) ∧ sel.length ≤ 1000 := by
  have h6 := hc.l6
  have all : ∃ ls1 sel, some (c.ls, List.range c.ls.length) = some (ls1, sel) ∧ (∀ l ∈ ls1, LkOk c.am l) ∧ (ls1.map fun l => l.item).Nodup ∧ (∀ i ∈ sel, i < ls1.length) ∧ sel.length ≤ 1000 :=
    ⟨_, _, rfl, hc.lines, hc.ln, fun i hi => List.mem_range.mp hi, by simp; omega⟩
  cases d with
  | price x a => simp [Dd.mine] at hm
  | look => exact all
  | back => exact all
  | pay b => exact all
  | put x n =>
    obtain ⟨b, hb⟩ := hd
    cases hi : lkIx x c.ls with
    | some i =>
      cases hl : c.ls[i]? with
      | none =>
        exfalso
        obtain ⟨l, hl2⟩ : ∃ l ∈ c.ls, l.item = x := by
          false_or_by_contra
          rename_i z
          have : ∀ ls : List Lk, (∀ l ∈ ls, l.item ≠ x) → lkIx x ls = none := by
            intro ls h
            induction ls with
            | nil => rfl
            | cons l ls ih =>
              unfold lkIx
              rw [if_neg (h l (by simp)), ih fun k hk => h k (by simp [hk])]
          rw [this c.ls fun l hl e => z ⟨l, hl, e⟩] at hi
          cases hi
        obtain ⟨j, k, q1, q2, _⟩ := lkIx_there hl2.1 hl2.2
        rw [hi] at q1
        cases q1
        rw [hl] at q2
        cases q2
      | some l =>
        have hx := hc.lines l (List.mem_of_getElem? hl)
        simp only [touchT, hi, hl]
        refine ⟨_, _, rfl, set_all hc.lines ⟨hx.la, hx.lk, hx.ls⟩, ?_, ?_, by simp⟩
        · rw [set_items (l' := { l with number := l.number + n }) hl rfl]; exact hc.ln
        · intro j hj
          simp at hj
          subst hj
          rw [List.length_set]
          exact (List.getElem?_eq_some_iff.mp hl).1
    | none =>
      obtain ⟨a, ha⟩ := amT_mem hb
      simp only [touchT, hi, ha]
      refine ⟨_, _, rfl, ?_, ?_, ?_, by simp⟩
      · intro l hl
        rcases List.mem_append.mp hl with z | z
        · exact hc.lines l z
        · simp at z
          subst z
          exact ⟨⟨b, hb⟩, amT_ok hc.ab ha, by simp⟩
      · rw [List.map_append]
        refine List.nodup_append.mpr ⟨hc.ln, by simp, ?_⟩
        intro y hy z hz e
        simp at hz
        subst hz
        obtain ⟨l, hl, e2⟩ := List.mem_map.mp hy
        exact lkIx_none hi l hl (by rw [e2, e])
      · intro j hj
        simp at hj
        subst hj
        simp
  | alter x n =>
    obtain ⟨l0, hl0, e0⟩ := hd
    obtain ⟨i, l, hi, hl, _⟩ := lkIx_there hl0 e0
    simp only [touchT, hi, hl]
    have hx := hc.lines l (List.mem_of_getElem? hl)
    split
    · refine ⟨_, _, rfl, fun k hk => hc.lines k (List.mem_filter.mp hk).1, ?_, by simp, by simp⟩
      exact hc.ln.sublist (List.Sublist.map _ List.filter_sublist)
    · refine ⟨_, _, rfl, set_all hc.lines ⟨hx.la, hx.lk, hx.ls⟩, ?_, ?_, by simp⟩
      · rw [set_items (l' := { l with number := n }) hl rfl]; exact hc.ln
      · intro j hj
        simp at hj
        subst hj
        rw [List.length_set]
        exact (List.getElem?_eq_some_iff.mp hl).1
theorem carry_some {c : Ct} (hc : CtOk c) {d : Dd} (hd : DdIn c d) (hm : d.mine = true) : ∃ names c1, carryT c d = some (names, c1) ∧ CtOk c1 ∧ F_Cart_carry_out [c.m, .d d.d] = some (.lst (names.map fun x => .d (.str x)), [c1.m]) := by
  obtain ⟨ls1, sel, h1, h2, h3, h4, h5⟩ := touch_some hc hd hm
  obtain ⟨ls2, found, k1, k2, k3⟩ := go_ok hc.ab (c.rs.getD (doorIx (doorW d c.fl)) []) sel ls1 [] h4 h2
  have e : carryT c d = some (found, { c with ls := ls2, fl := d.fails, ta := c.ta + found.length }) := by
    unfold carryT
    rw [h1]
    simp only [k1]
  refine ⟨_, _, e, hc.with k2 (by rw [k3]; exact h3), p_carry hc (hd.ok hc) hm e fun a b hab => ?_⟩
  rw [h1] at hab
  cases hab
  exact h5
theorem repT_ok {c : Ct} (hc : CtOk c) (d : Dd) (names : List Str) : CtOk (repT c d names).2 := by
  unfold repT
  simp only
  split
  · exact hc.with (by simp) (by simp)
  · exact hc
theorem amPut_mem {am : List (Str × Int)} {x y : Str} {a b : Int} (h : (y, b) ∈ amPut am x a) : (∃ b', (y, b') ∈ am) ∧ ((y, b) ∈ am ∨ b = a) := by
  unfold amPut at h
  obtain ⟨p, hp, e⟩ := List.mem_map.mp h
  split at e
  · cases e
    exact ⟨⟨p.2, hp⟩, .inr rfl⟩
  · subst e
    exact ⟨⟨_, hp⟩, .inl hp⟩
theorem amPut_there {am : List (Str × Int)} {x y : Str} {a b : Int} (h : (y, b) ∈ am) : ∃ b', (y, b') ∈ amPut am x a := by
  by_cases e : y = x
  · exact ⟨a, List.mem_map.mpr ⟨(y, b), h, by simp [e]⟩⟩
  · exact ⟨b, List.mem_map.mpr ⟨(y, b), h, by simp [e]⟩⟩
theorem price_ok {c : Ct} (hc : CtOk c) {x : Str} {a : Int} (ha : AmtOk a) : CtOk { c with am := amPut c.am x a } := by
  refine ⟨hc.r6, hc.ro, by rw [amPut_ks]; exact hc.nd, ?_, ?_, by unfold amPut; simp [hc.a6], hc.ln, ?_, hc.lk, hc.ls⟩
  · intro p hp
    obtain ⟨⟨b, hb⟩, _⟩ := amPut_mem (y := p.1) (b := p.2) hp
    exact hc.an (p.1, b) hb
  · intro p hp
    rcases (amPut_mem (y := p.1) (b := p.2) hp).2 with z | z
    · exact hc.ab _ z
    · rw [z]; exact ha
  · intro l hl
    obtain ⟨b, hb⟩ := hc.la l hl
    exact amPut_there hb
theorem isprice {d : Dd} (hd : DdOk d) : gEq (.str d.word) (.str "price") = some (.bl (!d.mine)) := by
  rw [gEq_ss _ _ d.word_ok ok_price]
  cases d <;> rfl
theorem p_play {c : Ct} (hc : CtOk c) {d : Dd} (hd : DdIn c d) : ∃ r c', playT c d = some (r, c') ∧ CtOk c' ∧ F_Cart_play_deed [c.m, .d d.d] = some (.d (repO r), [c'.m]) := by
  have hp := isprice (hd.ok hc)
  cases hm : d.mine with
  | true =>
    obtain ⟨names, c1, h1, h2, h3⟩ := carry_some hc hd hm
    have h4 := p_report (c := c1) (d := d) names (hd.ok hc) h2.l6 fun l hl => (h2.lk l hl).big
    refine ⟨some (repT c1 d names).1, (repT c1 d names).2, ?_, repT_ok h2 d names, ?_⟩
    · unfold playT
      cases d <;> simp [Dd.mine] at hm <;> simp [h1]
    · rw [hm] at hp
      have e := strs_toDs2 names
      unfold Dd.d at h3 h4 ⊢
      have cm : c.m = .obj "Cart" cartNm [.d (bookD c.rs), .dic (amKs c.am) (amMs c.am), .lst (c.ls.map fun l => l.ln.m), .d (.bl c.fl), .d (.int c.sp), .d (.int c.ta)] := rfl
      have cm1 : c1.m = .obj "Cart" cartNm [.d (bookD c1.rs), .dic (amKs c1.am) (amMs c1.am), .lst (c1.ls.map fun l => l.ln.m), .d (.bl c1.fl), .d (.int c1.sp), .d (.int c1.ta)] := rfl
      have d1 : c.m.isD = false := rfl
      have d2 : c1.m.isD = false := rfl
      generalize c.m = m0 at *
      generalize c1.m = m1 at *
      cases m0 <;> cases cm
      cases m1 <;> cases cm1
      simp (config := {decide := true}) [F_Cart_play_deed, g_Cart_play_deed, fnF, sRet, sRetN, sSeq, sIf, sSet, sPass, sFrz, sDrop, fT, fOp, fVar, fC, fMov, fFrz, fD, startE, M.isD, M.toD, M.toDs, M.toB, fIxO, isO, sIxO, atI, ixN, g2, g2m, fOf, PL.g1, g1m, g22, fCons, fNil, fIo, fCall, PL.fill, putb, M.argOf, M.hole, ownS, fin, finals, tNotT, tAndT, tOrT, fAnd, fOr, fNot, fIf, fChain, fPl, getP, setP, M.cell, M.setCell, M.sub, M.fld, fldI, sPut, M.setF, M.put, sAug, gPut, gTu, PL.gCons, gsNil, sAsg, sPar, fMethO, fMeth, fMake, appF, fLenO, sAppP, sApp, fLc, lcL, wipeB, tTrue, lAny, lRng, gNm, sFor, forL, PL.gLst, PL.gTup, M.datas, fUnD, fMethK, fMake2, fProp, sExt, fPopP, gC, gInt, gInt0, gMod, gDiv, PL.gSub, gAdd, gMul, gLt, gLe, gGt, gGe, gToInt, gAbs, gMax, gMin, gLen, gIsN, gTupOf, gLstOf, bF, tPeek, fPeek, gEq_ss, gNe_ss, gEq_ii, gNe_ii, ok_take, ok_least, ok_last, ok_show, ok_ask, ok_put, ok_look, ok_alter, ok_back, ok_pay, ok_price, ok_again, ix0, hp, h3, h4, e, repO]
  | false =>
    cases d <;> simp [Dd.mine] at hm
    rename_i x a
    obtain ⟨⟨b, hb⟩, ha⟩ := hd
    obtain ⟨i, hi, hil⟩ := key_at hb
    have hms := amPut_ms (a := a) hi hc.nd
    have hks := amPut_ks c.am x a
    have hlen : (amKs c.am).length < 1000000 := by
      have := hc.a6
      unfold amKs
      simp; omega
    have hnd := hc.nd
    refine ⟨none, _, rfl, price_ok hc ha, ?_⟩
    unfold Dd.d Ct.m Dd.word Dd.rest
    simp only [hks, ← hms]
    simp (config := {decide := true}) [F_Cart_play_deed, g_Cart_play_deed, fnF, sRet, sRetN, sSeq, sIf, sSet, sPass, sFrz, sDrop, fT, fOp, fVar, fC, fMov, fFrz, fD, startE, M.isD, M.toD, M.toDs, M.toB, fIxO, isO, sIxO, atI, ixN, g2, g2m, fOf, PL.g1, g1m, g22, fCons, fNil, fIo, fCall, PL.fill, putb, M.argOf, M.hole, ownS, fin, finals, tNotT, tAndT, tOrT, fAnd, fOr, fNot, fIf, fChain, fPl, getP, setP, M.cell, M.setCell, M.sub, M.fld, fldI, sPut, M.setF, M.put, sAug, gPut, gTu, PL.gCons, gsNil, sAsg, sPar, fMethO, fMeth, fMake, appF, fLenO, sAppP, sApp, fLc, lcL, wipeB, tTrue, lAny, lRng, gNm, sFor, forL, PL.gLst, PL.gTup, M.datas, fUnD, fMethK, fMake2, fProp, sExt, fPopP, gC, gInt, gInt0, gMod, gDiv, PL.gSub, gAdd, gMul, gLt, gLe, gGt, gGe, gToInt, gAbs, gMax, gMin, gLen, gIsN, gTupOf, gLstOf, bF, tPeek, fPeek, gEq_ss, gNe_ss, gEq_ii, gNe_ii, ok_take, ok_least, ok_last, ok_show, ok_ask, ok_put, ok_look, ok_alter, ok_back, ok_pay, ok_price, ok_again, ix0, gIx, sDPutP, D.key, hi, hlen, hnd, M.unal, D.unal, M.safe, D.safe, repO]
end Lw

namespace Lw
open PySem PySem.Spec PyProof.Rows L2 PL
/-! ### carts: made, copied, checked -/
def emptyCt (rs : List (List Str)) (am : List (Str × Int)) : Ct := ⟨rs, am, [], false, 0, 0⟩
def pricesD (am : List (Str × Int)) : D := .tup (am.map fun p => .tup [.str p.1, .int p.2])
theorem keyI_none {k : Key} : ∀ {ks : List Key}, k ∉ ks → keyI k ks = none
  | [], _ => rfl
  | x :: ks, h => by
    simp only [List.mem_cons, not_or] at h
    unfold keyI
    rw [if_neg fun e => h.1 e.symm, keyI_none h.2]
theorem cart_dc (d0 : B) (d1 d2 : B) : ∀ (am acc : List (Str × Int)), (amKs (acc ++ am)).Nodup → acc.length + am.length < 1000000 →
    dcL [3, 4] (gTu 2 (PL.gCons (gNm 3) (PL.gCons (gNm 4) gsNil))) (fVar 3) (fVar 4) (am.map fun p => .tup [.str p.1, .int p.2]) (amKs acc, amDs acc) [d0, d1, d2, .no, .no] = some ((amKs (acc ++ am), amDs (acc ++ am)), [d0, d1, d2, .no, .no])
  | [], acc, _, _ => by simp [dcL]
  | (x, a) :: am, acc, nd, hl => by
    simp only [List.length_cons] at hl
    have ih := cart_dc d0 d1 d2 am (acc ++ [(x, a)]) (by simpa using nd) (by simp; omega)
    have e : acc ++ (x, a) :: am = (acc ++ [(x, a)]) ++ am := by simp
    have hn : (amKs acc).Nodup := by
      have : amKs (acc ++ (x, a) :: am) = amKs acc ++ amKs ((x, a) :: am) := by simp [amKs]
      rw [this] at nd
      exact (List.nodup_append.mp nd).1
    have hk : keyI (.inr x) (amKs acc) = none := by
      apply keyI_none
      intro hm
      have : amKs (acc ++ (x, a) :: am) = amKs acc ++ amKs ((x, a) :: am) := by simp [amKs]
      rw [this] at nd
      exact (List.nodup_append.mp nd).2.2 _ hm (.inr x) (by simp [amKs]) rfl
    have hlen : (amKs acc).length < 1000000 := by simp [amKs]; omega
    rw [e]
    rw [← ih]
    simp only [List.map_cons]
    conv => lhs; unfold dcL
    have e1 : amKs (acc ++ [(x, a)]) = amKs acc ++ [.inr x] := by simp [amKs]
    have e2 : amDs (acc ++ [(x, a)]) = amDs acc ++ [.int a] := by simp [amDs]
    simp (config := {decide := true}) [fnF, sRet, sRetN, sSeq, sIf, sSet, sPass, sFrz, sDrop, fT, fOp, fVar, fC, fMov, fFrz, fD, startE, M.isD, M.toD, M.toDs, M.toB, fIxO, isO, sIxO, atI, ixN, g2, g2m, fOf, PL.g1, g1m, g22, fCons, fNil, fIo, fCall, PL.fill, putb, M.argOf, M.hole, ownS, fin, finals, tNotT, tAndT, tOrT, fAnd, fOr, fNot, fIf, fChain, fPl, getP, setP, M.cell, M.setCell, M.sub, M.fld, fldI, sPut, M.setF, M.put, sAug, gPut, gTu, PL.gCons, gsNil, sAsg, sPar, fMethO, fMeth, fMake, appF, fLenO, sAppP, sApp, fLc, wipeB, tTrue, lAny, lRng, gNm, PL.gLst, PL.gTup, M.datas, fUnD, fMethK, fMake2, fProp, sExt, fPopP, gC, gInt, gInt0, gMod, gDiv, PL.gSub, gAdd, gMul, gLt, gLe, gGt, gGe, gToInt, gAbs, gMax, gMin, gLen, gIsN, gTupOf, gLstOf, bF, tPeek, fPeek, gEq_ss, gNe_ss, gEq_ii, gNe_ii, ok_take, ok_least, ok_last, ok_show, ok_ask, ok_put, ok_look, ok_alter, ok_back, ok_pay, ok_price, ok_again, D.key, putD, hk, hn, hlen, e1, e2]
theorem p_cart_init {rs : List (List Str)} {am : List (Str × Int)} (nd : (amKs am).Nodup) (hl : am.length ≤ 6) :
    F_Cart__init [.obj "Cart" [] [], .d (bookD rs), .d (pricesD am)] = some (.d .non, [(emptyCt rs am).m]) := by
  have h := fun d0 d1 d2 => cart_dc d0 d1 d2 am [] (by simpa using nd) (by simp; omega)
  simp only [List.nil_append] at h
  have e : (amKs [], amDs []) = (([] : List Key), ([] : List D)) := rfl
  rw [e] at h
  have e2 : (amDs am).map M.d = amMs am := by simp [amDs, amMs]
  unfold pricesD emptyCt Ct.m
  generalize bookD rs = bk
  simp (config := {decide := true}) [F_Cart__init, g_Cart__init, fnF, sRet, sRetN, sSeq, sIf, sSet, sPass, sFrz, sDrop, fT, fOp, fVar, fC, fMov, fFrz, fD, startE, M.isD, M.toD, M.toDs, M.toB, fIxO, isO, sIxO, atI, ixN, g2, g2m, fOf, PL.g1, g1m, g22, fCons, fNil, fIo, fCall, PL.fill, putb, M.argOf, M.hole, ownS, fin, finals, tNotT, tAndT, tOrT, fAnd, fOr, fNot, fIf, fChain, fPl, getP, setP, M.cell, M.setCell, M.sub, M.fld, fldI, sPut, M.setF, M.put, sAug, gPut, gTu, PL.gCons, gsNil, sAsg, sPar, fMethO, fMeth, fMake, appF, fLenO, sAppP, sApp, fLc, wipeB, tTrue, lAny, lRng, gNm, PL.gLst, PL.gTup, M.datas, fUnD, fMethK, fMake2, fProp, sExt, fPopP, gC, gInt, gInt0, gMod, gDiv, PL.gSub, gAdd, gMul, gLt, gLe, gGt, gGe, gToInt, gAbs, gMax, gMin, gLen, gIsN, gTupOf, gLstOf, bF, tPeek, fPeek, gEq_ss, gNe_ss, gEq_ii, gNe_ii, ok_take, ok_least, ok_last, ok_show, ok_ask, ok_put, ok_look, ok_alter, ok_back, ok_pay, ok_price, ok_again, fDc, h, e2, cartNm]
theorem twin_loop (d0 : B) (B1 : B) : ∀ ls : List Lk, lcL [2] (gNm 2) tTrue (fMethO "CartLine" "twin" F_CartLine_twin [] 2 [] fNil) (ls.map lkD) [d0, B1, .no] = some (ls.map fun l => l.ln.m, [d0, B1, .no])
  | [] => rfl
  | l :: ls => by
    have ih := twin_loop d0 B1 ls
    have h1 : F_CartLine_twin [.d (lkD l)] = some (l.ln.m, []) := by
      unfold lkD Lk.ln Ln.m
      have mk := p_line_init (.str l.item) (.int l.number) (.int l.kept)
      simp only [lineNs] at mk ⊢
      simp (config := {decide := true}) [F_CartLine_twin, g_CartLine_twin, fnF, sRet, sRetN, sSeq, sIf, sSet, sPass, sFrz, sDrop, fT, fOp, fVar, fC, fMov, fFrz, fD, startE, M.isD, M.toD, M.toDs, M.toB, fIxO, isO, sIxO, atI, ixN, g2, g2m, fOf, PL.g1, g1m, g22, fCons, fNil, fIo, fCall, PL.fill, putb, M.argOf, M.hole, ownS, fin, finals, tNotT, tAndT, tOrT, fAnd, fOr, fNot, fIf, fChain, fPl, getP, setP, M.cell, M.setCell, M.sub, M.fld, fldI, sPut, M.setF, M.put, sAug, gPut, gTu, PL.gCons, gsNil, sAsg, sPar, fMethO, fMeth, fMake, appF, fLenO, sAppP, sApp, fLc, lcL, wipeB, tTrue, lAny, lRng, gNm, sFor, forL, PL.gLst, PL.gTup, M.datas, fUnD, fMethK, fMake2, fProp, sExt, fPopP, gC, gInt, gInt0, gMod, gDiv, PL.gSub, gAdd, gMul, gLt, gLe, gGt, gGe, gToInt, gAbs, gMax, gMin, gLen, gIsN, gTupOf, gLstOf, bF, tPeek, fPeek, gEq_ss, gNe_ss, gEq_ii, gNe_ii, ok_take, ok_least, ok_last, ok_show, ok_ask, ok_put, ok_look, ok_alter, ok_back, ok_pay, ok_price, ok_again, mk]
    have h2 : M.isD l.ln.m = false := rfl
    simp only [List.map_cons]
    unfold lcL
    have hd : lkD l = .obj "CartLine" ["item", "number", "kept", "shown", "greatest"] [.str l.item, .int l.number, .int l.kept, oD l.shown, oD l.greatest] := rfl
    rw [hd] at h1 ⊢
    simp (config := {decide := true}) [fnF, sRet, sRetN, sSeq, sIf, sSet, sPass, sFrz, sDrop, fT, fOp, fVar, fC, fMov, fFrz, fD, startE, M.toD, M.toDs, M.toB, fIxO, isO, sIxO, atI, ixN, g2, g2m, fOf, PL.g1, g1m, g22, fCons, fNil, fIo, fCall, PL.fill, putb, M.argOf, M.hole, ownS, fin, finals, tNotT, tAndT, tOrT, fAnd, fOr, fNot, fIf, fChain, fPl, getP, setP, M.cell, M.setCell, M.sub, M.fld, fldI, sPut, M.setF, M.put, sAug, gPut, gTu, PL.gCons, gsNil, sAsg, sPar, fMethO, fMeth, fMake, appF, fLenO, sAppP, sApp, fLc, wipeB, tTrue, lAny, lRng, gNm, PL.gLst, PL.gTup, M.datas, fUnD, fMethK, fMake2, fProp, sExt, fPopP, gC, gInt, gInt0, gMod, gDiv, PL.gSub, gAdd, gMul, gLt, gLe, gGt, gGe, gToInt, gAbs, gMax, gMin, gLen, gIsN, gTupOf, gLstOf, bF, tPeek, fPeek, gEq_ss, gNe_ss, gEq_ii, gNe_ii, ok_take, ok_least, ok_last, ok_show, ok_ask, ok_put, ok_look, ok_alter, ok_back, ok_pay, ok_price, ok_again, isDd, isDl, isDo, isDk, isDb, h1, h2, ih]
theorem p_cart_twin (c : Ct) (hl : c.ls.length ≤ 6) : F_Cart_twin [.d c.d] = some (c.m, []) := by
  have h0 : F_Cart__init [.obj "Cart" [] [], .d (bookD c.rs), .d (.tup [])] = some (.d .non, [(emptyCt c.rs []).m]) := p_cart_init (am := []) (by simp [amKs]) (by simp)
  have h1 := fun d0 B1 => twin_loop d0 B1 c.ls
  have hl2 : c.ls.length ≤ 1000000 := by omega
  have e2 : (amDs c.am).map M.d = amMs c.am := by simp [amDs, amMs]
  unfold emptyCt Ct.m at h0
  unfold Ct.d Ct.m
  generalize bookD c.rs = bk at *
  simp only [cartNm] at h0 ⊢
  simp (config := {decide := true}) [F_Cart_twin, g_Cart_twin, fnF, sRet, sRetN, sSeq, sIf, sSet, sPass, sFrz, sDrop, fT, fOp, fVar, fC, fMov, fFrz, fD, startE, M.isD, M.toD, M.toDs, M.toB, fIxO, isO, sIxO, atI, ixN, g2, g2m, fOf, PL.g1, g1m, g22, fCons, fNil, fIo, fCall, PL.fill, putb, M.argOf, M.hole, ownS, fin, finals, tNotT, tAndT, tOrT, fAnd, fOr, fNot, fIf, fChain, fPl, getP, setP, M.cell, M.setCell, M.sub, M.fld, fldI, sPut, M.setF, M.put, sAug, gPut, gTu, PL.gCons, gsNil, sAsg, sPar, fMethO, fMeth, fMake, appF, fLenO, sAppP, sApp, fLc, wipeB, tTrue, lAny, lRng, gNm, PL.gLst, PL.gTup, M.datas, fUnD, fMethK, fMake2, fProp, sExt, fPopP, gC, gInt, gInt0, gMod, gDiv, PL.gSub, gAdd, gMul, gLt, gLe, gGt, gGe, gToInt, gAbs, gMax, gMin, gLen, gIsN, gTupOf, gLstOf, bF, tPeek, fPeek, gEq_ss, gNe_ss, gEq_ii, gNe_ii, ok_take, ok_least, ok_last, ok_show, ok_ask, ok_put, ok_look, ok_alter, ok_back, ok_pay, ok_price, ok_again, h0, h1, hl2, gDictOf, e2]
theorem row_loopD (d0 : D) (x : Str) (hx : okS x) : ∀ (ls : List Lk) (y : B), (∀ l ∈ ls, okS l.item) →
    ∃ y', forL (gNm 2) (sIf (fT (fOp (g2 gEq) (fPl 2 [("item", ["CartLine"])]) (fVar 1))) (sRet (fVar 2)) sPass) (ls.map lkD) [.d d0, .d (.str x), y]
      = (match lkIx x ls with
        | some i => some (.rt (.d (lkD (ls.getD i ⟨x, 0, 0, none, none⟩))), [.d d0, .d (.str x), y'])
        | none => some (.nx, [.d d0, .d (.str x), y']))
  | [], y, _ => ⟨y, rfl⟩
  | l :: ls, y, ok => by
    obtain ⟨y', ih⟩ := row_loopD d0 x hx ls (.d (lkD l)) (fun k hk => ok k (by simp [hk]))
    have hl : okS l.item := ok l (by simp)
    unfold okS at hx hl
    simp only [List.map_cons]
    unfold forL lkIx
    by_cases e : l.item = x
    · refine ⟨.d (lkD l), ?_⟩
      rw [if_pos e]
      subst e
      simp (config := {decide := true}) [fnF, sRet, sRetN, sSeq, sIf, sSet, sPass, sFrz, sDrop, fT, fOp, fVar, fC, fMov, fFrz, fD, startE, M.isD, M.toD, M.toDs, M.toB, fIxO, isO, sIxO, atI, ixN, g2, g2m, fOf, PL.g1, g1m, g22, fCons, fNil, fIo, fCall, PL.fill, putb, M.argOf, M.hole, ownS, fin, finals, tNotT, tAndT, tOrT, fAnd, fOr, fNot, fIf, fChain, fPl, getP, setP, M.cell, M.setCell, M.sub, M.fld, fldI, sPut, M.setF, M.put, sAug, gPut, gTu, PL.gCons, gsNil, sAsg, sPar, fMethO, fMeth, fMake, appF, fLenO, sAppP, sApp, fLc, wipeB, tTrue, lAny, lRng, gNm, PL.gLst, PL.gTup, M.datas, fUnD, fMethK, fMake2, fProp, sExt, fPopP, gC, gInt, gInt0, gMod, gDiv, PL.gSub, gAdd, gMul, gLt, gLe, gGt, gGe, gToInt, gAbs, gMax, gMin, gLen, gIsN, gTupOf, gLstOf, bF, tPeek, fPeek, gEq_ss, gNe_ss, gEq_ii, gNe_ii, ok_take, ok_least, ok_last, ok_show, ok_ask, ok_put, ok_look, ok_alter, ok_back, ok_pay, ok_price, ok_again, lkD, lineNs, hl]
    · refine ⟨y', ?_⟩
      have st : sIf (fT (fOp (g2 gEq) (fPl 2 [("item", ["CartLine"])]) (fVar 1))) (sRet (fVar 2)) sPass [B.d d0, B.d (.str x), B.d (lkD l)] = some (PL.R.nx, [.d d0, .d (.str x), .d (lkD l)]) := by
        simp (config := {decide := true}) [fnF, sRet, sRetN, sSeq, sIf, sSet, sPass, sFrz, sDrop, fT, fOp, fVar, fC, fMov, fFrz, fD, startE, M.isD, M.toD, M.toDs, M.toB, fIxO, isO, sIxO, atI, ixN, g2, g2m, fOf, PL.g1, g1m, g22, fCons, fNil, fIo, fCall, PL.fill, putb, M.argOf, M.hole, ownS, fin, finals, tNotT, tAndT, tOrT, fAnd, fOr, fNot, fIf, fChain, fPl, getP, setP, M.cell, M.setCell, M.sub, M.fld, fldI, sPut, M.setF, M.put, sAug, gPut, gTu, PL.gCons, gsNil, sAsg, sPar, fMethO, fMeth, fMake, appF, fLenO, sAppP, sApp, fLc, wipeB, tTrue, lAny, lRng, gNm, PL.gLst, PL.gTup, M.datas, fUnD, fMethK, fMake2, fProp, sExt, fPopP, gC, gInt, gInt0, gMod, gDiv, PL.gSub, gAdd, gMul, gLt, gLe, gGt, gGe, gToInt, gAbs, gMax, gMin, gLen, gIsN, gTupOf, gLstOf, bF, tPeek, fPeek, gEq_ss, gNe_ss, gEq_ii, gNe_ii, ok_take, ok_least, ok_last, ok_show, ok_ask, ok_put, ok_look, ok_alter, ok_back, ok_pay, ok_price, ok_again, lkD, lineNs, hl, hx, e]
      rw [if_neg e]
      simp only [gNm, List.length_cons, List.length_nil, Nat.reduceAdd, Nat.reduceLT, if_true, List.set_cons_succ, List.set_cons_zero]
      rw [st]
      simp only []
      rw [ih]
      cases lkIx x ls <;> simp
theorem p_row_ofD (c : Ct) (x : Str) (hx : okS x) (ok : ∀ l ∈ c.ls, okS l.item) :
    F_Cart_row_of [.d c.d, .d (.str x)] = (match lkIx x c.ls with
        | some i => some (.d (lkD (c.ls.getD i ⟨x, 0, 0, none, none⟩)), [])
        | none => some (.d .non, [])) := by
  obtain ⟨y', h⟩ := row_loopD c.d x hx c.ls .no ok
  unfold Ct.d at h ⊢
  generalize bookD c.rs = bk at *
  simp only [cartNm] at h ⊢
  cases e : lkIx x c.ls with
  | none =>
    rw [e] at h
    simp (config := {decide := true}) [F_Cart_row_of, g_Cart_row_of, fnF, sRet, sRetN, sSeq, sIf, sSet, sPass, sFrz, sDrop, fT, fOp, fVar, fC, fMov, fFrz, fD, startE, M.isD, M.toD, M.toDs, M.toB, fIxO, isO, sIxO, atI, ixN, g2, g2m, fOf, PL.g1, g1m, g22, fCons, fNil, fIo, fCall, PL.fill, putb, M.argOf, M.hole, ownS, fin, finals, tNotT, tAndT, tOrT, fAnd, fOr, fNot, fIf, fChain, fPl, getP, setP, M.cell, M.setCell, M.sub, M.fld, fldI, sPut, M.setF, M.put, sAug, gPut, gTu, PL.gCons, gsNil, sAsg, sPar, fMethO, fMeth, fMake, appF, fLenO, sAppP, sApp, fLc, wipeB, tTrue, lAny, lRng, gNm, PL.gLst, PL.gTup, M.datas, fUnD, fMethK, fMake2, fProp, sExt, fPopP, gC, gInt, gInt0, gMod, gDiv, PL.gSub, gAdd, gMul, gLt, gLe, gGt, gGe, gToInt, gAbs, gMax, gMin, gLen, gIsN, gTupOf, gLstOf, bF, tPeek, fPeek, gEq_ss, gNe_ss, gEq_ii, gNe_ii, ok_take, ok_least, ok_last, ok_show, ok_ask, ok_put, ok_look, ok_alter, ok_back, ok_pay, ok_price, ok_again, sFor, h]
  | some i =>
    rw [e] at h
    simp (config := {decide := true}) [F_Cart_row_of, g_Cart_row_of, fnF, sRet, sRetN, sSeq, sIf, sSet, sPass, sFrz, sDrop, fT, fOp, fVar, fC, fMov, fFrz, fD, startE, M.isD, M.toD, M.toDs, M.toB, fIxO, isO, sIxO, atI, ixN, g2, g2m, fOf, PL.g1, g1m, g22, fCons, fNil, fIo, fCall, PL.fill, putb, M.argOf, M.hole, ownS, fin, finals, tNotT, tAndT, tOrT, fAnd, fOr, fNot, fIf, fChain, fPl, getP, setP, M.cell, M.setCell, M.sub, M.fld, fldI, sPut, M.setF, M.put, sAug, gPut, gTu, PL.gCons, gsNil, sAsg, sPar, fMethO, fMeth, fMake, appF, fLenO, sAppP, sApp, fLc, wipeB, tTrue, lAny, lRng, gNm, PL.gLst, PL.gTup, M.datas, fUnD, fMethK, fMake2, fProp, sExt, fPopP, gC, gInt, gInt0, gMod, gDiv, PL.gSub, gAdd, gMul, gLt, gLe, gGt, gGe, gToInt, gAbs, gMax, gMin, gLen, gIsN, gTupOf, gLstOf, bF, tPeek, fPeek, gEq_ss, gNe_ss, gEq_ii, gNe_ii, ok_take, ok_least, ok_last, ok_show, ok_ask, ok_put, ok_look, ok_alter, ok_back, ok_pay, ok_price, ok_again, sFor, h]
theorem gIn_3 (neg : Bool) (w a b c : Str) : gIn neg (.str w) (.tup [.str a, .str b, .str c]) = some (.bl (if neg then !(decide (w = a) || (decide (w = b) || decide (w = c))) else (decide (w = a) || (decide (w = b) || decide (w = c))))) := by
  simp [gIn, D.flat, D.items, D.flats, inV, eqV, bq, eq_comm]
theorem amMs_toDs (am : List (Str × Int)) : M.toDs (amMs am) = amDs am := by
  rw [toDs_map]; unfold amMs amDs; rw [List.map_map]; rfl
theorem p_check {c : Ct} (hc : CtOk c) {d : Dd} (hd : DdIn c d) (ix : D) : F_Cart_check [c.m, .d d.d, .d ix] = some (.d .non, [c.m]) := by
  have hdo := hd.ok hc
  have td := c.toD
  have dd : c.m.isD = false := rfl
  have cm : c.m = .obj "Cart" cartNm [.d (bookD c.rs), .dic (amKs c.am) (amMs c.am), .lst (c.ls.map fun l => l.ln.m), .d (.bl c.fl), .d (.int c.sp), .d (.int c.ta)] := rfl
  have cd : c.d = .obj "Cart" cartNm [bookD c.rs, .dic (amKs c.am) (amDs c.am), .lst (c.ls.map lkD), .bl c.fl, .int c.sp, .int c.ta] := rfl
  have key : ∀ x b, (x, b) ∈ c.am → ∃ i, keyI (.inr x) (amKs c.am) = some i := fun x b h => by
    obtain ⟨i, hi, _⟩ := key_at h
    exact ⟨i, hi⟩
  cases d with
  | price x a =>
    obtain ⟨⟨b, hb⟩, _⟩ := hd
    obtain ⟨i, hi⟩ := key _ _ hb
    rw [cd] at td
    unfold Dd.d Dd.word Dd.rest
    generalize c.m = m0 at *
    cases m0 <;> cases cm
    simp (config := {decide := true}) [F_Cart_check, g_Cart_check, fnF, sRet, sRetN, sSeq, sIf, sSet, sPass, sFrz, sDrop, fT, fOp, fVar, fC, fMov, fFrz, fD, startE, M.isD, M.toD, M.toDs, M.toB, fIxO, isO, sIxO, atI, ixN, g2, g2m, fOf, PL.g1, g1m, g22, fCons, fNil, fIo, fCall, PL.fill, putb, M.argOf, M.hole, ownS, fin, finals, tNotT, tAndT, tOrT, fAnd, fOr, fNot, fIf, fChain, fPl, getP, setP, M.cell, M.setCell, M.sub, M.fld, fldI, sPut, M.setF, M.put, sAug, gPut, gTu, PL.gCons, gsNil, sAsg, sPar, fMethO, fMeth, fMake, appF, fLenO, sAppP, sApp, fLc, lcL, wipeB, tTrue, lAny, lRng, gNm, sFor, forL, PL.gLst, PL.gTup, M.datas, fUnD, fMethK, fMake2, fProp, sExt, fPopP, gC, gInt, gInt0, gMod, gDiv, PL.gSub, gAdd, gMul, gLt, gLe, gGt, gGe, gToInt, gAbs, gMax, gMin, gLen, gIsN, gTupOf, gLstOf, bF, tPeek, fPeek, gEq_ss, gNe_ss, gEq_ii, gNe_ii, ok_take, ok_least, ok_last, ok_show, ok_ask, ok_put, ok_look, ok_alter, ok_back, ok_pay, ok_price, ok_again, ix0, ix1, gIn_3, td, gDIn, D.key, hi]
  | put x a =>
    obtain ⟨b, hb⟩ := hd
    obtain ⟨i, hi⟩ := key _ _ hb
    rw [cd] at td
    unfold Dd.d Dd.word Dd.rest
    generalize c.m = m0 at *
    cases m0 <;> cases cm
    simp (config := {decide := true}) [F_Cart_check, g_Cart_check, fnF, sRet, sRetN, sSeq, sIf, sSet, sPass, sFrz, sDrop, fT, fOp, fVar, fC, fMov, fFrz, fD, startE, M.isD, M.toD, M.toDs, M.toB, fIxO, isO, sIxO, atI, ixN, g2, g2m, fOf, PL.g1, g1m, g22, fCons, fNil, fIo, fCall, PL.fill, putb, M.argOf, M.hole, ownS, fin, finals, tNotT, tAndT, tOrT, fAnd, fOr, fNot, fIf, fChain, fPl, getP, setP, M.cell, M.setCell, M.sub, M.fld, fldI, sPut, M.setF, M.put, sAug, gPut, gTu, PL.gCons, gsNil, sAsg, sPar, fMethO, fMeth, fMake, appF, fLenO, sAppP, sApp, fLc, lcL, wipeB, tTrue, lAny, lRng, gNm, sFor, forL, PL.gLst, PL.gTup, M.datas, fUnD, fMethK, fMake2, fProp, sExt, fPopP, gC, gInt, gInt0, gMod, gDiv, PL.gSub, gAdd, gMul, gLt, gLe, gGt, gGe, gToInt, gAbs, gMax, gMin, gLen, gIsN, gTupOf, gLstOf, bF, tPeek, fPeek, gEq_ss, gNe_ss, gEq_ii, gNe_ii, ok_take, ok_least, ok_last, ok_show, ok_ask, ok_put, ok_look, ok_alter, ok_back, ok_pay, ok_price, ok_again, ix0, ix1, gIn_3, td, gDIn, D.key, hi]
  | alter x a =>
    obtain ⟨l, hl, e⟩ := hd
    obtain ⟨b, hb⟩ := hc.la l hl
    obtain ⟨i, hi⟩ := key _ _ hb
    obtain ⟨j, k, q1, q2, q3⟩ := lkIx_there hl e
    rw [e] at hi
    have hr := p_row_ofD c x hdo hc.items
    rw [q1] at hr
    simp only at hr
    rw [cd] at td hr
    obtain ⟨ns, ds, hlk⟩ : ∃ ns ds, lkD (c.ls.getD j ⟨x, 0, 0, none, none⟩) = .obj "CartLine" ns ds := ⟨_, _, rfl⟩
    rw [hlk] at hr
    unfold Dd.d Dd.word Dd.rest
    generalize c.m = m0 at *
    cases m0 <;> cases cm
    simp only [cartNm] at hr ⊢
    have e1 := amMs_toDs c.am
    have e2 := rows_toDs c.ls
    simp (config := {decide := true}) [F_Cart_check, g_Cart_check, fnF, sRet, sRetN, sSeq, sIf, sSet, sPass, sFrz, sDrop, fT, fOp, fVar, fC, fMov, fFrz, fD, startE, M.isD, M.toD, M.toDs, M.toB, fIxO, isO, sIxO, atI, ixN, g2, g2m, fOf, PL.g1, g1m, g22, fCons, fNil, fIo, fCall, PL.fill, putb, M.argOf, M.hole, ownS, fin, finals, tNotT, tAndT, tOrT, fAnd, fOr, fNot, fIf, fChain, fPl, getP, setP, M.cell, M.setCell, M.sub, M.fld, fldI, sPut, M.setF, M.put, sAug, gPut, gTu, PL.gCons, gsNil, sAsg, sPar, fMethO, fMeth, fMake, appF, fLenO, sAppP, sApp, fLc, lcL, wipeB, tTrue, lAny, lRng, gNm, sFor, forL, PL.gLst, PL.gTup, M.datas, fUnD, fMethK, fMake2, fProp, sExt, fPopP, gC, gInt, gInt0, gMod, gDiv, PL.gSub, gAdd, gMul, gLt, gLe, gGt, gGe, gToInt, gAbs, gMax, gMin, gLen, gIsN, gTupOf, gLstOf, bF, tPeek, fPeek, gEq_ss, gNe_ss, gEq_ii, gNe_ii, ok_take, ok_least, ok_last, ok_show, ok_ask, ok_put, ok_look, ok_alter, ok_back, ok_pay, ok_price, ok_again, ix0, ix1, gIn_3, e1, e2, gDIn, D.key, hi, hr]
  | look =>
    unfold Dd.d Dd.word Dd.rest
    generalize c.m = m0 at *
    cases m0 <;> cases cm
    simp (config := {decide := true}) [F_Cart_check, g_Cart_check, fnF, sRet, sRetN, sSeq, sIf, sSet, sPass, sFrz, sDrop, fT, fOp, fVar, fC, fMov, fFrz, fD, startE, M.isD, M.toD, M.toDs, M.toB, fIxO, isO, sIxO, atI, ixN, g2, g2m, fOf, PL.g1, g1m, g22, fCons, fNil, fIo, fCall, PL.fill, putb, M.argOf, M.hole, ownS, fin, finals, tNotT, tAndT, tOrT, fAnd, fOr, fNot, fIf, fChain, fPl, getP, setP, M.cell, M.setCell, M.sub, M.fld, fldI, sPut, M.setF, M.put, sAug, gPut, gTu, PL.gCons, gsNil, sAsg, sPar, fMethO, fMeth, fMake, appF, fLenO, sAppP, sApp, fLc, lcL, wipeB, tTrue, lAny, lRng, gNm, sFor, forL, PL.gLst, PL.gTup, M.datas, fUnD, fMethK, fMake2, fProp, sExt, fPopP, gC, gInt, gInt0, gMod, gDiv, PL.gSub, gAdd, gMul, gLt, gLe, gGt, gGe, gToInt, gAbs, gMax, gMin, gLen, gIsN, gTupOf, gLstOf, bF, tPeek, fPeek, gEq_ss, gNe_ss, gEq_ii, gNe_ii, ok_take, ok_least, ok_last, ok_show, ok_ask, ok_put, ok_look, ok_alter, ok_back, ok_pay, ok_price, ok_again, ix0, ix1, gIn_3]
  | back =>
    unfold Dd.d Dd.word Dd.rest
    generalize c.m = m0 at *
    cases m0 <;> cases cm
    simp (config := {decide := true}) [F_Cart_check, g_Cart_check, fnF, sRet, sRetN, sSeq, sIf, sSet, sPass, sFrz, sDrop, fT, fOp, fVar, fC, fMov, fFrz, fD, startE, M.isD, M.toD, M.toDs, M.toB, fIxO, isO, sIxO, atI, ixN, g2, g2m, fOf, PL.g1, g1m, g22, fCons, fNil, fIo, fCall, PL.fill, putb, M.argOf, M.hole, ownS, fin, finals, tNotT, tAndT, tOrT, fAnd, fOr, fNot, fIf, fChain, fPl, getP, setP, M.cell, M.setCell, M.sub, M.fld, fldI, sPut, M.setF, M.put, sAug, gPut, gTu, PL.gCons, gsNil, sAsg, sPar, fMethO, fMeth, fMake, appF, fLenO, sAppP, sApp, fLc, lcL, wipeB, tTrue, lAny, lRng, gNm, sFor, forL, PL.gLst, PL.gTup, M.datas, fUnD, fMethK, fMake2, fProp, sExt, fPopP, gC, gInt, gInt0, gMod, gDiv, PL.gSub, gAdd, gMul, gLt, gLe, gGt, gGe, gToInt, gAbs, gMax, gMin, gLen, gIsN, gTupOf, gLstOf, bF, tPeek, fPeek, gEq_ss, gNe_ss, gEq_ii, gNe_ii, ok_take, ok_least, ok_last, ok_show, ok_ask, ok_put, ok_look, ok_alter, ok_back, ok_pay, ok_price, ok_again, ix0, ix1, gIn_3]
  | pay b =>
    unfold Dd.d Dd.word Dd.rest
    generalize c.m = m0 at *
    cases m0 <;> cases cm
    simp (config := {decide := true}) [F_Cart_check, g_Cart_check, fnF, sRet, sRetN, sSeq, sIf, sSet, sPass, sFrz, sDrop, fT, fOp, fVar, fC, fMov, fFrz, fD, startE, M.isD, M.toD, M.toDs, M.toB, fIxO, isO, sIxO, atI, ixN, g2, g2m, fOf, PL.g1, g1m, g22, fCons, fNil, fIo, fCall, PL.fill, putb, M.argOf, M.hole, ownS, fin, finals, tNotT, tAndT, tOrT, fAnd, fOr, fNot, fIf, fChain, fPl, getP, setP, M.cell, M.setCell, M.sub, M.fld, fldI, sPut, M.setF, M.put, sAug, gPut, gTu, PL.gCons, gsNil, sAsg, sPar, fMethO, fMeth, fMake, appF, fLenO, sAppP, sApp, fLc, lcL, wipeB, tTrue, lAny, lRng, gNm, sFor, forL, PL.gLst, PL.gTup, M.datas, fUnD, fMethK, fMake2, fProp, sExt, fPopP, gC, gInt, gInt0, gMod, gDiv, PL.gSub, gAdd, gMul, gLt, gLe, gGt, gGe, gToInt, gAbs, gMax, gMin, gLen, gIsN, gTupOf, gLstOf, bF, tPeek, fPeek, gEq_ss, gNe_ss, gEq_ii, gNe_ii, ok_take, ok_least, ok_last, ok_show, ok_ask, ok_put, ok_look, ok_alter, ok_back, ok_pay, ok_price, ok_again, ix0, ix1, gIn_3]
end Lw

namespace Lw
open PySem PySem.Spec PyProof.Rows L2 PL
/-! ### shops on known contents -/
structure Sh where
  cart : Ct
  story : List Dd
  past : List (Ct × List Dd)
abbrev shopNm : List Str := ["cart", "story", "past"]
def storyD (s : List Dd) : D := .lst (s.map Dd.d)
def pastD (p : Ct × List Dd) : D := .tup [p.1.d, storyD p.2]
def Sh.m (s : Sh) : M := .obj "Shop" shopNm [.d s.cart.d, .d (storyD s.story), .lst (s.past.map fun p => .d (pastD p))]
def Sh.d (s : Sh) : D := .obj "Shop" shopNm [s.cart.d, storyD s.story, .lst (s.past.map pastD)]
theorem Sh.toD (s : Sh) : s.m.toD = s.d := by
  unfold Sh.m Sh.d
  simp only [M.toD, M.toDs, toDs_map, List.map_map]
  rfl
def playsT : Ct → List Dd → Option (List (Option Rep) × Ct)
  | c, [] => some ([], c)
  | c, d :: ds => (match playT c d with
    | some (r, c1) => (match playsT c1 ds with
      | some (rs, c2) => some (r :: rs, c2)
      | none => none)
    | none => none)
def DdsIn : Ct → List Dd → Prop
  | _, [] => True
  | c, d :: ds => DdIn c d ∧ ∀ r c1, playT c d = some (r, c1) → DdsIn c1 ds
def bodyPA : Sv := (sSeq (sDrop (fMethO "Cart" "check" F_Cart_check [] 2 [none, none] (fCons (fVar 5) (fCons (fOp (g2m gAdd) (fOf (PL.g1 gLen) (fCons (fPl 0 [("story", ["Shop"])]) fNil)) (fVar 4)) fNil)))) (sApp 3 (fD (fMethO "Cart" "play_deed" F_Cart_play_deed [] 2 [none] (fCons (fVar 5) fNil)))))
theorem plays_step {c c1 : Ct} (hc : CtOk c) {d : Dd} {r : Option Rep} (hd : DdIn c d) (e : playT c d = some (r, c1)) (q : D) (st : List D) (ps : List M) (dd : D) (found : List M) (k : Int) (hst : st.length ≤ 1000000) (hf : found.length < 1000000) :
    bodyPA [.o (some 0) (.obj "Shop" shopNm [.d q, .d (.lst st), .lst ps]), .d dd, .o none c.m, .o none (.lst found), .d (.int k), .d d.d]
      = some (.nx, [.o (some 0) (.obj "Shop" shopNm [.d q, .d (.lst st), .lst ps]), .d dd, .o none c1.m, .o none (.lst (found ++ [.d (repO r)])), .d (.int k), .d d.d]) := by
  obtain ⟨r', c', e1, h1, h2⟩ := p_play hc hd
  rw [e] at e1
  cases e1
  have h3 := fun ix => p_check hc hd ix
  have cm : c.m = .obj "Cart" cartNm [.d (bookD c.rs), .dic (amKs c.am) (amMs c.am), .lst (c.ls.map fun l => l.ln.m), .d (.bl c.fl), .d (.int c.sp), .d (.int c.ta)] := rfl
  generalize c.m = m0 at *
  cases m0 <;> cases cm
  simp (config := {decide := true}) [bodyPA, fnF, sRet, sRetN, sSeq, sIf, sSet, sPass, sFrz, sDrop, fT, fOp, fVar, fC, fMov, fFrz, fD, startE, M.toD, M.toDs, M.toB, fIxO, isO, sIxO, atI, ixN, g2, g2m, fOf, PL.g1, g1m, g22, fCons, fNil, fIo, fCall, PL.fill, putb, M.argOf, M.hole, ownS, fin, finals, tNotT, tAndT, tOrT, fAnd, fOr, fNot, fIf, fChain, fPl, getP, setP, M.cell, M.setCell, M.sub, M.fld, fldI, sPut, M.setF, M.put, sAug, gPut, gTu, PL.gCons, gsNil, sAsg, sPar, fMethO, fMeth, fMake, appF, fLenO, sAppP, sApp, fLc, wipeB, tTrue, lAny, lRng, gNm, PL.gLst, PL.gTup, M.datas, fUnD, fMethK, fMake2, fProp, sExt, fPopP, gC, gInt, gInt0, gMod, gDiv, PL.gSub, gAdd, gMul, gLt, gLe, gGt, gGe, gToInt, gAbs, gMax, gMin, gLen, gIsN, gTupOf, gLstOf, bF, tPeek, fPeek, gEq_ss, gNe_ss, gEq_ii, gNe_ii, ok_take, ok_least, ok_last, ok_show, ok_ask, ok_put, ok_look, ok_alter, ok_back, ok_pay, ok_price, ok_again, isDd, isDl, isDo, isDk, isDb, h3, h2, hst, hf]
theorem plays_loop (q : D) (st : List D) (ps : List M) (dd : D) (hst : st.length ≤ 1000000) : ∀ (ds : List Dd) (k : Nat) (c : Ct) (found : List M) (B4 B5 : B), CtOk c → DdsIn c ds → found.length + ds.length < 1000000 →
    ∃ rs c' B4' B5', playsT c ds = some (rs, c') ∧ CtOk c' ∧ rs.length = ds.length ∧ forL (gTu 2 (PL.gCons (gNm 4) (PL.gCons (gNm 5) gsNil))) bodyPA (enumD k (ds.map Dd.d)) [.o (some 0) (.obj "Shop" shopNm [.d q, .d (.lst st), .lst ps]), .d dd, .o none c.m, .o none (.lst found), B4, B5]
      = some (.nx, [.o (some 0) (.obj "Shop" shopNm [.d q, .d (.lst st), .lst ps]), .d dd, .o none c'.m, .o none (.lst (found ++ rs.map fun r => .d (repO r))), B4', B5'])
  | [], k, c, found, B4, B5, hc, _, _ => ⟨[], c, B4, B5, rfl, hc, rfl, by simp [enumD, forL]⟩
  | d :: ds, k, c, found, B4, B5, hc, hd, hl => by
    simp only [List.length_cons] at hl
    obtain ⟨r, c1, e1, h1, _⟩ := p_play hc hd.1
    have st1 := plays_step hc hd.1 e1 q st ps dd found k hst (by omega)
    obtain ⟨rs, c', B4', B5', q1, q2, q3, q4⟩ := plays_loop q st ps dd hst ds (k + 1) c1 (found ++ [.d (repO r)]) (.d (.int k)) (.d d.d) h1 (hd.2 _ _ e1) (by simp; omega)
    refine ⟨r :: rs, c', B4', B5', ?_, q2, by simp [q3], ?_⟩
    · unfold playsT
      rw [e1]
      simp only [q1]
    · simp only [List.map_cons, enumD]
      conv => lhs; unfold forL
      simp only [gTu, PL.gCons, gsNil, gNm, List.length_cons, List.length_nil, Nat.reduceAdd, Nat.reduceLT, if_true, List.set_cons_succ, List.set_cons_zero]
      rw [st1]
      simp only [List.append_assoc, List.cons_append, List.nil_append] at q4
      simpa using q4
theorem p_go_to (s : Sh) (c : Ct) (st : List Dd) (hl : s.past.length < 1000000) : F_Shop_go_to [s.m, .d c.d, .d (storyD st)] = some (.d .non, [(⟨c, st, s.past ++ [(s.cart, s.story)]⟩ : Sh).m]) := by
  have e : (s.past.map fun p => M.d (pastD p)) ++ [.d (.tup [s.cart.d, storyD s.story])] = (s.past ++ [(s.cart, s.story)]).map fun p => M.d (pastD p) := by simp [pastD]
  unfold Sh.m
  generalize s.cart.d = c0 at *
  generalize c.d = c1 at *
  simp (config := {decide := true}) [F_Shop_go_to, g_Shop_go_to, fnF, sRet, sRetN, sSeq, sIf, sSet, sPass, sFrz, sDrop, fT, fOp, fVar, fC, fMov, fFrz, fD, startE, M.isD, M.toD, M.toDs, M.toB, fIxO, isO, sIxO, atI, ixN, g2, g2m, fOf, PL.g1, g1m, g22, fCons, fNil, fIo, fCall, PL.fill, putb, M.argOf, M.hole, ownS, fin, finals, tNotT, tAndT, tOrT, fAnd, fOr, fNot, fIf, fChain, fPl, getP, setP, M.cell, M.setCell, M.sub, M.fld, fldI, sPut, M.setF, M.put, sAug, gPut, gTu, PL.gCons, gsNil, sAsg, sPar, fMethO, fMeth, fMake, appF, fLenO, sAppP, sApp, fLc, lcL, wipeB, tTrue, lAny, lRng, gNm, sFor, forL, PL.gLst, PL.gTup, M.datas, fUnD, fMethK, fMake2, fProp, sExt, fPopP, gC, gInt, gInt0, gMod, gDiv, PL.gSub, gAdd, gMul, gLt, gLe, gGt, gGe, gToInt, gAbs, gMax, gMin, gLen, gIsN, gTupOf, gLstOf, bF, tPeek, fPeek, gEq_ss, gNe_ss, gEq_ii, gNe_ii, ok_take, ok_least, ok_last, ok_show, ok_ask, ok_put, ok_look, ok_alter, ok_back, ok_pay, ok_price, ok_again, hl, e]
def Sh.next (s : Sh) (c : Ct) (st : List Dd) : Sh := ⟨c, st, s.past ++ [(s.cart, s.story)]⟩
theorem toDs_d (xs : List D) : M.toDs (xs.map M.d) = xs := by
  rw [toDs_map, List.map_map]; exact List.map_id _
theorem toDs_app (xs ys : List M) : M.toDs (xs ++ ys) = M.toDs xs ++ M.toDs ys := by
  simp only [toDs_map, List.map_append]
theorem p_play_all {s : Sh} (hc : CtOk s.cart) {ds : List Dd} (hd : DdsIn s.cart ds) (hl : ds.length < 1000) (hs : s.story.length < 1000) (hp : s.past.length < 1000) :
    ∃ rs c', playsT s.cart ds = some (rs, c') ∧ CtOk c' ∧ rs.length = ds.length ∧ F_Shop_play_all [s.m, .d (storyD ds)] = some (.lst (rs.map fun r => .d (repO r)), [(s.next c' (s.story ++ ds)).m]) := by
  have hst : (s.story.map Dd.d).length ≤ 1000000 := by simp; omega
  obtain ⟨rs, c', B4, B5, q1, q2, q3, q4⟩ := plays_loop s.cart.d (s.story.map Dd.d) (s.past.map fun p => .d (pastD p)) (storyD ds) hst ds 0 s.cart [] .no .no hc hd (by simp; omega)
  refine ⟨rs, c', q1, q2, q3, ?_⟩
  have h1 := p_cart_twin s.cart hc.l6
  have h2 := p_go_to s c' (s.story ++ ds) (by omega)
  have td := c'.toD
  obtain ⟨L1, cm1⟩ : ∃ L, c'.m = .obj "Cart" cartNm L := ⟨_, rfl⟩
  obtain ⟨L0, cm0⟩ : ∃ L, s.cart.m = .obj "Cart" cartNm L := ⟨_, rfl⟩
  rw [cm0] at h1 q4
  rw [cm1] at q4 td
  simp only [M.toD] at td
  have cd : s.cart.d = .obj "Cart" cartNm [bookD s.cart.rs, .dic (amKs s.cart.am) (amDs s.cart.am), .lst (s.cart.ls.map lkD), .bl s.cart.fl, .int s.cart.sp, .int s.cart.ta] := rfl
  have sm : s.m = .obj "Shop" shopNm [.d s.cart.d, .d (.lst (s.story.map Dd.d)), .lst (s.past.map fun p => .d (pastD p))] := rfl
  have smd : (s.next c' (s.story ++ ds)).m.isD = false := rfl
  have e1 : storyD (s.story ++ ds) = .lst (s.story.map Dd.d ++ ds.map Dd.d) := by unfold storyD; simp
  have e2 : storyD ds = .lst (ds.map Dd.d) := rfl
  have hlen : (s.story.map Dd.d).length + (ds.map Dd.d).length ≤ 1000000 := by simp; omega
  have hlen2 : s.story.length + ds.length ≤ 1000000 := by omega
  rw [e1] at h2
  rw [e2] at q4 ⊢
  unfold bodyPA at q4
  have hnx : (⟨c', s.story ++ ds, s.past ++ [(s.cart, s.story)]⟩ : Sh).m = (s.next c' (s.story ++ ds)).m := rfl
  rw [hnx] at h2
  generalize (s.next c' (s.story ++ ds)).m = m9 at *
  rw [sm] at h2 ⊢
  have hmap : M.toDs ((s.story.map Dd.d ++ ds.map Dd.d).map M.d) = s.story.map Dd.d ++ ds.map Dd.d := by
    rw [toDs_map, List.map_map]
    exact List.map_id _
  generalize s.story.map Dd.d = S1 at *
  generalize ds.map Dd.d = S2 at *
  generalize (s.past.map fun p => M.d (pastD p)) = S3 at *
  generalize c'.d = D1 at *
  generalize s.cart.d = D0 at *
  cases cd
  simp only [shopNm, cartNm] at q4 h2 h1 td ⊢
  simp (config := {decide := true}) [F_Shop_play_all, g_Shop_play_all, fnF, sRet, sRetN, sSeq, sIf, sSet, sPass, sFrz, sDrop, fT, fOp, fVar, fC, fMov, fFrz, fD, startE, M.toD, M.toDs, M.toB, fIxO, isO, sIxO, atI, ixN, g2, g2m, fOf, PL.g1, g1m, g22, fCons, fNil, fIo, fCall, PL.fill, putb, M.argOf, M.hole, ownS, fin, finals, tNotT, tAndT, tOrT, fAnd, fOr, fNot, fIf, fChain, fPl, getP, setP, M.cell, M.setCell, M.sub, M.fld, fldI, sPut, M.setF, M.put, sAug, gPut, gTu, PL.gCons, gsNil, sAsg, sPar, fMethO, fMeth, fMake, appF, fLenO, sAppP, sApp, fLc, wipeB, tTrue, lAny, lRng, gNm, PL.gLst, PL.gTup, M.datas, fUnD, fMethK, fMake2, fProp, sExt, fPopP, gC, gInt, gInt0, gMod, gDiv, PL.gSub, gAdd, gMul, gLt, gLe, gGt, gGe, gToInt, gAbs, gMax, gMin, gLen, gIsN, gTupOf, gLstOf, bF, tPeek, fPeek, gEq_ss, gNe_ss, gEq_ii, gNe_ii, ok_take, ok_least, ok_last, ok_show, ok_ask, ok_put, ok_look, ok_alter, ok_back, ok_pay, ok_price, ok_again, isDd, isDl, isDo, isDk, isDb, sFor, lEnum, h1, h2, q4, td, smd, hlen, hlen2, toDs_d, toDs_app]
end Lw

namespace Lw
open PySem PySem.Spec PyProof.Rows L2 PL
/-! ### the shop's calls -/
def PricesOk (am : List (Str × Int)) : Prop := F_are_prices [.d (pricesD am)] = some (.d (.bl true), [])
theorem p_shop_init {rs : List (List Str)} {am : List (Str × Int)} (hp : PricesOk am) (nd : (amKs am).Nodup) (hl : am.length ≤ 6) :
    F_Shop__init [.obj "Shop" [] [], .d (bookD rs), .d (pricesD am)] = some (.d .non, [(⟨emptyCt rs am, [], []⟩ : Sh).m]) := by
  have h1 := p_cart_init (rs := rs) nd hl
  have td := (emptyCt rs am).toD
  obtain ⟨L1, cm1⟩ : ∃ L, (emptyCt rs am).m = .obj "Cart" cartNm L := ⟨_, rfl⟩
  unfold PricesOk at hp
  unfold Sh.m storyD
  rw [cm1] at h1 td
  simp only [M.toD] at td
  generalize (emptyCt rs am).d = D1 at *
  generalize bookD rs = bk at *
  generalize pricesD am = pr at *
  simp only [cartNm, shopNm, List.map_nil] at *
  simp (config := {decide := true}) [F_Shop__init, g_Shop__init, fnF, sRet, sRetN, sSeq, sIf, sSet, sPass, sFrz, sDrop, fT, fOp, fVar, fC, fMov, fFrz, fD, startE, M.isD, M.toD, M.toDs, M.toB, fIxO, isO, sIxO, atI, ixN, g2, g2m, fOf, PL.g1, g1m, g22, fCons, fNil, fIo, fCall, PL.fill, putb, M.argOf, M.hole, ownS, fin, finals, tNotT, tAndT, tOrT, fAnd, fOr, fNot, fIf, fChain, fPl, getP, setP, M.cell, M.setCell, M.sub, M.fld, fldI, sPut, M.setF, M.put, sAug, gPut, gTu, PL.gCons, gsNil, sAsg, sPar, fMethO, fMeth, fMake, appF, fLenO, sAppP, sApp, fLc, lcL, wipeB, tTrue, lAny, lRng, gNm, sFor, forL, PL.gLst, PL.gTup, M.datas, fUnD, fMethK, fMake2, fProp, sExt, fPopP, gC, gInt, gInt0, gMod, gDiv, PL.gSub, gAdd, gMul, gLt, gLe, gGt, gGe, gToInt, gAbs, gMax, gMin, gLen, gIsN, gTupOf, gLstOf, bF, tPeek, fPeek, gEq_ss, gNe_ss, gEq_ii, gNe_ii, ok_take, ok_least, ok_last, ok_show, ok_ask, ok_put, ok_look, ok_alter, ok_back, ok_pay, ok_price, ok_again, hp, h1, td]
def DeedOk (d : Dd) : Prop := F_is_deed [.d d.d] = some (.d (.bl true), [])
theorem checks_loop (d0 d1 : B) : ∀ (ds : List Dd) (k : Nat) (B2 B3 : B), (∀ d ∈ ds, DeedOk d) →
    ∃ B2' B3', forL (gTu 2 (PL.gCons (gNm 2) (PL.gCons (gNm 3) gsNil))) (sIf (tNotT (fT (fD (fCall F_is_deed [] [none] (fCons (fVar 3) fNil))))) sNever sPass) (enumD k (ds.map Dd.d)) [d0, d1, B2, B3] = some (.nx, [d0, d1, B2', B3'])
  | [], k, B2, B3, _ => ⟨B2, B3, rfl⟩
  | d :: ds, k, B2, B3, h => by
    obtain ⟨B2', B3', ih⟩ := checks_loop d0 d1 ds (k + 1) (.d (.int k)) (.d d.d) fun e he => h e (by simp [he])
    refine ⟨B2', B3', ?_⟩
    have hd : F_is_deed [.d d.d] = some (.d (.bl true), []) := h d (by simp)
    simp only [List.map_cons, enumD]
    unfold forL
    generalize d.d = dd at *
    simp (config := {decide := true}) [fnF, sRet, sRetN, sSeq, sIf, sSet, sPass, sFrz, sDrop, fT, fOp, fVar, fC, fMov, fFrz, fD, startE, M.isD, M.toD, M.toDs, M.toB, fIxO, isO, sIxO, atI, ixN, g2, g2m, fOf, PL.g1, g1m, g22, fCons, fNil, fIo, fCall, PL.fill, putb, M.argOf, M.hole, ownS, fin, finals, tNotT, tAndT, tOrT, fAnd, fOr, fNot, fIf, fChain, fPl, getP, setP, M.cell, M.setCell, M.sub, M.fld, fldI, sPut, M.setF, M.put, sAug, gPut, gTu, PL.gCons, gsNil, sAsg, sPar, fMethO, fMeth, fMake, appF, fLenO, sAppP, sApp, fLc, wipeB, tTrue, lAny, lRng, gNm, PL.gLst, PL.gTup, M.datas, fUnD, fMethK, fMake2, fProp, sExt, fPopP, gC, gInt, gInt0, gMod, gDiv, PL.gSub, gAdd, gMul, gLt, gLe, gGt, gGe, gToInt, gAbs, gMax, gMin, gLen, gIsN, gTupOf, gLstOf, bF, tPeek, fPeek, gEq_ss, gNe_ss, gEq_ii, gNe_ii, ok_take, ok_least, ok_last, ok_show, ok_ask, ok_put, ok_look, ok_alter, ok_back, ok_pay, ok_price, ok_again, hd, ih]
theorem p_check_deeds {ds : List Dd} (h : ∀ d ∈ ds, DeedOk d) (n : Int) : F_check_deeds [.d (storyD ds), .d (.int n)] = some (.d .non, []) := by
  obtain ⟨B2, B3, h1⟩ := checks_loop (.d (storyD ds)) (.d (.int n)) ds 0 .no .no h
  unfold storyD at h1 ⊢
  simp (config := {decide := true}) [F_check_deeds, g_check_deeds, fnF, sRet, sRetN, sSeq, sIf, sSet, sPass, sFrz, sDrop, fT, fOp, fVar, fC, fMov, fFrz, fD, startE, M.isD, M.toD, M.toDs, M.toB, fIxO, isO, sIxO, atI, ixN, g2, g2m, fOf, PL.g1, g1m, g22, fCons, fNil, fIo, fCall, PL.fill, putb, M.argOf, M.hole, ownS, fin, finals, tNotT, tAndT, tOrT, fAnd, fOr, fNot, fIf, fChain, fPl, getP, setP, M.cell, M.setCell, M.sub, M.fld, fldI, sPut, M.setF, M.put, sAug, gPut, gTu, PL.gCons, gsNil, sAsg, sPar, fMethO, fMeth, fMake, appF, fLenO, sAppP, sApp, fLc, wipeB, tTrue, lAny, lRng, gNm, PL.gLst, PL.gTup, M.datas, fUnD, fMethK, fMake2, fProp, sExt, fPopP, gC, gInt, gInt0, gMod, gDiv, PL.gSub, gAdd, gMul, gLt, gLe, gGt, gGe, gToInt, gAbs, gMax, gMin, gLen, gIsN, gTupOf, gLstOf, bF, tPeek, fPeek, gEq_ss, gNe_ss, gEq_ii, gNe_ii, ok_take, ok_least, ok_last, ok_show, ok_ask, ok_put, ok_look, ok_alter, ok_back, ok_pay, ok_price, ok_again, sFor, lEnum, gIsi, tyN, isiB, h1]
theorem p_do_all {s : Sh} (hc : CtOk s.cart) {ds : List Dd} (hd : DdsIn s.cart ds) (ho : ∀ d ∈ ds, DeedOk d) (hl : ds.length < 1000) (hs : s.story.length < 1000) (hp : s.past.length < 1000) :
    ∃ rs c', playsT s.cart ds = some (rs, c') ∧ CtOk c' ∧ rs.length = ds.length ∧ F_Shop_do_all [s.m, .d (storyD ds)] = some (.lst (rs.map fun r => .d (repO r)), [(s.next c' (s.story ++ ds)).m]) := by
  obtain ⟨rs, c', h1, h2, h3, h4⟩ := p_play_all hc hd hl hs hp
  refine ⟨rs, c', h1, h2, h3, ?_⟩
  have h5 := p_check_deeds ho s.story.length
  have hst : (s.story.map Dd.d).length ≤ 1000000 := by simp; omega
  have hlen : ((s.story.map Dd.d).length : Int) = s.story.length := by simp
  have hdl : M.toDs ((ds.map Dd.d).map M.d) = ds.map Dd.d := by rw [toDs_map, List.map_map]; exact List.map_id _
  have sm : s.m = .obj "Shop" shopNm [.d s.cart.d, .d (.lst (s.story.map Dd.d)), .lst (s.past.map fun p => .d (pastD p))] := rfl
  have e2 : storyD ds = .lst (ds.map Dd.d) := rfl
  have smd : (s.next c' (s.story ++ ds)).m.isD = false := rfl
  rw [← hlen] at h5
  generalize (s.next c' (s.story ++ ds)).m = m9 at *
  rw [e2] at h4 h5 ⊢
  rw [sm] at h4 ⊢
  generalize s.story.map Dd.d = S1 at *
  generalize ds.map Dd.d = S2 at *
  generalize (s.past.map fun p => M.d (pastD p)) = S3 at *
  generalize s.cart.d = D0 at *
  simp only [shopNm] at *
  simp (config := {decide := true}) [F_Shop_do_all, g_Shop_do_all, fnF, sRet, sRetN, sSeq, sIf, sSet, sPass, sFrz, sDrop, fT, fOp, fVar, fC, fMov, fFrz, fD, startE, M.toD, M.toDs, M.toB, fIxO, isO, sIxO, atI, ixN, g2, g2m, fOf, PL.g1, g1m, g22, fCons, fNil, fIo, fCall, PL.fill, putb, M.argOf, M.hole, ownS, fin, finals, tNotT, tAndT, tOrT, fAnd, fOr, fNot, fIf, fChain, fPl, getP, setP, M.cell, M.setCell, M.sub, M.fld, fldI, sPut, M.setF, M.put, sAug, gPut, gTu, PL.gCons, gsNil, sAsg, sPar, fMethO, fMeth, fMake, appF, fLenO, sAppP, sApp, fLc, wipeB, tTrue, lAny, lRng, gNm, PL.gLst, PL.gTup, M.datas, fUnD, fMethK, fMake2, fProp, sExt, fPopP, gC, gInt, gInt0, gMod, gDiv, PL.gSub, gAdd, gMul, gLt, gLe, gGt, gGe, gToInt, gAbs, gMax, gMin, gLen, gIsN, gTupOf, gLstOf, bF, tPeek, fPeek, gEq_ss, gNe_ss, gEq_ii, gNe_ii, ok_take, ok_least, ok_last, ok_show, ok_ask, ok_put, ok_look, ok_alter, ok_back, ok_pay, ok_price, ok_again, isDd, isDl, isDo, isDk, isDb, h4, h5, hst, hdl, smd]
theorem p_do {s : Sh} (hc : CtOk s.cart) {d : Dd} (hd : DdIn s.cart d) (ho : DeedOk d) (hs : s.story.length < 1000) (hp : s.past.length < 1000) :
    ∃ r c', playT s.cart d = some (r, c') ∧ CtOk c' ∧ F_Shop_do [s.m, .d d.d] = some (.d (repO r), [(s.next c' (s.story ++ [d])).m]) := by
  obtain ⟨rs, c', h1, h2, h3, h4⟩ := p_play_all (ds := [d]) hc ⟨hd, fun _ _ _ => trivial⟩ (by simp) hs hp
  have hr : ∃ r, rs = [r] := by
    match rs, h3 with
    | [r], _ => exact ⟨r, rfl⟩
  obtain ⟨r, rfl⟩ := hr
  refine ⟨r, c', ?_, h2, ?_⟩
  · unfold playsT at h1
    split at h1
    · rename_i r1 c1 e
      rw [e]
      simp [playsT] at h1
      simp [h1]
    · cases h1
  have h5 := p_check_deeds (ds := [d]) (by simpa using ho) s.story.length
  have hst : (s.story.map Dd.d).length ≤ 1000000 := by simp; omega
  have hlen : ((s.story.map Dd.d).length : Int) = s.story.length := by simp
  have sm : s.m = .obj "Shop" shopNm [.d s.cart.d, .d (.lst (s.story.map Dd.d)), .lst (s.past.map fun p => .d (pastD p))] := rfl
  have e2 : storyD [d] = .lst [d.d] := rfl
  have smd : (s.next c' (s.story ++ [d])).m.isD = false := rfl
  rw [← hlen] at h5
  generalize (s.next c' (s.story ++ [d])).m = m9 at *
  rw [e2] at h4 h5
  rw [sm] at h4 ⊢
  generalize s.story.map Dd.d = S1 at *
  generalize (s.past.map fun p => M.d (pastD p)) = S3 at *
  generalize s.cart.d = D0 at *
  generalize d.d = dd at *
  simp only [shopNm, List.map_cons, List.map_nil] at *
  simp (config := {decide := true}) [F_Shop_do, g_Shop_do, fnF, sRet, sRetN, sSeq, sIf, sSet, sPass, sFrz, sDrop, fT, fOp, fVar, fC, fMov, fFrz, fD, startE, M.toD, M.toDs, M.toB, fIxO, isO, sIxO, atI, ixN, g2, g2m, fOf, PL.g1, g1m, g22, fCons, fNil, fIo, fCall, PL.fill, putb, M.argOf, M.hole, ownS, fin, finals, tNotT, tAndT, tOrT, fAnd, fOr, fNot, fIf, fChain, fPl, getP, setP, M.cell, M.setCell, M.sub, M.fld, fldI, sPut, M.setF, M.put, sAug, gPut, gTu, PL.gCons, gsNil, sAsg, sPar, fMethO, fMeth, fMake, appF, fLenO, sAppP, sApp, fLc, wipeB, tTrue, lAny, lRng, gNm, PL.gLst, PL.gTup, M.datas, fUnD, fMethK, fMake2, fProp, sExt, fPopP, gC, gInt, gInt0, gMod, gDiv, PL.gSub, gAdd, gMul, gLt, gLe, gGt, gGe, gToInt, gAbs, gMax, gMin, gLen, gIsN, gTupOf, gLstOf, bF, tPeek, fPeek, gEq_ss, gNe_ss, gEq_ii, gNe_ii, ok_take, ok_least, ok_last, ok_show, ok_ask, ok_put, ok_look, ok_alter, ok_back, ok_pay, ok_price, ok_again, isDd, isDl, isDo, isDk, isDb, h4, h5, hst, smd, ix0, gIx]
theorem p_change {s : Sh} (hc : CtOk s.cart) (rs : List (List Str)) (hp : s.past.length < 1000) : F_Shop_change [s.m, .d (bookD rs)] = some (.d .non, [(s.next { s.cart with rs := rs } s.story).m]) := by
  have h1 := p_cart_twin s.cart hc.l6
  have h2 := p_go_to s { s.cart with rs := rs } s.story (by omega)
  have td : Ct.d { s.cart with rs := rs } = .obj "Cart" cartNm [bookD rs, .dic (amKs s.cart.am) (amDs s.cart.am), .lst (s.cart.ls.map lkD), .bl s.cart.fl, .int s.cart.sp, .int s.cart.ta] := rfl
  have cd : s.cart.d = .obj "Cart" cartNm [bookD s.cart.rs, .dic (amKs s.cart.am) (amDs s.cart.am), .lst (s.cart.ls.map lkD), .bl s.cart.fl, .int s.cart.sp, .int s.cart.ta] := rfl
  have cm : s.cart.m = .obj "Cart" cartNm [.d (bookD s.cart.rs), .dic (amKs s.cart.am) (amMs s.cart.am), .lst (s.cart.ls.map fun l => l.ln.m), .d (.bl s.cart.fl), .d (.int s.cart.sp), .d (.int s.cart.ta)] := rfl
  have sm : s.m = .obj "Shop" shopNm [.d s.cart.d, .d (storyD s.story), .lst (s.past.map fun p => .d (pastD p))] := rfl
  have smd : (s.next { s.cart with rs := rs } s.story).m.isD = false := rfl
  have hnx : (⟨{ s.cart with rs := rs }, s.story, s.past ++ [(s.cart, s.story)]⟩ : Sh).m = (s.next { s.cart with rs := rs } s.story).m := rfl
  have e1 := amMs_toDs s.cart.am
  have e2 := rows_toDs s.cart.ls
  rw [hnx] at h2
  generalize (s.next { s.cart with rs := rs } s.story).m = m9 at *
  rw [sm, td] at h2
  rw [sm]
  rw [cm] at h1
  generalize bookD rs = bk at *
  generalize bookD s.cart.rs = bk0 at *
  generalize (s.past.map fun p => M.d (pastD p)) = S3 at *
  generalize storyD s.story = S1 at *
  rw [cd] at h1 h2 ⊢
  simp only [shopNm, cartNm] at h1 h2 ⊢
  simp (config := {decide := true}) [F_Shop_change, g_Shop_change, fnF, sRet, sRetN, sSeq, sIf, sSet, sPass, sFrz, sDrop, fT, fOp, fVar, fC, fMov, fFrz, fD, startE, M.toD, M.toDs, M.toB, fIxO, isO, sIxO, atI, ixN, g2, g2m, fOf, PL.g1, g1m, g22, fCons, fNil, fIo, fCall, PL.fill, putb, M.argOf, M.hole, ownS, fin, finals, tNotT, tAndT, tOrT, fAnd, fOr, fNot, fIf, fChain, fPl, getP, setP, M.cell, M.setCell, M.sub, M.fld, fldI, sPut, M.setF, M.put, sAug, gPut, gTu, PL.gCons, gsNil, sAsg, sPar, fMethO, fMeth, fMake, appF, fLenO, sAppP, sApp, fLc, wipeB, tTrue, lAny, lRng, gNm, PL.gLst, PL.gTup, M.datas, fUnD, fMethK, fMake2, fProp, sExt, fPopP, gC, gInt, gInt0, gMod, gDiv, PL.gSub, gAdd, gMul, gLt, gLe, gGt, gGe, gToInt, gAbs, gMax, gMin, gLen, gIsN, gTupOf, gLstOf, bF, tPeek, fPeek, gEq_ss, gNe_ss, gEq_ii, gNe_ii, ok_take, ok_least, ok_last, ok_show, ok_ask, ok_put, ok_look, ok_alter, ok_back, ok_pay, ok_price, ok_again, isDd, isDl, isDo, isDk, isDb, h1, h2, smd, e1, e2]
theorem p_undo {c : Ct} {st : List Dd} {c0 : Ct} {st0 : List Dd} {past : List (Ct × List Dd)} : F_Shop_undo [(⟨c, st, past ++ [(c0, st0)]⟩ : Sh).m] = some (.d .non, [(⟨c0, st0, past⟩ : Sh).m]) := by
  have e1 : ((past ++ [(c0, st0)]).map fun p => M.d (pastD p)) = (past.map fun p => M.d (pastD p)) ++ [.d (.tup [c0.d, storyD st0])] := by simp [pastD]
  unfold Sh.m
  simp only [e1]
  generalize c.d = D1 at *
  generalize c0.d = D2 at *
  generalize storyD st = S1 at *
  generalize storyD st0 = S2 at *
  generalize (past.map fun p => M.d (pastD p)) = S3 at *
  have h1 : ((S3 ++ [M.d (.tup [D2, S2])])[(S3 ++ [M.d (.tup [D2, S2])]).length - 1]?) = some (M.d (.tup [D2, S2])) := by simp
  have h2 : (S3 ++ [M.d (.tup [D2, S2])]).dropLast = S3 := by simp
  have h3 : (M.toDs (S3 ++ [M.d (.tup [D2, S2])])).length ≠ 0 := by simp [toDs_map]
  generalize S3 ++ [M.d (.tup [D2, S2])] = S4 at *
  simp (config := {decide := true}) [F_Shop_undo, g_Shop_undo, fnF, sRet, sRetN, sSeq, sIf, sSet, sPass, sFrz, sDrop, fT, fOp, fVar, fC, fMov, fFrz, fD, startE, M.toD, M.toDs, M.toB, fIxO, isO, sIxO, atI, ixN, g2, g2m, fOf, PL.g1, g1m, g22, fCons, fNil, fIo, fCall, PL.fill, putb, M.argOf, M.hole, ownS, fin, finals, tNotT, tAndT, tOrT, fAnd, fOr, fNot, fIf, fChain, fPl, getP, setP, M.cell, M.setCell, M.sub, M.fld, fldI, sPut, M.setF, M.put, sAug, gPut, gTu, PL.gCons, gsNil, sAsg, sPar, fMethO, fMeth, fMake, appF, fLenO, sAppP, sApp, fLc, wipeB, tTrue, lAny, lRng, gNm, PL.gLst, PL.gTup, M.datas, fUnD, fMethK, fMake2, fProp, sExt, fPopP, gC, gInt, gInt0, gMod, gDiv, PL.gSub, gAdd, gMul, gLt, gLe, gGt, gGe, gToInt, gAbs, gMax, gMin, gLen, gIsN, gTupOf, gLstOf, bF, tPeek, fPeek, gEq_ss, gNe_ss, gEq_ii, gNe_ii, ok_take, ok_least, ok_last, ok_show, ok_ask, ok_put, ok_look, ok_alter, ok_back, ok_pay, ok_price, ok_again, isDd, isDl, isDo, isDk, isDb, h1, h2, h3, gEqX]
end Lw

namespace Lw
open PySem PySem.Spec PyProof.Rows L2 PL
/-! ### what a shop tells -/
def lineD (l : Lk) : D := .tup [.str l.item, .int l.number, .int l.kept, oD l.shown]
theorem lines_loop (d0 : B) : ∀ ls : List Lk, lcL [1] (gNm 1) tTrue (fOf PL.gTup (fCons (fPl 1 [("item", ["CartLine"])]) (fCons (fPl 1 [("number", ["CartLine"])]) (fCons (fPl 1 [("kept", ["CartLine"])]) (fCons (fPl 1 [("shown", ["CartLine"])]) fNil))))) (ls.map lkD) [d0, .no]
      = some (ls.map (fun l => M.d (lineD l)), [d0, .no])
  | [] => rfl
  | l :: ls => by
    have ih := lines_loop d0 ls
    have hd : lkD l = .obj "CartLine" ["item", "number", "kept", "shown", "greatest"] [.str l.item, .int l.number, .int l.kept, oD l.shown, oD l.greatest] := rfl
    simp only [List.map_cons]
    rw [hd]
    unfold lcL
    simp (config := {decide := true}) [fnF, sRet, sRetN, sSeq, sIf, sSet, sPass, sFrz, sDrop, fT, fOp, fVar, fC, fMov, fFrz, fD, startE, M.isD, M.toD, M.toDs, M.toB, fIxO, isO, sIxO, atI, ixN, g2, g2m, fOf, PL.g1, g1m, g22, fCons, fNil, fIo, fCall, PL.fill, putb, M.argOf, M.hole, ownS, fin, finals, tNotT, tAndT, tOrT, fAnd, fOr, fNot, fIf, fChain, fPl, getP, setP, M.cell, M.setCell, M.sub, M.fld, fldI, sPut, M.setF, M.put, sAug, gPut, gTu, PL.gCons, gsNil, sAsg, sPar, fMethO, fMeth, fMake, appF, fLenO, sAppP, sApp, fLc, wipeB, tTrue, lAny, lRng, gNm, PL.gLst, PL.gTup, M.datas, fUnD, fMethK, fMake2, fProp, sExt, fPopP, gC, gInt, gInt0, gMod, gDiv, PL.gSub, gAdd, gMul, gLt, gLe, gGt, gGe, gToInt, gAbs, gMax, gMin, gLen, gIsN, gTupOf, gLstOf, bF, tPeek, fPeek, gEq_ss, gNe_ss, gEq_ii, gNe_ii, ok_take, ok_least, ok_last, ok_show, ok_ask, ok_put, ok_look, ok_alter, ok_back, ok_pay, ok_price, ok_again, lineD, ih]
theorem total_loop (d0 : B) : ∀ ls : List Lk, (∀ l ∈ ls, BigI l.kept) → lcL [1] (gNm 1) tTrue (fD (fOp (g2m gMul) (fPl 1 [("number", ["CartLine"])]) (fPl 1 [("kept", ["CartLine"])]))) (ls.map lkD) [d0, .no]
      = some (ls.map (fun l => M.d (.int (l.number * l.kept))), [d0, .no])
  | [], _ => rfl
  | l :: ls, h => by
    have ih := total_loop d0 ls fun k hk => h k (by simp [hk])
    have hd : lkD l = .obj "CartLine" ["item", "number", "kept", "shown", "greatest"] [.str l.item, .int l.number, .int l.kept, oD l.shown, oD l.greatest] := rfl
    have hm := gMul_okR l.number l.kept (h l (by simp))
    simp only [List.map_cons]
    rw [hd]
    unfold lcL
    simp (config := {decide := true}) [fnF, sRet, sRetN, sSeq, sIf, sSet, sPass, sFrz, sDrop, fT, fOp, fVar, fC, fMov, fFrz, fD, startE, M.isD, M.toD, M.toDs, M.toB, fIxO, isO, sIxO, atI, ixN, g2, g2m, fOf, PL.g1, g1m, g22, fCons, fNil, fIo, fCall, PL.fill, putb, M.argOf, M.hole, ownS, fin, finals, tNotT, tAndT, tOrT, fAnd, fOr, fNot, fIf, fChain, fPl, getP, setP, M.cell, M.setCell, M.sub, M.fld, fldI, sPut, M.setF, M.put, sAug, gPut, gTu, PL.gCons, gsNil, sAsg, sPar, fMethO, fMeth, fMake, appF, fLenO, sAppP, sApp, fLc, wipeB, tTrue, lAny, lRng, gNm, PL.gLst, PL.gTup, M.datas, fUnD, fMethK, fMake2, fProp, sExt, fPopP, gC, gInt, gInt0, PL.gSub, gAdd, gLt, gLe, gGt, gGe, gToInt, gAbs, gMax, gMin, gLen, gIsN, gTupOf, gLstOf, bF, tPeek, fPeek, gEq_ss, gNe_ss, gEq_ii, gNe_ii, ok_take, ok_least, ok_last, ok_show, ok_ask, ok_put, ok_look, ok_alter, ok_back, ok_pay, ok_price, ok_again, hm, ih]
/-- what all the looks at a shop are over: cart, story, past -/
theorem Sh.dEq (s : Sh) : s.d = .obj "Shop" ["cart", "story", "past"] [.obj "Cart" ["design", "amounts", "rows", "is_failed", "spent", "times_asked"] [bookD s.cart.rs, .dic (amKs s.cart.am) (amDs s.cart.am), .lst (s.cart.ls.map lkD), .bl s.cart.fl, .int s.cart.sp, .int s.cart.ta], .lst (s.story.map Dd.d), .lst (s.past.map pastD)] := rfl
theorem p_lines (s : Sh) (h6 : s.cart.ls.length ≤ 6) : F_Shop_lines [.d s.d] = some (.lst (s.cart.ls.map fun l => M.d (lineD l)), []) := by
  have h := fun d0 => lines_loop d0 s.cart.ls
  have hl : s.cart.ls.length ≤ 1000000 := by omega
  rw [s.dEq]
  simp (config := {decide := true}) [F_Shop_lines, g_Shop_lines, fnF, sRet, sRetN, sSeq, sIf, sSet, sPass, sFrz, sDrop, fT, fOp, fVar, fC, fMov, fFrz, fD, startE, M.isD, M.toD, M.toDs, M.toB, fIxO, isO, sIxO, atI, ixN, g2, g2m, fOf, PL.g1, g1m, g22, fCons, fNil, fIo, fCall, PL.fill, putb, M.argOf, M.hole, ownS, fin, finals, tNotT, tAndT, tOrT, fAnd, fOr, fNot, fIf, fChain, fPl, getP, setP, M.cell, M.setCell, M.sub, M.fld, fldI, sPut, M.setF, M.put, sAug, gPut, gTu, PL.gCons, gsNil, sAsg, sPar, fMethO, fMeth, fMake, appF, fLenO, sAppP, sApp, fLc, wipeB, tTrue, lAny, lRng, gNm, PL.gLst, PL.gTup, M.datas, fUnD, fMethK, fMake2, fProp, sExt, fPopP, gC, gInt, gInt0, gMod, gDiv, PL.gSub, gAdd, gMul, gLt, gLe, gGt, gGe, gToInt, gAbs, gMax, gMin, gLen, gIsN, gTupOf, gLstOf, bF, tPeek, fPeek, gEq_ss, gNe_ss, gEq_ii, gNe_ii, ok_take, ok_least, ok_last, ok_show, ok_ask, ok_put, ok_look, ok_alter, ok_back, ok_pay, ok_price, ok_again, h, hl]
theorem p_paid (s : Sh) : F_Shop_paid [.d s.d] = some (.d (.int s.cart.sp), []) := by
  rw [s.dEq]
  simp (config := {decide := true}) [F_Shop_paid, g_Shop_paid, fnF, sRet, sRetN, sSeq, sIf, sSet, sPass, sFrz, sDrop, fT, fOp, fVar, fC, fMov, fFrz, fD, startE, M.isD, M.toD, M.toDs, M.toB, fIxO, isO, sIxO, atI, ixN, g2, g2m, fOf, PL.g1, g1m, g22, fCons, fNil, fIo, fCall, PL.fill, putb, M.argOf, M.hole, ownS, fin, finals, tNotT, tAndT, tOrT, fAnd, fOr, fNot, fIf, fChain, fPl, getP, setP, M.cell, M.setCell, M.sub, M.fld, fldI, sPut, M.setF, M.put, sAug, gPut, gTu, PL.gCons, gsNil, sAsg, sPar, fMethO, fMeth, fMake, appF, fLenO, sAppP, sApp, fLc, wipeB, tTrue, lAny, lRng, gNm, PL.gLst, PL.gTup, M.datas, fUnD, fMethK, fMake2, fProp, sExt, fPopP, gC, gInt, gInt0, gMod, gDiv, PL.gSub, gAdd, gMul, gLt, gLe, gGt, gGe, gToInt, gAbs, gMax, gMin, gLen, gIsN, gTupOf, gLstOf, bF, tPeek, fPeek, gEq_ss, gNe_ss, gEq_ii, gNe_ii, ok_take, ok_least, ok_last, ok_show, ok_ask, ok_put, ok_look, ok_alter, ok_back, ok_pay, ok_price, ok_again]
theorem p_total (s : Sh) (h6 : s.cart.ls.length ≤ 6) (hk : ∀ l ∈ s.cart.ls, BigI l.kept) : F_Shop_total [.d s.d] = some (.d (.int (worth s.cart.ls)), []) := by
  have h := fun d0 => total_loop d0 s.cart.ls hk
  have hl : s.cart.ls.length ≤ 1000000 := by omega
  have e3 := prod_toDs s.cart.ls
  have hs : gSum (.lst (s.cart.ls.map fun l => .int (l.number * l.kept))) = some (.int (worth s.cart.ls)) := by
    have z : D.ints (s.cart.ls.map fun l => .int (l.number * l.kept)) = some (s.cart.ls.map fun l => l.number * l.kept) := ints_map (fun l => l.number * l.kept) s.cart.ls
    simp only [gSum, z, worth]
  rw [s.dEq]
  simp (config := {decide := true}) [F_Shop_total, g_Shop_total, fnF, sRet, sRetN, sSeq, sIf, sSet, sPass, sFrz, sDrop, fT, fOp, fVar, fC, fMov, fFrz, fD, startE, M.isD, M.toD, M.toDs, M.toB, fIxO, isO, sIxO, atI, ixN, g2, g2m, fOf, PL.g1, g1m, g22, fCons, fNil, fIo, fCall, PL.fill, putb, M.argOf, M.hole, ownS, fin, finals, tNotT, tAndT, tOrT, fAnd, fOr, fNot, fIf, fChain, fPl, getP, setP, M.cell, M.setCell, M.sub, M.fld, fldI, sPut, M.setF, M.put, sAug, gPut, gTu, PL.gCons, gsNil, sAsg, sPar, fMethO, fMeth, fMake, appF, fLenO, sAppP, sApp, fLc, wipeB, tTrue, lAny, lRng, gNm, PL.gLst, PL.gTup, M.datas, fUnD, fMethK, fMake2, fProp, sExt, fPopP, gC, gInt, gInt0, gMod, gDiv, PL.gSub, gAdd, gMul, gLt, gLe, gGt, gGe, gToInt, gAbs, gMax, gMin, gLen, gIsN, gTupOf, gLstOf, bF, tPeek, fPeek, gEq_ss, gNe_ss, gEq_ii, gNe_ii, ok_take, ok_least, ok_last, ok_show, ok_ask, ok_put, ok_look, ok_alter, ok_back, ok_pay, ok_price, ok_again, h, hl, e3, hs]
theorem p_asked (s : Sh) : F_Shop_asked [.d s.d] = some (.d (.int s.cart.ta), []) := by
  rw [s.dEq]
  simp (config := {decide := true}) [F_Shop_asked, g_Shop_asked, fnF, sRet, sRetN, sSeq, sIf, sSet, sPass, sFrz, sDrop, fT, fOp, fVar, fC, fMov, fFrz, fD, startE, M.isD, M.toD, M.toDs, M.toB, fIxO, isO, sIxO, atI, ixN, g2, g2m, fOf, PL.g1, g1m, g22, fCons, fNil, fIo, fCall, PL.fill, putb, M.argOf, M.hole, ownS, fin, finals, tNotT, tAndT, tOrT, fAnd, fOr, fNot, fIf, fChain, fPl, getP, setP, M.cell, M.setCell, M.sub, M.fld, fldI, sPut, M.setF, M.put, sAug, gPut, gTu, PL.gCons, gsNil, sAsg, sPar, fMethO, fMeth, fMake, appF, fLenO, sAppP, sApp, fLc, wipeB, tTrue, lAny, lRng, gNm, PL.gLst, PL.gTup, M.datas, fUnD, fMethK, fMake2, fProp, sExt, fPopP, gC, gInt, gInt0, gMod, gDiv, PL.gSub, gAdd, gMul, gLt, gLe, gGt, gGe, gToInt, gAbs, gMax, gMin, gLen, gIsN, gTupOf, gLstOf, bF, tPeek, fPeek, gEq_ss, gNe_ss, gEq_ii, gNe_ii, ok_take, ok_least, ok_last, ok_show, ok_ask, ok_put, ok_look, ok_alter, ok_back, ok_pay, ok_price, ok_again]
theorem p_len (s : Sh) (hs : s.story.length < 1000) : F_Shop__len [.d s.d] = some (.d (.int s.story.length), []) := by
  have hl : s.story.length ≤ 1000000 := by omega
  rw [s.dEq]
  simp (config := {decide := true}) [F_Shop__len, g_Shop__len, fnF, sRet, sRetN, sSeq, sIf, sSet, sPass, sFrz, sDrop, fT, fOp, fVar, fC, fMov, fFrz, fD, startE, M.isD, M.toD, M.toDs, M.toB, fIxO, isO, sIxO, atI, ixN, g2, g2m, fOf, PL.g1, g1m, g22, fCons, fNil, fIo, fCall, PL.fill, putb, M.argOf, M.hole, ownS, fin, finals, tNotT, tAndT, tOrT, fAnd, fOr, fNot, fIf, fChain, fPl, getP, setP, M.cell, M.setCell, M.sub, M.fld, fldI, sPut, M.setF, M.put, sAug, gPut, gTu, PL.gCons, gsNil, sAsg, sPar, fMethO, fMeth, fMake, appF, fLenO, sAppP, sApp, fLc, wipeB, tTrue, lAny, lRng, gNm, PL.gLst, PL.gTup, M.datas, fUnD, fMethK, fMake2, fProp, sExt, fPopP, gC, gInt, gInt0, gMod, gDiv, PL.gSub, gAdd, gMul, gLt, gLe, gGt, gGe, gToInt, gAbs, gMax, gMin, gLen, gIsN, gTupOf, gLstOf, bF, tPeek, fPeek, gEq_ss, gNe_ss, gEq_ii, gNe_ii, ok_take, ok_least, ok_last, ok_show, ok_ask, ok_put, ok_look, ok_alter, ok_back, ok_pay, ok_price, ok_again, hl]
theorem p_rules (rs : List (List Str)) : F_Book_rules [.d (bookD rs)] = some (.d (.tup (rs.map ruleD)), []) := by
  unfold bookD
  simp (config := {decide := true}) [F_Book_rules, g_Book_rules, fnF, sRet, sRetN, sSeq, sIf, sSet, sPass, sFrz, sDrop, fT, fOp, fVar, fC, fMov, fFrz, fD, startE, M.isD, M.toD, M.toDs, M.toB, fIxO, isO, sIxO, atI, ixN, g2, g2m, fOf, PL.g1, g1m, g22, fCons, fNil, fIo, fCall, PL.fill, putb, M.argOf, M.hole, ownS, fin, finals, tNotT, tAndT, tOrT, fAnd, fOr, fNot, fIf, fChain, fPl, getP, setP, M.cell, M.setCell, M.sub, M.fld, fldI, sPut, M.setF, M.put, sAug, gPut, gTu, PL.gCons, gsNil, sAsg, sPar, fMethO, fMeth, fMake, appF, fLenO, sAppP, sApp, fLc, wipeB, tTrue, lAny, lRng, gNm, PL.gLst, PL.gTup, M.datas, fUnD, fMethK, fMake2, fProp, sExt, fPopP, gC, gInt, gInt0, gMod, gDiv, PL.gSub, gAdd, gMul, gLt, gLe, gGt, gGe, gToInt, gAbs, gMax, gMin, gLen, gIsN, gTupOf, gLstOf, bF, tPeek, fPeek, gEq_ss, gNe_ss, gEq_ii, gNe_ii, ok_take, ok_least, ok_last, ok_show, ok_ask, ok_put, ok_look, ok_alter, ok_back, ok_pay, ok_price, ok_again]
theorem p_shop_book (s : Sh) : F_Shop_book [.d s.d] = some (.d (bookD s.cart.rs), []) := by
  rw [s.dEq]
  simp (config := {decide := true}) [F_Shop_book, g_Shop_book, fnF, sRet, sRetN, sSeq, sIf, sSet, sPass, sFrz, sDrop, fT, fOp, fVar, fC, fMov, fFrz, fD, startE, M.isD, M.toD, M.toDs, M.toB, fIxO, isO, sIxO, atI, ixN, g2, g2m, fOf, PL.g1, g1m, g22, fCons, fNil, fIo, fCall, PL.fill, putb, M.argOf, M.hole, ownS, fin, finals, tNotT, tAndT, tOrT, fAnd, fOr, fNot, fIf, fChain, fPl, getP, setP, M.cell, M.setCell, M.sub, M.fld, fldI, sPut, M.setF, M.put, sAug, gPut, gTu, PL.gCons, gsNil, sAsg, sPar, fMethO, fMeth, fMake, appF, fLenO, sAppP, sApp, fLc, wipeB, tTrue, lAny, lRng, gNm, PL.gLst, PL.gTup, M.datas, fUnD, fMethK, fMake2, fProp, sExt, fPopP, gC, gInt, gInt0, gMod, gDiv, PL.gSub, gAdd, gMul, gLt, gLe, gGt, gGe, gToInt, gAbs, gMax, gMin, gLen, gIsN, gTupOf, gLstOf, bF, tPeek, fPeek, gEq_ss, gNe_ss, gEq_ii, gNe_ii, ok_take, ok_least, ok_last, ok_show, ok_ask, ok_put, ok_look, ok_alter, ok_back, ok_pay, ok_price, ok_again]
theorem am_at {am : List (Str × Int)} {x : Str} {a : Int} (h : amT am x = some a) : ∃ i, keyI (.inr x) (amKs am) = some i ∧ (amDs am)[i]? = some (.int a) := by
  induction am with
  | nil => simp [amT] at h
  | cons p am ih =>
    obtain ⟨y, b⟩ := p
    unfold amT at *
    simp only [List.lookup] at h
    simp only [amKs, amDs, List.map_cons, keyI]
    split at h
    · rename_i e
      cases h
      have e : x = y := by simpa using e
      subst e
      exact ⟨0, by simp, rfl⟩
    · rename_i e
      have e : ¬ y = x := fun z => by subst z; simp at e
      obtain ⟨i, hi, hd⟩ := ih h
      unfold amKs at hi
      refine ⟨i + 1, ?_, by simpa [amDs] using hd⟩
      rw [if_neg fun z => e (Sum.inr.inj z), hi]
theorem p_price (s : Sh) {x : Str} {a : Int} (h : amT s.cart.am x = some a) : F_Shop_price [.d s.d, .d (.str x)] = some (.d (.int a), []) := by
  obtain ⟨i, hi, hd⟩ := am_at h
  rw [s.dEq]
  simp (config := {decide := true}) [F_Shop_price, g_Shop_price, fnF, sRet, sRetN, sSeq, sIf, sSet, sPass, sFrz, sDrop, fT, fOp, fVar, fC, fMov, fFrz, fD, startE, M.isD, M.toD, M.toDs, M.toB, fIxO, isO, sIxO, atI, ixN, g2, g2m, fOf, PL.g1, g1m, g22, fCons, fNil, fIo, fCall, PL.fill, putb, M.argOf, M.hole, ownS, fin, finals, tNotT, tAndT, tOrT, fAnd, fOr, fNot, fIf, fChain, fPl, getP, setP, M.cell, M.setCell, M.sub, M.fld, fldI, sPut, M.setF, M.put, sAug, gPut, gTu, PL.gCons, gsNil, sAsg, sPar, fMethO, fMeth, fMake, appF, fLenO, sAppP, sApp, fLc, wipeB, tTrue, lAny, lRng, gNm, PL.gLst, PL.gTup, M.datas, fUnD, fMethK, fMake2, fProp, sExt, fPopP, gC, gInt, gInt0, gMod, gDiv, PL.gSub, gAdd, gMul, gLt, gLe, gGt, gGe, gToInt, gAbs, gMax, gMin, gLen, gIsN, gTupOf, gLstOf, bF, tPeek, fPeek, gEq_ss, gNe_ss, gEq_ii, gNe_ii, ok_take, ok_least, ok_last, ok_show, ok_ask, ok_put, ok_look, ok_alter, ok_back, ok_pay, ok_price, ok_again, gIsi, tyN, isiB, gDIn, gDGet, D.key, hi, hd]
end Lw

namespace Lw
open PySem PySem.Spec PyProof.Rows L2 PL
/-! ### two shops alike -/
def standD (s : Sh) (a : Int) : List D := [.lst (s.cart.ls.map lineD), .int s.cart.sp, .int (worth s.cart.ls), .int s.cart.ta, .int s.story.length, .int a, .tup (s.cart.rs.map ruleD)]
theorem lineD_toDs (ls : List Lk) : M.toDs (ls.map fun l => M.d (lineD l)) = ls.map lineD := by
  rw [toDs_map, List.map_map]; rfl
theorem forL_nx {g : Gv} {body : Sv} {d : D} {ds : List D} {b b1 b2 : List B} {r : Option (PL.R × List B)} (h1 : g d b = some b1) (h2 : body b1 = some (.nx, b2)) (h3 : forL g body ds b2 = r) : forL g body (d :: ds) b = r := by
  unfold forL
  rw [h1]
  simp only [h2]
  exact h3
theorem forL_nil {g : Gv} {body : Sv} {b : List B} : forL g body [] b = some (.nx, b) := rfl
theorem sFor_ok {l : Lv} {g : Gv} {body : Sv} {b b1 : List B} {ds : List D} {r : Option (PL.R × List B)} (h1 : l b = some (ds, b1)) (h2 : forL g body ds b1 = r) : sFor l g body b = r := by
  unfold sFor
  rw [h1]
  exact h2
theorem fnF_rt {np nl : Nat} {g : Sv} {ms os : List M} {b : List B} {m : M} (h : ms.length = np) (hg : g (startE ms 0 ++ List.replicate nl .no) = some (.rt m, b)) (hf : finals ms 0 b = some os) : fnF np nl g ms = some (m, os) := by
  unfold fnF
  rw [if_pos h, hg]
  simp only [fin, hf]
theorem fnF_nx {np nl : Nat} {g : Sv} {ms os : List M} {b : List B} (h : ms.length = np) (hg : g (startE ms 0 ++ List.replicate nl .no) = some (.nx, b)) (hf : finals ms 0 b = some os) : fnF np nl g ms = some (.d .non, os) := by
  unfold fnF
  rw [if_pos h, hg]
  simp only [fin, hf]
theorem sSeq_nx {g1 g2 : Sv} {b b1 : List B} {r : Option (PL.R × List B)} (h1 : g1 b = some (.nx, b1)) (h2 : g2 b1 = r) : sSeq g1 g2 b = r := by
  unfold sSeq
  rw [h1]
  exact h2
theorem sRet_ok {f : Ev} {b b' : List B} {m : M} (h : f b = some (m, b')) : sRet f b = some (.rt m, b') := by
  unfold sRet
  rw [h]
theorem fOf_ok {g : List M → Option M} {fs : Av} {b b1 : List B} {ms : List M} {m : M} (h : fs b = some (ms, b1)) (hg : g ms = some m) : fOf g fs b = some (m, b1) := by
  unfold fOf
  rw [h]
  simp only [hg]
theorem fCons_ok {f : Ev} {fs : Av} {b : List B} {m : M} {ms : List M} (h1 : f b = some (m, b)) (h2 : fs b = some (ms, b)) : fCons f fs b = some (m :: ms, b) := by
  unfold fCons
  rw [h1]
  simp only [h2]
theorem fNil_ok (b : List B) : fNil b = some ([], b) := rfl
theorem gLenI_ok {C : Str} {F : Fn} {ns : List Str} {ds : List D} {n : Nat} (h : F [.d (.obj C ns ds)] = some (.d (.int n), [])) (hn : n < 1000) : gLenI C F [.d (.obj C ns ds)] = some (.d (.int n)) := by
  unfold gLenI
  have q : (0 : Int) ≤ n ∧ (n : Int) < 1000000000 := ⟨by omega, by omega⟩
  simp only [if_true, h, if_pos q]
theorem p_stand {s : Sh} (hc : CtOk s.cart) {x : Str} {a : Int} (ha : amT s.cart.am x = some a) (hs : s.story.length < 1000) : F_law_stand [.d s.d, .d (.str x)] = some (.lst ((standD s a).map .d), []) := by
  have hk : ∀ l ∈ s.cart.ls, BigI l.kept := fun l hl => (hc.lk l hl).big
  have h1 := p_lines s hc.l6
  have h2 := p_paid s
  have h3 := p_total s hc.l6 hk
  have h4 := p_asked s
  have h5 := p_len s hs
  have h6 := p_price s ha
  have h7 := p_rules s.cart.rs
  have h8 := p_shop_book s
  have e := lineD_toDs s.cart.ls
  have h9 : gLenI "Shop" F_Shop__len [.d s.d] = some (.d (.int s.story.length)) := by
    rw [s.dEq] at h5 ⊢
    exact gLenI_ok h5 hs
  clear h5
  have sd := s.dEq
  have bd : bookD s.cart.rs = .obj "Book" ["row"] [.tup (s.cart.rs.map ruleD)] := rfl
  rw [bd] at h7 h8 sd
  generalize s.d = D0 at *
  subst sd
  unfold F_law_stand g_law_stand
  generalize gLenI "Shop" F_Shop__len = gl at *
  refine fnF_rt rfl (sRet_ok (fOf_ok (fCons_ok (m := .d (.lst (s.cart.ls.map lineD))) ?_ (fCons_ok (m := .d (.int s.cart.sp)) ?_ (fCons_ok (m := .d (.int (worth s.cart.ls))) ?_ (fCons_ok (m := .d (.int s.cart.ta)) ?_ (fCons_ok (m := .d (.int s.story.length)) ?_ (fCons_ok (m := .d (.int a)) ?_ (fCons_ok (m := .d (.tup (s.cart.rs.map ruleD))) ?_ (fNil_ok _)))))))) rfl)) rfl
  all_goals simp only [startE, M.isD, if_true, M.toD, List.replicate, List.append_nil]
  all_goals first | exact fOf_ok (fCons_ok (m := .d _) rfl (fNil_ok _)) h9 | simp (config := {decide := true}) [fnF, sRet, sRetN, sSeq, sIf, sSet, sPass, sFrz, sDrop, fT, fOp, fVar, fC, fMov, fFrz, fD, startE, M.toD, M.toDs, M.toB, fIxO, isO, sIxO, atI, ixN, g2, g2m, fOf, PL.g1, g1m, g22, fCons, fNil, fIo, fCall, PL.fill, putb, M.argOf, M.hole, ownS, fin, finals, tNotT, tAndT, tOrT, fAnd, fOr, fNot, fIf, fChain, fPl, getP, setP, M.cell, M.setCell, M.sub, M.fld, fldI, sPut, M.setF, M.put, sAug, gPut, gTu, PL.gCons, gsNil, sAsg, sPar, fMethO, fMeth, fMake, appF, fLenO, sAppP, sApp, fLc, wipeB, tTrue, lAny, lRng, gNm, PL.gLst, PL.gTup, M.datas, fUnD, fMethK, fMake2, fProp, sExt, fPopP, gC, gInt, gInt0, gMod, gDiv, PL.gSub, gAdd, gMul, gLt, gLe, gGt, gGe, gToInt, gAbs, gMax, gMin, gLen, gIsN, gTupOf, gLstOf, bF, tPeek, fPeek, gEq_ss, gNe_ss, gEq_ii, gNe_ii, ok_take, ok_least, ok_last, ok_show, ok_ask, ok_put, ok_look, ok_alter, ok_back, ok_pay, ok_price, ok_again, isDd, isDl, isDo, isDk, isDb, h1, h2, h3, h4, h6, h7, h8, e]
theorem fine_line {l : Lk} (h : okS l.item) (n : Nat) (hn : 1 ≤ n) : fineD n (lineD l) = true := by
  unfold okS at h
  have : ∀ k o, fineD k (oD o) = true := fun k o => by cases o <;> rfl
  simp [lineD, fineD, fineDs, h, hn, this]
theorem fine_told {l : Lk} (h : okS l.item) (n : Nat) (hn : 1 ≤ n) : fineD n (toldD l) = true := by
  unfold okS at h
  have : ∀ k o, fineD k (oD o) = true := fun k o => by cases o <;> rfl
  simp [toldD, fineD, fineDs, h, hn, this]
theorem fine_bought {l : Lk} (h : okS l.item) (n : Nat) (hn : 1 ≤ n) : fineD n (boughtD l) = true := by
  unfold okS at h
  simp [boughtD, fineD, fineDs, h, hn]
theorem fine_map {α : Type} (f : α → D) (n : Nat) (xs : List α) (h : ∀ x ∈ xs, fineD n (f x) = true) : fineDs n (xs.map f) = true := by
  rw [fines_all, List.all_map]
  exact List.all_eq_true.mpr fun x hx => h x hx
theorem fine_stand {s : Sh} (hc : CtOk s.cart) (a : Int) : fineD 60 (.lst (standD s a)) = true := by
  have h1 : fineDs 58 (s.cart.ls.map lineD) = true := fine_map _ _ _ fun l hl => fine_line (hc.items l hl) _ (by decide)
  have h2 : fineDs 58 (s.cart.rs.map ruleD) = true := fine_map _ _ _ fun r hr => fine_rule (hc.ro r hr) _ (by decide)
  simp [standD, fineD, fineDs, h1, h2]
structure RepOk (r : Rep) : Prop where
  ls : ∀ l ∈ r.ls, okS l.item
  names : ∀ x ∈ r.names, okS x
theorem fine_rep {r : Rep} (h : RepOk r) (n : Nat) (hn : 3 ≤ n) : fineD n r.d = true := by
  have h1 : fineDs (n - 1 - 1) (r.ls.map toldD) = true := fine_map _ _ _ fun l hl => fine_told (h.ls l hl) _ (by omega)
  have h2 : fineDs (n - 1 - 1) (r.names.map .str) = true := fine_strs _ _ h.names
  have h3 : fineDs (n - 1 - 1) (r.ls.map boughtD) = true := fine_map _ _ _ fun l hl => fine_bought (h.ls l hl) _ (by omega)
  have q1 : 1 ≤ n := by omega
  have q2 : 1 ≤ n - 1 := by omega
  unfold Rep.d
  cases r.paid <;> simp [fineD, fineDs, h1, h2, h3, q1, q2]
theorem fine_repO {r : Option Rep} (h : ∀ q, r = some q → RepOk q) (n : Nat) (hn : 3 ≤ n) : fineD n (repO r) = true := by
  cases r with
  | none => simp [repO, fineD]
  | some q => exact fine_rep (h q rfl) n hn
theorem go_names {am : List (Str × Int)} (rule : List Str) : ∀ (sel : List Nat) (ls : List Lk) (found : List Str) (ls2 : List Lk) (found2 : List Str), goT am rule sel ls found = some (ls2, found2) → (∀ l ∈ ls, okS l.item) → (∀ x ∈ found, okS x) → (∀ x ∈ found2, okS x)
  | [], ls, found, ls2, found2, h, _, hf => by
    simp only [goT, Option.some.injEq, Prod.mk.injEq] at h
    obtain ⟨_, rfl⟩ := h
    exact hf
  | i :: sel, ls, found, ls2, found2, h, hl, hf => by
    unfold goT at h
    split at h
    · rename_i l hli
      split at h
      · rename_i now hn
        have hlo := hl l (List.mem_of_getElem? hli)
        exact go_names rule sel _ _ ls2 found2 h (set_all (p := fun l : Lk => okS l.item) hl hlo) fun x hx => by
          rcases List.mem_append.mp hx with z | z
          · exact hf x z
          · rw [(List.mem_replicate.mp z).2]; exact hlo
      · cases h
    · cases h
theorem play_rep {c c' : Ct} (hc : CtOk c) {d : Dd} (hd : DdIn c d) {r : Option Rep} (e : playT c d = some (r, c')) : ∀ q, r = some q → RepOk q := by
  intro q hq
  subst hq
  have hm : d.mine = true := by
    cases d with
    | price x a => simp [playT] at e
    | _ => rfl
  obtain ⟨names, c1, h1, h2, h3⟩ := carry_some hc hd hm
  have e2 : playT c d = some (some (repT c1 d names).1, (repT c1 d names).2) := by
    unfold playT
    cases d <;> simp [Dd.mine] at hm <;> simp [h1]
  rw [e2] at e
  simp only [Option.some.injEq, Prod.mk.injEq] at e
  obtain ⟨rfl, _⟩ := e
  refine ⟨h2.items, ?_⟩
  obtain ⟨ls1, sel, t1, t2, t3, t4, t5⟩ := touch_some hc hd hm
  unfold carryT at h1
  rw [t1] at h1
  simp only at h1
  split at h1
  · rename_i ls2 found hg
    simp only [Option.some.injEq, Prod.mk.injEq] at h1
    obtain ⟨rfl, _⟩ := h1
    refine go_names _ sel ls1 [] ls2 found hg (fun l hl => ?_) (by simp)
    obtain ⟨a, ha⟩ := (t2 l hl).la
    exact hc.an _ ha
  · cases h1
theorem carryT_same {c c1 : Ct} {d : Dd} {names : List Str} (h : carryT c d = some (names, c1)) : c1.am = c.am ∧ c1.rs = c.rs ∧ c1.sp = c.sp := by
  unfold carryT at h
  split at h
  · split at h
    · simp only [Option.some.injEq, Prod.mk.injEq] at h
      obtain ⟨_, rfl⟩ := h
      exact ⟨rfl, rfl, rfl⟩
    · cases h
  · cases h
theorem repT_same (c : Ct) (d : Dd) (names : List Str) : (repT c d names).2.am = c.am ∧ (repT c d names).2.rs = c.rs := by
  unfold repT
  simp only
  split <;> exact ⟨rfl, rfl⟩
theorem play_am {c c' : Ct} {d : Dd} {r : Option Rep} (e : playT c d = some (r, c')) : c'.am = (match d with | .price x a => amPut c.am x a | _ => c.am) ∧ c'.rs = c.rs := by
  have mine : d.mine = true → c'.am = c.am ∧ c'.rs = c.rs := fun hm => by
    have : ∃ names c1, carryT c d = some (names, c1) ∧ c' = (repT c1 d names).2 := by
      unfold playT at e
      cases d <;> simp [Dd.mine] at hm <;> (
        simp only at e
        split at e
        · rename_i names c1 h1
          simp only [Option.some.injEq, Prod.mk.injEq] at e
          exact ⟨names, c1, h1, e.2.symm⟩
        · cases e)
    obtain ⟨names, c1, h1, rfl⟩ := this
    have a := carryT_same h1
    have b := repT_same c1 d names
    exact ⟨b.1.trans a.1, b.2.trans a.2.1⟩
  cases d with
  | price x a =>
    simp only [playT, Option.some.injEq, Prod.mk.injEq] at e
    obtain ⟨_, rfl⟩ := e
    exact ⟨rfl, rfl⟩
  | _ => exact mine rfl
end Lw

namespace Lw
open PySem PySem.Spec PyProof.Rows L2 PL
/-! ### calls by name and by position, for one item -/
structure GoodC (x : Str) (c : Ct) : Prop where
  ok : CtOk c
  am : ∃ a, c.am = [(x, a)]
theorem GoodC.amT {x : Str} {c : Ct} (h : GoodC x c) : ∃ a, Lw.amT c.am x = some a := by
  obtain ⟨a, ha⟩ := h.am
  exact ⟨a, by rw [ha]; simp [Lw.amT, List.lookup]⟩
structure GoodS (x : Str) (n : Nat) (s : Sh) : Prop where
  c : GoodC x s.cart
  st : s.story.length ≤ 2 * n
  pl : s.past.length ≤ n
  pg : ∀ p ∈ s.past, GoodC x p.1 ∧ p.2.length ≤ 2 * n
/-- deeds of this law, as deeds -/
theorem Deed.dd {x : Str} (hx : NameOk x) {d : D} (h : Deed x d) : ∃ e : Dd, d = e.d ∧ DeedOk e ∧ ∀ c, GoodC x c → DdIn c e ∧ ∀ r c', playT c e = some (r, c') → GoodC x c' := by
  have same : ∀ e : Dd, (∀ c, GoodC x c → DdIn c e) → (∀ y a, e = .price y a → y = x) → ∀ c, GoodC x c → DdIn c e ∧ ∀ r c', playT c e = some (r, c') → GoodC x c' := by
    intro e h1 h2 c hc
    refine ⟨h1 c hc, fun r c' hp => ?_⟩
    obtain ⟨r', c'', e1, e2, _⟩ := p_play hc.ok (h1 c hc)
    rw [hp] at e1
    cases e1
    refine ⟨e2, ?_⟩
    obtain ⟨a, ha⟩ := hc.am
    have := (play_am hp).1
    cases e with
    | price y b =>
      have := h2 y b rfl
      subst this
      simp only at this
      exact ⟨b, by rw [‹c'.am = _›, ha]; simp [amPut]⟩
    | _ => exact ⟨a, by rw [this, ha]⟩
  have ok := p_is_deed hx h
  cases h with
  | price a h0 h1 =>
    refine ⟨.price x a, rfl, ok, same _ (fun c hc => ?_) (fun y b e => by cases e; rfl)⟩
    obtain ⟨b, hb⟩ := hc.am
    exact ⟨⟨b, by rw [hb]; simp⟩, by unfold AmtOk; omega⟩
  | put a h0 h1 =>
    refine ⟨.put x a, rfl, ok, same _ (fun c hc => ?_) (fun y b e => by cases e)⟩
    obtain ⟨b, hb⟩ := hc.am
    exact ⟨b, by rw [hb]; simp⟩
  | look => exact ⟨.look, rfl, ok, same _ (fun c hc => trivial) (fun y b e => by cases e)⟩
  | back => exact ⟨.back, rfl, ok, same _ (fun c hc => trivial) (fun y b e => by cases e)⟩
  | pay b => exact ⟨.pay b, rfl, ok, same _ (fun c hc => trivial) (fun y b e => by cases e)⟩
theorem GoodS.next {x : Str} {n : Nat} {s : Sh} (h : GoodS x n s) {c : Ct} (hc : GoodC x c) {st : List Dd} (hs : st.length ≤ 2 * (n + 1)) : GoodS x (n + 1) (s.next c st) where
  c := hc
  st := hs
  pl := by simp only [Sh.next, List.length_append, List.length_cons, List.length_nil]; have := h.pl; omega
  pg := fun p hp => by
    rcases List.mem_append.mp hp with z | z
    · have := h.pg p z; exact ⟨this.1, by omega⟩
    · simp at z; subst z; exact ⟨h.c, by have := h.st; simp only; omega⟩
def plansD (p0 p1 : List (List Str)) : D := .lst [bookD p0, bookD p1]
def BookOk (rs : List (List Str)) : Prop := rs.length = 6 ∧ ∀ r ∈ rs, RuleOk r
theorem CtOk.rs {c : Ct} (h : CtOk c) {rs : List (List Str)} (hr : BookOk rs) : CtOk { c with rs := rs } :=
  ⟨hr.1, hr.2, h.nd, h.an, h.ab, h.a6, h.ln, h.la, h.lk, h.ls⟩
theorem reps_toDs (rs : List (Option Rep)) : M.toDs (rs.map fun r => M.d (repO r)) = rs.map repO := by
  rw [toDs_map, List.map_map]; rfl
theorem plays_reps {x : Str} : ∀ {ds : List Dd} {c c' : Ct} {rs : List (Option Rep)}, CtOk c → DdsIn c ds → playsT c ds = some (rs, c') → ∀ r ∈ rs, ∀ q, r = some q → RepOk q
  | [], c, c', rs, _, _, h => by
    simp only [playsT, Option.some.injEq, Prod.mk.injEq] at h
    obtain ⟨rfl, _⟩ := h
    simp
  | d :: ds, c, c', rs, hc, hd, h => by
    unfold playsT at h
    split at h
    · rename_i r c1 e1
      split at h
      · rename_i rs1 c2 e2
        cases h
        intro r' hr
        rcases List.mem_cons.mp hr with rfl | hr
        · exact play_rep hc hd.1 e1
        · obtain ⟨r0, c0, z1, z2, _⟩ := p_play hc hd.1
          rw [e1] at z1
          cases z1
          exact plays_reps (x := x) z2 (hd.2 _ _ e1) e2 r' hr
      · cases h
    · cases h
theorem p_called {n k : Nat} {J : M} {x : Str} {s : Sh} {p0 p1 : List (List Str)} (hJ : JarOk k J) (hk : k < 70000) (hx : NameOk x) (hs : GoodS x n s) (hn : n < 400) (h0 : BookOk p0) (h1 : BookOk p1) :
    ∃ (J' : M) (s' : Sh), F_law_called [J, s.m, s.m, .d (.str x), .d (plansD p0 p1)] = some (.d (.bl true), [J', s'.m, s'.m]) ∧ GoodS x (n + 1) s' ∧ JarOk (k + 7) J' ∧ ∃ c, s'.past = s.past ++ [c] := by
  obtain ⟨w, J1, a1, a2, a3, a4⟩ := p_draw hJ (by omega) (m := 5) (by decide) (by decide)
  have b0 := hJ.isD
  have b1 := a4.isD
  have sm : s.m = .obj "Shop" shopNm [.d s.cart.d, .d (storyD s.story), .lst (s.past.map fun p => .d (pastD p))] := rfl
  have smd : ∀ (c : Ct) (st : List Dd), (s.next c st).m.isD = false := fun _ _ => rfl
  have hst := hs.st
  have hpl := hs.pl
  by_cases hw : w < 2
  · obtain ⟨d, J2, c1, c2, c3⟩ := p_act x a4 (by omega)
    have b2 := c3.isD
    obtain ⟨e, rfl, e2, e3⟩ := c2.dd hx
    obtain ⟨f1, f2⟩ := e3 _ hs.c
    obtain ⟨r, c', u1, u2, u3⟩ := p_do hs.c.ok f1 e2 (by omega) (by omega)
    have hf : fineD 60 (repO r) = true := fine_repO (play_rep hs.c.ok f1 u1) 60 (by decide)
    have heq := gEq_fine hf
    have hsd := smd c' (s.story ++ [e])
    refine ⟨J2, s.next c' (s.story ++ [e]), ?_, hs.next (f2 _ _ u1) (by simp; omega), c3.mono (by omega), _, rfl⟩
    generalize (s.next c' (s.story ++ [e])).m = m9 at *
    generalize repO r = rp at *
    generalize plansD p0 p1 = pd at *
    generalize e.d = ed at *
    generalize s.m = m8 at *
    cases sm
    simp (config := {decide := true}) [F_law_called, g_law_called, fnF, sRet, sRetN, sSeq, sIf, sSet, sPass, sFrz, sDrop, fT, fOp, fVar, fC, fMov, fFrz, fD, startE, M.toD, M.toDs, M.toB, fIxO, isO, sIxO, atI, ixN, g2, g2m, fOf, PL.g1, g1m, g22, fCons, fNil, fIo, fCall, PL.fill, putb, M.argOf, M.hole, ownS, fin, finals, tNotT, tAndT, tOrT, fAnd, fOr, fNot, fIf, fChain, fPl, getP, setP, M.cell, M.setCell, M.sub, M.fld, fldI, sPut, M.setF, M.put, sAug, gPut, gTu, PL.gCons, gsNil, sAsg, sPar, fMethO, fMeth, fMake, appF, fLenO, sAppP, sApp, fLc, wipeB, tTrue, lAny, lRng, gNm, PL.gLst, PL.gTup, M.datas, fUnD, fMethK, fMake2, fProp, sExt, fPopP, gC, gInt, gInt0, gMod, gDiv, PL.gSub, gAdd, gMul, gLt, gLe, gGt, gGe, gToInt, gAbs, gMax, gMin, gLen, gIsN, gTupOf, gLstOf, bF, tPeek, fPeek, gEq_ss, gNe_ss, gEq_ii, gNe_ii, ok_take, ok_least, ok_last, ok_show, ok_ask, ok_put, ok_look, ok_alter, ok_back, ok_pay, ok_price, ok_again, isDd, isDl, isDo, isDk, isDb, a1, c1, u3, heq, b0, b1, b2, hw, hsd]
  · by_cases hw2 : w = 2
    · subst hw2
      obtain ⟨d, J2, c1, c2, c3⟩ := p_act x a4 (by omega)
      obtain ⟨d', J3, c1', c2', c3'⟩ := p_act x c3 (by omega)
      have b2 := c3.isD
      have b3 := c3'.isD
      obtain ⟨e, rfl, e2, e3⟩ := c2.dd hx
      obtain ⟨e', rfl, e2', e3'⟩ := c2'.dd hx
      obtain ⟨f1, f2⟩ := e3 _ hs.c
      have hin : DdsIn s.cart [e, e'] := ⟨f1, fun r c hp => ⟨(e3' _ (f2 r c hp)).1, fun _ _ _ => trivial⟩⟩
      obtain ⟨rs, c', u1, u2, u3, u4⟩ := p_do_all (ds := [e, e']) hs.c.ok hin (by simp; exact ⟨e2, e2'⟩) (by simp) (by omega) (by omega)
      have hgc : GoodC x c' := by
        unfold playsT at u1
        split at u1
        · rename_i r1 c1 z1
          split at u1
          · rename_i rs1 c2 z2
            cases u1
            unfold playsT at z2
            split at z2
            · rename_i r3 c3 z3
              simp only [playsT, Option.some.injEq, Prod.mk.injEq] at z2
              obtain ⟨_, rfl⟩ := z2
              exact (e3' _ (f2 _ _ z1)).2 _ _ z3
            · cases z2
          · cases u1
        · cases u1
      have hf : fineD 60 (.lst (rs.map repO)) = true := by
        have : fineDs 59 (rs.map repO) = true := fine_map _ _ _ fun r hr => fine_repO (plays_reps (x := x) hs.c.ok hin u1 r hr) _ (by decide)
        simp [fineD, this]
      have heq := gEq_fine hf
      have hrd := reps_toDs rs
      have hsd := smd c' (s.story ++ [e, e'])
      refine ⟨J3, s.next c' (s.story ++ [e, e']), ?_, hs.next hgc (by simp; omega), c3'.mono (by omega), _, rfl⟩
      have e5 : storyD [e, e'] = .lst [e.d, e'.d] := rfl
      rw [e5] at u4
      generalize (s.next c' (s.story ++ [e, e'])).m = m9 at *
      generalize plansD p0 p1 = pd at *
      generalize e.d = ed at *
      generalize e'.d = ed' at *
      generalize s.m = m8 at *
      cases sm
      simp (config := {decide := true}) [F_law_called, g_law_called, fnF, sRet, sRetN, sSeq, sIf, sSet, sPass, sFrz, sDrop, fT, fOp, fVar, fC, fMov, fFrz, fD, startE, M.toD, M.toDs, M.toB, fIxO, isO, sIxO, atI, ixN, g2, g2m, fOf, PL.g1, g1m, g22, fCons, fNil, fIo, fCall, PL.fill, putb, M.argOf, M.hole, ownS, fin, finals, tNotT, tAndT, tOrT, fAnd, fOr, fNot, fIf, fChain, fPl, getP, setP, M.cell, M.setCell, M.sub, M.fld, fldI, sPut, M.setF, M.put, sAug, gPut, gTu, PL.gCons, gsNil, sAsg, sPar, fMethO, fMeth, fMake, appF, fLenO, sAppP, sApp, fLc, wipeB, tTrue, lAny, lRng, gNm, PL.gLst, PL.gTup, M.datas, fUnD, fMethK, fMake2, fProp, sExt, fPopP, gC, gInt, gInt0, gMod, gDiv, PL.gSub, gAdd, gMul, gLt, gLe, gGt, gGe, gToInt, gAbs, gMax, gMin, gLen, gIsN, gTupOf, gLstOf, bF, tPeek, fPeek, gEq_ss, gNe_ss, gEq_ii, gNe_ii, ok_take, ok_least, ok_last, ok_show, ok_ask, ok_put, ok_look, ok_alter, ok_back, ok_pay, ok_price, ok_again, isDd, isDl, isDo, isDk, isDb, a1, c1, c1', u4, heq, b0, b1, b2, b3, hsd, hrd]
    · obtain ⟨v, J2, c1, c2, c3, c4⟩ := p_draw a4 (by omega) (m := 2) (by decide) (by decide)
      have b2 := c4.isD
      have hv : v = 0 ∨ v = 1 := by omega
      have hh : ∃ rs, BookOk rs ∧ gIx (plansD p0 p1) (.int v) = some (bookD rs) := by
        rcases hv with rfl | rfl
        · exact ⟨p0, h0, rfl⟩
        · exact ⟨p1, h1, rfl⟩
      obtain ⟨rs, hr, hix⟩ := hh
      have u4 := p_change hs.c.ok rs (by omega)
      have hgc : GoodC x { s.cart with rs := rs } := ⟨hs.c.ok.rs hr, hs.c.am⟩
      have hsd := smd { s.cart with rs := rs } s.story
      refine ⟨J2, s.next { s.cart with rs := rs } s.story, ?_, hs.next hgc (by omega), c4.mono (by omega), _, rfl⟩
      generalize (s.next { s.cart with rs := rs } s.story).m = m9 at *
      generalize plansD p0 p1 = pd at *
      generalize bookD rs = bk at *
      generalize s.m = m8 at *
      cases sm
      simp (config := {decide := true}) [F_law_called, g_law_called, fnF, sRet, sRetN, sSeq, sIf, sSet, sPass, sFrz, sDrop, fT, fOp, fVar, fC, fMov, fFrz, fD, startE, M.toD, M.toDs, M.toB, fIxO, isO, sIxO, atI, ixN, g2, g2m, fOf, PL.g1, g1m, g22, fCons, fNil, fIo, fCall, PL.fill, putb, M.argOf, M.hole, ownS, fin, finals, tNotT, tAndT, tOrT, fAnd, fOr, fNot, fIf, fChain, fPl, getP, setP, M.cell, M.setCell, M.sub, M.fld, fldI, sPut, M.setF, M.put, sAug, gPut, gTu, PL.gCons, gsNil, sAsg, sPar, fMethO, fMeth, fMake, appF, fLenO, sAppP, sApp, fLc, wipeB, tTrue, lAny, lRng, gNm, PL.gLst, PL.gTup, M.datas, fUnD, fMethK, fMake2, fProp, sExt, fPopP, gC, gInt, gInt0, gMod, gDiv, PL.gSub, gAdd, gMul, gLt, gLe, gGt, gGe, gToInt, gAbs, gMax, gMin, gLen, gIsN, gTupOf, gLstOf, bF, tPeek, fPeek, gEq_ss, gNe_ss, gEq_ii, gNe_ii, ok_take, ok_least, ok_last, ok_show, ok_ask, ok_put, ok_look, ok_alter, ok_back, ok_pay, ok_price, ok_again, isDd, isDl, isDo, isDk, isDb, a1, c1, u4, b0, b1, b2, hw, hw2, hsd, hix]
end Lw

namespace Lw
open PySem PySem.Spec PyProof.Rows L2 PL
/-! ### the law of calls by name -/
def bodyTu : Sv := (sSeq (sIf (tNotT (fT (fD (fCall F_law_called [] [some 0, some 5, some 6, none, none] (fIo 0 (fIo 5 (fIo 6 (fCons (fVar 1) (fCons (fFrz 2) fNil))))))))) (sRet (fC (.bl false))) sPass) (sSeq (sIf (tOrT (tPeek (fT (fOp (g2 gNe) (fD (fCall F_law_stand [] [none, none] (fCons (fFrz 5) (fCons (fVar 1) fNil)))) (fD (fCall F_law_stand [] [none, none] (fCons (fFrz 6) (fCons (fVar 1) fNil))))))) (tPeek (fT (fOp (g2 gNe) (fD (fMethK "Shop" "price" F_Shop_price 5 (fVar 1))) (fD (fMethO "Shop" "price" F_Shop_price [] 6 [none] (fCons (fVar 1) fNil))))))) (sRet (fC (.bl false))) sPass) (sIf (fT (fOp (g2 gEq) (fD (fCall F_law_draw [] [some 0, none] (fIo 0 (fCons (fC (.int 4)) fNil)))) (fC (.int 0)))) (sSeq (sDrop (fMethO "Shop" "undo" F_Shop_undo [] 5 [] fNil)) (sSeq (sDrop (fMethO "Shop" "undo" F_Shop_undo [] 6 [] fNil)) (sIf (tPeek (fT (fOp (g2 gNe) (fD (fCall F_law_stand [] [none, none] (fCons (fFrz 5) (fCons (fVar 1) fNil)))) (fD (fCall F_law_stand [] [none, none] (fCons (fFrz 6) (fCons (fVar 1) fNil))))))) (sRet (fC (.bl false))) sPass))) sPass)))
def stT (J : M) (x : Str) (P : B) (d3 : B) (st : D) (s : Sh) (t : B) (d8 : B) : List B := [.o (some 0) J, .d (.str x), P, d3, .d st, .o none s.m, .o none s.m, t, d8]
def standLM (s : Sh) (a : Int) : List M := (standD s a).map .d
theorem stand_ne {s : Sh} (hc : CtOk s.cart) (a : Int) : gNe (.lst (standD s a)) (.lst (standD s a)) = some (.bl false) := gNe_fine (fine_stand hc a)
/-- the looks at both shops -/
theorem looks_eq {J : M} (hJ : J.isD = false) {x : Str} {P : B} {d3 : B} {st : D} {s : Sh} {t d8 : B} {a : Int} (hc : CtOk s.cart) (ha : amT s.cart.am x = some a) (hs : s.story.length < 1000) :
    tPeek (fT (fOp (g2 gNe) (fD (fCall F_law_stand [] [none, none] (fCons (fFrz 5) (fCons (fVar 1) fNil)))) (fD (fCall F_law_stand [] [none, none] (fCons (fFrz 6) (fCons (fVar 1) fNil)))))) (stT J x P d3 st s t d8) = some (false, stT J x P d3 st s t d8) := by
  have h1 := p_stand hc ha hs
  have h2 := stand_ne hc a
  have h3 : M.toDs ((standD s a).map M.d) = standD s a := toDs_d _
  have td := s.toD
  have sm : s.m = .obj "Shop" shopNm [.d s.cart.d, .d (storyD s.story), .lst (s.past.map fun p => .d (pastD p))] := rfl
  unfold tPeek stT
  have e5 : bF (.o none s.m) = .d s.d := by rw [← td]; rfl
  obtain ⟨b0, hb0⟩ : ∃ b, b = bF (.o (some 0) J) := ⟨_, rfl⟩
  obtain ⟨b2, hb2⟩ : ∃ b, b = bF P := ⟨_, rfl⟩
  obtain ⟨b3, hb3⟩ : ∃ b, b = bF d3 := ⟨_, rfl⟩
  obtain ⟨b7, hb7⟩ : ∃ b, b = bF t := ⟨_, rfl⟩
  obtain ⟨b8, hb8⟩ : ∃ b, b = bF d8 := ⟨_, rfl⟩
  simp only [List.map_cons, List.map_nil, e5, ← hb0, ← hb2, ← hb3, ← hb7, ← hb8]
  generalize s.d = sd at *
  generalize standD s a = sl at *
  simp (config := {decide := true}) [fnF, sRet, sRetN, sSeq, sIf, sSet, sPass, sFrz, sDrop, fT, fOp, fVar, fC, fMov, fFrz, fD, startE, M.toD, M.toDs, M.toB, fIxO, isO, sIxO, atI, ixN, g2, g2m, fOf, PL.g1, g1m, g22, fCons, fNil, fIo, fCall, PL.fill, putb, M.argOf, M.hole, ownS, fin, finals, tNotT, tAndT, tOrT, fAnd, fOr, fNot, fIf, fChain, fPl, getP, setP, M.cell, M.setCell, M.sub, M.fld, fldI, sPut, M.setF, M.put, sAug, gPut, gTu, PL.gCons, gsNil, sAsg, sPar, fMethO, fMeth, fMake, appF, fLenO, sAppP, sApp, fLc, wipeB, tTrue, lAny, lRng, gNm, PL.gLst, PL.gTup, M.datas, fUnD, fMethK, fMake2, fProp, sExt, fPopP, gC, gInt, gInt0, gMod, gDiv, PL.gSub, gAdd, gMul, gLt, gLe, gGt, gGe, gToInt, gAbs, gMax, gMin, gLen, gIsN, gTupOf, gLstOf, bF, tPeek, fPeek, gEq_ss, gNe_ss, gEq_ii, gNe_ii, ok_take, ok_least, ok_last, ok_show, ok_ask, ok_put, ok_look, ok_alter, ok_back, ok_pay, ok_price, ok_again, isDd, isDl, isDo, isDk, isDb, h1, h2, h3]
theorem price_eq {J : M} (hJ : J.isD = false) {x : Str} {P : B} {d3 : B} {st : D} {s : Sh} {t d8 : B} {a : Int} (ha : amT s.cart.am x = some a) :
    tPeek (fT (fOp (g2 gNe) (fD (fMethK "Shop" "price" F_Shop_price 5 (fVar 1))) (fD (fMethO "Shop" "price" F_Shop_price [] 6 [none] (fCons (fVar 1) fNil))))) (stT J x P d3 st s t d8) = some (false, stT J x P d3 st s t d8) := by
  have h1 := p_price s ha
  have td := s.toD
  unfold tPeek stT
  have e5 : bF (.o none s.m) = .d s.d := by rw [← td]; rfl
  have sd := s.dEq
  obtain ⟨b0, hb0⟩ : ∃ b, b = bF (.o (some 0) J) := ⟨_, rfl⟩
  obtain ⟨b2, hb2⟩ : ∃ b, b = bF P := ⟨_, rfl⟩
  obtain ⟨b3, hb3⟩ : ∃ b, b = bF d3 := ⟨_, rfl⟩
  obtain ⟨b7, hb7⟩ : ∃ b, b = bF t := ⟨_, rfl⟩
  obtain ⟨b8, hb8⟩ : ∃ b, b = bF d8 := ⟨_, rfl⟩
  simp only [List.map_cons, List.map_nil, e5, ← hb0, ← hb2, ← hb3, ← hb7, ← hb8]
  generalize s.d = sd at *
  subst sd
  simp (config := {decide := true}) [fnF, sRet, sRetN, sSeq, sIf, sSet, sPass, sFrz, sDrop, fT, fOp, fVar, fC, fMov, fFrz, fD, startE, M.toD, M.toDs, M.toB, fIxO, isO, sIxO, atI, ixN, g2, g2m, fOf, PL.g1, g1m, g22, fCons, fNil, fIo, fCall, PL.fill, putb, M.argOf, M.hole, ownS, fin, finals, tNotT, tAndT, tOrT, fAnd, fOr, fNot, fIf, fChain, fPl, getP, setP, M.cell, M.setCell, M.sub, M.fld, fldI, sPut, M.setF, M.put, sAug, gPut, gTu, PL.gCons, gsNil, sAsg, sPar, fMethO, fMeth, fMake, appF, fLenO, sAppP, sApp, fLc, wipeB, tTrue, lAny, lRng, gNm, PL.gLst, PL.gTup, M.datas, fUnD, fMethK, fMake2, fProp, sExt, fPopP, gC, gInt, gInt0, gMod, gDiv, PL.gSub, gAdd, gMul, gLt, gLe, gGt, gGe, gToInt, gAbs, gMax, gMin, gLen, gIsN, gTupOf, gLstOf, bF, tPeek, fPeek, gEq_ss, gNe_ss, gEq_ii, gNe_ii, ok_take, ok_least, ok_last, ok_show, ok_ask, ok_put, ok_look, ok_alter, ok_back, ok_pay, ok_price, ok_again, isDd, isDl, isDo, isDk, isDb, h1]
theorem p_turn {n k : Nat} {J : M} {x : Str} {s : Sh} {p0 p1 : List (List Str)} {P d3 t d8 : B} {st : D} (hP : fFrz 2 (stT J x P d3 st s t d8) = some (.d (plansD p0 p1), stT J x (.d (plansD p0 p1)) d3 st s t d8)) (hJ : JarOk k J) (hk : k < 60000) (hx : NameOk x) (hs : GoodS x n s) (hn : n < 400) (h0 : BookOk p0) (h1 : BookOk p1) :
    ∃ (J' : M) (s' : Sh), bodyTu (stT J x P d3 st s t d8) = some (.nx, stT J' x (.d (plansD p0 p1)) d3 st s' t d8) ∧ GoodS x (n + 1) s' ∧ JarOk (k + 8) J' := by
  obtain ⟨J1, s1, a1, a2, a3, ⟨c0, st0⟩, a4⟩ := p_called hJ (by omega) hx hs hn h0 h1
  obtain ⟨am, ham⟩ := a2.c.amT
  have hst := a2.st
  have e1 := looks_eq (P := .d (plansD p0 p1)) (d3 := d3) (st := st) (t := t) (d8 := d8) a3.isD a2.c.ok ham (by omega)
  have e2 := price_eq (P := .d (plansD p0 p1)) (d3 := d3) (st := st) (t := t) (d8 := d8) a3.isD ham
  obtain ⟨v, J2, b1, b2, b3, b4⟩ := p_draw a3 (by omega) (m := 4) (by decide) (by decide)
  have hj0 := hJ.isD
  have hj1 := a3.isD
  have hj2 := b4.isD
  have sm : s.m = .obj "Shop" shopNm [.d s.cart.d, .d (storyD s.story), .lst (s.past.map fun p => .d (pastD p))] := rfl
  have sm1 : s1.m = .obj "Shop" shopNm [.d s1.cart.d, .d (storyD s1.story), .lst (s1.past.map fun p => .d (pastD p))] := rfl
  have f1 : sIf (tNotT (fT (fD (fCall F_law_called [] [some 0, some 5, some 6, none, none] (fIo 0 (fIo 5 (fIo 6 (fCons (fVar 1) (fCons (fFrz 2) fNil))))))))) (sRet (fC (.bl false))) sPass (stT J x P d3 st s t d8) = some (.nx, stT J1 x (.d (plansD p0 p1)) d3 st s1 t d8) := by
    unfold stT at hP ⊢
    generalize plansD p0 p1 = pd at *
    generalize s.m = m0 at *
    cases sm
    generalize s1.m = m1 at *
    cases sm1
    simp only [sIf, tNotT, fT, fD, fCall, fIo, List.getElem?_cons_zero, List.getElem?_cons_succ, fCons, fVar, hP, fNil]
    simp (config := {decide := true}) [fnF, sRet, sRetN, sSeq, sIf, sSet, sPass, sFrz, sDrop, fT, fOp, fVar, fC, fMov, fFrz, fD, startE, M.toD, M.toDs, M.toB, fIxO, isO, sIxO, atI, ixN, g2, g2m, fOf, PL.g1, g1m, g22, fCons, fNil, fIo, fCall, PL.fill, putb, M.argOf, M.hole, ownS, fin, finals, tNotT, tAndT, tOrT, fAnd, fOr, fNot, fIf, fChain, fPl, getP, setP, M.cell, M.setCell, M.sub, M.fld, fldI, sPut, M.setF, M.put, sAug, gPut, gTu, PL.gCons, gsNil, sAsg, sPar, fMethO, fMeth, fMake, appF, fLenO, sAppP, sApp, fLc, wipeB, tTrue, lAny, lRng, gNm, PL.gLst, PL.gTup, M.datas, fUnD, fMethK, fMake2, fProp, sExt, fPopP, gC, gInt, gInt0, gMod, gDiv, PL.gSub, gAdd, gMul, gLt, gLe, gGt, gGe, gToInt, gAbs, gMax, gMin, gLen, gIsN, gTupOf, gLstOf, bF, tPeek, fPeek, gEq_ss, gNe_ss, gEq_ii, gNe_ii, ok_take, ok_least, ok_last, ok_show, ok_ask, ok_put, ok_look, ok_alter, ok_back, ok_pay, ok_price, ok_again, isDd, isDl, isDo, isDk, isDb, a1, hj0, hj1]
  have f2 : sIf (tOrT (tPeek (fT (fOp (g2 gNe) (fD (fCall F_law_stand [] [none, none] (fCons (fFrz 5) (fCons (fVar 1) fNil)))) (fD (fCall F_law_stand [] [none, none] (fCons (fFrz 6) (fCons (fVar 1) fNil))))))) (tPeek (fT (fOp (g2 gNe) (fD (fMethK "Shop" "price" F_Shop_price 5 (fVar 1))) (fD (fMethO "Shop" "price" F_Shop_price [] 6 [none] (fCons (fVar 1) fNil))))))) (sRet (fC (.bl false))) sPass (stT J1 x (.d (plansD p0 p1)) d3 st s1 t d8) = some (.nx, stT J1 x (.d (plansD p0 p1)) d3 st s1 t d8) := by
    simp only [sIf, tOrT, e1, e2, sPass]
  have f3 : ∀ s' : Sh, fT (fOp (g2 gEq) (fD (fCall F_law_draw [] [some 0, none] (fIo 0 (fCons (fC (.int 4)) fNil)))) (fC (.int 0))) (stT J1 x (.d (plansD p0 p1)) d3 st s' t d8) = some (decide (v = 0), stT J2 x (.d (plansD p0 p1)) d3 st s' t d8) := by
    intro s'
    unfold stT
    simp (config := {decide := true}) [fnF, sRet, sRetN, sSeq, sIf, sSet, sPass, sFrz, sDrop, fT, fOp, fVar, fC, fMov, fFrz, fD, startE, M.toD, M.toDs, M.toB, fIxO, isO, sIxO, atI, ixN, g2, g2m, fOf, PL.g1, g1m, g22, fCons, fNil, fIo, fCall, PL.fill, putb, M.argOf, M.hole, ownS, fin, finals, tNotT, tAndT, tOrT, fAnd, fOr, fNot, fIf, fChain, fPl, getP, setP, M.cell, M.setCell, M.sub, M.fld, fldI, sPut, M.setF, M.put, sAug, gPut, gTu, PL.gCons, gsNil, sAsg, sPar, fMethO, fMeth, fMake, appF, fLenO, sAppP, sApp, fLc, wipeB, tTrue, lAny, lRng, gNm, PL.gLst, PL.gTup, M.datas, fUnD, fMethK, fMake2, fProp, sExt, fPopP, gC, gInt, gInt0, gMod, gDiv, PL.gSub, gAdd, gMul, gLt, gLe, gGt, gGe, gToInt, gAbs, gMax, gMin, gLen, gIsN, gTupOf, gLstOf, bF, tPeek, fPeek, gEq_ss, gNe_ss, gEq_ii, gNe_ii, ok_take, ok_least, ok_last, ok_show, ok_ask, ok_put, ok_look, ok_alter, ok_back, ok_pay, ok_price, ok_again, isDd, isDl, isDo, isDk, isDb, b1, hj1, hj2]
  by_cases hv : v = 0
  · have hp0 := a2.pg (c0, st0) (by rw [a4]; simp)
    let s2 : Sh := ⟨c0, st0, s.past⟩
    have es : s1 = ⟨s1.cart, s1.story, s.past ++ [(c0, st0)]⟩ := by rw [← a4]
    have hu : F_Shop_undo [s1.m] = some (.d .non, [s2.m]) := by
      rw [es]
      exact p_undo
    have hg2 : GoodS x (n + 1) s2 := ⟨hp0.1, hp0.2, by have := hs.pl; show s.past.length ≤ n + 1; omega, fun p hp => a2.pg p (by rw [a4]; exact List.mem_append_left _ hp)⟩
    obtain ⟨am2, ham2⟩ := hg2.c.amT
    have e3 := looks_eq (P := .d (plansD p0 p1)) (d3 := d3) (st := st) (t := t) (d8 := d8) hj2 hg2.c.ok ham2 (by have := hg2.st; omega)
    have sm2 : s2.m = .obj "Shop" shopNm [.d s2.cart.d, .d (storyD s2.story), .lst (s2.past.map fun p => .d (pastD p))] := rfl
    refine ⟨J2, s2, ?_, hg2, b4⟩
    unfold bodyTu
    refine sSeq_nx f1 (sSeq_nx f2 ?_)
    rw [sIf, f3]
    simp only [hv, decide_true]
    have q : ∀ m5 : M, m5.isD = false → fMethO "Shop" "undo" F_Shop_undo [] 5 [] fNil [.o (some 0) J2, .d (.str x), .d (plansD p0 p1), d3, .d st, .o none s1.m, .o none m5, t, d8] = some (.d .non, [.o (some 0) J2, .d (.str x), .d (plansD p0 p1), d3, .d st, .o none s2.m, .o none m5, t, d8]) := by
      intro m5 hm5
      generalize s1.m = m1 at *
      cases sm1
      generalize s2.m = m2 at *
      cases sm2
      simp (config := {decide := true}) [fnF, sRet, sRetN, sSeq, sIf, sSet, sPass, sFrz, sDrop, fT, fOp, fVar, fC, fMov, fFrz, fD, startE, M.toD, M.toDs, M.toB, fIxO, isO, sIxO, atI, ixN, g2, g2m, fOf, PL.g1, g1m, g22, fCons, fNil, fIo, fCall, PL.fill, putb, M.argOf, M.hole, ownS, fin, finals, tNotT, tAndT, tOrT, fAnd, fOr, fNot, fIf, fChain, fPl, getP, setP, M.cell, M.setCell, M.sub, M.fld, fldI, sPut, M.setF, M.put, sAug, gPut, gTu, PL.gCons, gsNil, sAsg, sPar, fMethO, fMeth, fMake, appF, fLenO, sAppP, sApp, fLc, wipeB, tTrue, lAny, lRng, gNm, PL.gLst, PL.gTup, M.datas, fUnD, fMethK, fMake2, fProp, sExt, fPopP, gC, gInt, gInt0, gMod, gDiv, PL.gSub, gAdd, gMul, gLt, gLe, gGt, gGe, gToInt, gAbs, gMax, gMin, gLen, gIsN, gTupOf, gLstOf, bF, tPeek, fPeek, gEq_ss, gNe_ss, gEq_ii, gNe_ii, ok_take, ok_least, ok_last, ok_show, ok_ask, ok_put, ok_look, ok_alter, ok_back, ok_pay, ok_price, ok_again, isDd, isDl, isDo, isDk, isDb, hu]
    have q2 : fMethO "Shop" "undo" F_Shop_undo [] 6 [] fNil [.o (some 0) J2, .d (.str x), .d (plansD p0 p1), d3, .d st, .o none s2.m, .o none s1.m, t, d8] = some (.d .non, [.o (some 0) J2, .d (.str x), .d (plansD p0 p1), d3, .d st, .o none s2.m, .o none s2.m, t, d8]) := by
      generalize s1.m = m1 at *
      cases sm1
      generalize s2.m = m2 at *
      cases sm2
      simp (config := {decide := true}) [fnF, sRet, sRetN, sSeq, sIf, sSet, sPass, sFrz, sDrop, fT, fOp, fVar, fC, fMov, fFrz, fD, startE, M.toD, M.toDs, M.toB, fIxO, isO, sIxO, atI, ixN, g2, g2m, fOf, PL.g1, g1m, g22, fCons, fNil, fIo, fCall, PL.fill, putb, M.argOf, M.hole, ownS, fin, finals, tNotT, tAndT, tOrT, fAnd, fOr, fNot, fIf, fChain, fPl, getP, setP, M.cell, M.setCell, M.sub, M.fld, fldI, sPut, M.setF, M.put, sAug, gPut, gTu, PL.gCons, gsNil, sAsg, sPar, fMethO, fMeth, fMake, appF, fLenO, sAppP, sApp, fLc, wipeB, tTrue, lAny, lRng, gNm, PL.gLst, PL.gTup, M.datas, fUnD, fMethK, fMake2, fProp, sExt, fPopP, gC, gInt, gInt0, gMod, gDiv, PL.gSub, gAdd, gMul, gLt, gLe, gGt, gGe, gToInt, gAbs, gMax, gMin, gLen, gIsN, gTupOf, gLstOf, bF, tPeek, fPeek, gEq_ss, gNe_ss, gEq_ii, gNe_ii, ok_take, ok_least, ok_last, ok_show, ok_ask, ok_put, ok_look, ok_alter, ok_back, ok_pay, ok_price, ok_again, isDd, isDl, isDo, isDk, isDb, hu]
    refine sSeq_nx (b1 := [.o (some 0) J2, .d (.str x), .d (plansD p0 p1), d3, .d st, .o none s2.m, .o none s1.m, t, d8]) ?_ (sSeq_nx (b1 := stT J2 x (.d (plansD p0 p1)) d3 st s2 t d8) ?_ ?_)
    · unfold stT sDrop
      rw [q _ rfl]
    · unfold stT sDrop
      rw [q2]
    · simp only [sIf, e3, sPass]
  · refine ⟨J2, s1, ?_, a2, b4⟩
    unfold bodyTu
    refine sSeq_nx f1 (sSeq_nx f2 ?_)
    rw [sIf, f3]
    simp only [hv, decide_false, sPass]
end Lw

namespace Lw
open PySem PySem.Spec PyProof.Rows L2 PL
def PlansB (p0 p1 : List (List Str)) (P : B) : Prop := P = .d (plansD p0 p1) ∨ P = .o none (.lst [.d (bookD p0), .d (bookD p1)])
theorem turns {x : Str} {p0 p1 : List (List Str)} {d3 d8 : B} {st : D} (hx : NameOk x) (h0 : BookOk p0) (h1 : BookOk p1) : ∀ (ds : List D) (n k : Nat) (J : M) (s : Sh) (P t : B), PlansB p0 p1 P → JarOk k J → k + 8 * ds.length < 60000 → GoodS x n s → n + ds.length < 400 →
    ∃ (J' : M) (s' : Sh) (P' t' : B), forL (gNm 7) bodyTu ds (stT J x P d3 st s t d8) = some (.nx, stT J' x P' d3 st s' t' d8) ∧ JarOk (k + 8 * ds.length) J'
  | [], n, k, J, s, P, t, hP, hJ, _, hs, _ => ⟨J, s, P, t, rfl, hJ⟩
  | d :: ds, n, k, J, s, P, t, hP, hJ, hk, hs, hn => by
    simp only [List.length_cons] at hk hn
    have hP2 : fFrz 2 (stT J x P d3 st s (.d d) d8) = some (.d (plansD p0 p1), stT J x (.d (plansD p0 p1)) d3 st s (.d d) d8) := by
      rcases hP with rfl | rfl <;> rfl
    obtain ⟨J1, s1, q1, q2, q3⟩ := p_turn hP2 hJ (by omega) hx hs (by omega) h0 h1
    obtain ⟨J', s', P', t', w1, w2⟩ := turns hx h0 h1 ds (n + 1) (k + 8) J1 s1 (.d (plansD p0 p1)) (.d d) (.inl rfl) q3 (by omega) q2 (by omega)
    refine ⟨J', s', P', t', ?_, by simp only [List.length_cons]; exact w2.mono (by omega)⟩
    unfold forL
    have hg : gNm 7 d (stT J x P d3 st s t d8) = some (stT J x P d3 st s (.d d) d8) := rfl
    rw [hg]
    simp only [q1]
    exact w1
def bodyPl : Sv := (sSeq (sSet 8 (fD (fCall F_law_six [] [some 0] (fIo 0 fNil)))) (sApp 2 (fD (fMake "Book" F_Book__init [] [none, none, none, none, none, none] (fCons (fOp (g2 gIx) (fVar 8) (fC (.int 0))) (fCons (fOp (g2 gIx) (fVar 8) (fC (.int 1))) (fCons (fOp (g2 gIx) (fVar 8) (fC (.int 2))) (fCons (fOp (g2 gIx) (fVar 8) (fC (.int 3))) (fCons (fOp (g2 gIx) (fVar 8) (fC (.int 4))) (fCons (fOp (g2 gIx) (fVar 8) (fC (.int 5))) fNil))))))))))
theorem six_of {rs : List (List Str)} (h : rs.length = 6) : ∃ r1 r2 r3 r4 r5 r6, rs = [r1, r2, r3, r4, r5, r6] := by
  match rs, h with
  | [r1, r2, r3, r4, r5, r6], _ => exact ⟨r1, r2, r3, r4, r5, r6, rfl⟩
theorem p_plan {k : Nat} {J : M} (hJ : JarOk k J) (hk : k < 60000) (B1 B3 B4 B5 B6 B7 B8 : B) (ps : List M) (hp : ps.length < 1000) :
    ∃ (rs : List (List Str)) (J' : M) (B8' : B), BookOk rs ∧ JarOk (k + 60) J' ∧ bodyPl [.o (some 0) J, B1, .o none (.lst ps), B3, B4, B5, B6, B7, B8] = some (.nx, [.o (some 0) J', B1, .o none (.lst (ps ++ [.d (bookD rs)])), B3, B4, B5, B6, B7, B8']) := by
  obtain ⟨rs, J', h1, h2, h3, h4⟩ := p_six hJ (by omega)
  obtain ⟨r1, r2, r3, r4, r5, r6, rfl⟩ := six_of h2
  have h5 := p_book r1 r2 r3 r4 r5 r6 h3
  have e0 := hJ.isD
  have e1 := h4.isD
  have e2 : (bookM [r1, r2, r3, r4, r5, r6]).toD = bookD [r1, r2, r3, r4, r5, r6] := rfl
  have e3 : (bookM [r1, r2, r3, r4, r5, r6]).isD = false := rfl
  have hp2 : ps.length < 1000000 := by omega
  refine ⟨_, J', .d (.tup ([r1, r2, r3, r4, r5, r6].map ruleD)), ⟨h2, h3⟩, h4, ?_⟩
  generalize bookM [r1, r2, r3, r4, r5, r6] = bm at *
  generalize bookD [r1, r2, r3, r4, r5, r6] = bd at *
  simp only [List.map_cons, List.map_nil] at *
  generalize ruleD r1 = x1 at *
  generalize ruleD r2 = x2 at *
  generalize ruleD r3 = x3 at *
  generalize ruleD r4 = x4 at *
  generalize ruleD r5 = x5 at *
  generalize ruleD r6 = x6 at *
  simp (config := {decide := true}) [bodyPl, fnF, sRet, sRetN, sSeq, sIf, sSet, sPass, sFrz, sDrop, fT, fOp, fVar, fC, fMov, fFrz, fD, startE, M.toD, M.toDs, M.toB, fIxO, isO, sIxO, atI, ixN, g2, g2m, fOf, PL.g1, g1m, g22, fCons, fNil, fIo, fCall, PL.fill, putb, M.argOf, M.hole, ownS, fin, finals, tNotT, tAndT, tOrT, fAnd, fOr, fNot, fIf, fChain, fPl, getP, setP, M.cell, M.setCell, M.sub, M.fld, fldI, sPut, M.setF, M.put, sAug, gPut, gTu, PL.gCons, gsNil, sAsg, sPar, fMethO, fMeth, fMake, appF, fLenO, sAppP, sApp, fLc, wipeB, tTrue, lAny, lRng, gNm, PL.gLst, PL.gTup, M.datas, fUnD, fMethK, fMake2, fProp, sExt, fPopP, gC, gInt, gInt0, gMod, gDiv, PL.gSub, gAdd, gMul, gLt, gLe, gGt, gGe, gToInt, gAbs, gMax, gMin, gLen, gIsN, gTupOf, gLstOf, bF, tPeek, fPeek, gEq_ss, gNe_ss, gEq_ii, gNe_ii, ok_take, ok_least, ok_last, ok_show, ok_ask, ok_put, ok_look, ok_alter, ok_back, ok_pay, ok_price, ok_again, isDd, isDl, isDo, isDk, isDb, h1, h5, e0, e1, e2, e3, gIx, hp2]
theorem strL_chr (rs : List Nat) : D.strL (rs.map fun r => .str (chr r)) = some (rs.map chr) := by
  induction rs with
  | nil => rfl
  | cons r rs ih => simp [D.strL, ih]
theorem join_name {rs : List Nat} (h : rs.length ≤ 8) : gJoin (.str "") (.lst (rs.map fun r => .str (chr r))) = some (.str (nameS rs)) := by
  have h1 := strL_chr rs
  have h2 : ((rs.map chr).map (·.length)).sum = rs.length := by
    rw [List.map_map]
    clear h1 h
    induction rs with
    | nil => rfl
    | cons r rs ih =>
      simp only [List.map_cons, List.sum_cons, List.length_cons]
      rw [ih]
      show 1 + rs.length = _
      omega
  have h3 : Str.length "" = 0 := rfl
  unfold gJoin
  simp only [h1, h2, h3, join_chr]
  rw [if_pos (by omega)]
theorem chrs_toDs (rs : List Nat) : M.toDs (rs.map fun r => M.d (.str (chr r))) = rs.map fun r => .str (chr r) := by
  rw [toDs_map, List.map_map]; rfl
theorem price1_ok {x : Str} (hx : NameOk x) {a : Int} (h : AmtOk a) : PricesOk [(x, a)] := by
  have h1 := hx.item
  have h2 := p_is_amount a h.1 h.2
  have h3 : F_is_price [.d (.tup [.str x, .int a])] = some (.d (.bl true), []) := by
    simp (config := {decide := true}) [F_is_price, g_is_price, fnF, sRet, sRetN, sSeq, sIf, sSet, sPass, sFrz, sDrop, fT, fOp, fVar, fC, fMov, fFrz, fD, startE, M.toD, M.toDs, M.toB, fIxO, isO, sIxO, atI, ixN, g2, g2m, fOf, PL.g1, g1m, g22, fCons, fNil, fIo, fCall, PL.fill, putb, M.argOf, M.hole, ownS, fin, finals, tNotT, tAndT, tOrT, fAnd, fOr, fNot, fIf, fChain, fPl, getP, setP, M.cell, M.setCell, M.sub, M.fld, fldI, sPut, M.setF, M.put, sAug, gPut, gTu, PL.gCons, gsNil, sAsg, sPar, fMethO, fMeth, fMake, appF, fLenO, sAppP, sApp, fLc, wipeB, tTrue, lAny, lRng, gNm, PL.gLst, PL.gTup, M.datas, fUnD, fMethK, fMake2, fProp, sExt, fPopP, gC, gInt, gInt0, gMod, gDiv, PL.gSub, gAdd, gMul, gLt, gLe, gGt, gGe, gToInt, gAbs, gMax, gMin, gLen, gIsN, gTupOf, gLstOf, bF, tPeek, fPeek, gEq_ss, gNe_ss, gEq_ii, gNe_ii, ok_take, ok_least, ok_last, ok_show, ok_ask, ok_put, ok_look, ok_alter, ok_back, ok_pay, ok_price, ok_again, isDd, isDl, isDo, isDk, isDb, gIsi, tyN, isiB, gIx, h1, h2]
  unfold PricesOk pricesD
  generalize hp : D.tup [.str x, .int a] = pr at *
  have h4 : gIx pr (.int 0) = some (.str x) := by rw [← hp]; rfl
  have h5 : gAll (.lst [.bl true]) = some (.bl true) := rfl
  have h6 : gLenSet (.lst [.str x]) = some (.int 1) := rfl
  simp (config := {decide := true}) [F_are_prices, g_are_prices, fnF, sRet, sRetN, sSeq, sIf, sSet, sPass, sFrz, sDrop, fT, fOp, fVar, fC, fMov, fFrz, fD, startE, M.toD, M.toDs, M.toB, fIxO, isO, sIxO, atI, ixN, g2, g2m, fOf, PL.g1, g1m, g22, fCons, fNil, fIo, fCall, PL.fill, putb, M.argOf, M.hole, ownS, fin, finals, tNotT, tAndT, tOrT, fAnd, fOr, fNot, fIf, fChain, fPl, getP, setP, M.cell, M.setCell, M.sub, M.fld, fldI, sPut, M.setF, M.put, sAug, gPut, gTu, PL.gCons, gsNil, sAsg, sPar, fMethO, fMeth, fMake, appF, fLenO, sAppP, sApp, fLc, wipeB, tTrue, lAny, lRng, gNm, PL.gLst, PL.gTup, M.datas, fUnD, fMethK, fMake2, fProp, sExt, fPopP, gC, gInt, gInt0, gMod, gDiv, PL.gSub, gAdd, gMul, gLt, gLe, gGt, gGe, gToInt, gAbs, gMax, gMin, gLen, gIsN, gTupOf, gLstOf, bF, tPeek, fPeek, gEq_ss, gNe_ss, gEq_ii, gNe_ii, ok_take, ok_least, ok_last, ok_show, ok_ask, ok_put, ok_look, ok_alter, ok_back, ok_pay, ok_price, ok_again, isDd, isDl, isDo, isDk, isDb, lcL, gIsi, tyN, isiB, h3, h4, h5, h6, hp]
theorem p_right {J : M} (hJ : JarOk 0 J) : ∃ J', F_law_right [J] = some (.d (.bl true), [J']) := by
  obtain ⟨w, J1, a1, a2, a3, a4⟩ := p_draw hJ (by omega) (m := 8) (by decide) (by decide)
  have hw : (rngD 0 (1 + w).toNat).length = (1 + w).toNat := by simp [rngD]
  obtain ⟨rs, J2, b1, b2, b3, b4⟩ := p_name_loop .no .no .no (rngD 0 (1 + w).toNat) 1 J1 a4 (by rw [hw]; omega)
  rw [hw] at b2
  have b4 := b4.mono (k := 10) (by rw [hw]; omega)
  have hx : NameOk (nameS rs) := ⟨nameS_ok rs b3, p_is_item rs b3 (by omega) (by omega)⟩
  obtain ⟨p0, J3, B8, c1, c2, c3⟩ := p_plan b4 (by omega) (.d (.str (nameS rs))) (.d (.int 0)) .no .no .no .no .no [] (by simp)
  obtain ⟨p1, J4, B8', d1, d2, d3⟩ := p_plan c2 (by omega) (.d (.str (nameS rs))) (.d (.int 1)) .no .no .no .no B8 [.d (bookD p0)] (by simp)
  obtain ⟨am, J5, f1, f2, f3, f4⟩ := p_draw d2 (by omega) (m := 10 ^ 12 + 1) (by omega) (by omega)
  have hb : AmtOk am := by
    unfold AmtOk
    omega
  have hpr := price1_ok hx hb
  have g1 : ∀ p, F_Shop__init [.obj "Shop" [] [], .d (bookD p), .d (.tup [.tup [.str (nameS rs), .int am]])] = some (.d .non, [(⟨emptyCt p [(nameS rs, am)], [], []⟩ : Sh).m]) := fun p => by
    have hpd : D.tup [.tup [.str (nameS rs), .int am]] = pricesD [(nameS rs, am)] := rfl
    rw [hpd]
    exact p_shop_init (rs := p) hpr (by simp [amKs]) (by simp)
  have hg : GoodS (nameS rs) 0 ⟨emptyCt p0 [(nameS rs, am)], [], []⟩ := by
    refine ⟨⟨⟨c1.1, c1.2, by simp [emptyCt, amKs], ?_, ?_, by simp [emptyCt], by simp [emptyCt], by simp [emptyCt], by simp [emptyCt], by simp [emptyCt]⟩, ⟨am, rfl⟩⟩, by simp, by simp, by simp⟩
    · intro p hp; simp [emptyCt] at hp; subst hp; exact hx.ok
    · intro p hp; simp [emptyCt] at hp; subst hp; exact hb
  obtain ⟨v, J6, i1, i2, i3, i4⟩ := p_draw f4 (by omega) (m := 13) (by decide) (by decide)
  have hv : (rngD 0 v.toNat).length = v.toNat := by simp [rngD]
  obtain ⟨J7, s', P', t', k1, k2⟩ := turns (d3 := .d (.int 1)) (d8 := B8') (st := .tup [.tup [.str (nameS rs), .int am]]) hx c1 d1 (rngD 0 v.toNat) 0 _ J6 _ (.o none (.lst [.d (bookD p0), .d (bookD p1)])) .no (.inr rfl) i4 (by rw [hv]; omega) hg (by rw [hv]; omega)
  have j0 := hJ.isD
  have j1 := a4.isD
  have j2 := b4.isD
  have j5 := f4.isD
  have j4 := d2.isD
  have j6 := i4.isD
  have hjn := join_name (rs := rs) (by omega)
  have htd := chrs_toDs rs
  have ew : (-1000000 : Int) ≤ 1 + w ∧ 1 + w ≤ 1000000 := by omega
  have ew2 : (1 + w).toNat ≤ 1000000 := by omega
  have ev : (-1000000 : Int) ≤ v ∧ v ≤ 1000000 := by omega
  have ev2 : v.toNat ≤ 1000000 := by omega
  generalize nameS rs = x at *
  refine ⟨J7, ?_⟩
  unfold F_law_right g_law_right
  refine fnF_rt rfl (b := stT J7 x P' (.d (.int 1)) (.tup [.tup [.str x, .int am]]) s' t' B8') (sSeq_nx (b1 := [.o (some 0) J2, .d (.str x), .no, .no, .no, .no, .no, .no, .no]) ?_ (sSeq_nx (b1 := [.o (some 0) J2, .d (.str x), .o none (.lst []), .no, .no, .no, .no, .no, .no]) ?_ (sSeq_nx (b1 := [.o (some 0) J4, .d (.str x), .o none (.lst [.d (bookD p0), .d (bookD p1)]), .d (.int 1), .no, .no, .no, .no, B8']) ?_ (sSeq_nx (b1 := [.o (some 0) J5, .d (.str x), .o none (.lst [.d (bookD p0), .d (bookD p1)]), .d (.int 1), .d (.tup [.tup [.str x, .int am]]), .no, .no, .no, B8']) ?_ (sSeq_nx (b1 := stT J5 x (.o none (.lst [.d (bookD p0), .d (bookD p1)])) (.d (.int 1)) (.tup [.tup [.str x, .int am]]) ⟨emptyCt p0 [(x, am)], [], []⟩ .no B8') ?_ (sSeq_nx (b1 := stT J7 x P' (.d (.int 1)) (.tup [.tup [.str x, .int am]]) s' t' B8') ?_ ?_)))))) ?_
  · simp (config := {decide := true}) [fnF, sRet, sRetN, sSeq, sIf, sSet, sPass, sFrz, sDrop, fT, fOp, fVar, fC, fMov, fFrz, fD, startE, M.toD, M.toDs, M.toB, fIxO, isO, sIxO, atI, ixN, g2, g2m, fOf, PL.g1, g1m, g22, fCons, fNil, fIo, fCall, PL.fill, putb, M.argOf, M.hole, ownS, fin, finals, tNotT, tAndT, tOrT, fAnd, fOr, fNot, fIf, fChain, fPl, getP, setP, M.cell, M.setCell, M.sub, M.fld, fldI, sPut, M.setF, M.put, sAug, gPut, gTu, PL.gCons, gsNil, sAsg, sPar, fMethO, fMeth, fMake, appF, fLenO, sAppP, sApp, fLc, wipeB, tTrue, lAny, lRng, gNm, PL.gLst, PL.gTup, M.datas, fUnD, fMethK, fMake2, fProp, sExt, fPopP, gC, gInt, gInt0, gMod, gDiv, PL.gSub, gAdd, gMul, gLt, gLe, gGt, gGe, gToInt, gAbs, gMax, gMin, gLen, gIsN, gTupOf, gLstOf, bF, tPeek, fPeek, gEq_ss, gNe_ss, gEq_ii, gNe_ii, ok_take, ok_least, ok_last, ok_show, ok_ask, ok_put, ok_look, ok_alter, ok_back, ok_pay, ok_price, ok_again, isDd, isDl, isDo, isDk, isDb, a1, b1, j0, j1, hw, ew, ew2, htd, hjn]
  · simp (config := {decide := true}) [fnF, sRet, sRetN, sSeq, sIf, sSet, sPass, sFrz, sDrop, fT, fOp, fVar, fC, fMov, fFrz, fD, startE, M.toD, M.toDs, M.toB, fIxO, isO, sIxO, atI, ixN, g2, g2m, fOf, PL.g1, g1m, g22, fCons, fNil, fIo, fCall, PL.fill, putb, M.argOf, M.hole, ownS, fin, finals, tNotT, tAndT, tOrT, fAnd, fOr, fNot, fIf, fChain, fPl, getP, setP, M.cell, M.setCell, M.sub, M.fld, fldI, sPut, M.setF, M.put, sAug, gPut, gTu, PL.gCons, gsNil, sAsg, sPar, fMethO, fMeth, fMake, appF, fLenO, sAppP, sApp, fLc, wipeB, tTrue, lAny, lRng, gNm, PL.gLst, PL.gTup, M.datas, fUnD, fMethK, fMake2, fProp, sExt, fPopP, gC, gInt, gInt0, gMod, gDiv, PL.gSub, gAdd, gMul, gLt, gLe, gGt, gGe, gToInt, gAbs, gMax, gMin, gLen, gIsN, gTupOf, gLstOf, bF, tPeek, fPeek, gEq_ss, gNe_ss, gEq_ii, gNe_ii, ok_take, ok_least, ok_last, ok_show, ok_ask, ok_put, ok_look, ok_alter, ok_back, ok_pay, ok_price, ok_again, isDd, isDl, isDo, isDk, isDb]
  · have e2 : lRng (fCons (fC (.int 2)) fNil) [.o (some 0) J2, .d (.str x), .o none (.lst []), .no, .no, .no, .no, .no, .no] = some ([.int 0, .int 1], [.o (some 0) J2, .d (.str x), .o none (.lst []), .no, .no, .no, .no, .no, .no]) := rfl
    exact sFor_ok e2 (forL_nx rfl c3 (forL_nx rfl d3 forL_nil))
  · have a4 : gPow (.int 10) (.int 12) = some (.int (10 ^ 12)) := gPow_ok _ _ (by decide) (by decide) (by decide)
    generalize hA : (10 : Int) ^ 12 = A at *
    simp (config := {decide := true}) [fnF, sRet, sRetN, sSeq, sIf, sSet, sPass, sFrz, sDrop, fT, fOp, fVar, fC, fMov, fFrz, fD, startE, M.toD, M.toDs, M.toB, fIxO, isO, sIxO, atI, ixN, g2, g2m, fOf, PL.g1, g1m, g22, fCons, fNil, fIo, fCall, PL.fill, putb, M.argOf, M.hole, ownS, fin, finals, tNotT, tAndT, tOrT, fAnd, fOr, fNot, fIf, fChain, fPl, getP, setP, M.cell, M.setCell, M.sub, M.fld, fldI, sPut, M.setF, M.put, sAug, gPut, gTu, PL.gCons, gsNil, sAsg, sPar, fMethO, fMeth, fMake, appF, fLenO, sAppP, sApp, fLc, wipeB, tTrue, lAny, lRng, gNm, PL.gLst, PL.gTup, M.datas, fUnD, fMethK, fMake2, fProp, sExt, fPopP, gC, gInt, gInt0, gMod, gDiv, PL.gSub, gAdd, gMul, gLt, gLe, gGt, gGe, gToInt, gAbs, gMax, gMin, gLen, gIsN, gTupOf, gLstOf, bF, tPeek, fPeek, gEq_ss, gNe_ss, gEq_ii, gNe_ii, ok_take, ok_least, ok_last, ok_show, ok_ask, ok_put, ok_look, ok_alter, ok_back, ok_pay, ok_price, ok_again, isDd, isDl, isDo, isDk, isDb, a4, f1, j4, j5]
  · have g1 := g1 p0
    have sm : (⟨emptyCt p0 [(x, am)], [], []⟩ : Sh).m = .obj "Shop" shopNm [.d (emptyCt p0 [(x, am)]).d, .d (storyD []), .lst []] := rfl
    unfold stT
    rw [sm] at g1 ⊢
    simp only [shopNm] at *
    simp (config := {decide := true}) [fnF, sRet, sRetN, sSeq, sIf, sSet, sPass, sFrz, sDrop, fT, fOp, fVar, fC, fMov, fFrz, fD, startE, M.toD, M.toDs, M.toB, fIxO, isO, sIxO, atI, ixN, g2, g2m, fOf, PL.g1, g1m, g22, fCons, fNil, fIo, fCall, PL.fill, putb, M.argOf, M.hole, ownS, fin, finals, tNotT, tAndT, tOrT, fAnd, fOr, fNot, fIf, fChain, fPl, getP, setP, M.cell, M.setCell, M.sub, M.fld, fldI, sPut, M.setF, M.put, sAug, gPut, gTu, PL.gCons, gsNil, sAsg, sPar, fMethO, fMeth, fMake, appF, fLenO, sAppP, sApp, fLc, wipeB, tTrue, lAny, lRng, gNm, PL.gLst, PL.gTup, M.datas, fUnD, fMethK, fMake2, fProp, sExt, fPopP, gC, gInt, gInt0, gMod, gDiv, PL.gSub, gAdd, gMul, gLt, gLe, gGt, gGe, gToInt, gAbs, gMax, gMin, gLen, gIsN, gTupOf, gLstOf, bF, tPeek, fPeek, gEq_ss, gNe_ss, gEq_ii, gNe_ii, ok_take, ok_least, ok_last, ok_show, ok_ask, ok_put, ok_look, ok_alter, ok_back, ok_pay, ok_price, ok_again, isDd, isDl, isDo, isDk, isDb, g1]
  · unfold bodyTu at k1
    have hr : lRng (fCons (fD (fCall F_law_draw [] [some 0, none] (fIo 0 (fCons (fC (.int 13)) fNil)))) fNil) (stT J5 x (.o none (.lst [.d (bookD p0), .d (bookD p1)])) (.d (.int 1)) (.tup [.tup [.str x, .int am]]) ⟨emptyCt p0 [(x, am)], [], []⟩ .no B8') = some (rngD 0 v.toNat, stT J6 x (.o none (.lst [.d (bookD p0), .d (bookD p1)])) (.d (.int 1)) (.tup [.tup [.str x, .int am]]) ⟨emptyCt p0 [(x, am)], [], []⟩ .no B8') := by
      unfold stT
      simp (config := {decide := true}) [fnF, sRet, sRetN, sSeq, sIf, sSet, sPass, sFrz, sDrop, fT, fOp, fVar, fC, fMov, fFrz, fD, startE, M.toD, M.toDs, M.toB, fIxO, isO, sIxO, atI, ixN, g2, g2m, fOf, PL.g1, g1m, g22, fCons, fNil, fIo, fCall, PL.fill, putb, M.argOf, M.hole, ownS, fin, finals, tNotT, tAndT, tOrT, fAnd, fOr, fNot, fIf, fChain, fPl, getP, setP, M.cell, M.setCell, M.sub, M.fld, fldI, sPut, M.setF, M.put, sAug, gPut, gTu, PL.gCons, gsNil, sAsg, sPar, fMethO, fMeth, fMake, appF, fLenO, sAppP, sApp, fLc, wipeB, tTrue, lAny, lRng, gNm, PL.gLst, PL.gTup, M.datas, fUnD, fMethK, fMake2, fProp, sExt, fPopP, gC, gInt, gInt0, gMod, gDiv, PL.gSub, gAdd, gMul, gLt, gLe, gGt, gGe, gToInt, gAbs, gMax, gMin, gLen, gIsN, gTupOf, gLstOf, bF, tPeek, fPeek, gEq_ss, gNe_ss, gEq_ii, gNe_ii, ok_take, ok_least, ok_last, ok_show, ok_ask, ok_put, ok_look, ok_alter, ok_back, ok_pay, ok_price, ok_again, isDd, isDl, isDo, isDk, isDb, i1, j5, j6, ev]
    rw [sFor, hr]
    simp only []
    exact k1
  · exact sRet_ok rfl
  · unfold stT
    simp [finals, k2.isD, hJ.isD]
theorem law_loop (script : List D) (hs : ∀ d ∈ script, ∃ i, d = .int i) : ∀ (ks : List Nat) (t : B), (∀ k ∈ ks, k < 64) →
    ∃ t', forL (gNm 1) (sIf (tNotT (fT (fD (fCall F_law_right [] [none] (fCons (fCall F_law_jar [] [none, none] (fCons (fVar 0) (fCons (fVar 1) fNil))) fNil))))) (sRet (fC (.bl false))) sPass) (ks.map fun (k : Nat) => .int k) [.d (.seq script), t] = some (.nx, [.d (.seq script), t'])
  | [], t, _ => ⟨t, rfl⟩
  | k :: ks, t, h => by
    obtain ⟨J, h1, h2⟩ := p_jar script k hs (h k (by simp))
    obtain ⟨t', ih⟩ := law_loop script hs ks (.d (.int k)) fun j hj => h j (by simp [hj])
    refine ⟨t', ?_⟩
    simp only [List.map_cons]
    unfold forL
    have hj := h2.isD
    obtain ⟨J', h3⟩ := p_right h2
    simp (config := {decide := true}) [fnF, sRet, sRetN, sSeq, sIf, sSet, sPass, sFrz, sDrop, fT, fOp, fVar, fC, fMov, fFrz, fD, startE, M.toD, M.toDs, M.toB, fIxO, isO, sIxO, atI, ixN, g2, g2m, fOf, PL.g1, g1m, g22, fCons, fNil, fIo, fCall, PL.fill, putb, M.argOf, M.hole, ownS, fin, finals, tNotT, tAndT, tOrT, fAnd, fOr, fNot, fIf, fChain, fPl, getP, setP, M.cell, M.setCell, M.sub, M.fld, fldI, sPut, M.setF, M.put, sAug, gPut, gTu, PL.gCons, gsNil, sAsg, sPar, fMethO, fMeth, fMake, appF, fLenO, sAppP, sApp, fLc, wipeB, tTrue, lAny, lRng, gNm, PL.gLst, PL.gTup, M.datas, fUnD, fMethK, fMake2, fProp, sExt, fPopP, gC, gInt, gInt0, PL.gSub, gAdd, gLt, gLe, gGt, gGe, gToInt, gMax, gMin, gLen, gIsN, gTupOf, gLstOf, bF, tPeek, fPeek, gEq_ss, gNe_ss, gEq_ii, gNe_ii, ok_take, ok_least, ok_last, ok_show, ok_ask, ok_put, ok_look, ok_alter, ok_back, ok_pay, ok_price, ok_again, isDd, isDl, isDo, isDk, isDb, h1, h3, hj, ih]
theorem p_law (script : List D) (hs : ∀ d ∈ script, ∃ i, d = .int i) (hl : script.length < 1000000) : F_law [.d (.seq script)] = some (.d (.bl true), []) := by
  obtain ⟨m, hm⟩ : ∃ m : Nat, m = max 1 (min 8 script.length) := ⟨_, rfl⟩
  obtain ⟨t', h⟩ := law_loop script hs (List.range m) .no fun k hk => by
    have := List.mem_range.mp hk
    omega
  have e : rngD 0 m = (List.range m).map fun (k : Nat) => D.int k := by
    unfold rngD
    apply List.map_congr_left
    intro k _
    simp
  have hl2 : script.length ≤ 1000000 := by omega
  have hmm : gMax (.int 1) ((if (script.length : Int) < 8 then .int script.length else .int 8)) = some (.int m) := by
    split <;> (show some (D.int (if _ > (1 : Int) then _ else 1)) = _; subst hm; congr 2; split <;> omega)
  have hmn : gMin (.int 8) (.int script.length) = some (if (script.length : Int) < 8 then .int script.length else .int 8) := by
    show some (D.int (if (script.length : Int) < 8 then (script.length : Int) else 8)) = _
    split <;> rfl
  rw [← e] at h
  have em : (-1000000 : Int) ≤ m ∧ (m : Int) ≤ 1000000 := by omega
  have hr : lRng (fCons (fOf (g22 gMax) (fCons (fC (.int 1)) (fCons (fOf (g22 gMin) (fCons (fC (.int 8)) (fCons (fOf (PL.g1 gLen) (fCons (fVar 0) fNil)) fNil))) fNil))) fNil) [.d (.seq script), .no] = some (rngD 0 m, [.d (.seq script), .no]) := by
    generalize (if (script.length : Int) < 8 then D.int script.length else .int 8) = dd at *
    have hlen : gLen (.seq script) = some (.int script.length) := rfl
    simp (config := {decide := true}) [fCons, fOf, g22, fC, fNil, PL.g1, fVar, hlen, hmn, hmm, lRng, em]
  unfold F_law g_law
  refine fnF_rt rfl (b := [.d (.seq script), t']) (sSeq_nx (b1 := [.d (.seq script), t']) ?_ (sRet_ok rfl)) rfl
  show sFor _ _ _ [.d (.seq script), .no] = _
  rw [sFor, hr]
  exact h
end Lw

set_option maxHeartbeats 0
namespace Lw
open PySem PySem.Spec PyProof.Rows L2 PL
/-! ### the head -/
def names0 : List Str := ["_wall", "ShownError", "NoPrices", "NothingToUndo", "NoRule", "NoDoor", "NoDeed", "NoItem", "NoLine", "Missing", "LETTERS", "LONGEST_ITEM", "MOST_AMOUNT", "MOST_NUMBER", "MOST_ITEMS"]
def names1 : List Str := ["is_whole", "is_item", "is_amount", "is_number", "is_price", "are_prices", "is_deed", "LineWork", "CartLine", "Cart", "check_deeds", "Shop", "DOORS", "ACTIONS", "MOST_ACTIONS"]
def names2 : List Str := ["is_door", "is_rule", "Book", "_law_jar", "_law_draw", "_law_rule", "_law_six", "_law_act", "_law_stand", "_law_called", "_law_right"]
def namesA : List Str := names0 ++ names1 ++ names2
abbrev Rr : PySem.W.OpenRow := PySem.W.OpenLaw.row PySem.Challenge.rw_lastshown_k69_calls_by_name
abbrev hk : PySem.W.Hook := hookP 6 fa fn gets ex
def obQ (s : PySem.W.SharedT) : He.AlX × List He.FnW := obsPG 6 fa fn gets ex (HandSHeadRun.getT s)
theorem obQ_eq (s : PySem.W.SharedT) : obQ s = hk.obs s.abs := obsPG_eq (HandSHeadRun.getT_eq s)
theorem runQ (w : World) : HandSHeadRun.RunEq Rr (PySem.W.view Rr.prog [48]) hk obQ 6000 namesA w := by
  intro os
  kernel_rfl
theorem ints_rpl {K : PySem.W.Frag} {G : Hp} : ∀ ns : List Int, RpL K G (ns.map D.int) (ns.map V.int)
  | [] => by simp [RpL]
  | n :: ns => by
    simp only [List.map_cons, RpL]
    exact ⟨_, _, rfl, by simp [Rp], ints_rpl ns⟩
theorem factsQ {P : Program} {w : World} {K : PySem.W.Frag} {mg : Str → Option Value} {f : Addr} (S : Says K mg) (hfa : mg ("law" : Str) = some (.ref f)) :
    ∃ fd : FuncData, (∀ (s : Shared) (v : Value), BindsTo s fd ⟨[v], []⟩ [("script", v)]) ∧ ∀ base : Heap, FnOk P w K mg base CX0 11 f fd ["script"] (spD K F_law) := by
  have e0 := m_glo_law S
  have e := hfa.symm.trans e0
  cases e
  obtain ⟨fd, FD⟩ := S.c.def_ 45 (d := d_law) rfl
  have b := FunD.bindsA (ps := ["script"]) FD fun _ _ _ _ _ _ us hl => match us, hl with | [_], _ => rfl
  exact ⟨fd, fun s v => b s [v] rfl, fun base => fok_law S FD⟩
theorem lawQ {K : PySem.W.Frag} {H : Hp} {a : Addr} {ns : List Int} (hl : ns.length ≤ 63) (hS : SqL K H a (ns.map V.int)) : spD K F_law [.ref a] H (fun v _ => v = .bl true) fun _ _ _ => False := by
  refine ⟨H, [.d (.seq (ns.map D.int))], [[]], .d (.bl true), [], p_law _ (fun d hd => ?_) (by simp; omega), Same.refl _, ?_, by simp, by simp, ?_⟩
  · obtain ⟨i, _, rfl⟩ := List.mem_map.mp hd
    exact ⟨i, rfl⟩
  · simp only [RMs]
    refine ⟨.ref a, [], [], [], rfl, rfl, ?_, rfl, rfl⟩
    simp only [RM]
    refine ⟨?_, trivial⟩
    simp only [Rp]
    exact ⟨a, _, rfl, hS, ints_rpl ns⟩
  · intro v G' H' fr fo _ hv _ _ _ _
    simp only [RM, Rp] at hv
    exact hv.1
end Lw
open PySem PySem.W PySem.Calls PyProof.Rows
theorem PySem.Challenge.cw_lastshown_k69_calls_by_name_holds : PySem.Challenge.rw_lastshown_k69_calls_by_name.Holds := by
  w_on; o_law
  refine HandSHeadRun.head_any (r := OpenLaw.row PySem.Challenge.rw_lastshown_k69_calls_by_name) (q := view (OpenLaw.row PySem.Challenge.rw_lastshown_k69_calls_by_name).prog [48]) (H := Lw.hk) (ob := Lw.obQ) (M := 6000) (loose := Lw.namesA) (d := HandSHeadRun.topDef (OpenLaw.row PySem.Challenge.rw_lastshown_k69_calls_by_name).prog 48) (kwd := []) Lw.obQ_eq
    (by kernel_rfl) (fun s => by kernel_rfl) Lw.runQ (by kernel_rfl) (by kernel_rfl) (by kernel_rfl) (by rfl) (by first | assumption | decide +kernel) (by decide +kernel) ⟨rfl, rfl, rfl, rfl, rfl, by decide +kernel⟩ ?hw ?hc
  case hw => w_witness2
  case hc =>
    refine L2.walk_ofE (l := PySem.Challenge.rw_lastshown_k69_calls_by_name) (n := 63) (k := 11) (x := "script") (CX := L2.CX0) rfl (by decide) (by kernel_rfl) ⟨rfl, by decide, by decide⟩ ?F (fun _ _ _ _ z => z)
    intro w mg fa h Y G hmg0
    obtain ⟨K, KX, c, cp⟩ := Y
    have hmg : mg ("law" : PySem.Str) = some (.ref fa) := by
      have e : (HandSHeadRun.topDef (OpenLaw.row PySem.Challenge.rw_lastshown_k69_calls_by_name).prog 48).name = ("law" : PySem.Str) := by kernel_rfl
      rw [← e]
      exact hmg0
    have S : Lw.Says K mg := ⟨⟨h, KX, G⟩, c.t.d, c.more, cp⟩
    obtain ⟨fd, hb, hF⟩ := Lw.factsQ (P := (PySem.Challenge.rw_lastshown_k69_calls_by_name).prog) (w := w) S hmg
    exact ⟨K, fd, PL.spD K Lw.F_law, KX, hb, fun H a ns hl _ hS => Lw.lawQ hl hS, fun base _ _ => hF base⟩

