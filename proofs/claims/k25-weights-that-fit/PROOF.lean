import PyProof.Rows.All
import Wide.All
import OpenK.AllK
import Wide.FinOn
import HandS.ForMost
import HandS.ForExc
import HandS.IsInst
import HandS.Deep
import HandS.Style
import HandS.TupLe
import HandS.TupAny
import HandS.TupMul
import HandS.Replace
import HandS.StrMore
import PyProof.ReprRoads
import HandS.Flow
import HandS.Zip0
import HandS.Zip
import KE.GoesZip
import HandS.NoneIn
import HandS.ExcIs
import HandS.More
import HandS.TryMany
import HandS.Ends
import PyProof.StrLawsRepr
import PyProof.ReprLen
import PyProof.FitsInt
import PySem.Challenge.RW_cayleywalk_k25_weights_that_fit
set_option Elab.async false
set_option linter.all false
set_option maxRecDepth 100000
set_option maxHeartbeats 2000000
/-! Px1: pure data D, how a value in the abstract heap stands for it, what a def owns. -/
namespace Px
open PySem PySem.Spec PyProof.Rows L2

inductive D where
  | non | bl (b : Bool) | int (i : Int) | str (s : List Nat)
  | lst (xs : List D) | tup (xs : List D) | dct (ks : List D) (vs : List D)

abbrev mkS (s : List Nat) : Str := ⟨s.toArray⟩
def keyOf : D → Option Key
  | .int i => some (.inl i)
  | .str s => some (.inr (mkS s))
  | _ => none

abbrev AS := Addr → Prop
open Classical in
noncomputable def cut (H : Hp) (A : AS) : Hp := fun b => if A b then none else H b
section
variable {H H' : Hp} {A A' B : AS} {a b : Addr} {o : HO} {K : PySem.W.Frag}
theorem cut_some (h : cut H A a = some o) : H a = some o ∧ ¬ A a := by
  unfold cut at h; split at h
  · cases h
  · exact ⟨h, by assumption⟩
theorem cut_of (h : H a = some o) (n : ¬ A a) : cut H A a = some o := by
  unfold cut; rw [if_neg n]; exact h
theorem cut_same : Same (cut H A) H := fun _ _ h => (cut_some h).1
theorem cut_heap (s : Same H H') : Same (cut H A) (cut H' A) := fun b o h => let ⟨h1, h2⟩ := cut_some h; cut_of (s b o h1) h2
theorem cut_set (h : ∀ x, A' x → A x) : Same (cut H A) (cut H A') := fun b o q => let ⟨h1, h2⟩ := cut_some q; cut_of h1 fun z => h2 (h b z)
theorem cut_fresh (h : ∀ x, A' x → A x ∨ H x = none) : Same (cut H A) (cut H A') := fun b o q => by
  obtain ⟨h1, h2⟩ := cut_some q
  refine cut_of h1 fun z => ?_
  rcases h b z with k | k
  · exact h2 k
  · rw [k] at h1; cases h1
theorem cut_upd (h : A a) : cut (upd H a o) A = cut H A := by
  funext b; unfold cut; split
  · rfl
  · exact upd_ne (fun e => by subst e; contradiction)
theorem Same.seqT {xs : List V} (e : Same H H') (h : SqT K H a xs) : SqT K H' a xs := by
  rcases h with (h | ⟨o, h⟩) | h
  · exact .inl (.inl (e _ _ h))
  · exact .inl (.inr ⟨o, e _ _ h⟩)
  · exact .inr h
theorem Same.rd {u : HO} (e : Same H H') (h : Rd H a u) : Rd H' a u := by
  rcases h with h | ⟨o, h⟩
  · exact .inl (e _ _ h)
  · exact .inr ⟨o, e _ _ h⟩
theorem same_new (h : H a = none) : Same H (upd H a o) := fun b u e => by rw [upd_ne (ne_of_none e h)]; exact e
end

/-! ### what a value stands for -/
mutual
def RepR (K : PySem.W.Frag) (H : Hp) : D → V → Prop
  | .non, v => v = .non
  | .bl b, v => v = .bl b
  | .int i, v => v = .int i
  | .str s, v => v = .str (mkS s)
  | .lst xs, v => ∃ a vs, v = .ref a ∧ SqL K H a vs ∧ RepRs K H xs vs
  | .tup xs, v => ∃ a vs, v = .ref a ∧ SqT K H a vs ∧ RepRs K H xs vs
  | .dct ks ds, v => ∃ a kvs, v = .ref a ∧ Rd H a (.dK kvs) ∧ ks.map keyOf = kvs.map (fun p => some p.1) ∧ RepRs K H ds (kvs.map (·.2))
def RepRs (K : PySem.W.Frag) (H : Hp) : List D → List V → Prop
  | [], vs => vs = []
  | d :: ds, vs => ∃ v vs', vs = v :: vs' ∧ RepR K H d v ∧ RepRs K H ds vs'
end
section
variable {K : PySem.W.Frag} {H H' : Hp} {A A' : AS}
mutual
theorem RepR.mono (h : Same H H') : ∀ {d : D} {v : V}, RepR K H d v → RepR K H' d v
  | .non, _, r => by unfold RepR at *; exact r
  | .bl _, _, r => by unfold RepR at *; exact r
  | .int _, _, r => by unfold RepR at *; exact r
  | .str _, _, r => by unfold RepR at *; exact r
  | .lst xs, v, r => by
    unfold RepR at *
    obtain ⟨a, vs, e, s, q⟩ := r
    exact ⟨a, vs, e, L2.Same.seq h s, RepRs.mono h q⟩
  | .tup xs, v, r => by
    unfold RepR at *
    obtain ⟨a, vs, e, s, q⟩ := r
    exact ⟨a, vs, e, Same.seqT h s, RepRs.mono h q⟩
  | .dct ks ds, v, r => by
    unfold RepR at *
    obtain ⟨a, vs, e, s, k, q⟩ := r
    exact ⟨a, vs, e, Same.rd h s, k, RepRs.mono h q⟩
theorem RepRs.mono (h : Same H H') : ∀ {ds : List D} {vs : List V}, RepRs K H ds vs → RepRs K H' ds vs
  | [], _, r => by unfold RepRs at *; exact r
  | d :: ds, vs, r => by
    unfold RepRs at *
    obtain ⟨v, vs', e, r1, r2⟩ := r
    exact ⟨v, vs', e, RepR.mono h r1, RepRs.mono h r2⟩
end
theorem RepRs.length : ∀ {ds : List D} {vs : List V}, RepRs K H ds vs → vs.length = ds.length
  | [], _, r => by unfold RepRs at r; subst r; rfl
  | d :: ds, vs, r => by
    unfold RepRs at r
    obtain ⟨v, vs', e, r1, r2⟩ := r
    subst e; simp [RepRs.length r2]
theorem RepRs.get : ∀ {ds : List D} {vs : List V} {i : Nat} {d : D}, RepRs K H ds vs → ds[i]? = some d → ∃ v, vs[i]? = some v ∧ RepR K H d v
  | [], _, _, _, _, e => by simp at e
  | d :: ds, vs, 0, d', r, e => by
    unfold RepRs at r
    obtain ⟨v, vs', e', r1, r2⟩ := r
    subst e'; simp at e; subst e
    exact ⟨v, rfl, r1⟩
  | d :: ds, vs, i + 1, d', r, e => by
    unfold RepRs at r
    obtain ⟨v, vs', e', r1, r2⟩ := r
    subst e'
    obtain ⟨u, h1, h2⟩ := RepRs.get (i := i) r2 (by simpa using e)
    exact ⟨u, by simpa using h1, h2⟩
theorem RepRs.append : ∀ {ds es : List D} {vs us : List V}, RepRs K H ds vs → RepRs K H es us → RepRs K H (ds ++ es) (vs ++ us)
  | [], _, _, _, r, q => by unfold RepRs at r; subst r; exact q
  | d :: ds, _, _, _, r, q => by
    unfold RepRs at r
    obtain ⟨v, vs', e', r1, r2⟩ := r
    subst e'
    show RepRs K H (d :: (ds ++ _)) _
    unfold RepRs
    exact ⟨v, _, rfl, r1, RepRs.append r2 q⟩
theorem RepRs.cons {d : D} {ds : List D} {v : V} {vs : List V} (r : RepR K H d v) (q : RepRs K H ds vs) : RepRs K H (d :: ds) (v :: vs) := by
  unfold RepRs; exact ⟨v, vs, rfl, r, q⟩
theorem RepRs.nil : RepRs K H [] [] := by unfold RepRs; rfl

/-! ### what is owned -/
def D.cont : D → Bool
  | .lst _ => true
  | .dct _ _ => true
  | _ => false
def Owns (R : D → V → AS → Prop) : List D → List V → AS → Prop
  | [], vs, O => vs = [] ∧ ∀ x, ¬ O x
  | d :: ds, vs, O => ∃ v vs' O1 O2, vs = v :: vs' ∧ (∀ x, O x ↔ O1 x ∨ O2 x) ∧ (∀ x, O1 x → ¬ O2 x) ∧ R d v O1 ∧ Owns R ds vs' O2
def Own (K : PySem.W.Frag) (H : Hp) (A : AS) : Nat → D → V → AS → Prop
  | 0, d, v, O => (∀ x, ¬ O x) ∧ RepR K (cut H A) d v
  | k + 1, d, v, O => match d with
    | .lst xs => ∃ a vs O', v = .ref a ∧ H a = some (.lst vs) ∧ (∀ x, O x ↔ x = a ∨ O' x) ∧ ¬ O' a ∧ Owns (Own K H A k) xs vs O'
    | .dct ks ds => ∃ a kvs O', v = .ref a ∧ H a = some (.dK kvs) ∧ ks.map keyOf = kvs.map (fun p => some p.1) ∧ (∀ x, O x ↔ x = a ∨ O' x) ∧ ¬ O' a ∧ Owns (Own K H A k) ds (kvs.map (·.2)) O'
    | d => (∀ x, ¬ O x) ∧ RepR K (cut H A) d v
theorem Owns.imp {R R' : D → V → AS → Prop} (f : ∀ d v O, R d v O → R' d v O) : ∀ {ds : List D} {vs : List V} {O : AS}, Owns R ds vs O → Owns R' ds vs O
  | [], _, _, h => h
  | d :: ds, _, _, ⟨v, vs', O1, O2, e, h1, h2, r, q⟩ => ⟨v, vs', O1, O2, e, h1, h2, f _ _ _ r, Owns.imp f q⟩
/-- with the footprints at hand -/
theorem Owns.impIn {R R' : D → V → AS → Prop} : ∀ {ds : List D} {vs : List V} {O : AS}, Owns R ds vs O → (∀ d ∈ ds, ∀ v O1, (∀ x, O1 x → O x) → R d v O1 → R' d v O1) → Owns R' ds vs O
  | [], _, _, h, _ => h
  | d :: ds, _, _, ⟨v, vs', O1, O2, e, h1, h2, r, q⟩, f => ⟨v, vs', O1, O2, e, h1, h2, f _ (by simp) _ _ (fun x z => (h1 x).mpr (.inl z)) r,
      Owns.impIn q fun d' m v' O' s => f d' (by simp [m]) v' O' fun x z => (h1 x).mpr (.inr (s x z))⟩
theorem Owns.mem {R : D → V → AS → Prop} : ∀ {ds : List D} {vs : List V} {O : AS} {x : Addr}, Owns R ds vs O → O x → ∃ d ∈ ds, ∃ v O1, R d v O1 ∧ O1 x
  | [], _, _, _, h, z => (h.2 _ z).elim
  | d :: ds, _, _, x, ⟨v, vs', O1, O2, e, h1, h2, r, q⟩, z => by
    rcases (h1 x).mp z with k | k
    · exact ⟨d, by simp, v, O1, r, k⟩
    · obtain ⟨d', m, v', O', r', z'⟩ := Owns.mem q k
      exact ⟨d', by simp [m], v', O', r', z'⟩
theorem Owns.length {R : D → V → AS → Prop} : ∀ {ds : List D} {vs : List V} {O : AS}, Owns R ds vs O → vs.length = ds.length
  | [], _, _, h => by rw [h.1]; rfl
  | d :: ds, _, _, ⟨v, vs', O1, O2, e, h1, h2, r, q⟩ => by subst e; simp [Owns.length q]
theorem Owns.rep {R : D → V → AS → Prop} (f : ∀ d v O, R d v O → RepR K H d v) : ∀ {ds : List D} {vs : List V} {O : AS}, Owns R ds vs O → RepRs K H ds vs
  | [], _, _, h => by rw [h.1]; exact RepRs.nil
  | d :: ds, _, _, ⟨v, vs', O1, O2, e, h1, h2, r, q⟩ => by subst e; exact RepRs.cons (f _ _ _ r) (Owns.rep f q)
theorem Owns.frz {R : D → V → AS → Prop} (f : ∀ d v O, (∀ x, ¬ O x) → RepR K H d v → R d v O) : ∀ {ds : List D} {vs : List V} {O : AS}, (∀ x, ¬ O x) → RepRs K H ds vs → Owns R ds vs O
  | [], _, _, n, r => by unfold RepRs at r; exact ⟨r, n⟩
  | d :: ds, _, O, n, r => by
    unfold RepRs at r
    obtain ⟨v, vs', e, r1, r2⟩ := r
    exact ⟨v, vs', O, O, e, fun x => by simp, fun x z => (n x z).elim, f _ _ _ n r1, Owns.frz f n r2⟩
theorem Owns.get {R : D → V → AS → Prop} : ∀ {ds : List D} {vs : List V} {O : AS} {i : Nat} {d : D}, Owns R ds vs O → ds[i]? = some d → ∃ v O1, vs[i]? = some v ∧ (∀ x, O1 x → O x) ∧ R d v O1
  | [], _, _, _, _, _, e => by simp at e
  | d :: ds, _, _, 0, d', ⟨v, vs', O1, O2, e, h1, h2, r, q⟩, e' => by
    simp at e'; subst e'; subst e
    exact ⟨v, O1, rfl, fun x z => (h1 x).mpr (.inl z), r⟩
  | d :: ds, _, _, i + 1, d', ⟨v, vs', O1, O2, e, h1, h2, r, q⟩, e' => by
    subst e
    obtain ⟨u, O3, g1, g2, g3⟩ := Owns.get (i := i) q (by simpa using e')
    exact ⟨u, O3, by simpa using g1, fun x z => (h1 x).mpr (.inr (g2 x z)), g3⟩
theorem Owns.append {R : D → V → AS → Prop} (hR : ∀ d v O O', (∀ x, O x ↔ O' x) → R d v O → R d v O') : ∀ {ds es : List D} {vs us : List V} {O1 O2 O : AS}, (∀ x, O x ↔ O1 x ∨ O2 x) → (∀ x, O1 x → ¬ O2 x) → Owns R ds vs O1 → Owns R es us O2 → Owns R (ds ++ es) (vs ++ us) O
  | [], [], _, _, O1, O2, O, e, _, h, q => by
    obtain ⟨rfl, n1⟩ := h; obtain ⟨rfl, n2⟩ := q
    exact ⟨rfl, fun x z => by rcases (e x).mp z with k | k; exact n1 x k; exact n2 x k⟩
  | [], d :: es, _, _, O1, O2, O, e, _, h, q => by
    obtain ⟨rfl, n1⟩ := h
    obtain ⟨v, vs', P1, P2, e', h1, h2, r, q⟩ := q
    exact ⟨v, vs', P1, P2, e', fun x => by rw [e x, h1 x]; constructor; (rintro (z | z); exact (n1 x z).elim; exact z); exact .inr, h2, r, q⟩
  | d :: ds, es, _, _, O1, O2, O, e, dj, h, q => by
    obtain ⟨v, vs', P1, P2, e', h1, h2, r, h⟩ := h
    subst e'
    refine ⟨v, _, P1, fun x => P2 x ∨ O2 x, rfl, fun x => by rw [e x, h1 x]; constructor; (rintro ((z | z) | z); exact .inl z; exact .inr (.inl z); exact .inr (.inr z)); (rintro (z | z | z); exact .inl (.inl z); exact .inl (.inr z); exact .inr z), fun x z1 z2 => ?_, r, Owns.append hR (fun x => Iff.rfl) (fun x z => dj x ((h1 x).mpr (.inr z))) h q⟩
    rcases z2 with z2 | z2
    · exact h2 x z1 z2
    · exact dj x ((h1 x).mpr (.inl z1)) z2
theorem Own.iff : ∀ {k : Nat} {d : D} {v : V} {O O' : AS}, (∀ x, O x ↔ O' x) → Own K H A k d v O → Own K H A k d v O'
  | 0, d, v, O, O', e, h => ⟨fun x z => h.1 x ((e x).mpr z), h.2⟩
  | k + 1, d, v, O, O', e, h => by
    unfold Own at *
    split at h
    · obtain ⟨a, vs, P, e1, e2, e3, e4, q⟩ := h
      exact ⟨a, vs, P, e1, e2, fun x => by rw [← e x]; exact e3 x, e4, q⟩
    · obtain ⟨a, vs, P, e1, e2, e5, e3, e4, q⟩ := h
      exact ⟨a, vs, P, e1, e2, e5, fun x => by rw [← e x]; exact e3 x, e4, q⟩
    · exact ⟨fun x z => h.1 x ((e x).mpr z), h.2⟩
theorem Own.frz0 {d : D} {v : V} {O : AS} (n : ∀ x, ¬ O x) (r : RepR K (cut H A) d v) : Own K H A 0 d v O := ⟨n, r⟩
/-- what is no container is the same at every depth -/
theorem Own.flat {d : D} (c : d.cont = false) {k : Nat} {v : V} {O : AS} : Own K H A k d v O ↔ ((∀ x, ¬ O x) ∧ RepR K (cut H A) d v) := by
  cases k with
  | zero => exact Iff.rfl
  | succ k => cases d <;> first | exact Iff.rfl | cases c
theorem Own.dom : ∀ {k : Nat} {d : D} {v : V} {O : AS} {x : Addr}, Own K H A k d v O → O x → (∃ vs, H x = some (.lst vs)) ∨ ∃ kvs, H x = some (.dK kvs)
  | 0, d, v, O, x, h, z => (h.1 x z).elim
  | k + 1, d, v, O, x, h, z => by
    unfold Own at h
    split at h
    · obtain ⟨a, vs, P, e1, e2, e3, e4, q⟩ := h
      rcases (e3 x).mp z with k | k
      · subst k; exact .inl ⟨vs, e2⟩
      · obtain ⟨d', m, v', O', r, z'⟩ := Owns.mem q k
        exact Own.dom r z'
    · obtain ⟨a, vs, P, e1, e2, e5, e3, e4, q⟩ := h
      rcases (e3 x).mp z with k | k
      · subst k; exact .inr ⟨vs, e2⟩
      · obtain ⟨d', m, v', O', r, z'⟩ := Owns.mem q k
        exact Own.dom r z'
    · exact (h.1 x z).elim
theorem Own.some {k : Nat} {d : D} {v : V} {O : AS} {x : Addr} (h : Own K H A k d v O) (z : O x) : ∃ o, H x = some o := by
  rcases h.dom z with ⟨_, e⟩ | ⟨_, e⟩ <;> exact ⟨_, e⟩
/-- the heap grows, the cut changes where nothing frozen stands -/
theorem Own.mono (s : Same H H') (hA : ∀ x, A' x → A x ∨ H x = none) : ∀ {k : Nat} {d : D} {v : V} {O : AS}, Own K H A k d v O → Own K H' A' k d v O
  | 0, d, v, O, h => ⟨h.1, h.2.mono fun b o q => cut_heap s b o (cut_fresh hA b o q)⟩
  | k + 1, d, v, O, h => by
    unfold Own at *
    split at h
    · obtain ⟨a, vs, P, e1, e2, e3, e4, q⟩ := h
      exact ⟨a, vs, P, e1, s _ _ e2, e3, e4, q.imp fun _ _ _ r => Own.mono s hA r⟩
    · obtain ⟨a, vs, P, e1, e2, e5, e3, e4, q⟩ := h
      exact ⟨a, vs, P, e1, s _ _ e2, e5, e3, e4, q.imp fun _ _ _ r => Own.mono s hA r⟩
    · exact ⟨h.1, h.2.mono fun b o q => cut_heap s b o (cut_fresh hA b o q)⟩
/-- an owned object of another footprint changes -/
theorem Own.upd {a : Addr} {o : HO} (hA : A a) : ∀ {k : Nat} {d : D} {v : V} {O : AS}, ¬ O a → Own K H A k d v O → Own K (L2.upd H a o) A k d v O
  | 0, d, v, O, n, h => ⟨h.1, by rw [cut_upd hA]; exact h.2⟩
  | k + 1, d, v, O, n, h => by
    unfold Own at *
    split at h
    · obtain ⟨b, vs, P, e1, e2, e3, e4, q⟩ := h
      have nb : b ≠ a := fun e => n (by rw [e3]; exact .inl e.symm)
      exact ⟨b, vs, P, e1, (upd_ne nb).trans e2, e3, e4, q.impIn fun _ _ _ _ s r => Own.upd hA (fun z => n (by rw [e3]; exact .inr (s a z))) r⟩
    · obtain ⟨b, vs, P, e1, e2, e5, e3, e4, q⟩ := h
      have nb : b ≠ a := fun e => n (by rw [e3]; exact .inl e.symm)
      exact ⟨b, vs, P, e1, (upd_ne nb).trans e2, e5, e3, e4, q.impIn fun _ _ _ _ s r => Own.upd hA (fun z => n (by rw [e3]; exact .inr (s a z))) r⟩
    · exact ⟨h.1, by rw [cut_upd hA]; exact h.2⟩
theorem Own.rep : ∀ {k : Nat} {d : D} {v : V} {O : AS}, Own K H A k d v O → RepR K H d v
  | 0, d, v, O, h => h.2.mono cut_same
  | k + 1, d, v, O, h => by
    unfold Own at h
    split at h
    · obtain ⟨b, vs, P, e1, e2, e3, e4, q⟩ := h
      unfold RepR
      exact ⟨b, vs, e1, SqL.of e2, q.rep fun _ _ _ r => Own.rep r⟩
    · obtain ⟨b, vs, P, e1, e2, e5, e3, e4, q⟩ := h
      unfold RepR
      exact ⟨b, vs, e1, .inl e2, e5, q.rep fun _ _ _ r => Own.rep r⟩
    · exact h.2.mono cut_same
/-- fewer things owned: the footprint shrinks to P', the rest is frozen -/
theorem Own.lower : ∀ {k : Nat} {d : D} {v : V} {O : AS}, Own K H A k d v O → ∀ k', k' ≤ k → ∃ O', (∀ x, O' x → O x) ∧ ∀ A', (∀ x, A' x → A x) → (∀ x, A' x → O x → O' x) → Own K H A' k' d v O'
  | 0, d, v, O, h, k', hk => by
    have : k' = 0 := by omega
    subst this
    exact ⟨O, fun _ z => z, fun A' s _ => ⟨h.1, h.2.mono (cut_set s)⟩⟩
  | k + 1, d, v, O, h, k', hk => by
    have shrink : ∀ (j j' : Nat) (ds : List D) (vs : List V) (P : AS), j' ≤ j → j ≤ k → Owns (Own K H A j) ds vs P → (∀ x, P x → O x) → ∃ P', (∀ x, P' x → P x) ∧ ∀ A', (∀ x, A' x → A x) → (∀ x, A' x → P x → P' x) → Owns (Own K H A' j') ds vs P' := by
      intro j j' ds
      induction ds with
      | nil => intro vs P _ _ q _; exact ⟨P, fun _ z => z, fun _ _ _ => q⟩
      | cons d ds ih =>
        intro vs P hj hjk ⟨v, vs', O1, O2, e, h1, h2, r, q⟩ hPO
        obtain ⟨P1, s1, f1⟩ := Own.lower r j' hj
        obtain ⟨P2, s2, f2⟩ := ih vs' O2 hj hjk q fun x z => hPO x ((h1 x).mpr (.inr z))
        refine ⟨fun x => P1 x ∨ P2 x, fun x z => (h1 x).mpr (z.elim (fun z => .inl (s1 x z)) fun z => .inr (s2 x z)), fun A' sA hA => ?_⟩
        refine ⟨v, vs', P1, P2, e, fun x => Iff.rfl, fun x z1 z2 => h2 x (s1 x z1) (s2 x z2), f1 A' sA fun x z o1 => ?_, f2 A' sA fun x z o2 => ?_⟩
        · rcases hA x z ((h1 x).mpr (.inl o1)) with k | k
          · exact k
          · exact (h2 x o1 (s2 x k)).elim
        · rcases hA x z ((h1 x).mpr (.inr o2)) with k | k
          · exact (h2 x (s1 x k) o2).elim
          · exact k
    cases k' with
    | zero =>
      unfold Own at h
      split at h
      · obtain ⟨b, vs, P, e1, e2, e3, e4, q⟩ := h
        obtain ⟨P', s', f'⟩ := shrink k 0 _ vs P (Nat.zero_le _) (Nat.le_refl _) q fun x z => (e3 x).mpr (.inr z)
        refine ⟨fun _ => False, fun _ z => z.elim, fun A' sA hA => ⟨fun _ z => z, ?_⟩⟩
        have nA : ∀ x, O x → ¬ A' x := fun x o z => hA x z o
        have q' := f' A' sA fun x z p => (nA x ((e3 x).mpr (.inr p)) z).elim
        unfold RepR
        exact ⟨b, vs, e1, SqL.of (cut_of e2 (nA b ((e3 b).mpr (.inl rfl)))), q'.rep fun _ _ _ r => r.2⟩
      · obtain ⟨b, vs, P, e1, e2, e5, e3, e4, q⟩ := h
        obtain ⟨P', s', f'⟩ := shrink k 0 _ _ P (Nat.zero_le _) (Nat.le_refl _) q fun x z => (e3 x).mpr (.inr z)
        refine ⟨fun _ => False, fun _ z => z.elim, fun A' sA hA => ⟨fun _ z => z, ?_⟩⟩
        have nA : ∀ x, O x → ¬ A' x := fun x o z => hA x z o
        have q' := f' A' sA fun x z p => (nA x ((e3 x).mpr (.inr p)) z).elim
        unfold RepR
        exact ⟨b, vs, e1, .inl (cut_of e2 (nA b ((e3 b).mpr (.inl rfl)))), e5, q'.rep fun _ _ _ r => r.2⟩
      · exact ⟨O, fun _ z => z, fun A' sA _ => ⟨h.1, h.2.mono (cut_set sA)⟩⟩
    | succ k' =>
      have hk' : k' ≤ k := by omega
      unfold Own at h
      split at h
      · obtain ⟨b, vs, P, e1, e2, e3, e4, q⟩ := h
        obtain ⟨P', s', f'⟩ := shrink k k' _ vs P hk' (Nat.le_refl _) q fun x z => (e3 x).mpr (.inr z)
        refine ⟨fun x => x = b ∨ P' x, fun x z => (e3 x).mpr (z.elim .inl fun z => .inr (s' x z)), fun A' sA hA => ?_⟩
        unfold Own
        refine ⟨b, vs, P', e1, e2, fun x => Iff.rfl, fun z => e4 (s' b z), f' A' sA fun x z p => ?_⟩
        rcases hA x z ((e3 x).mpr (.inr p)) with k | k
        · subst k; exact (e4 p).elim
        · exact k
      · obtain ⟨b, vs, P, e1, e2, e5, e3, e4, q⟩ := h
        obtain ⟨P', s', f'⟩ := shrink k k' _ _ P hk' (Nat.le_refl _) q fun x z => (e3 x).mpr (.inr z)
        refine ⟨fun x => x = b ∨ P' x, fun x z => (e3 x).mpr (z.elim .inl fun z => .inr (s' x z)), fun A' sA hA => ?_⟩
        unfold Own
        refine ⟨b, vs, P', e1, e2, e5, fun x => Iff.rfl, fun z => e4 (s' b z), f' A' sA fun x z p => ?_⟩
        rcases hA x z ((e3 x).mpr (.inr p)) with k | k
        · subst k; exact (e4 p).elim
        · exact k
      · rename_i hl hd
        have hc : d.cont = false := by
          cases d <;> first | rfl | exact (hl _ rfl).elim | exact (hd _ _ rfl).elim
        exact ⟨O, fun _ z => z, fun A' sA _ => (Own.flat hc).mpr ⟨h.1, h.2.mono (cut_set sA)⟩⟩
end
end Px

/-! Px2: the code of a def, and what it computes over pure data. -/
namespace Px
open PySem PySem.Spec PyProof.Rows L2

inductive R (α : Type) where
  | ok (a : α) | exc (x : String) (p : List (String × Int)) | stuck
def R.bind {α β : Type} (a : R α) (f : α → R β) : R β := match a with
  | .ok a => f a
  | .exc x p => .exc x p
  | .stuck => .stuck
instance : Monad R where
  pure := R.ok
  bind := R.bind
section
variable {α β : Type}
@[simp] theorem R.bind_ok (a : α) (f : α → R β) : (R.ok a >>= f) = f a := rfl
@[simp] theorem R.bind_exc (x : String) (p : List (String × Int)) (f : α → R β) : ((R.exc x p : R α) >>= f) = R.exc x p := rfl
@[simp] theorem R.bind_stuck (f : α → R β) : ((R.stuck : R α) >>= f) = R.stuck := rfl
@[simp] theorem R.pure_ok (a : α) : (pure a : R α) = R.ok a := rfl
end

/-- a value of an expression: none: borrowed from a slot; some k: our own, owned down to the depth k (0: frozen) -/
abbrev Kd := Option Nat × D
abbrev Env := List (Option (Nat × D))
abbrev at9 (d : D) : Kd := (some 9, d)
/-- nothing but what is not a container is ever frozen by name -/
def kd (k : Nat) (d : D) : Kd := if d.cont then (some k, d) else (some 9, d)
def needV : Kd → R (Nat × D)
  | (some k, d) => .ok (k, d)
  | (none, _) => .stuck

/-! ### operations -/
/-- how deep the items of a list are owned, when they go into a new one -/
def chd (k : Option Nat) (xs : List D) : R Nat :=
  if xs.any D.cont then match k with
    | none => .stuck
    | some 0 => .ok 0
    | some (k + 1) => .ok k
  else .ok 8
def newL (k : Nat) (xs : List D) : Kd := (some (k + 1), .lst xs)
abbrev line : Nat := 16777216
def mulOk (a b : Int) : Bool := a.natAbs < 18446744073709551616 || b.natAbs < 18446744073709551616
def repL {α : Type} (n : Int) (xs : List α) : List α := (List.replicate n.toNat xs).flatten
def binD : Operator → Kd → Kd → R Kd
  | .Add, (_, .int a), (_, .int b) => .ok (at9 (.int (a + b)))
  | .Sub, (_, .int a), (_, .int b) => .ok (at9 (.int (a - b)))
  | .Mult, (_, .int a), (_, .int b) => if mulOk a b then .ok (at9 (.int (a * b))) else .stuck
  | .FloorDiv, (_, .int a), (_, .int b) => if b ≠ 0 ∧ b.natAbs < 1073741824 then .ok (at9 (.int (a.fdiv b))) else .stuck
  | .Mod, (_, .int a), (_, .int b) => if b ≠ 0 then .ok (at9 (.int (a.fmod b))) else .stuck
  | .Pow, (_, .int a), (_, .int b) => if 0 ≤ b ∧ b ≤ 1000000 ∧ a.natAbs < 18446744073709551616 then .ok (at9 (.int (a ^ b.toNat))) else .stuck
  | .BitAnd, (_, .int a), (_, .int b) => .ok (at9 (.int (Builtin.bitAnd a b)))
  | .BitOr, (_, .int a), (_, .int b) => .ok (at9 (.int (Builtin.bitOr a b)))
  | .BitXor, (_, .int a), (_, .int b) => .ok (at9 (.int (Builtin.bitXor a b)))
  | .Add, (_, .str a), (_, .str b) => if a.length + b.length ≤ line then .ok (at9 (.str (a ++ b))) else .stuck
  | .Mult, (_, .str a), (_, .int n) => if -9223372036854775808 ≤ n ∧ n < 9223372036854775808 ∧ a.length * n.toNat ≤ line then .ok (at9 (.str (repL n a))) else .stuck
  | .Add, (k, .lst xs), (l, .lst ys) => if xs.length + ys.length ≤ line then do let a ← chd k xs; let b ← chd l ys; .ok (newL (min a b) (xs ++ ys)) else .stuck
  | .Mult, (some (_ + 1), .lst xs), (_, .int n) => if -9223372036854775808 ≤ n ∧ n < 9223372036854775808 ∧ xs.length * n.toNat ≤ line ∧ xs.any D.cont = false then .ok (newL 8 (repL n xs)) else .stuck
  | .Mult, (_, .tup xs), (_, .int n) => if xs.isEmpty = false ∧ 2 ≤ n ∧ n ≤ 1000 ∧ xs.length ≤ 1000 then .ok (at9 (.tup (repL n xs))) else .stuck
  | .Add, (_, .tup xs), (_, .tup ys) => if xs.length + ys.length ≤ line then .ok (at9 (.tup (xs ++ ys))) else .stuck
  | _, _, _ => .stuck
def unD : UnaryOp → Kd → R Kd
  | .USub, (_, .int a) => .ok (at9 (.int (-a)))
  | _, _ => .stuck
mutual
/-- as the data that the model's == speaks of -/
def D.py : D → PyData
  | .non => .none
  | .bl b => .bool b
  | .int i => .int i
  | .str s => .str (mkS s)
  | .lst xs => .list (D.pys xs)
  | .tup xs => .tuple (D.pys xs)
  | .dct _ _ => .dict []
def D.pys : List D → List PyData
  | [] => []
  | d :: ds => d.py :: D.pys ds
end
def shp (d : D) : Bool := SeqAt.shaped d.py
def eqD (a b : D) : Bool := PyData.eqv a.py b.py
def inStr (x y : List Nat) : Bool := !(Builtin.Str.occurrences (mkS y) (mkS x) 0 y.length 1).isEmpty
def ltStr (a b : List Nat) : Bool := decide (a < b)
def scalB : D → D → Option Bool
  | .non, .non => some true
  | .int a, .int b => some (decide (a = b))
  | .bl a, .bl b => some (a == b)
  | .str a, .str b => some (decide (a = b))
  | _, _ => none
def memD (a : D) (xs : List D) : Bool := xs.any fun z => PyData.eqv z.py a.py
def keyD : D → Bool
  | .int _ => true
  | .str _ => true
  | _ => false
def isNonD : D → Bool
  | .non => true
  | _ => false
def cmpD : CmpOp → Kd → Kd → R Bool
  | .Eq, (_, a), (_, b) => match scalB a b with
    | some r => .ok r
    | none => if shp a && shp b then .ok (eqD a b) else .stuck
  | .NotEq, (_, a), (_, b) => match scalB a b with
    | some r => .ok (!r)
    | none => if shp a && shp b then .ok (!eqD a b) else .stuck
  | .Lt, (_, .int a), (_, .int b) => .ok (decide (a < b))
  | .LtE, (_, .int a), (_, .int b) => .ok (decide (a ≤ b))
  | .Gt, (_, .int a), (_, .int b) => .ok (decide (b < a))
  | .GtE, (_, .int a), (_, .int b) => .ok (decide (b ≤ a))
  | .In, (_, .str a), (_, .str b) => .ok (inStr a b)
  | .NotIn, (_, .str a), (_, .str b) => .ok (!inStr a b)
  | .In, (_, a), (_, .lst xs) => if shp a && shp (.lst xs) then .ok (memD a xs) else .stuck
  | .NotIn, (_, a), (_, .lst xs) => if shp a && shp (.lst xs) then .ok (!memD a xs) else .stuck
  | .In, (_, a), (_, .tup xs) => if shp a && shp (.tup xs) then .ok (memD a xs) else .stuck
  | .NotIn, (_, a), (_, .tup xs) => if shp a && shp (.tup xs) then .ok (!memD a xs) else .stuck
  | .Is, (_, a), (_, .non) => .ok (isNonD a)
  | .IsNot, (_, a), (_, .non) => .ok (!isNonD a)
  | .Is, (_, .bl a), (_, .bl b) => .ok (a == b)
  | .IsNot, (_, .bl a), (_, .bl b) => .ok (!(a == b))
  | _, _, _ => .stuck
def truD : Kd → R Bool
  | (_, .non) => .ok false
  | (_, .bl b) => .ok b
  | (_, .int i) => .ok (i != 0)
  | (_, .str s) => if s.length ≤ line then .ok (!s.isEmpty) else .stuck
  | (_, .lst xs) => .ok (!xs.isEmpty)
  | (_, .tup xs) => .ok (!xs.isEmpty)
  | _ => .stuck
def idxD : Kd → Kd → R Kd
  | (k, .lst xs), (_, .int i) => match atI xs i with
    | some d => if d.cont then (match k with
        | none => .ok (none, d)
        | some 0 => .ok (some 0, d)
        | some (k + 1) => .ok (some k, d)) else .ok (at9 d)
    | none => .stuck
  | (_, .tup xs), (_, .int i) => match atI xs i with
    | some d => .ok (kd 0 d)
    | none => .stuck
  | (_, .str s), (_, .int i) => if s.length ≤ line then (match atI s i with
    | some c => .ok (at9 (.str [c]))
    | none => .stuck) else .stuck
  | _, _ => .stuck
def cutL {α : Type} (xs : List α) (lo hi : Option Int) : List α := (xs.drop (HT.sIx xs.length 0 lo)).take (HT.sIx xs.length xs.length hi - HT.sIx xs.length 0 lo)
def slD (a : Kd) (lo hi : Option Int) : R Kd := match a with
  | (_, .str s) => if s.length ≤ line then .ok (at9 (.str (cutL s lo hi))) else .stuck
  | (k, .lst xs) => do let c ← chd k xs; .ok (newL c (cutL xs lo hi))
  | (_, .tup xs) => .ok (at9 (.tup (cutL xs lo hi)))
  | _ => .stuck
def revD : Kd → R Kd
  | (_, .str s) => if s.length ≤ line then .ok (at9 (.str s.reverse)) else .stuck
  | (k, .lst xs) => do let c ← chd k xs; .ok (newL c xs.reverse)
  | _ => .stuck

/-- what repr tells -/
def rpS (d : D) : List Nat := d.py.shown.cps.toList
def rOk (d : D) : Bool := shp d && d.py.showable && decide ((rpS d).length ≤ line)
/-- built-ins that are called by their names -/
inductive Bi where
  | len | int | list | tuple | abs | max2 | min2 | sum | maxL | minL | all | any | repr | str
  deriving DecidableEq
def intsOf : List D → Option (List Int)
  | [] => some []
  | .int i :: r => (intsOf r).map (i :: ·)
  | _ => none
def blsOf : List D → Option (List Bool)
  | [] => some []
  | .bl i :: r => (blsOf r).map (i :: ·)
  | _ => none
def strsOf : List D → Option (List (List Nat))
  | [] => some []
  | .str i :: r => (strsOf r).map (i :: ·)
  | _ => none
def maxI : List Int → Int
  | [] => 0
  | [a] => a
  | a :: b :: r => let m := maxI (b :: r); if m > a then m else a
def minI : List Int → Int
  | [] => 0
  | [a] => a
  | a :: b :: r => let m := minI (b :: r); if m < a then m else a
def biD : Bi → List Kd → R Kd
  | .len, [(_, .str s)] => if s.length ≤ line then .ok (at9 (.int s.length)) else .stuck
  | .len, [(_, .lst xs)] => .ok (at9 (.int xs.length))
  | .len, [(_, .tup xs)] => .ok (at9 (.int xs.length))
  | .int, [(_, .int i)] => .ok (at9 (.int i))
  | .int, [(_, .bl b)] => .ok (at9 (.int (if b then 1 else 0)))
  | .int, [(_, .str s)] => match PySem.intText? (mkS s) with
    | some n => if s.length ≤ 640 then .ok (at9 (.int n)) else .stuck
    | none => .stuck
  | .str, [(_, .int i)] => if i.natAbs.log2 < 1920 then .ok (at9 (.str (Str.ofString (toString i)).cps.toList)) else .stuck
  | .list, [(k, .lst xs)] => do let c ← chd k xs; .ok (newL c xs)
  | .list, [(_, .tup xs)] => .ok (newL (if xs.any D.cont then 0 else 8) xs)
  | .tuple, [(k, .lst xs)] => do let _ ← chd k xs; .ok (at9 (.tup xs))
  | .tuple, [(_, .tup xs)] => .ok (at9 (.tup xs))
  | .abs, [(_, .int i)] => .ok (at9 (.int (if i < 0 then -i else i)))
  | .max2, [(_, .int i), (_, .int j)] => .ok (at9 (.int (if j > i then j else i)))
  | .min2, [(_, .int i), (_, .int j)] => .ok (at9 (.int (if j < i then j else i)))
  | .sum, [(_, .lst xs)] => match intsOf xs with
    | some ns => .ok (at9 (.int ns.sum))
    | none => .stuck
  | .maxL, [(_, .lst xs)] => match intsOf xs with
    | some (n :: ns) => .ok (at9 (.int (maxI (n :: ns))))
    | _ => .stuck
  | .minL, [(_, .lst xs)] => match intsOf xs with
    | some (n :: ns) => .ok (at9 (.int (minI (n :: ns))))
    | _ => .stuck
  | .all, [(_, .lst xs)] => match blsOf xs with
    | some bs => .ok (at9 (.bl (bs.all id)))
    | none => .stuck
  | .any, [(_, .lst xs)] => match blsOf xs with
    | some bs => .ok (at9 (.bl (bs.any id)))
    | none => .stuck
  | .repr, [(_, .bl b)] => .ok (at9 (.str (if b then [84, 114, 117, 101] else [70, 97, 108, 115, 101])))
  | .repr, [(_, d)] => if rOk d then .ok (at9 (.str (rpS d))) else .stuck
  | _, _ => .stuck
/-- methods that change nothing -/
inductive Me where
  | join | sindex | lindex | startswith | endswith | count | split
  deriving DecidableEq
def splS (s t : List Nat) : List D := (Txt.split (mkS s) (mkS t)).map fun y => .str y.cps.toList
def joinL (s : List Nat) : List (List Nat) → List Nat
  | [] => []
  | [x] => x
  | x :: y :: r => x ++ s ++ joinL s (y :: r)
def indexOf (c : Nat) : List Nat → Option Nat
  | [] => none
  | d :: r => if d = c then some 0 else (indexOf c r).map (· + 1)
def meOk : Me → D → Bool
  | .lindex, .lst _ => true
  | .lindex, _ => false
  | _, .str _ => true
  | _, _ => false
/-- the name of a value's type -/
def tyN : D → String
  | .non => "NoneType" | .bl _ => "bool" | .int _ => "int" | .str _ => "str" | .lst _ => "list" | .tup _ => "tuple" | .dct _ _ => "dict"
def meD : Me → Kd → List Kd → R Kd
  | .join, (_, .str s), [(_, .lst xs)] => match strsOf xs with
    | some ys => if (ys.map (·.length)).sum + ys.length * s.length ≤ line then .ok (at9 (.str (joinL s ys))) else .stuck
    | none => .stuck
  | .sindex, (_, .str s), [(_, .str [c])] => match indexOf c s with
    | some n => .ok (at9 (.int n))
    | none => .stuck
  | .startswith, (_, .str s), [(_, .str t)] => .ok (at9 (.bl (Txt.startswith (mkS s) (mkS t))))
  | .endswith, (_, .str s), [(_, .str t)] => .ok (at9 (.bl (Txt.endswith (mkS s) (mkS t))))
  | .count, (_, .str s), [(_, .str t)] => .ok (at9 (.int (Txt.count (mkS s) (mkS t))))
  | .split, (_, .str s), [(_, .str t)] => if (t.length == 0) = false ∧ s.length + 2 ≤ line then .ok (newL 8 (splS s t)) else .stuck
  | _, _, _ => .stuck

/-! ### code -/
inductive Pat where
  | nm (i : Nat) | tp (ps : List Pat)
mutual
/-- an expression -/
inductive Ex where
  | var (i : Nat) | lit (d : D) | glob (j : Nat)
  | bin (o : Operator) (a b : Ex) | un (o : UnaryOp) (a : Ex)
  | cmp (o : CmpOp) (a b : Ex) | chain (o o' : CmpOp) (a b c : Ex)
  | and (a b : Ex) | or (a b : Ex) | not (a : Ex) | ite (c : Tx) (a b : Ex)
  | idx (a i : Ex) | sl (a : Ex) (lo hi : Ox) | rev (a : Ex)
  | call (j : Nat) (es : List Ex) | bi (b : Bi) (es : List Ex) | me (m : Me) (a : Ex) (es : List Ex)
  | tup (es : List Ex) | list (es : List Ex)
  | comp (p : Pat) (it : Ix) (cs : List Tx) (e : Ex)
  | isTy (a : Ex) (t : String)
/-- a test -/
inductive Tx where
  | and (a b : Tx) | or (a b : Tx) | not (a : Tx)
  | cmp (o : CmpOp) (a b : Ex) | chain (o o' : CmpOp) (a b c : Ex)
  | val (a : Ex)
/-- a part of a slice -/
inductive Ox where
  | no | yes (a : Ex)
/-- what is walked, in a for or a comprehension alone -/
inductive Ix where
  | rng1 (a : Ex) | rng2 (a b : Ex) | rng3 (a b c : Ex) | enum (a : Ex) | zip (a b : Ex) | val (a : Ex)
end

/-- a target takes a frozen value -/
def isFl : D → Bool := fun d => d.cont
mutual
def bindP : Pat → D → Env → R Env
  | .nm i, d, ρ => if i < ρ.length then .ok (ρ.set i (some ((kd 0 d).1.getD 0, d))) else .stuck
  | .tp ps, .tup ds, ρ => bindPs ps ds ρ
  | .tp ps, .lst ds, ρ => bindPs ps ds ρ
  | .tp _, _, _ => .stuck
def bindPs : List Pat → List D → Env → R Env
  | [], [], ρ => .ok ρ
  | p :: ps, d :: ds, ρ => do let ρ' ← bindP p d ρ; bindPs ps ds ρ'
  | _, _, _ => .stuck
end
/-- what is walked, as frozen items -/
def itemsD (bor : Bool) : Kd → R (List D)
  | (k, .lst xs) => if k.isNone && !bor then .stuck else do let _ ← chd k xs; .ok xs
  | (_, .tup xs) => .ok xs
  | (_, .str s) => .ok (s.map fun c => .str [c])
  | _ => .stuck
/-- .. of a list or a tuple -/
def itemsM (bor : Bool) : Kd → R (List D)
  | (k, .lst xs) => itemsD bor (k, .lst xs)
  | (k, .tup xs) => itemsD bor (k, .tup xs)
  | _ => .stuck
/-- .. of a list alone -/
def itemsL (bor : Bool) : Kd → R (List D)
  | (k, .lst xs) => itemsD bor (k, .lst xs)
  | _ => .stuck
def mapR {α β : Type} (f : α → R β) : List α → R (List β)
  | [] => .ok []
  | a :: r => do let b ← f a; let bs ← mapR f r; .ok (b :: bs)
/-- a comprehension: the items kept -/
def compR (f : D → R (Option (Nat × D))) : List D → R (List (Nat × D))
  | [] => .ok []
  | a :: r => do
    let b ← f a
    let bs ← compR f r
    match b with
      | some b => .ok (b :: bs)
      | none => .ok bs
def dmin : List Nat → Nat
  | [] => 8
  | k :: r => min k (dmin r)
def listV (vs : List (Nat × D)) : R Kd := if vs.length ≤ line then .ok (newL (dmin (vs.map (·.1))) (vs.map (·.2))) else .stuck
def listD (ks : List Kd) : R Kd := do
  let vs ← mapR needV ks
  listV vs
def tupD (ks : List Kd) : R Kd := do
  let vs ← mapR needV ks
  if vs.length ≤ line then .ok (at9 (.tup (vs.map (·.2)))) else .stuck
mutual
def pureD : D → Bool
  | .lst _ => false
  | .dct _ _ => false
  | .tup xs => puresD xs
  | _ => true
def puresD : List D → Bool
  | [] => true
  | d :: ds => pureD d && puresD ds
end
def ownAll : Nat → D → Bool
  | 0, d => pureD d
  | k + 1, d => match d with
    | .lst xs => xs.all (ownAll k)
    | .dct _ vs => vs.all (ownAll k)
    | d => pureD d
abbrev Fn := List D → R (Nat × D)
def callD (f : Fn) (ks : List Kd) : R Kd := do
  let (k, d) ← f (ks.map (·.2))
  if ks.any (fun x => x.1.isNone) && !ownAll k d then .stuck else .ok (kd k d)
def rngL (lo hi st : Int) : List D := (List.range (Builtin.Range.rangeSize lo hi st).toNat).map fun (i : Nat) => D.int (lo + (i : Int) * st)
def rng1 (lo hi : Int) : List D := (List.range (hi - lo).toNat).map fun (i : Nat) => D.int (lo + (i : Int))
def big : Int := 4611686018427387904
def inBig (a : Int) : Bool := -big ≤ a && a < big
def enumL : Nat → List D → List D
  | _, [] => []
  | n, d :: ds => .tup [.int n, d] :: enumL (n + 1) ds
def zipL : List D → List D → List D
  | a :: as, b :: bs => .tup [a, b] :: zipL as bs
  | _, _ => []

mutual
def Pat.slots : Pat → List Nat
  | .nm i => [i]
  | .tp ps => slotsL ps
def slotsL : List Pat → List Nat
  | [] => []
  | p :: ps => p.slots ++ slotsL ps
end
def wipeE (ρ : Env) : List Nat → Env
  | [] => ρ
  | v :: vs => (wipeE ρ vs).set v none
/-- what raises within a comprehension is not looked at -/
def noExc {α : Type} : R α → R α
  | .ok a => .ok a
  | _ => .stuck
section
variable (F : List Fn) (C : List D)
mutual
def ev : Ex → Env → R Kd
  | .var i, ρ => match ρ[i]? with
    | some (some (k, d)) => .ok (if d.cont then (if k = 0 then (some 0, d) else (none, d)) else at9 d)
    | _ => .stuck
  | .lit d, _ => .ok (at9 d)
  | .glob j, _ => match C[j]? with
    | some d => .ok (kd 0 d)
    | none => .stuck
  | .bin o a b, ρ => do let x ← ev a ρ; let y ← ev b ρ; binD o x y
  | .un o a, ρ => do let x ← ev a ρ; unD o x
  | .cmp o a b, ρ => do let x ← ev a ρ; let y ← ev b ρ; let r ← cmpD o x y; .ok (at9 (.bl r))
  | .chain o o' a b c, ρ => do
    let x ← ev a ρ
    let y ← ev b ρ
    let r ← cmpD o x y
    if r then do let z ← ev c ρ; let r' ← cmpD o' y z; .ok (at9 (.bl r')) else .ok (at9 (.bl false))
  | .and a b, ρ => do
    let x ← ev a ρ
    match x with
      | (_, .bl true) => ev b ρ
      | (_, .bl false) => .ok (at9 (.bl false))
      | _ => .stuck
  | .or a b, ρ => do
    let x ← ev a ρ
    match x with
      | (_, .bl true) => .ok (at9 (.bl true))
      | (_, .bl false) => ev b ρ
      | _ => .stuck
  | .not a, ρ => do let x ← ev a ρ; let r ← truD x; .ok (at9 (.bl (!r)))
  | .ite c a b, ρ => do let r ← tst c ρ; if r then ev a ρ else ev b ρ
  | .idx a i, ρ => do let x ← ev a ρ; let y ← ev i ρ; idxD x y
  | .sl a lo hi, ρ => do let x ← ev a ρ; let l ← evO lo ρ; let h ← evO hi ρ; slD x l h
  | .rev a, ρ => do let x ← ev a ρ; revD x
  | .call j es, ρ => do
    let ks ← evs es ρ
    match F[j]? with
      | some f => callD f ks
      | none => .stuck
  | .bi b es, ρ => do let ks ← evs es ρ; biD b ks
  | .me m a es, ρ => do
    let x ← ev a ρ
    if meOk m x.2 then do let ks ← evs es ρ; meD m x ks else .stuck
  | .tup es, ρ => do let ks ← evs es ρ; tupD ks
  | .list es, ρ => do let ks ← evs es ρ; listD ks
  | .comp p it cs e, ρ => do
    let xs ← evI true it ρ
    let ks ← noExc (compR (fun d => do
      let ρ' ← bindP p d (wipeE ρ p.slots)
      let r ← tsts cs ρ'
      if r then do let k ← ev e ρ'; let k ← needV k; .ok (some k) else .ok none) xs)
    listV ks
  | .isTy a t, ρ => do
    let x ← ev a ρ
    match kitB (tyN x.2) t with
      | some b => .ok (at9 (.bl b))
      | none => .stuck
/-- a part of a slice -/
def evO : Ox → Env → R (Option Int)
  | .no, _ => .ok none
  | .yes e, ρ => do
    let x ← ev e ρ
    match x with
      | (_, .int i) => .ok (some i)
      | _ => .stuck
/-- as a test -/
def tst : Tx → Env → R Bool
  | .and a b, ρ => do let r ← tst a ρ; if r then tst b ρ else .ok false
  | .or a b, ρ => do let r ← tst a ρ; if r then .ok true else tst b ρ
  | .not a, ρ => do let r ← tst a ρ; .ok (!r)
  | .cmp o a b, ρ => do let x ← ev a ρ; let y ← ev b ρ; cmpD o x y
  | .chain o o' a b c, ρ => do
    let x ← ev a ρ
    let y ← ev b ρ
    let r ← cmpD o x y
    if r then do let z ← ev c ρ; cmpD o' y z else .ok false
  | .val e, ρ => do let x ← ev e ρ; truD x
/-- what is walked -/
def evI (bor : Bool) : Ix → Env → R (List D)
  | .rng1 a, ρ => do
    let x ← ev a ρ
    match x with
      | (_, .int n) => if inBig n then .ok (rng1 0 n) else .stuck
      | _ => .stuck
  | .rng2 a b, ρ => do
    let x ← ev a ρ
    let y ← ev b ρ
    match x, y with
      | (_, .int n), (_, .int m) => if inBig n && inBig m then .ok (rng1 n m) else .stuck
      | _, _ => .stuck
  | .rng3 a b c, ρ => do
    let x ← ev a ρ
    let y ← ev b ρ
    let z ← ev c ρ
    match x, y, z with
      | (_, .int n), (_, .int m), (_, .int k) => if inBig n && inBig m && k ≠ 0 && k.natAbs < 1073741824 && Builtin.Range.small n m k && 0 ≤ Builtin.Range.rangeSize n m k then .ok (rngL n m k) else .stuck
      | _, _, _ => .stuck
  | .enum a, ρ => do let x ← ev a ρ; let xs ← itemsL bor x; .ok (enumL 0 xs)
  | .zip a b, ρ => do let x ← ev a ρ; let y ← ev b ρ; let xs ← itemsM bor x; let ys ← itemsL bor y; .ok (zipL xs ys)
  | .val e, ρ => do let x ← ev e ρ; itemsD bor x
def evs : List Ex → Env → R (List Kd)
  | [], _ => .ok []
  | e :: es, ρ => do let k ← ev e ρ; let ks ← evs es ρ; .ok (k :: ks)
def tsts : List Tx → Env → R Bool
  | [], _ => .ok true
  | e :: es, ρ => do let r ← tst e ρ; if r then tsts es ρ else .ok false
end
end
end Px

/-! Px3: what stands in the slots and in the heap for an environment; results; operations by values. -/
namespace Px
open PySem PySem.Spec PyProof.Rows L2

def IsM (H : Hp) (x : Addr) : Prop := (∃ vs, H x = some (.lst vs)) ∨ ∃ kvs, H x = some (.dK kvs)
theorem IsM.mono {H H' : Hp} {x : Addr} (s : Same H H') (h : IsM H x) : IsM H' x := h.elim (fun ⟨v, e⟩ => .inl ⟨v, s _ _ e⟩) fun ⟨v, e⟩ => .inr ⟨v, s _ _ e⟩
theorem IsM.ne {H : Hp} {x : Addr} (h : IsM H x) : H x ≠ none := fun e => by rcases h with ⟨_, h⟩ | ⟨_, h⟩ <;> (rw [e] at h; cases h)
abbrev ZO (Z : AS) (O : Nat → AS) : AS := fun x => Z x ∨ ∃ i, O i x

/-- the slots and the heap of an environment: Z reserved by others, O i owned by slot i, B what stood at the beginning -/
structure Rel (K : PySem.W.Frag) (B : Hp) (Z : AS) (O : Nat → AS) (σ : L2.St) (H : Hp) (ρ : Env) : Prop where
  len : σ.length = ρ.length
  zm : ∀ x, Z x → IsM H x
  dj : ∀ i j x, O i x → O j x → i = j
  fr : ∀ i x, O i x → ¬ Z x ∧ B x = none
  base : Same B H
  own : ∀ i k d, ρ[i]? = some (some (k, d)) → ∃ v, σ[i]? = some (some v) ∧ Own K H (ZO Z O) k d v (O i)
  non : ∀ i, (∀ k d, ρ[i]? ≠ some (some (k, d))) → ∀ x, ¬ O i x
section
variable {K : PySem.W.Frag} {B H H' H0 H1 : Hp} {A Z : AS} {O : Nat → AS} {σ : L2.St} {ρ : Env}
theorem Rel.om (r : Rel K B Z O σ H ρ) {i : Nat} {x : Addr} (h : O i x) : IsM H x := by
  cases e : ρ[i]? with
  | none => exact (r.non i (fun k d q => by rw [e] at q; cases q) x h).elim
  | some q =>
    cases q with
    | none => exact (r.non i (fun k d q => by rw [e] at q; cases q) x h).elim
    | some p =>
      obtain ⟨v, _, w⟩ := r.own i p.1 p.2 e
      exact w.dom h
theorem Rel.am (r : Rel K B Z O σ H ρ) {x : Addr} (h : ZO Z O x) : IsM H x := h.elim (r.zm x) fun ⟨_, h⟩ => r.om h
theorem Rel.mono (r : Rel K B Z O σ H ρ) (s : Same H H') : Rel K B Z O σ H' ρ :=
  ⟨r.len, fun x z => (r.zm x z).mono s, r.dj, r.fr, r.base.trans s, fun i k d e => let ⟨v, e1, w⟩ := r.own i k d e; ⟨v, e1, w.mono s fun _ z => .inl z⟩, r.non⟩
/-- more is reserved -/
theorem Rel.res (r : Rel K B Z O σ H ρ) (s : Same H H') {T : AS} (hT : ∀ x, T x → H x = none) (hm : ∀ x, T x → IsM H' x) : Rel K B (fun x => Z x ∨ T x) O σ H' ρ := by
  refine ⟨r.len, fun x z => z.elim (fun z => (r.zm x z).mono s) (hm x), r.dj, fun i x o => ⟨fun z => ?_, (r.fr i x o).2⟩, r.base.trans s, fun i k d e => ?_, r.non⟩
  · rcases z with z | z
    · exact (r.fr i x o).1 z
    · exact (r.om o).ne (hT x z)
  · obtain ⟨v, e1, w⟩ := r.own i k d e
    exact ⟨v, e1, w.mono s fun x z => by
      rcases z with (z | z) | z
      · exact .inl (.inl z)
      · exact .inr (hT x z)
      · exact .inl (.inr z)⟩

/-! ### results -/
def Res1 (K : PySem.W.Frag) (H : Hp) (A : AS) (k : Kd) (v : V) (O : AS) : Prop := match k.1 with
  | none => (∀ x, ¬ O x) ∧ ∃ j P, (∀ x, P x → A x) ∧ Own K H A j k.2 v P
  | some j => Own K H A j k.2 v O
def OwnsK (R : Kd → V → AS → Prop) : List Kd → List V → AS → Prop
  | [], vs, O => vs = [] ∧ ∀ x, ¬ O x
  | d :: ds, vs, O => ∃ v vs' O1 O2, vs = v :: vs' ∧ (∀ x, O x ↔ O1 x ∨ O2 x) ∧ (∀ x, O1 x → ¬ O2 x) ∧ R d v O1 ∧ OwnsK R ds vs' O2
/-- a result of an expression that began at H0 -/
def Res (K : PySem.W.Frag) (H0 H : Hp) (A : AS) (k : Kd) (v : V) : Prop := ∃ O : AS, (∀ x, O x → H0 x = none) ∧ Res1 K H (fun x => A x ∨ O x) k v O
def Ress (K : PySem.W.Frag) (H0 H : Hp) (A : AS) (ks : List Kd) (vs : List V) : Prop := ∃ O : AS, (∀ x, O x → H0 x = none) ∧ OwnsK (Res1 K H (fun x => A x ∨ O x)) ks vs O
theorem Res1.rep {k : Kd} {v : V} {O : AS} (h : Res1 K H A k v O) : RepR K H k.2 v := by
  unfold Res1 at h; split at h
  · obtain ⟨_, j, P, _, w⟩ := h; exact w.rep
  · exact h.rep
theorem Res.rep {k : Kd} {v : V} (h : Res K H0 H A k v) : RepR K H k.2 v := let ⟨_, _, r⟩ := h; r.rep
theorem OwnsK.rep : ∀ {ks : List Kd} {vs : List V} {O : AS}, OwnsK (Res1 K H A) ks vs O → RepRs K H (ks.map (·.2)) vs
  | [], _, _, h => by rw [h.1]; exact RepRs.nil
  | k :: ks, _, _, ⟨v, vs', O1, O2, e, h1, h2, r, q⟩ => by subst e; exact RepRs.cons r.rep (OwnsK.rep q)
theorem Ress.rep {ks : List Kd} {vs : List V} (h : Ress K H0 H A ks vs) : RepRs K H (ks.map (·.2)) vs := let ⟨_, _, r⟩ := h; r.rep
theorem Res1.mono (s : Same H H') {A' : AS} (hA : ∀ x, A' x → A x ∨ H x = none) (hA2 : ∀ x, A x → A' x) {k : Kd} {v : V} {O : AS} (h : Res1 K H A k v O) : Res1 K H' A' k v O := by
  unfold Res1 at *; split at h <;> rename_i e
  · obtain ⟨n, j, P, hp, w⟩ := h
    exact ⟨n, j, P, fun x z => hA2 x (hp x z), w.mono s hA⟩
  · exact h.mono s hA
theorem OwnsK.imp {R R' : Kd → V → AS → Prop} (f : ∀ d v O, R d v O → R' d v O) : ∀ {ds : List Kd} {vs : List V} {O : AS}, OwnsK R ds vs O → OwnsK R' ds vs O
  | [], _, _, h => h
  | d :: ds, _, _, ⟨v, vs', O1, O2, e, h1, h2, r, q⟩ => ⟨v, vs', O1, O2, e, h1, h2, f _ _ _ r, OwnsK.imp f q⟩
theorem Res1.dom {k : Kd} {v : V} {O : AS} {x : Addr} (h : Res1 K H A k v O) (z : O x) : IsM H x := by
  unfold Res1 at h; split at h
  · exact (h.1 x z).elim
  · exact h.dom z
theorem OwnsK.dom : ∀ {ks : List Kd} {vs : List V} {O : AS} {x : Addr}, OwnsK (Res1 K H A) ks vs O → O x → IsM H x
  | [], _, _, _, h, z => (h.2 _ z).elim
  | k :: ks, _, _, x, ⟨v, vs', O1, O2, e, h1, h2, r, q⟩, z => by
    rcases (h1 x).mp z with z | z
    · exact r.dom z
    · exact OwnsK.dom q z
theorem Ress.nil : Ress K H H A [] [] := ⟨fun _ => False, fun _ z => z.elim, rfl, fun _ z => z⟩
/-- a first result, then the others, begun where the first one ended, its own things reserved -/
theorem Ress.cons {k : Kd} {ks : List Kd} {v : V} {vs : List V} {O1 : AS} (f1 : ∀ x, O1 x → H0 x = none) (hA : ∀ x, A x → IsM H0 x) (s0 : Same H0 H1) (r1 : Res1 K H1 (fun x => A x ∨ O1 x) k v O1) (s1 : Same H1 H)
    (r2 : Ress K H1 H (fun x => A x ∨ O1 x) ks vs) : Ress K H0 H A (k :: ks) (v :: vs) := by
  obtain ⟨O2, f2, r2⟩ := r2
  have f2' : ∀ x, O2 x → H0 x = none := fun x z => s0.free (f2 x z)
  refine ⟨fun x => O1 x ∨ O2 x, fun x z => z.elim (f1 x) (f2' x), v, vs, O1, O2, rfl, fun x => Iff.rfl, fun x z1 z2 => (r1.dom z1).ne (f2 x z2), ?_, ?_⟩
  · refine r1.mono s1 (fun x z => ?_) fun x z => ?_
    · rcases z with z | z | z
      · exact .inl (.inl z)
      · exact .inl (.inr z)
      · exact .inr (f2 x z)
    · rcases z with z | z
      · exact .inl z
      · exact .inr (.inl z)
  · refine r2.imp fun d v O r => r.mono (Same.refl _) (fun x z => ?_) fun x z => ?_
    · rcases z with z | z | z
      · exact .inl (.inl (.inl z))
      · exact .inl (.inl (.inr z))
      · exact .inl (.inr z)
    · rcases z with (z | z) | z
      · exact .inl z
      · exact .inr (.inl z)
      · exact .inr (.inr z)
/-! a value that leans on no mutable thing -/
def atomD : D → Bool
  | .lst _ => false
  | .tup _ => false
  | .dct _ _ => false
  | _ => true
theorem RepR.atom {d : D} (a : atomD d = true) {v : V} (r : RepR K H d v) : RepR K H' d v := by
  cases d <;> first | (cases a; done) | (unfold RepR at *; exact r)
theorem Res.atom {d : D} (a : atomD d = true) {v : V} (r : RepR K H' d v) : Res K H0 H A (at9 d) v :=
  ⟨fun _ => False, fun _ z => z.elim, (Own.flat (by cases d <;> first | rfl | cases a)).mpr ⟨fun _ z => z, r.atom a⟩⟩
theorem Res.int {i : Int} : Res K H0 H A (at9 (.int i)) (.int i) := Res.atom (H' := H) rfl (by unfold RepR; rfl)
theorem Res.bl {b : Bool} : Res K H0 H A (at9 (.bl b)) (.bl b) := Res.atom (H' := H) rfl (by unfold RepR; rfl)
theorem Res.str {s : List Nat} : Res K H0 H A (at9 (.str s)) (.str (mkS s)) := Res.atom (H' := H) rfl (by unfold RepR; rfl)
theorem Res.non : Res K H0 H A (at9 .non) .non := Res.atom (H' := H) rfl (by unfold RepR; rfl)
theorem RepR.int {i : Int} {v : V} (r : RepR K H (.int i) v) : v = .int i := by unfold RepR at r; exact r
theorem RepR.bl {b : Bool} {v : V} (r : RepR K H (.bl b) v) : v = .bl b := by unfold RepR at r; exact r
theorem RepR.str {s : List Nat} {v : V} (r : RepR K H (.str s) v) : v = .str (mkS s) := by unfold RepR at r; exact r
theorem RepR.non {v : V} (r : RepR K H .non v) : v = .non := by unfold RepR at r; exact r
theorem RepR.lst {xs : List D} {v : V} (r : RepR K H (.lst xs) v) : ∃ a vs, v = .ref a ∧ SqL K H a vs ∧ RepRs K H xs vs := by unfold RepR at r; exact r
theorem RepR.tup {xs : List D} {v : V} (r : RepR K H (.tup xs) v) : ∃ a vs, v = .ref a ∧ SqT K H a vs ∧ RepRs K H xs vs := by unfold RepR at r; exact r
theorem RepR.dct {ks xs : List D} {v : V} (r : RepR K H (.dct ks xs) v) : ∃ a kvs, v = .ref a ∧ Rd H a (.dK kvs) ∧ ks.map keyOf = kvs.map (fun p => some p.1) ∧ RepRs K H xs (kvs.map (·.2)) := by unfold RepR at r; exact r
theorem mkS_len (s : List Nat) : (mkS s).length = s.length := by unfold Str.length; simp
theorem mkS_app (s t : List Nat) : mkS s ++ mkS t = mkS (s ++ t) := by
  show Str.append (mkS s) (mkS t) = _
  unfold Str.append; simp
theorem mkS_inj {s t : List Nat} (h : mkS s = mkS t) : s = t := by
  have := congrArg (fun z => z.cps.toList) h; simpa using this
theorem mkS_list (z : Str) : mkS z.cps.toList = z := by cases z; simp
theorem line_eq : (sizeLine : Nat) = line := by unfold sizeLine; rfl
/-- the items of what is owned at its top, one by one -/
theorem ch_ok {k : Option Nat} {xs : List D} {c : Nat} {v : V} {O : AS} (h : chd k xs = .ok c) (r : Res1 K H A (k, .lst xs) v O) (hO : ∀ x, O x → A x) :
    ∃ a vs, v = .ref a ∧ SqL K H a vs ∧ (k.isSome = true → ∀ x, ¬ O x → x ≠ a ∨ True) ∧ ∃ O', (∀ x, O' x → O x) ∧ (∀ x, O' x → x ≠ a) ∧ Owns (Own K H A c) xs vs O' := by
  have frz : ∀ {vs : List V} {j : Nat}, RepRs K (cut H A) xs vs → xs.any D.cont = false → Owns (Own K H A j) xs vs (fun _ => False) := by
    intro vs j q hc
    have q' := Owns.frz (R := Own K H A 0) (fun d v O n r => ⟨n, r⟩) (O := fun _ => False) (fun _ z => z) q
    refine q'.impIn fun d m v O1 s r => ?_
    have cd : d.cont = false := by
      cases e : d.cont with
      | false => rfl
      | true => rw [List.any_eq_true.mpr ⟨d, m, e⟩] at hc; cases hc
    exact (Own.flat cd).mpr r
  have low : ∀ {vs : List V} {j c : Nat} {O1 : AS}, Owns (Own K H A j) xs vs O1 → xs.any D.cont = false → Owns (Own K H A c) xs vs (fun _ => False) := by
    intro vs j c O1 q hc
    have q' : Owns (Own K H A c) xs vs O1 := q.impIn fun d m v O1 s r => by
      have cd : d.cont = false := by
        cases e : d.cont with
        | false => rfl
        | true => rw [List.any_eq_true.mpr ⟨d, m, e⟩] at hc; cases hc
      exact (Own.flat cd).mpr ((Own.flat cd).mp r)
    have : ∀ {ds : List D} {vs : List V} {P : AS}, (∀ d ∈ ds, d.cont = false) → Owns (Own K H A c) ds vs P → Owns (Own K H A c) ds vs (fun _ => False) := by
      intro ds
      induction ds with
      | nil => intro vs P _ h; exact ⟨h.1, fun _ z => z⟩
      | cons d ds ih =>
        intro vs P hd ⟨v, vs', O1, O2, e, h1, h2, r, q⟩
        exact ⟨v, vs', _, _, e, fun x => by simp, fun _ z => z.elim, (Own.flat (hd d (by simp))).mpr ⟨fun _ z => z, ((Own.flat (hd d (by simp))).mp r).2⟩, ih (fun d m => hd d (by simp [m])) q⟩
    refine this (fun d m => ?_) q'
    cases e : d.cont with
    | false => rfl
    | true => rw [List.any_eq_true.mpr ⟨d, m, e⟩] at hc; cases hc
  -- by the depth of what we have
  have main : ∀ (j : Nat) (P : AS), Own K H A j (.lst xs) v P → ∃ a vs, v = .ref a ∧ SqL K H a vs ∧ (j = 0 → RepRs K (cut H A) xs vs) ∧ (∀ j', j = j' + 1 → ∃ O', (∀ x, O' x → P x) ∧ (∀ x, O' x → x ≠ a) ∧ Owns (Own K H A j') xs vs O') := by
    intro j P w
    cases j with
    | zero =>
      obtain ⟨a, vs, e, s, q⟩ := RepR.lst w.2
      exact ⟨a, vs, e, L2.Same.seq cut_same s, fun _ => q, fun j' z => by omega⟩
    | succ j =>
      unfold Own at w
      obtain ⟨a, vs, O', e, s, h1, h2, q⟩ := w
      refine ⟨a, vs, e, SqL.of s, fun z => by omega, fun j' z => ?_⟩
      have : j' = j := by omega
      subst this
      exact ⟨O', fun x z => (h1 x).mpr (.inr z), fun x z e => h2 (e ▸ z), q⟩
  have get : ∃ (j : Nat) (P : AS), Own K H A j (.lst xs) v P ∧ (∀ m, k = some m → m = j ∧ P = O) := by
    unfold Res1 at r
    cases k with
    | none => obtain ⟨n, j, P, hp, w⟩ := r; exact ⟨j, P, w, fun m z => nomatch z⟩
    | some m => exact ⟨m, O, r, fun m' z => by cases z; exact ⟨rfl, rfl⟩⟩
  obtain ⟨j, P, w, hk⟩ := get
  obtain ⟨a, vs, e, s, m0, m1⟩ := main j P w
  refine ⟨a, vs, e, s, fun _ _ _ => .inr trivial, ?_⟩
  unfold chd at h
  by_cases hc : xs.any D.cont = true
  · rw [if_pos hc] at h
    cases k with
    | none => cases h
    | some m =>
      obtain ⟨e1, e2⟩ := hk m rfl
      subst e1
      subst e2
      cases m with
      | zero =>
        cases h
        exact ⟨fun _ => False, fun _ z => z.elim, fun _ z => z.elim, Owns.frz (fun d v O n r => ⟨n, r⟩) (fun _ z => z) (m0 rfl)⟩
      | succ m =>
        cases h
        exact m1 _ rfl
  · have hc : xs.any D.cont = false := by simpa using hc
    rw [if_neg (by rw [hc]; exact Bool.false_ne_true)] at h
    cases h
    cases j with
    | zero => exact ⟨fun _ => False, fun _ z => z.elim, fun _ z => z.elim, frz (m0 rfl) hc⟩
    | succ j =>
      obtain ⟨O', _, _, q⟩ := m1 j rfl
      exact ⟨fun _ => False, fun _ z => z.elim, fun _ z => z.elim, low q hc⟩
/-- a new list of owned things -/
theorem Res.newL {xs : List D} {vs : List V} {c : Nat} {p : Addr} {O : AS} (hp : H p = none) (s0 : Same H0 H) (f : ∀ x, O x → H0 x = none) (hA : ∀ x, A x → IsM H x) (q : Owns (Own K H (fun x => A x ∨ O x) c) xs vs O) :
    Res K H0 (upd H p (.lst vs)) A (newL c xs) (.ref p) := by
  refine ⟨fun x => x = p ∨ O x, fun x z => z.elim (fun e => e ▸ s0.free hp) (f x), ?_⟩
  show Own K _ _ (c + 1) (.lst xs) (.ref p) _
  unfold Own
  have nO : ¬ O p := fun z => by
    obtain ⟨d, _, v, O1, r, z⟩ := Owns.mem q z
    obtain ⟨o, e⟩ := r.some z
    rw [hp] at e; cases e
  refine ⟨p, vs, O, rfl, upd_same, fun x => Iff.rfl, nO, q.imp fun d v O1 r => r.mono (same_new hp) fun x z => ?_⟩
  rcases z with z | z | z
  · exact .inl (.inl z)
  · subst z; exact .inr hp
  · exact .inl (.inr z)
theorem Res.tupN {xs : List D} {vs : List V} {p : Addr} (hp : H p = none) (hA : ∀ x, A x → IsM H x) (q : RepRs K (cut H A) xs vs) : Res K H0 (upd H p (.tup vs)) A (at9 (.tup xs)) (.ref p) := by
  refine ⟨fun _ => False, fun _ z => z.elim, (Own.flat rfl).mpr ⟨fun _ z => z, ?_⟩⟩
  have nA : ¬ A p := fun z => (hA p z).ne hp
  have hs : Same (cut H A) (cut (upd H p (.tup vs)) (fun x => A x ∨ False)) := fun b o e => by
    obtain ⟨e1, e2⟩ := cut_some e
    exact cut_of (same_new hp b o e1) fun z => z.elim e2 id
  unfold RepR
  exact ⟨p, vs, rfl, SqT.of (cut_of upd_same fun z => z.elim nA id), q.mono hs⟩
end
end Px

/-! Px4: operations by values. -/
namespace Px
open PySem PySem.Spec L2
section
variable {K : PySem.W.Frag} {B H H' H0 H1 : Hp} {A Z : AS} {X : Cx}
/-- what an operation on two values asks, by its pure function -/
def rB (K : PySem.W.Frag) (f : Kd → Kd → R Kd) : R2 := fun x y H Q => ∃ (H0 : Hp) (A : AS) (ka kb r : Kd), Same H0 H ∧ (∀ z, A z → IsM H0 z) ∧ Ress K H0 H A [ka, kb] [x, y] ∧ f ka kb = .ok r ∧ ∀ v H', Same H H' → Res K H0 H' A r v → Q v H'
theorem ress2 {ka kb : Kd} {x y : V} (h : Ress K H0 H A [ka, kb] [x, y]) : RepR K H ka.2 x ∧ RepR K H kb.2 y := by
  obtain ⟨O, f, v, vs, O1, O2, e, h1, h2, r, v', vs', O3, O4, e', h3, h4, r', q⟩ := h
  cases e; cases e'
  exact ⟨r.rep, r'.rep⟩
theorem ress2o {ka kb : Kd} {x y : V} (h : Ress K H0 H A [ka, kb] [x, y]) : ∃ O1 O2 : AS, (∀ z, O1 z ∨ O2 z → H0 z = none) ∧ (∀ z, O1 z → ¬ O2 z) ∧ Res1 K H (fun z => A z ∨ O1 z ∨ O2 z) ka x O1 ∧ Res1 K H (fun z => A z ∨ O1 z ∨ O2 z) kb y O2 := by
  obtain ⟨O, f, v, vs, O1, O2, e, h1, h2, r, v', vs', O3, O4, e', h3, h4, r', q⟩ := h
  cases e; cases e'
  have hO : ∀ z, O z ↔ O1 z ∨ O3 z := fun z => by
    rw [h1 z, h3 z]
    constructor
    · rintro (z1 | z1 | z1)
      · exact .inl z1
      · exact .inr z1
      · exact (q.2 z z1).elim
    · rintro (z1 | z1)
      · exact .inl z1
      · exact .inr (.inl z1)
  have hA : ∀ z, (A z ∨ O1 z ∨ O3 z) → (A z ∨ O z) ∨ H z = none := fun z q => .inl (q.elim .inl fun q => .inr ((hO z).mpr q))
  have hA2 : ∀ z, (A z ∨ O z) → (A z ∨ O1 z ∨ O3 z) := fun z q => q.elim .inl fun q => .inr ((hO z).mp q)
  exact ⟨O1, O3, fun z q => f z ((hO z).mpr q), fun z z1 z3 => h2 z z1 ((h3 z).mpr (.inl z3)), r.mono (Same.refl _) hA hA2, r'.mono (Same.refl _) hA hA2⟩
theorem repL_str (n : Int) (s : List Nat) : (List.replicate n.toNat (mkS s).cps).foldl (· ++ ·) #[] = (repL n s).toArray := by
  unfold repL
  have : ∀ (m : Nat) (acc : List Nat), (List.replicate m s.toArray).foldl (· ++ ·) acc.toArray = (acc ++ (List.replicate m s).flatten).toArray := by
    intro m
    induction m with
    | zero => intro acc; simp
    | succ m ih =>
      intro acc
      rw [List.replicate_succ, List.foldl_cons, List.replicate_succ, List.flatten_cons]
      have : acc.toArray ++ s.toArray = (acc ++ s).toArray := by simp
      rw [this, ih, List.append_assoc]
  have h := this n.toNat []
  simpa using h
theorem repL_len {α : Type} (n : Int) (s : List α) : (repL n s).length = s.length * n.toNat := by
  unfold repL
  rw [List.length_flatten, List.map_replicate]
  simp [Nat.mul_comm]
theorem op_mul_str : OpR X (binaryOp .Mult) (fun x y H Q => ∃ (s : List Nat) (n : Int), x = .str (mkS s) ∧ y = .int n ∧ -9223372036854775808 ≤ n ∧ n < 9223372036854775808 ∧ s.length * n.toNat ≤ line ∧ Q (.str (mkS (repL n s))) H) := by
  intro pins s σ H x y v u Q I rx ry h
  obtain ⟨z, n, rfl, rfl, h1, h2, h3, q⟩ := h
  obtain ⟨t, rfl⟩ := rx
  obtain ⟨t', rfl⟩ := ry
  have len := mkS_len z
  have capg : ¬ n < 1 → (n == 1 || (mkS z).length == 0) = false → ¬ (((mkS z).length : Int) > (2 ^ 63 - 1) / n) := fun n1 n2 => by
    rw [len]
    have hp : 0 < n := by omega
    rw [gt_iff_lt, Int.not_lt, Int.le_ediv_iff_mul_le hp]
    have e : ((z.length : Int)) * n = ((z.length * n.toNat : Nat) : Int) := by
      rw [Int.natCast_mul, Int.toNat_of_nonneg (by omega)]
    rw [e]
    have : (line : Int) ≤ 2 ^ 63 - 1 := by decide
    omega
  have long : ∀ k : Nat, k ≤ line → PySem.Builtin.Str.tooLong k = false := fun k hk => by
    unfold PySem.Builtin.Str.tooLong
    exact decide_eq_false (by rw [line_eq]; omega)
  refine PySem.P.mul_str ?_ capg (fun _ _ => long ((mkS z).length * n.toNat) (by rw [len]; exact h3)) ?_
  · have e1 : ¬ n < -(2 ^ 63 : Int) := by omega
    have e2 : ¬ n ≥ (2 ^ 63 : Int) := by omega
    rw [decide_eq_false e1, decide_eq_false e2]; rfl
  · by_cases c1 : n < 1
    · rw [if_pos c1]
      have e : repL n z = [] := by
        unfold repL
        rw [show n.toNat = 0 by omega]; rfl
      rw [e] at q
      exact ⟨by decide, .str (mkS []), H, I.tok _, ⟨_, rfl⟩, q⟩
    · rw [if_neg c1]
      by_cases c2 : (n == 1 || (mkS z).length == 0) = true
      · rw [if_pos c2]
        have e : repL n z = z := by
          rw [Bool.or_eq_true] at c2
          rcases c2 with c2 | c2
          · have : n = 1 := by simpa using c2
            subst this
            show (List.replicate 1 z).flatten = z
            simp
          · rw [len] at c2
            have : z.length = 0 := by simpa using c2
            have : z = [] := List.eq_nil_of_length_eq_zero this
            subst this
            apply List.eq_nil_of_length_eq_zero
            rw [repL_len]; simp
        rw [e] at q
        exact ⟨.str (mkS z), H, I, ⟨_, rfl⟩, q⟩
      · rw [if_neg c2, repL_str]
        refine ⟨?_, .str _, H, I.tok _, ⟨_, rfl⟩, q⟩
        show (mkS (repL n z)).length ≤ _
        rw [mkS_len, repL_len, line_eq]
        exact h3
/-- two lists, whatever they are -/
theorem op_catL : OpR X (binaryOp .Add) (fun x y H Q => ∃ l b xs zs, x = .ref l ∧ y = .ref b ∧ SqL X.K H l xs ∧ SqL X.K H b zs ∧ xs.length + zs.length ≤ sizeLine ∧ ∀ p, H p = none → Q (.ref p) (upd H p (.lst (xs ++ zs)))) := by
  intro pins s σ H x y v u Q I rx ry h
  obtain ⟨l, b, xs, zs, rfl, rfl, hH, hB, hz, q⟩ := h
  cases rx
  cases ry
  obtain ⟨its, r, ⟨⟨cls, dd, data, sl⟩, n1, ho, hc, hdd, hd⟩, _⟩ := I.list hH
  obtain ⟨its2, r2, ⟨⟨cls2, dd2, data2, sl2⟩, n2, ho2, hc2, hdd2, hd2⟩, _⟩ := I.list hB
  simp only at hc hd hc2 hd2
  subst hc hd hc2 hd2
  have hl := r.length
  have hl2 := r2.length
  have e : its.toArray ++ its2.toArray = (its ++ its2).toArray := by simp
  refine PySem.concat_meets ⟨_, ho, rfl⟩ ⟨_, ho2, rfl⟩ noFill_list_add seq_list_add PySem.F.slot_list_add PySem.F.entry_list_add (PySem.F.args_list_add_2 _ _) (PyProof.Rows.list_addW l b its.toArray its2.toArray n1 n2 dd dd2 sl sl2 (by rw [List.size_toArray, List.size_toArray]; omega)) ⟨ho, ho2, ?_⟩
  rw [e]
  exact ⟨.ref _, _, I.lnew (t' := s.toks) (r.append r2) (by rw [List.length_append]; omega), rfl, q _ I.fresh⟩
theorem atI_get {α : Type} {xs : List α} {i : Int} {d : α} (h : atI xs i = some d) : ∃ j : Nat, ixN xs.length i = some j ∧ xs[j]? = some d := by
  unfold atI at h
  cases e : ixN xs.length i with
  | none => rw [e] at h; cases h
  | some j => rw [e] at h; exact ⟨j, rfl, h⟩
theorem atI_reps {xs : List D} {vs : List V} {i : Int} {d : D} (h : atI xs i = some d) (r : RepRs K H xs vs) : ∃ v, atI vs i = some v ∧ RepR K H d v := by
  obtain ⟨j, e1, e2⟩ := atI_get h
  obtain ⟨v, e3, rv⟩ := r.get e2
  refine ⟨v, ?_, rv⟩
  unfold atI
  rw [r.length, e1]; exact e3
theorem RepRs.flatten {xs : List D} {vs : List V} (r : RepRs K H xs vs) : ∀ n : Nat, RepRs K H (List.replicate n xs).flatten (List.replicate n vs).flatten
  | 0 => RepRs.nil
  | n + 1 => by
    rw [List.replicate_succ, List.replicate_succ, List.flatten_cons, List.flatten_cons]
    exact r.append (RepRs.flatten r n)
theorem Owns.flatten {c : Nat} {xs : List D} {vs : List V} (r : Owns (Own K H A c) xs vs (fun _ => False)) : ∀ n : Nat, Owns (Own K H A c) (List.replicate n xs).flatten (List.replicate n vs).flatten (fun _ => False)
  | 0 => ⟨rfl, fun _ z => z⟩
  | n + 1 => by
    rw [List.replicate_succ, List.replicate_succ, List.flatten_cons, List.flatten_cons]
    exact Owns.append (fun _ _ _ _ e h => h.iff e) (fun x => by simp) (fun _ z => z.elim) r (Owns.flatten r n)
theorem ch8 {k : Option Nat} {xs : List D} (h : xs.any D.cont = false) : chd k xs = .ok 8 := by
  unfold chd; rw [if_neg (by rw [h]; exact Bool.false_ne_true)]
/-- no container among them: nothing is owned -/
theorem Owns.none_of {c : Nat} : ∀ {ds : List D} {vs : List V} {P : AS}, (∀ d ∈ ds, d.cont = false) → Owns (Own K H A c) ds vs P → Owns (Own K H A c) ds vs (fun _ => False)
  | [], _, _, _, h => ⟨h.1, fun _ z => z⟩
  | d :: ds, _, _, hd, ⟨v, vs', O1, O2, e, h1, h2, r, q⟩ =>
    ⟨v, vs', _, _, e, fun x => by simp, fun _ z => z.elim, (Own.flat (hd d (by simp))).mpr ⟨fun _ z => z, ((Own.flat (hd d (by simp))).mp r).2⟩, Owns.none_of (fun d m => hd d (by simp [m])) q⟩
theorem cont_of {xs : List D} (h : xs.any D.cont = false) : ∀ d ∈ xs, d.cont = false := fun d m => by
  cases e : d.cont with
  | false => rfl
  | true => rw [List.any_eq_true.mpr ⟨d, m, e⟩] at h; cases h
/-- a result that is one of the operands, or part of one, and no container -/
theorem Own.to_res {d : D} (c : d.cont = false) {j : Nat} {v : V} {P : AS} {A' : AS} (w : Own K H A j d v P) (hA : ∀ x, A' x → A x) (s : Same H H') : Res K H0 H' A' (at9 d) v := by
  refine ⟨fun _ => False, fun _ z => z.elim, (Own.flat c).mpr ⟨fun _ z => z, ?_⟩⟩
  exact (((Own.flat c).mp w).2).mono fun b o e => cut_heap s b o (cut_set (fun x z => hA x (z.elim id False.elim)) b o e)
theorem Res1.to_res {k : Option Nat} {d : D} (c : d.cont = false) {v : V} {P : AS} {A' : AS} (w : Res1 K H A (k, d) v P) (hA : ∀ x, A' x → A x) (s : Same H H') : Res K H0 H' A' (at9 d) v := by
  unfold Res1 at w; split at w
  · obtain ⟨_, j, P', _, w⟩ := w; exact Own.to_res c w hA s
  · exact Own.to_res c w hA s
/-- what is no container stands in the cut -/
theorem Res1.flat {k : Option Nat} {d : D} (c : d.cont = false) {v : V} {P : AS} (w : Res1 K H A (k, d) v P) : RepR K (cut H A) d v := by
  unfold Res1 at w; split at w
  · obtain ⟨_, j, P', _, w⟩ := w; exact ((Own.flat c).mp w).2
  · exact ((Own.flat c).mp w).2
theorem owns_lower {j : Nat} : ∀ {ds : List D} {vs : List V} {P : AS}, Owns (Own K H A j) ds vs P → ∀ j', j' ≤ j → ∃ P' : AS, (∀ x, P' x → P x) ∧ ∀ A' : AS, (∀ x, A' x → A x) → (∀ x, A' x → P x → P' x) → Owns (Own K H A' j') ds vs P'
  | [], _, P, h, _, _ => ⟨P, fun _ z => z, fun _ _ _ => h⟩
  | d :: ds, _, P, ⟨v, vs', O1, O2, e, h1, h2, r, q⟩, j', hj => by
    obtain ⟨P1, s1, f1⟩ := Own.lower r j' hj
    obtain ⟨P2, s2, f2⟩ := owns_lower q j' hj
    refine ⟨fun x => P1 x ∨ P2 x, fun x z => (h1 x).mpr (z.elim (fun z => .inl (s1 x z)) fun z => .inr (s2 x z)), fun A' sA hA => ?_⟩
    refine ⟨v, vs', P1, P2, e, fun x => Iff.rfl, fun x z1 z2 => h2 x (s1 x z1) (s2 x z2), f1 A' sA fun x z o1 => ?_, f2 A' sA fun x z o2 => ?_⟩
    · rcases hA x z ((h1 x).mpr (.inl o1)) with k | k
      · exact k
      · exact (h2 x o1 (s2 x k)).elim
    · rcases hA x z ((h1 x).mpr (.inr o2)) with k | k
      · exact (h2 x (s1 x k) o2).elim
      · exact k
theorem op_bin (o : Operator) : OpR X (binaryOp o) (rB X.K (binD o)) := by
  intro pins s σ H x y v u Q I rx ry ⟨H0, A, ka, kb, r, s0, hA, rr, e, q⟩
  obtain ⟨ra, rb⟩ := ress2 rr
  obtain ⟨O1, O2, f, dj, r1, r2⟩ := ress2o rr
  unfold binD at e
  split at e
  · cases e; exact op_add pins s σ H x y v u Q I rx ry ⟨_, _, ra.int, rb.int, q _ _ (Same.refl _) Res.int⟩
  · cases e; exact op_sub pins s σ H x y v u Q I rx ry ⟨_, _, ra.int, rb.int, q _ _ (Same.refl _) Res.int⟩
  · split at e <;> cases e
    rename_i hm
    refine op_mul pins s σ H x y v u Q I rx ry ⟨_, _, ra.int, rb.int, ?_, q _ _ (Same.refl _) Res.int⟩
    unfold mulOk at hm
    rw [Bool.or_eq_true] at hm
    rcases hm with hm | hm
    · exact .inl (by have := of_decide_eq_true hm; omega)
    · exact .inr (by have := of_decide_eq_true hm; omega)
  · split at e <;> cases e
    rename_i hm
    exact op_fdivN pins s σ H x y v u Q I rx ry ⟨_, _, ra.int, rb.int, hm, q _ _ (Same.refl _) Res.int⟩
  · split at e <;> cases e
    rename_i hm
    exact op_modN pins s σ H x y v u Q I rx ry ⟨_, _, ra.int, rb.int, hm, q _ _ (Same.refl _) Res.int⟩
  · split at e <;> cases e
    rename_i hm
    exact op_pow pins s σ H x y v u Q I rx ry ⟨_, _, ra.int, rb.int, ⟨hm.1, hm.2.1, hm.2.2⟩, q _ _ (Same.refl _) Res.int⟩
  · cases e; exact op_and pins s σ H x y v u Q I rx ry ⟨_, _, ra.int, rb.int, q _ _ (Same.refl _) Res.int⟩
  · cases e; exact op_or pins s σ H x y v u Q I rx ry ⟨_, _, ra.int, rb.int, q _ _ (Same.refl _) Res.int⟩
  · cases e; exact op_xor pins s σ H x y v u Q I rx ry ⟨_, _, ra.int, rb.int, q _ _ (Same.refl _) Res.int⟩
  · split at e <;> cases e
    rename_i hm
    refine op_add_str pins s σ H x y v u Q I rx ry ⟨_, _, ra.str, rb.str, by rw [mkS_len, mkS_len, line_eq]; exact hm, ?_⟩
    rw [mkS_app]
    exact q _ _ (Same.refl _) Res.str
  · split at e <;> cases e
    rename_i hm
    exact op_mul_str pins s σ H x y v u Q I rx ry ⟨_, _, ra.str, rb.int, hm.1, hm.2.1, hm.2.2, q _ _ (Same.refl _) Res.str⟩
  · split at e
    · rename_i k xs l ys hm
      cases e1 : chd k xs with
      | ok c1 =>
        cases e2 : chd l ys with
        | ok c2 =>
          rw [e1, e2] at e
          cases e
          obtain ⟨a, vs, ex, sx, _, P1, s1, n1, w1⟩ := ch_ok e1 (r1.mono (Same.refl _) (fun x z => .inl z) (fun x z => z)) (fun x z => .inr (.inl z))
          obtain ⟨b, us, ey, sy, _, P2, s2, n2, w2⟩ := ch_ok e2 (r2.mono (Same.refl _) (fun x z => .inl z) (fun x z => z)) (fun x z => .inr (.inr z))
          have lx := w1.length
          have ly := w2.length
          refine op_catL pins s σ H x y v u Q I rx ry ⟨a, b, vs, us, ex, ey, sx, sy, by rw [lx, ly, line_eq]; exact hm, fun p hp => q _ _ (same_new hp) ?_⟩
          obtain ⟨Q1, t1, g1⟩ := owns_lower w1 (min c1 c2) (Nat.min_le_left _ _)
          obtain ⟨Q2, t2, g2⟩ := owns_lower w2 (min c1 c2) (Nat.min_le_right _ _)
          have nA : ∀ z, A z → ¬ (O1 z ∨ O2 z) := fun z a o => (hA z a).ne (f z o)
          have sub : ∀ z, (A z ∨ (Q1 z ∨ Q2 z)) → A z ∨ O1 z ∨ O2 z := fun z a => a.elim .inl fun a => a.elim (fun a => .inr (.inl (s1 z (t1 z a)))) fun a => .inr (.inr (s2 z (t2 z a)))
          refine Res.newL (O := fun z => Q1 z ∨ Q2 z) hp s0 (fun z a => f z (a.elim (fun a => .inl (s1 z (t1 z a))) fun a => .inr (s2 z (t2 z a)))) (fun z a => (hA z a).mono s0) ?_
          refine Owns.append (fun _ _ _ _ e h => h.iff e) (fun z => Iff.rfl) (fun z a b => dj z (s1 z (t1 z a)) (s2 z (t2 z b))) (g1 _ sub fun z a o => ?_) (g2 _ sub fun z a o => ?_)
          · rcases a with a | a | a
            · exact (nA z a (.inl (s1 z o))).elim
            · exact a
            · exact (dj z (s1 z o) (s2 z (t2 z a))).elim
          · rcases a with a | a | a
            · exact (nA z a (.inr (s2 z o))).elim
            · exact (dj z (s1 z (t1 z a)) (s2 z o)).elim
            · exact a
        | exc x p => rw [e1, e2] at e; cases e
        | stuck => rw [e1, e2] at e; cases e
      | exc x p => rw [e1] at e; cases e
      | stuck => rw [e1] at e; cases e
    · cases e
  · split at e <;> cases e
    rename_i k xs l n hm
    obtain ⟨h1, h2, h3, hc⟩ := hm
    have r1 : Own X.K H _ (k + 1) (.lst xs) x O1 := r1
    unfold Own at r1
    obtain ⟨a, vs, P, ex, ea, _, _, w⟩ := r1
    have w := Owns.none_of (cont_of hc) w
    have lx := w.length
    refine op_rep pins s σ H x y v u Q I rx ry ⟨a, n, vs, ex, rb.int, ea, by omega, by omega, by rw [lx, line_eq]; exact h3, fun p hp => q _ _ (same_new hp) ?_⟩
    have w8 : Owns (Own X.K H (fun z => A z ∨ False) 8) xs vs (fun _ => False) := w.impIn fun d m v' O' _ r => (Own.flat (cont_of hc d m)).mpr ⟨((Own.flat (cont_of hc d m)).mp r).1, ((Own.flat (cont_of hc d m)).mp r).2.mono (cut_set fun z a => .inl (a.elim id False.elim))⟩
    exact Res.newL (O := fun _ => False) hp s0 (fun _ z => z.elim) (fun z a => (hA z a).mono s0) (w8.flatten n.toNat)
  · split at e <;> cases e
    rename_i k xs l n hm
    obtain ⟨h0, h1, h2, h3⟩ := hm
    obtain ⟨a, vs, ex, sx, wx⟩ := RepR.tup (Res1.flat rfl r1)
    have lx := wx.length
    have sub : ∀ z, A z → A z ∨ O1 z ∨ O2 z := fun z a => .inl a
    refine op_repT pins s σ H x y v u Q I rx ry ⟨a, n, vs, ex, rb.int, Same.seqT cut_same sx, fun e => ?_, h1, h2, by rw [lx]; exact h3, fun p hp => q _ _ (same_new hp) (Res.tupN hp (fun z a => (hA z a).mono s0) ((wx.mono (cut_set sub)).flatten n.toNat))⟩
    subst e
    have : xs = [] := List.eq_nil_of_length_eq_zero (by rw [← lx]; rfl)
    subst this
    cases h0
  · split at e <;> cases e
    rename_i k xs l ys hm
    have q1 := Res1.flat rfl r1
    have q2 := Res1.flat rfl r2
    obtain ⟨a, vs, ex, sx, wx⟩ := RepR.tup q1
    obtain ⟨b, us, ey, sy, wy⟩ := RepR.tup q2
    have lx := wx.length
    have ly := wy.length
    have sub : ∀ z, A z → A z ∨ O1 z ∨ O2 z := fun z a => .inl a
    refine op_catA pins s σ H x y v u Q I rx ry ⟨a, b, vs, us, ex, ey, Same.seqT cut_same sx, Same.seqT cut_same sy, by rw [lx, ly, line_eq]; exact hm, fun e => ?_, fun e1 e => ?_, fun _ _ p hp => ?_⟩
    · subst e
      have : xs = [] := List.eq_nil_of_length_eq_zero (by rw [← lx]; rfl)
      subst this
      refine q _ _ (Same.refl _) ?_
      rw [← ey]
      exact Res1.to_res rfl r2 sub (Same.refl _)
    · subst e
      have : ys = [] := List.eq_nil_of_length_eq_zero (by rw [← ly]; rfl)
      subst this
      refine q _ _ (Same.refl _) ?_
      rw [List.append_nil, ← ex]
      exact Res1.to_res rfl r1 sub (Same.refl _)
    · exact q _ _ (same_new hp) (Res.tupN hp (fun z a => (hA z a).mono s0) ((wx.mono (cut_set sub)).append (wy.mono (cut_set sub))))
  · cases e

/-! ### one operand -/
def rU1 (K : PySem.W.Frag) (f : Kd → R Kd) : V → Hp → VK → Prop := fun x H Q => ∃ (H0 : Hp) (A : AS) (ka r : Kd), Same H0 H ∧ (∀ z, A z → IsM H0 z) ∧ Res K H0 H A ka x ∧ f ka = .ok r ∧ ∀ v H', Same H H' → Res K H0 H' A r v → Q v H'
theorem op_un (o : UnaryOp) : UnR X (unaryOp o) (rU1 X.K (unD o)) := by
  intro pins s σ H x v Q I rx ⟨H0, A, ka, r, s0, hA, rr, e, q⟩
  have ra := rr.rep
  unfold unD at e
  split at e
  · cases e; exact un_neg pins s σ H x v Q I rx ⟨_, ra.int, q _ _ (Same.refl _) Res.int⟩
  · cases e

/-! ### comparisons -/
mutual
theorem RepR.dp : ∀ {d : D} {v : V}, d.py.canLay0 = true → RepR K H d v → Dp K H v d.py
  | .non, _, _, r => by rw [r.non]; exact .non
  | .bl _, _, _, r => by rw [r.bl]; exact .bl _
  | .int _, _, _, r => by rw [r.int]; exact .int _
  | .str _, _, _, r => by rw [r.str]; exact .str _
  | .lst xs, _, c, r => by
    obtain ⟨a, vs, e, s, q⟩ := r.lst
    rw [e]; unfold D.py; exact .lst s (RepRs.dp (by unfold D.py at c; exact c) q)
  | .tup xs, _, c, r => by
    obtain ⟨a, vs, e, s, q⟩ := r.tup
    rw [e]; unfold D.py; exact .tup s (RepRs.dp (by unfold D.py at c; exact c) q)
  | .dct _ _, _, s, _ => by unfold D.py at s; cases s
theorem RepRs.dp : ∀ {ds : List D} {vs : List V}, PyData.canLayAll0 (D.pys ds) = true → RepRs K H ds vs → DpAll K H vs (D.pys ds)
  | [], _, _, r => by unfold RepRs at r; subst r; unfold D.pys; exact .nil
  | d :: ds, _, c, r => by
    unfold RepRs at r
    obtain ⟨v, vs', e, r1, r2⟩ := r
    unfold D.pys PyData.canLayAll0 at c
    rw [Bool.and_eq_true] at c
    subst e; unfold D.pys
    exact .cons (RepR.dp c.1 r1) (RepRs.dp c.2 r2)
end
theorem shp_can {d : D} (h : shp d = true) : d.py.canLay0 = true := SeqAt.canLay_of_shaped h
theorem RepR.dps {d : D} {v : V} (h : shp d = true) (r : RepR K H d v) : Dp K H v d.py := r.dp (shp_can h)
def rC (K : PySem.W.Frag) (f : Kd → Kd → R Bool) : R2 := fun x y H Q => ∃ (ka kb : Kd) (r : Bool), RepR K H ka.2 x ∧ RepR K H kb.2 y ∧ f ka kb = .ok r ∧ Q (.bl r) H
theorem scal_of {a b : D} {x y : V} {r : Bool} (h : scalB a b = some r) (ra : RepR K H a x) (rb : RepR K H b y) : scal x y = true ∧ decide (x = y) = r := by
  unfold scalB at h
  split at h <;> cases h
  · rw [ra.non, rb.non]; exact ⟨rfl, rfl⟩
  · rw [ra.int, rb.int]
    refine ⟨rfl, ?_⟩
    rename_i a b
    by_cases e : a = b
    · subst e; simp
    · simp [e]
  · rw [ra.bl, rb.bl]
    refine ⟨rfl, ?_⟩
    rename_i a b
    cases a <;> cases b <;> rfl
  · rw [ra.str, rb.str]
    refine ⟨rfl, ?_⟩
    rename_i a b
    by_cases e : a = b
    · subst e; simp
    · have : ¬ V.str (mkS a) = V.str (mkS b) := fun q => e (mkS_inj (V.str.inj q))
      rw [decide_eq_false this, decide_eq_false e]
theorem isnon {d : D} {v : V} (r : RepR K H d v) : decide (v = .non) = isNonD d := by
  cases d with
  | non => rw [r.non]; rfl
  | bl _ => rw [r.bl]; rfl
  | int _ => rw [r.int]; rfl
  | str _ => rw [r.str]; rfl
  | lst _ => obtain ⟨_, _, e, _⟩ := r.lst; rw [e]; rfl
  | tup _ => obtain ⟨_, _, e, _⟩ := r.tup; rw [e]; rfl
  | dct _ _ => obtain ⟨_, _, e, _⟩ := r.dct; rw [e]; rfl
theorem memD_py (a : D) : ∀ xs : List D, ((D.pys xs).any fun z => PyData.eqv z a.py) = memD a xs
  | [] => rfl
  | x :: xs => by
    unfold D.pys
    rw [List.any_cons, memD_py a xs]
    rfl
theorem op_cmp (hu : X.A.units + 65 < cLine) (o : CmpOp) : OpR X (compareOp o) (rC X.K (cmpD o)) := by
  intro pins s σ H x y v u Q I rx ry ⟨ka, kb, r, ra, rb, e, q⟩
  have hu64 : X.A.units + 64 < cLine := by omega
  unfold cmpD at e
  split at e
  · split at e
    · rename_i h; cases e
      obtain ⟨h1, h2⟩ := scal_of h ra rb
      exact op_eq pins s σ H x y v u Q I rx ry ⟨h1, by rw [h2]; exact q⟩
    · split at e <;> cases e
      rename_i h
      rw [Bool.and_eq_true] at h
      exact op_eqD hu64 pins s σ H x y v u Q I rx ry ⟨_, _, ra.dps h.1, rb.dps h.2, h.1, h.2, q⟩
  · split at e
    · rename_i h; cases e
      obtain ⟨h1, h2⟩ := scal_of h ra rb
      exact op_ne pins s σ H x y v u Q I rx ry ⟨h1, by rw [h2]; exact q⟩
    · split at e <;> cases e
      rename_i h
      rw [Bool.and_eq_true] at h
      exact op_neD hu64 pins s σ H x y v u Q I rx ry ⟨_, _, ra.dps h.1, rb.dps h.2, h.1, h.2, q⟩
  · cases e; exact op_lt pins s σ H x y v u Q I rx ry ⟨_, _, ra.int, rb.int, q⟩
  · cases e; exact op_le pins s σ H x y v u Q I rx ry ⟨_, _, ra.int, rb.int, q⟩
  · cases e; exact op_gt pins s σ H x y v u Q I rx ry ⟨_, _, ra.int, rb.int, q⟩
  · cases e; exact op_ge pins s σ H x y v u Q I rx ry ⟨_, _, ra.int, rb.int, q⟩
  · cases e; exact op_in_str pins s σ H x y v u Q I rx ry ⟨_, _, ra.str, rb.str, by rw [mkS_len]; exact q⟩
  · cases e; exact op_notin_str pins s σ H x y v u Q I rx ry ⟨_, _, ra.str, rb.str, by rw [mkS_len]; exact q⟩
  · split at e <;> cases e
    rename_i h
    rw [Bool.and_eq_true] at h
    refine op_inD hu pins s σ H x y v u Q I rx ry ⟨_, _, ra.dps h.1, rb.dps h.2, h.1, h.2, ?_⟩
    rw [memD_py]; exact q
  · split at e <;> cases e
    rename_i h
    rw [Bool.and_eq_true] at h
    refine op_notInD hu pins s σ H x y v u Q I rx ry ⟨_, _, ra.dps h.1, rb.dps h.2, h.1, h.2, ?_⟩
    rw [memD_py]; exact q
  · split at e <;> cases e
    rename_i h
    rw [Bool.and_eq_true] at h
    obtain ⟨as, r1⟩ := Dp.reads I _ x v (ra.dps h.1) rx
    obtain ⟨bs, r2⟩ := Dp.reads I _ y u (rb.dps h.2) ry
    refine SeqAt.in_tuple_reads r2 r1 (SeqAt.canLay_of_shaped h.2) (SeqAt.canLay_of_shaped h.1) (PyProof.Rows.room_in_shaped h.1 hu) ⟨.bl _, H, I, rfl, ?_⟩
    show Q (.bl ((D.pys _).any fun z => PyData.eqv z (D.py _))) H
    rw [memD_py]; exact q
  · split at e <;> cases e
    rename_i h
    rw [Bool.and_eq_true] at h
    obtain ⟨as, r1⟩ := Dp.reads I _ x v (ra.dps h.1) rx
    obtain ⟨bs, r2⟩ := Dp.reads I _ y u (rb.dps h.2) ry
    refine SeqAt.notIn_tuple_reads r2 r1 (SeqAt.canLay_of_shaped h.2) (SeqAt.canLay_of_shaped h.1) (PyProof.Rows.room_in_shaped h.1 hu) ⟨.bl _, H, I, rfl, ?_⟩
    show Q (.bl (!(D.pys _).any fun z => PyData.eqv z (D.py _))) H
    rw [memD_py]; exact q
  · cases e
    refine op_isN pins s σ H x y v u Q I rx ry ⟨rb.non, ?_⟩
    rw [isnon ra]; exact q
  · cases e
    refine op_notN pins s σ H x y v u Q I rx ry ⟨rb.non, ?_⟩
    rw [isnon ra]; exact q
  · cases e
    refine op_isBl pins s σ H x y v u Q I rx ry ⟨_, _, ra.bl, rb.bl, ?_⟩
    rw [← Bool.beq_eq_decide_eq]; exact q
  · cases e
    refine op_notBl pins s σ H x y v u Q I rx ry ⟨_, _, ra.bl, rb.bl, ?_⟩
    rw [← Bool.beq_eq_decide_eq]; exact q
  · cases e

/-! ### truth -/
theorem RepRs.empty {xs : List D} {vs : List V} (r : RepRs K H xs vs) : vs.isEmpty = xs.isEmpty := by
  have := r.length
  cases vs <;> cases xs <;> first | rfl | simp at this
theorem tru_of {k : Kd} {v : V} {b : Bool} (h : truD k = .ok b) (r : RepR K H k.2 v) : TruV K v H b := by
  unfold truD at h
  split at h
  · cases h; rw [r.non]; rfl
  · cases h; rw [r.bl]; rfl
  · cases h; rw [r.int]; rfl
  · rename_i s
    split at h <;> cases h
    rename_i hs
    rw [r.str]
    refine ⟨by rw [mkS_len, line_eq]; exact hs, ?_⟩
    rw [mkS_len]
    cases s with
    | nil => rfl
    | cons c s =>
      have : ((c :: s).length : Int) ≠ 0 := by simp; omega
      show true = ((((c :: s).length : Nat) : Int) != 0)
      rw [bne_iff_ne.mpr this]
  · cases h
    obtain ⟨a, vs, e, s, q⟩ := r.lst
    rw [e]; exact .inl ⟨vs, s, by rw [q.empty]⟩
  · cases h
    obtain ⟨a, vs, e, s, q⟩ := r.tup
    rw [e]; exact .inr (.inl ⟨vs, s, by rw [q.empty]⟩)
  · cases h

/-! ### items -/
theorem RepR.cutO {d : D} {v : V} {A' : AS} (r : RepR K (cut H A) d v) (h : ∀ x, A' x → A x) : RepR K (cut H A') d v := r.mono (cut_set h)
theorem Owns.at {R : D → V → AS → Prop} {ds : List D} {vs : List V} {O : AS} {i : Int} {d : D} (w : Owns R ds vs O) (e : atI ds i = some d) : ∃ v O1, atI vs i = some v ∧ (∀ x, O1 x → O x) ∧ R d v O1 := by
  obtain ⟨j, e1, e2⟩ := atI_get e
  obtain ⟨v, O1, e3, s, r⟩ := w.get e2
  refine ⟨v, O1, ?_, s, r⟩
  unfold atI
  rw [w.length, e1]; exact e3
theorem atI_map {α β : Type} (f : α → β) {xs : List α} {i : Int} {d : α} (h : atI xs i = some d) : atI (xs.map f) i = some (f d) := by
  obtain ⟨j, e1, e2⟩ := atI_get h
  unfold atI
  rw [List.length_map, e1]
  show (xs.map f)[j]? = _
  rw [List.getElem?_map, e2]; rfl
theorem Res1.empty {k : Option Nat} {d : D} (c : d.cont = false) {v : V} {O : AS} (w : Res1 K H A (k, d) v O) : ∀ z, ¬ O z := by
  unfold Res1 at w; split at w
  · exact w.1
  · exact ((Own.flat c).mp w).1
theorem op_idx : IxR X (rB X.K idxD) := by
  intro value slice pins s σ H x y v u Q I rx ry ⟨H0, A, ka, kb, r, s0, hA, rr, e, q⟩ hs
  obtain ⟨ra, rb⟩ := ress2 rr
  obtain ⟨O1, O2, f, dj, r1, r2⟩ := ress2o rr
  have nA : ∀ z, A z → ¬ (O1 z ∨ O2 z) := fun z a o => (hA z a).ne (f z o)
  unfold idxD at e
  split at e
  · rename_i k xs l i
    split at e
    · rename_i d ed
      -- the list, at whatever depth
      have get : ∃ (j : Nat) (P : AS), Own X.K H (fun z => A z ∨ O1 z ∨ O2 z) j (.lst xs) x P ∧ (∀ m, k = some m → m = j ∧ P = O1) ∧ (k = none → ∀ z, P z → A z ∨ O1 z ∨ O2 z) := by
        unfold Res1 at r1
        cases k with
        | none => obtain ⟨n, j, P, hp, w⟩ := r1; exact ⟨j, P, w, (fun m z => by cases z), fun _ => hp⟩
        | some m => exact ⟨m, O1, r1, (fun m' z => by cases z; exact ⟨rfl, rfl⟩), fun z => by cases z⟩
      obtain ⟨j, P, w, hk, hn⟩ := get
      cases j with
      | zero =>
        obtain ⟨a, vs, ex, sx, wx⟩ := RepR.lst w.2
        obtain ⟨z, ez, rz⟩ := atI_reps ed wx
        refine ix_list value slice pins s σ H x y v u Q I rx ry ⟨a, vs, i, z, ex, rb.int, L2.Same.seq cut_same sx, ez, ?_⟩ hs
        by_cases hc : d.cont = true
        · rw [if_pos hc] at e
          cases k with
          | none =>
            cases e
            exact q _ _ (Same.refl _) ⟨fun _ => False, fun _ z => z.elim, fun _ z => z, 0, fun _ => False, fun _ z => z.elim, fun _ z => z, rz.cutO fun z a => a.elim .inl False.elim⟩
          | some m =>
            obtain ⟨rfl, rfl⟩ := hk m rfl
            cases e
            exact q _ _ (Same.refl _) ⟨fun _ => False, fun _ z => z.elim, fun _ z => z, rz.cutO fun z a => a.elim .inl False.elim⟩
        · have hc : d.cont = false := by simpa using hc
          rw [if_neg (by rw [hc]; exact Bool.false_ne_true)] at e
          cases e
          exact q _ _ (Same.refl _) ⟨fun _ => False, fun _ z => z.elim, (Own.flat hc).mpr ⟨fun _ z => z, rz.cutO fun z a => a.elim .inl False.elim⟩⟩
      | succ j =>
        have w := w
        unfold Own at w
        obtain ⟨a, vs, P', ex, ea, hP, nP, wx⟩ := w
        obtain ⟨z, O3, ez, s3, rz⟩ := wx.at ed
        refine ix_list value slice pins s σ H x y v u Q I rx ry ⟨a, vs, i, z, ex, rb.int, SqL.of ea, ez, ?_⟩ hs
        by_cases hc : d.cont = true
        · rw [if_pos hc] at e
          cases k with
          | none =>
            cases e
            -- borrowed: reserved things alone
            refine q _ _ (Same.refl _) ?_
            have hO3 : ∀ z, O3 z → A z ∨ O1 z ∨ O2 z := fun z o => hn rfl z ((hP z).mpr (.inr (s3 z o)))
            have r1n : ∀ z, ¬ O1 z := by
              have r1 := r1
              unfold Res1 at r1
              exact r1.1
            have r2n : ∀ z, ¬ O2 z := Res1.empty rfl r2
            refine ⟨fun _ => False, fun _ z => z.elim, fun _ z => z, j, O3, fun z o => .inl ?_, rz.mono (Same.refl _) fun z a => .inl (a.elim .inl False.elim)⟩
            exact (hO3 z o).elim id fun o => (o.elim (r1n z) (r2n z)).elim
          | some m =>
            obtain ⟨e1, e2⟩ := hk m rfl
            subst e1; subst e2
            cases e
            have hO : ∀ z, O3 z → P z := fun z o => (hP z).mpr (.inr (s3 z o))
            refine q _ _ (Same.refl _) ⟨O3, fun z o => f z (.inl (hO z o)), rz.mono (Same.refl _) fun z a => .inl ?_⟩
            exact a.elim .inl fun o => .inr (.inl (hO z o))
        · have hc : d.cont = false := by simpa using hc
          rw [if_neg (by rw [hc]; exact Bool.false_ne_true)] at e
          cases e
          exact q _ _ (Same.refl _) (Own.to_res hc rz (fun z a => .inl a) (Same.refl _))
    · cases e
  · rename_i k xs l i
    split at e <;> cases e
    rename_i d ed
    obtain ⟨a, vs, ex, sx, wx⟩ := RepR.tup (Res1.flat rfl r1)
    obtain ⟨z, ez, rz⟩ := atI_reps ed wx
    refine ix_tup value slice pins s σ H x y v u Q I rx ry ⟨a, vs, i, z, ex, rb.int, Same.seqT cut_same sx, ez, q _ _ (Same.refl _) ?_⟩ hs
    have rz' : RepR X.K (cut H (fun z => A z ∨ False)) d z := rz.cutO fun z a => a.elim .inl False.elim
    unfold kd
    split
    · exact ⟨fun _ => False, fun _ z => z.elim, fun _ z => z, rz'⟩
    · rename_i hc
      exact ⟨fun _ => False, fun _ z => z.elim, (Own.flat (by simpa using hc)).mpr ⟨fun _ z => z, rz'⟩⟩
  · rename_i k cs l i
    split at e
    · split at e <;> cases e
      rename_i hl _ c ec
      refine ix_str value slice pins s σ H x y v u Q I rx ry ⟨_, i, c, ra.str, rb.int, by rw [mkS_len, line_eq]; exact hl, ?_, ?_⟩ hs
      · exact ec
      · exact q _ _ (Same.refl _) (Res.str (s := [c]))
    · cases e
  · cases e

/-! ### slices -/
def rS (K : PySem.W.Frag) (f : Kd → Option Int → Option Int → R Kd) : V → Option Int → Option Int → Hp → VK → Prop := fun x lo hi H Q => ∃ (H0 : Hp) (A : AS) (ka r : Kd), Same H0 H ∧ (∀ z, A z → IsM H0 z) ∧ Res K H0 H A ka x ∧ f ka lo hi = .ok r ∧ ∀ v H', Same H H' → Res K H0 H' A r v → Q v H'
theorem RepRs.take : ∀ {ds : List D} {vs : List V} (n : Nat), RepRs K H ds vs → RepRs K H (ds.take n) (vs.take n)
  | _, _, 0, _ => by rw [List.take_zero, List.take_zero]; exact RepRs.nil
  | [], _, n + 1, r => by unfold RepRs at r; subst r; exact RepRs.nil
  | d :: ds, _, n + 1, r => by
    unfold RepRs at r
    obtain ⟨v, vs', e, r1, r2⟩ := r
    subst e
    exact RepRs.cons r1 (RepRs.take n r2)
theorem RepRs.drop : ∀ {ds : List D} {vs : List V} (n : Nat), RepRs K H ds vs → RepRs K H (ds.drop n) (vs.drop n)
  | _, _, 0, r => r
  | [], _, n + 1, r => by unfold RepRs at r; subst r; exact RepRs.nil
  | d :: ds, _, n + 1, r => by
    unfold RepRs at r
    obtain ⟨v, vs', e, r1, r2⟩ := r
    subst e
    exact RepRs.drop n r2
theorem cutV_eq (vs : List V) (lo hi : Option Int) : cutV vs lo hi = cutL vs lo hi := rfl
theorem RepRs.cutL {ds : List D} {vs : List V} (r : RepRs K H ds vs) (lo hi : Option Int) : RepRs K H (cutL ds lo hi) (cutV vs lo hi) := by
  unfold Px.cutL cutV
  rw [r.length]
  exact (r.drop _).take _
/-- some of the items -/
theorem Owns.take {c : Nat} : ∀ {ds : List D} {vs : List V} {O : AS} (n : Nat), Owns (Own K H A c) ds vs O → ∃ O' : AS, (∀ x, O' x → O x) ∧ Owns (Own K H A c) (ds.take n) (vs.take n) O'
  | _, _, _, 0, _ => ⟨fun _ => False, fun _ z => z.elim, by rw [List.take_zero, List.take_zero]; exact ⟨rfl, fun _ z => z⟩⟩
  | [], _, O, n + 1, r => by obtain ⟨rfl, h⟩ := r; exact ⟨O, fun _ z => z, rfl, h⟩
  | d :: ds, _, O, n + 1, ⟨v, vs', O1, O2, e, h1, h2, r, q⟩ => by
    subst e
    obtain ⟨O3, s, q⟩ := Owns.take n q
    exact ⟨fun x => O1 x ∨ O3 x, fun x z => (h1 x).mpr (z.elim .inl fun z => .inr (s x z)), v, _, O1, O3, rfl, fun x => Iff.rfl, fun x a b => h2 x a (s x b), r, q⟩
theorem Owns.drop {c : Nat} : ∀ {ds : List D} {vs : List V} {O : AS} (n : Nat), Owns (Own K H A c) ds vs O → ∃ O' : AS, (∀ x, O' x → O x) ∧ Owns (Own K H A c) (ds.drop n) (vs.drop n) O'
  | _, _, O, 0, r => ⟨O, fun _ z => z, r⟩
  | [], _, O, n + 1, r => by obtain ⟨rfl, h⟩ := r; exact ⟨O, fun _ z => z, rfl, h⟩
  | d :: ds, _, O, n + 1, ⟨v, vs', O1, O2, e, h1, h2, r, q⟩ => by
    subst e
    obtain ⟨O3, s, q⟩ := Owns.drop n q
    exact ⟨O3, fun x z => (h1 x).mpr (.inr (s x z)), q⟩
theorem Owns.cutL {c : Nat} {ds : List D} {vs : List V} {O : AS} (r : Owns (Own K H A c) ds vs O) (lo hi : Option Int) : ∃ O' : AS, (∀ x, O' x → O x) ∧ Owns (Own K H A c) (cutL ds lo hi) (cutV vs lo hi) O' := by
  unfold Px.cutL cutV
  rw [r.length]
  obtain ⟨O1, s1, r1⟩ := Owns.drop _ r
  obtain ⟨O2, s2, r2⟩ := Owns.take _ r1
  exact ⟨O2, fun x z => s1 x (s2 x z), r2⟩
/-- one value: its footprint -/
theorem Res.one {k : Kd} {v : V} (h : Res K H0 H A k v) : ∃ O : AS, (∀ z, O z → H0 z = none) ∧ Res1 K H (fun z => A z ∨ O z) k v O := h
/-- a new list of items that were ours -/
theorem Res.list_of {O O' : AS} {c : Nat} {xs : List D} {vs : List V} {p : Addr} (s0 : Same H0 H) (hA : ∀ z, A z → IsM H0 z) (f : ∀ z, O z → H0 z = none) (s : ∀ z, O' z → O z) (w : Owns (Own K H (fun z => A z ∨ O z) c) xs vs O') (hp : H p = none) :
    Res K H0 (upd H p (.lst vs)) A (Px.newL c xs) (.ref p) :=
  Res.newL (O := O') hp s0 (fun z o => f z (s z o)) (fun z a => (hA z a).mono s0) (w.imp fun d v P r => r.mono (Same.refl _) fun z a => .inl (a.elim .inl fun o => .inr (s z o)))
theorem op_sl : SlR X (rS X.K slD) := by
  intro pins s σ H x v vl vu lo hi sl Q I rx hs pl pu ⟨H0, A, ka, r, s0, hA, rr, e, q⟩
  have ra := rr.rep
  obtain ⟨O, f, r1⟩ := rr
  unfold slD at e
  split at e
  · rename_i o cs
    split at e <;> cases e
    rename_i hl
    refine sl_str pins s σ H x v vl vu lo hi sl Q I rx hs pl pu ⟨_, ra.str, by rw [mkS_len, line_eq]; exact hl, ?_⟩
    have e : cutS (mkS cs) lo hi = mkS (cutL cs lo hi) := by
      unfold cutS Px.cutL
      rw [mkS_len]
    rw [e]
    exact q _ _ (Same.refl _) Res.str
  · rename_i k xs
    cases e1 : chd k xs with
    | ok c =>
      rw [e1] at e
      cases e
      obtain ⟨a, vs, ex, sx, _, P, sP, nP, w⟩ := ch_ok e1 r1 (fun x z => .inr z)
      obtain ⟨P', s', w'⟩ := w.cutL lo hi
      exact sl_list pins s σ H x v vl vu lo hi sl Q I rx hs pl pu ⟨a, vs, ex, sx, fun p hp => q _ _ (same_new hp) (Res.list_of s0 hA f (fun z o => sP z (s' z o)) w' hp)⟩
    | exc x p => rw [e1] at e; cases e
    | stuck => rw [e1] at e; cases e
  · rename_i k xs
    cases e
    obtain ⟨a, vs, ex, sx, wx⟩ := RepR.tup (Res1.flat rfl r1)
    have wx' : RepRs X.K (cut H A) xs vs := wx.mono (cut_set fun z a => .inl a)
    refine sl_tupA pins s σ H x v vl vu lo hi sl Q I rx hs pl pu ⟨a, vs, ex, Same.seqT cut_same sx, fun h => ?_, fun h p hp => ?_⟩
    · have e : cutL xs lo hi = xs := by
        unfold Px.cutL
        rw [← wx.length, h.1, h.2, List.drop_zero, Nat.sub_zero, wx.length]
        exact List.take_length
      rw [e] at q
      rw [← ex]
      exact q _ _ (Same.refl _) (Res1.to_res rfl r1 (fun z a => .inl a) (Same.refl _))
    · exact q _ _ (same_new hp) (Res.tupN hp (fun z a => (hA z a).mono s0) (wx'.cutL lo hi))
  · cases e

/-! ### [::-1] -/
theorem Owns.reverse {c : Nat} : ∀ {ds : List D} {vs : List V} {O : AS}, Owns (Own K H A c) ds vs O → Owns (Own K H A c) ds.reverse vs.reverse O
  | [], _, _, r => by obtain ⟨rfl, h⟩ := r; exact ⟨rfl, h⟩
  | d :: ds, _, O, ⟨v, vs', O1, O2, e, h1, h2, r, q⟩ => by
    subst e
    rw [List.reverse_cons, List.reverse_cons]
    exact Owns.append (fun _ _ _ _ e h => h.iff e) (fun x => by rw [h1 x]; exact Or.comm) (fun x a b => h2 x b a) (Owns.reverse q) ⟨v, [], O1, fun _ => False, rfl, fun x => by simp, fun _ _ z => z, r, rfl, fun _ z => z⟩
theorem rev_pick (s : List Nat) : ((Builtin.Str.strSliceIndices none none (-1) s.length).filterMap (s.toArray[·]?)) = s.reverse := by
  have e : Builtin.Str.strSliceIndices none none (-1) s.length = (List.range s.length).map fun k => s.length - 1 - k := by
    unfold Builtin.Str.strSliceIndices sliceRange
    simp only [show ¬ ((-1 : Int) > 0) by decide, if_false]
    have : (if (s.length : Int) - 1 > -1 then ((s.length : Int) - 1 - -1 - -1 - 1) / (- -1) else 0).toNat = s.length := by
      split
      · rw [show (- -1 : Int) = 1 by decide, Int.ediv_one]; omega
      · omega
    rw [this]
    apply List.map_congr_left
    intro k hk
    have := List.mem_range.mp hk
    omega
  rw [e, List.filterMap_map]
  apply List.ext_getElem?
  intro j
  have key : ∀ (n : Nat), n ≤ s.length → ((List.range n).filterMap ((fun x => s.toArray[x]?) ∘ fun k => s.length - 1 - k)) = s.reverse.take n := by
    intro n
    induction n with
    | zero => intro _; rfl
    | succ n ih =>
      intro hn
      rw [List.range_succ, List.filterMap_append, ih (by omega), List.take_add_one]
      congr 1
      have h1 : s.length - 1 - n < s.length := by omega
      have h2 : s.reverse[n]? = some s[s.length - 1 - n] := by
        rw [List.getElem?_reverse (by omega), List.getElem?_eq_getElem h1]
      rw [h2]
      simp [h1]
  rw [key s.length (Nat.le_refl _)]
  rw [List.take_of_length_le (by simp)]
def tRev (K : PySem.W.Frag) (te : TE) : TE := fun σ H Q => te σ H fun x H1 => rU1 K revD x H1 Q
theorem pe_rev {e : Expr} {te : TE} {k : Nat} {p1 p2 p3 pos : Pos} (he : PE X e te) : PE X (.Subscript e (.Slice none none (some (.UnaryOp .USub (.Constant (.int 1) k p1) p2)) p3) pos) (tRev X.K te) := by
  refine ⟨fun pins s σ H Q I h => ?_⟩
  refine PyProof.Rows.Subscript_ (thn (he.run pins s σ H _ I h) fun v s1 ⟨x, H1, I1, r1, H0, A, ka, r, s0, hA, rr, e, q⟩ => ?_)
  have hst : PO X (some (.UnaryOp .USub (.Constant (.int 1) k p1) p2)) (tPart (tUn (rU fun i => .int (-i)) (tC (.int 1)))) := po_some (pe_un un_neg pe_int)
  refine wpAny_Slice (thn (po_none.run pins s1 σ H1 (fun o H2 => o = none ∧ H2 = H1) I1 ⟨rfl, rfl⟩) fun vl s2 ⟨l, H2, I2, pl, el, e2⟩ => ?_)
  subst el e2
  refine thn (po_none.run pins s2 σ H2 (fun o H3 => o = none ∧ H3 = H2) I2 ⟨rfl, rfl⟩) fun vu s3 ⟨u, H3, I3, pu, eu, e3⟩ => ?_
  subst eu e3
  refine thn (hst.run pins s3 σ H3 (fun o H4 => o = some (-1) ∧ H4 = H3) I3 ⟨1, rfl, -1, rfl, rfl, rfl⟩) fun vs s4 ⟨o, H4, I4, ps, eo, e4⟩ => ?_
  subst eo e4
  have I5 : Inv X pins σ H4 { s4 with heap := s4.heap.push { cls := .type "slice", data := .fields #[vl, vu, vs] } } := I4.kept (t' := s4.toks) fun b ob q => Heap.get?_push_of_some _ q
  have ra := rr.rep
  obtain ⟨O, f, rr1⟩ := rr
  unfold revD at e
  split at e
  · rename_i o cs
    split at e <;> cases e
    rename_i hl
    have ex := ra.str
    subst ex
    obtain ⟨t, rfl⟩ := r1
    obtain ⟨l', rfl, el⟩ := IsPart.raw pl
    obtain ⟨u', rfl, eu⟩ := IsPart.raw pu
    obtain ⟨st', rfl, es⟩ := IsPart.raw ps
    have el : l' = none := by cases l' <;> first | rfl | cases el
    have eu : u' = none := by cases u' <;> first | rfl | cases eu
    obtain ⟨tk, est⟩ : ∃ tk, st' = some (-1, tk) := by
      cases st' with
      | none => cases es
      | some p => obtain ⟨a, b⟩ := p; cases es; exact ⟨b, rfl⟩
    subst el eu est
    refine PyProof.Rows.tail_any (ops := [.str (mkS cs) t, .ref s4.heap.objs.size]) (typeIs_str _ _ _) (F.slot_str_getitem.lookup) ?_ (by with_unfolding_all rfl)
    refine wpAny_getItem_str_slice (l := none) (u := none) (st := some (-1, tk)) ⟨_, Heap.get?_push_size _ rfl, rfl, rfl⟩ rfl ?_
    have e2 : sliceMade (mkS cs) t none none (some (-1, tk)) = Made.str (mkS cs.reverse) := by
      show (if ((-1 : Int) == 1 && (Builtin.Str.strSliceIndices none none (-1) (mkS cs).length).length == (mkS cs).length) = true then Made.val (.str (mkS cs) t) else Made.str ⟨((Builtin.Str.strSliceIndices none none (-1) (mkS cs).length).filterMap (cs.toArray[·]?)).toArray⟩) = _
      rw [if_neg (by rw [show ((-1 : Int) == 1) = false from rfl]; exact Bool.false_ne_true), mkS_len, rev_pick]
    rw [e2]
    refine ⟨?_, .str (mkS cs.reverse), H4, I5.tok _, ⟨_, rfl⟩, q _ _ (Same.refl _) Res.str⟩
    show (mkS cs.reverse).length ≤ _
    rw [mkS_len, List.length_reverse, line_eq]
    exact hl
  · rename_i k xs
    cases e1 : chd k xs with
    | ok c =>
      rw [e1] at e
      cases e
      obtain ⟨a, vs2, ex, sx, _, P, sP, nP, w⟩ := ch_ok e1 rr1 (fun x z => .inr z)
      subst ex
      cases r1
      obtain ⟨its, r, ht, hz⟩ := I5.list sx
      have hlen := r.length
      refine PyProof.Rows.tail_any (ops := [.ref a, .ref s4.heap.objs.size]) ht.isList.typeIs (PySem.slot_list_getitem.lookup) ?_ (by with_unfolding_all rfl)
      refine wpAny_getItem_list_slice ht.isList (Heap.IsSliceOf.new _ vl vu vs) pl pu ps (by decide) ?_ (by rw [List.size_toArray]; omega)
      rw [PySem.W.krv_pick]
      refine ⟨.ref _, _, I5.laid (t' := s4.toks) (o := .lst vs2.reverse) (fun b ob q => Heap.get?_push_of_some _ q) (Nat.le_refl _) ?_, rfl, q _ _ (same_new (I5.hok.fresh (Nat.le_refl _))) (Res.list_of s0 hA f sP w.reverse (I5.hok.fresh (Nat.le_refl _)))⟩
      exact ⟨by rw [List.length_reverse]; exact hz, _, 0, r.reverse, Heap.get?_push_size _ rfl⟩
    | exc x p => rw [e1] at e; cases e
    | stuck => rw [e1] at e; cases e
  · cases e
end
end Px

/-! Px5: built-ins and methods by values. -/
namespace Px
open PySem PySem.Spec L2
/-! ### the first place of a sign -/
theorem indexOf_some {c : Nat} : ∀ {s : List Nat} {n : Nat}, indexOf c s = some n → s[n]? = some c ∧ ∀ k, k < n → s[k]? ≠ some c
  | [], n, h => by simp [indexOf] at h
  | d :: r, n, h => by
    unfold indexOf at h
    split at h
    · rename_i e
      cases h
      exact ⟨by rw [e]; rfl, fun k hk => absurd hk (Nat.not_lt_zero k)⟩
    · rename_i e
      cases q : indexOf c r with
      | none => rw [q] at h; cases h
      | some m =>
        rw [q] at h
        cases h
        obtain ⟨h1, h2⟩ := indexOf_some q
        refine ⟨by simpa using h1, fun k hk => ?_⟩
        cases k with
        | zero => simpa using e
        | succ k =>
          have hk : k + 1 < m + 1 := hk
          simpa using h2 k (by omega)
theorem indexOf_of {c : Nat} : ∀ {s : List Nat} {n : Nat}, s[n]? = some c → (∀ k, k < n → s[k]? ≠ some c) → indexOf c s = some n
  | [], n, h, _ => by simp at h
  | d :: r, 0, h, _ => by
    unfold indexOf
    rw [if_pos (by simpa using h)]
  | d :: r, n + 1, h, hk => by
    unfold indexOf
    rw [if_neg (fun e => hk 0 (Nat.succ_pos n) (by simp [e]))]
    rw [indexOf_of (s := r) (n := n) (by simpa using h) fun k h1 => by simpa using hk (k + 1) (by omega)]
    rfl
theorem at_sign {s : List Nat} {c i : Nat} : PySem.StrLaws.At (mkS s) (mkS [c]) (mkS s).length i ↔ s[i]? = some c := by
  unfold PySem.StrLaws.At
  rw [PySem.StrLaws.subAt_eq, mkS_len, mkS_len]
  show i + 1 ≤ s.length ∧ ((s.drop i).take 1 == [c]) = true ↔ _
  constructor
  · rintro ⟨h1, h2⟩
    have h2 := eq_of_beq h2
    have : (s.drop i)[0]? = some c := by
      have h3 : ((s.drop i).take 1)[0]? = some c := by rw [h2]; rfl
      rwa [List.getElem?_take, if_pos (by decide)] at h3
    rwa [List.getElem?_drop, Nat.add_zero] at this
  · intro h
    have hl : i < s.length := (List.getElem?_eq_some_iff.mp h).1
    refine ⟨hl, ?_⟩
    have e : s.drop i = c :: s.drop (i + 1) := by
      rw [List.drop_eq_getElem_cons hl]
      have := (List.getElem?_eq_some_iff.mp h).2
      rw [this]
    rw [e]
    simp
theorem occ_idx {s : List Nat} {c n : Nat} (h : indexOf c s = some n) : ∃ rest, Builtin.Str.occurrences (mkS s) (mkS [c]) 0 (mkS s).length 1 = n :: rest := by
  obtain ⟨h1, h2⟩ := indexOf_some h
  have hn : n < s.length := (List.getElem?_eq_some_iff.mp h1).1
  have key := PySem.StrLaws.occ_first (mkS s) (mkS [c]) (mkS s).length 1 (Nat.le_refl _) (List.range' 0 ((mkS s).length + 1 - 0)) 0 (fun _ _ => Nat.zero_le _)
  have mem : n ∈ List.range' 0 ((mkS s).length + 1 - 0) := by
    rw [List.mem_range', mkS_len]
    exact ⟨n, by omega, by omega⟩
  rw [PySem.StrLaws.occ_eq]
  rcases key with ⟨_, k⟩ | ⟨pre, a, post, e, e0, ha, hp⟩
  · exact (k n mem (at_sign.mpr h1)).elim
  · have sa := at_sign.mp ha
    have : a = n := by
      by_cases l : a < n
      · exact absurd sa (h2 a l)
      · by_cases l2 : n < a
        · have : n ∈ pre := by
            rw [e] at mem
            rcases List.mem_append.mp mem with m | m
            · exact m
            · have pw : List.Pairwise (· < ·) (pre ++ a :: post) := by rw [← e]; exact List.pairwise_lt_range'
              rcases List.mem_cons.mp m with m | m
              · omega
              · have := (List.pairwise_append.mp pw).2.1
                have := (List.pairwise_cons.mp this).1 n m
                omega
          exact (hp n this (at_sign.mpr h1)).elim
        · omega
    subst this
    generalize ((forIn (List.range' 0 ((mkS s).length + 1 - 0)) ((#[] : Array Nat), 0) (PySem.StrLaws.occBody (mkS s) (mkS [c]) (mkS s).length 1)).run.fst) = arr at e0 ⊢
    have e1 : arr.toList[0]? = some a := by simpa using e0
    cases q : arr.toList with
    | nil => rw [q] at e1; cases e1
    | cons b r =>
      rw [q] at e1
      cases e1
      exact ⟨r, rfl⟩
theorem inStr_one (x : List Nat) (c : Nat) : inStr [c] x = decide (c ∈ x) := by
  unfold inStr
  have := PySem.StrLaws.found_one (mkS x) c
  rw [mkS_len] at this
  exact this
theorem join_mk (s : List Nat) : ∀ ys : List (List Nat), Txt.join (mkS s) (ys.map mkS) = mkS (joinL s ys)
  | [] => rfl
  | [x] => rfl
  | x :: y :: r => by
    have ih := join_mk s (y :: r)
    unfold Txt.join at ih ⊢
    rw [PySem.StrLaws.glued_eq_join] at ih ⊢
    show mkS x ++ mkS s ++ Str.join (mkS s) ((y :: r).map mkS) = _
    rw [ih, mkS_app, mkS_app]
    rfl
section
variable {K : PySem.W.Frag} {B H H' H0 H1 : Hp} {A Z : AS} {X : Cx}
theorem ints_rep : ∀ {xs : List D} {ns : List Int} {vs : List V}, intsOf xs = some ns → RepRs K H xs vs → vs = ns.map V.int
  | [], ns, vs, h, r => by cases h; unfold RepRs at r; exact r
  | d :: xs, ns, vs, h, r => by
    unfold RepRs at r
    obtain ⟨v, vs', e, r1, r2⟩ := r
    cases d <;> unfold intsOf at h <;> first | cases h | skip
    rename_i i
    cases q : intsOf xs with
    | none => rw [q] at h; cases h
    | some ms =>
      rw [q] at h
      cases h
      rw [e, r1.int, ints_rep q r2]; rfl
theorem bls_rep : ∀ {xs : List D} {ns : List Bool} {vs : List V}, blsOf xs = some ns → RepRs K H xs vs → vs = ns.map V.bl
  | [], ns, vs, h, r => by cases h; unfold RepRs at r; exact r
  | d :: xs, ns, vs, h, r => by
    unfold RepRs at r
    obtain ⟨v, vs', e, r1, r2⟩ := r
    cases d <;> unfold blsOf at h <;> first | cases h | skip
    rename_i i
    cases q : blsOf xs with
    | none => rw [q] at h; cases h
    | some ms =>
      rw [q] at h
      cases h
      rw [e, r1.bl, bls_rep q r2]; rfl
theorem strs_rep : ∀ {xs : List D} {ns : List (List Nat)} {vs : List V}, strsOf xs = some ns → RepRs K H xs vs → vs = (ns.map mkS).map V.str
  | [], ns, vs, h, r => by cases h; unfold RepRs at r; exact r
  | d :: xs, ns, vs, h, r => by
    unfold RepRs at r
    obtain ⟨v, vs', e, r1, r2⟩ := r
    cases d <;> unfold strsOf at h <;> first | cases h | skip
    rename_i i
    cases q : strsOf xs with
    | none => rw [q] at h; cases h
    | some ms =>
      rw [q] at h
      cases h
      rw [e, r1.str, strs_rep q r2]; rfl
theorem maxI_of : ∀ {ns : List Int} {m : Int}, m ∈ ns → (∀ y ∈ ns, y ≤ m) → m = maxI ns
  | [a], m, h, _ => by simpa [maxI] using h
  | a :: b :: r, m, h, hl => by
    unfold maxI
    have h1 : maxI (b :: r) ∈ b :: r ∧ ∀ y ∈ b :: r, y ≤ maxI (b :: r) := by
      have : ∀ (l : List Int), l ≠ [] → maxI l ∈ l ∧ ∀ y ∈ l, y ≤ maxI l := by
        intro l
        induction l with
        | nil => intro h; exact absurd rfl h
        | cons x l ih =>
          intro _
          cases l with
          | nil => exact ⟨by simp [maxI], fun y hy => by simp [maxI] at hy ⊢; omega⟩
          | cons z l =>
            obtain ⟨i1, i2⟩ := ih (by simp)
            unfold maxI
            refine ⟨?_, fun y hy => ?_⟩
            · show (if maxI (z :: l) > x then maxI (z :: l) else x) ∈ _
              split
              · exact List.mem_cons_of_mem _ i1
              · exact List.mem_cons_self
            · show y ≤ if maxI (z :: l) > x then maxI (z :: l) else x
              rcases List.mem_cons.mp hy with e | hy
              · subst e; split <;> omega
              · have := i2 y hy; split <;> omega
      exact this _ (by simp)
    show m = if maxI (b :: r) > a then maxI (b :: r) else a
    have h2 := hl _ (List.mem_cons_of_mem a h1.1)
    have h3 := hl a List.mem_cons_self
    rcases List.mem_cons.mp h with e | e
    · subst e; split <;> omega
    · have := h1.2 m e; split <;> omega
theorem minI_of : ∀ {ns : List Int} {m : Int}, m ∈ ns → (∀ y ∈ ns, m ≤ y) → m = minI ns
  | [a], m, h, _ => by simpa [minI] using h
  | a :: b :: r, m, h, hl => by
    unfold minI
    have h1 : minI (b :: r) ∈ b :: r ∧ ∀ y ∈ b :: r, minI (b :: r) ≤ y := by
      have : ∀ (l : List Int), l ≠ [] → minI l ∈ l ∧ ∀ y ∈ l, minI l ≤ y := by
        intro l
        induction l with
        | nil => intro h; exact absurd rfl h
        | cons x l ih =>
          intro _
          cases l with
          | nil => exact ⟨by simp [minI], fun y hy => by simp [minI] at hy ⊢; omega⟩
          | cons z l =>
            obtain ⟨i1, i2⟩ := ih (by simp)
            unfold minI
            refine ⟨?_, fun y hy => ?_⟩
            · show (if minI (z :: l) < x then minI (z :: l) else x) ∈ _
              split
              · exact List.mem_cons_of_mem _ i1
              · exact List.mem_cons_self
            · show (if minI (z :: l) < x then minI (z :: l) else x) ≤ y
              rcases List.mem_cons.mp hy with e | hy
              · subst e; split <;> omega
              · have := i2 y hy; split <;> omega
      exact this _ (by simp)
    show m = if minI (b :: r) < a then minI (b :: r) else a
    have h2 := hl _ (List.mem_cons_of_mem a h1.1)
    have h3 := hl a List.mem_cons_self
    rcases List.mem_cons.mp h with e | e
    · subst e; split <;> omega
    · have := h1.2 m e; split <;> omega
/-! ### calls by values -/
def rF (K : PySem.W.Frag) (f : List Kd → R Kd) : List V → Hp → VK → Prop := fun xs H Q => ∃ (H0 : Hp) (A : AS) (ks : List Kd) (r : Kd), Same H0 H ∧ (∀ z, A z → IsM H0 z) ∧ Ress K H0 H A ks xs ∧ f ks = .ok r ∧ ∀ v H', Same H H' → Res K H0 H' A r v → Q v H'
theorem ress1 {k : Kd} {xs : List V} (h : Ress K H0 H A [k] xs) : ∃ x, xs = [x] ∧ Res K H0 H A k x := by
  obtain ⟨O, f, v, vs, O1, O2, e, h1, h2, r, q⟩ := h
  obtain ⟨e2, n⟩ := q
  subst e2
  exact ⟨v, e, O1, fun z o => f z ((h1 z).mpr (.inl o)), r.mono (Same.refl _) (fun z a => .inl (a.elim .inl fun o => .inr ((h1 z).mpr (.inl o)))) fun z a => a.elim .inl fun o => ((h1 z).mp o).elim .inr fun o => (n z o).elim⟩
theorem ress2' {k l : Kd} {xs : List V} (h : Ress K H0 H A [k, l] xs) : ∃ x y, xs = [x, y] ∧ Ress K H0 H A [k, l] [x, y] := by
  obtain ⟨O, f, v, vs, O1, O2, e, h1, h2, r, v', vs', O3, O4, e', h3, h4, r', q⟩ := id h
  obtain ⟨e2, n⟩ := q
  subst e2; subst e'; subst e
  exact ⟨v, v', rfl, h⟩
theorem op_repr {pins : List (Addr × Obj)} {σ : L2.St} {s : Shared} {d : D} {x : V} {us : List Value} {Q : VK} (gu : X.A.guards = some []) (un : X.A.units + 65 < cLine) (I : Inv X pins σ H s) (rx : Vals [x] us) (r : RepR X.K H d x) (ok : rOk d = true) (q : Q (.str (mkS (rpS d))) H) :
    wpAny (model X.prog X.w) X.A (call (.builtin "repr") us) (EP X pins σ Q) X.xe s := by
  obtain ⟨u, rfl, ru⟩ := vals1 rx
  unfold rOk at ok
  simp only [Bool.and_eq_true, decide_eq_true_eq] at ok
  obtain ⟨⟨o1, o2⟩, o3⟩ := ok
  have eS : mkS (rpS d) = d.py.shown := by unfold rpS mkS; simp
  have sz : d.py.shown.length ≤ sizeLine := by rw [← eS, mkS_len, line_eq]; exact o3
  obtain ⟨as, rd⟩ := Dp.reads I _ x u (r.dps o1) ru
  have dep := SeqAt.depth_of_shaped o1
  have fin : ∀ tk, EP X pins σ Q (.str d.py.shown tk) { s with toks := s.toks + 1 } := fun tk => ⟨.str (mkS (rpS d)), H, I.tok _, ⟨tk, by rw [eS]⟩, q⟩
  have big : ∀ a, u = .ref a → wpAny (model X.prog X.w) X.A (call (.builtin "repr") [u]) (EP X pins σ Q) X.xe s := by
    rintro a rfl
    refine repr_of_reads' rd o2 (PyData.noDict_hsm (PyData.hasDict_of_canLay _ (SeqAt.canLay_of_shaped o1))) gu (by omega) (fun _ _ e => e) (fun h' u tk hk => ?_) sz
    exact ⟨.str (mkS (rpS d)), H, I.kept hk, ⟨u, by rw [eS]⟩, q⟩
  cases d with
  | non => rw [r.non] at ru; cases ru; exact PySem.P.repr_of_none (fin _)
  | bl b => rw [r.bl] at ru; cases ru; exact PySem.P.repr_of_bool (by have := fin s.toks; cases b <;> exact this)
  | int i =>
    rw [r.int] at ru
    obtain ⟨t, rfl⟩ := ru
    exact PySem.P.repr_of_int (of_decide_eq_true o2) (fin _)
  | str t =>
    rw [r.str] at ru
    obtain ⟨t, rfl⟩ := ru
    exact PySem.P.repr_of_str (fin _) sz
  | lst xs => obtain ⟨a, vs, e, _⟩ := r.lst; rw [e] at ru; exact big a ru
  | tup xs => obtain ⟨a, vs, e, _⟩ := r.tup; rw [e] at ru; exact big a ru
  | dct _ _ => cases o1
def biV : Bi → Value
  | .len => .builtin "len" | .int => .type "int" | .list => .type "list" | .tuple => .type "tuple" | .abs => .builtin "abs"
  | .max2 => .builtin "max" | .maxL => .builtin "max" | .min2 => .builtin "min" | .minL => .builtin "min"
  | .sum => .builtin "sum" | .all => .builtin "all" | .any => .builtin "any" | .repr => .builtin "repr" | .str => .type "str"
theorem op_bi (hc : X.calm = true) (gu : X.A.guards = some []) (un : X.A.units + 65 < cLine) (b : Bi) : CallR X (biV b) (rF X.K (biD b)) := by
  intro pins s σ H xs us Q I rx ⟨H0, A, ks, r, s0, hA, rr, e, q⟩
  unfold biD at e
  split at e
  · split at e <;> cases e
    rename_i hl
    obtain ⟨x, rfl, rx1⟩ := ress1 rr
    exact call_len pins s σ H _ us Q I rx ⟨x, _, rfl, by rw [rx1.rep.str]; exact ⟨by rw [mkS_len, line_eq]; exact hl, rfl⟩, by rw [mkS_len]; exact q _ _ (Same.refl _) Res.int⟩
  · cases e
    obtain ⟨x, rfl, rx1⟩ := ress1 rr
    obtain ⟨a, vs, ex, sx, w⟩ := rx1.rep.lst
    subst ex
    exact call_len pins s σ H _ us Q I rx ⟨_, _, rfl, .inl ⟨vs, sx, rfl⟩, by rw [w.length]; exact q _ _ (Same.refl _) Res.int⟩
  · cases e
    obtain ⟨x, rfl, rx1⟩ := ress1 rr
    obtain ⟨a, vs, ex, sx, w⟩ := rx1.rep.tup
    subst ex
    exact call_len pins s σ H _ us Q I rx ⟨_, _, rfl, .inr ⟨vs, sx, rfl⟩, by rw [w.length]; exact q _ _ (Same.refl _) Res.int⟩
  · cases e
    obtain ⟨x, rfl, rx1⟩ := ress1 rr
    rw [rx1.rep.int] at rx
    exact call_int1 pins s σ H _ us Q I rx (.inl ⟨_, rfl, q _ _ (Same.refl _) Res.int⟩)
  · cases e
    obtain ⟨x, rfl, rx1⟩ := ress1 rr
    rw [rx1.rep.bl] at rx
    exact call_int1 pins s σ H _ us Q I rx (.inr ⟨_, rfl, q _ _ (Same.refl _) Res.int⟩)
  · split at e
    · rename_i n hn
      split at e <;> cases e
      rename_i hl
      obtain ⟨x, rfl, rx1⟩ := ress1 rr
      exact call_int_str pins s σ H _ us Q I rx ⟨mkS _, n, by rw [rx1.rep.str], hn, by rw [mkS_len]; exact hl, q _ _ (Same.refl _) Res.int⟩
    · cases e
  · split at e <;> cases e
    rename_i i hl
    obtain ⟨x, rfl, rx1⟩ := ress1 rr
    refine call_str_int pins s σ H _ us Q I rx ⟨i, by rw [rx1.rep.int], hl, ?_⟩
    have w := q (.str (mkS (Str.ofString (toString i)).cps.toList)) H (Same.refl _) Res.str
    rw [show mkS (Str.ofString (toString i)).cps.toList = Str.ofString (toString i) from by unfold mkS; simp] at w
    exact w
  · rename_i k xs'
    obtain ⟨x, rfl, O, f, r1⟩ := ress1 rr
    cases e1 : chd k xs' with
    | ok c =>
      rw [e1] at e
      cases e
      obtain ⟨a, vs, ex, sx, _, P, sP, nP, w⟩ := ch_ok e1 r1 (fun x z => .inr z)
      subst ex
      exact call_list_of pins s σ H _ us Q I rx ⟨a, vs, rfl, .inl sx, fun p hp => q _ _ (same_new hp) (Res.list_of s0 hA f sP w hp)⟩
    | exc x p => rw [e1] at e; cases e
    | stuck => rw [e1] at e; cases e
  · rename_i k xs'
    cases e
    obtain ⟨x, rfl, O, f, r1⟩ := ress1 rr
    obtain ⟨a, vs, ex, sx, w⟩ := RepR.tup (Res1.flat rfl r1)
    subst ex
    have w : RepRs X.K (cut H fun z => A z ∨ False) xs' vs := w.mono (cut_set fun z a => .inl (a.elim id False.elim))
    refine call_list_of pins s σ H _ us Q I rx ⟨a, vs, rfl, .inr (Same.seqT cut_same sx), fun p hp => q _ _ (same_new hp) (Res.newL (O := fun _ => False) hp s0 (fun _ z => z.elim) (fun z a => (hA z a).mono s0) ?_)⟩
    split
    · exact Owns.frz (fun d v O n r => ⟨n, r⟩) (fun _ z => z) w
    · rename_i hcn
      have hcn : xs'.any D.cont = false := by simpa using hcn
      exact (Owns.frz (R := Own X.K H (fun z => A z ∨ False) 0) (fun d v O n r => ⟨n, r⟩) (fun _ z => z) w).impIn fun d m v O1 _ r => (Own.flat (cont_of hcn d m)).mpr r
  · rename_i k xs'
    obtain ⟨x, rfl, O, f, r1⟩ := ress1 rr
    cases e1 : chd k xs' with
    | ok c =>
      rw [e1] at e
      cases e
      obtain ⟨a, vs, ex, sx, _, P, sP, nP, w⟩ := ch_ok e1 r1 (fun x z => .inr z)
      subst ex
      obtain ⟨P', sP', g⟩ := owns_lower w 0 (Nat.zero_le _)
      have g := g A (fun z a => .inl a) fun z a p => absurd (f z (sP z p)) (hA z a).ne
      exact call_tuple_of pins s σ H _ us Q I rx ⟨a, vs, rfl, .inl ⟨sx, fun p hp => q _ _ (same_new hp) (Res.tupN hp (fun z a => (hA z a).mono s0) (g.rep fun _ _ _ r => r.2))⟩⟩
    | exc x p => rw [e1] at e; cases e
    | stuck => rw [e1] at e; cases e
  · cases e
    obtain ⟨x, rfl, rx1⟩ := ress1 rr
    obtain ⟨a, vs, ex, sx, w⟩ := rx1.rep.tup
    have rx2 := rx1
    obtain ⟨O, f, r1⟩ := rx2
    subst ex
    exact call_tuple_of pins s σ H _ us Q I rx ⟨a, vs, rfl, .inr ⟨sx, q _ _ (Same.refl _) (Res1.to_res rfl r1 (fun z a => .inl a) (Same.refl _))⟩⟩
  · cases e
    obtain ⟨x, rfl, rx1⟩ := ress1 rr
    rw [rx1.rep.int] at rx
    exact call_abs pins s σ H _ us Q I rx ⟨_, rfl, q _ _ (Same.refl _) Res.int⟩
  · cases e
    obtain ⟨x, y, rfl, rr⟩ := ress2' rr
    obtain ⟨ra, rb⟩ := ress2 rr
    rw [ra.int, rb.int] at rx
    exact call_max2 hc pins s σ H _ us Q I rx ⟨_, _, rfl, q _ _ (Same.refl _) Res.int⟩
  · cases e
    obtain ⟨x, y, rfl, rr⟩ := ress2' rr
    obtain ⟨ra, rb⟩ := ress2 rr
    rw [ra.int, rb.int] at rx
    exact call_min2 hc pins s σ H _ us Q I rx ⟨_, _, rfl, q _ _ (Same.refl _) Res.int⟩
  · split at e <;> cases e
    rename_i ns hn
    obtain ⟨x, rfl, rx1⟩ := ress1 rr
    obtain ⟨a, vs, ex, sx, w⟩ := rx1.rep.lst
    subst ex
    rw [ints_rep hn w] at sx
    exact cr_sum hc pins s σ H _ us Q I rx ⟨a, ns, rfl, sx, q _ _ (Same.refl _) Res.int⟩
  · split at e <;> cases e
    rename_i n ns hn
    obtain ⟨x, rfl, rx1⟩ := ress1 rr
    obtain ⟨a, vs, ex, sx, w⟩ := rx1.rep.lst
    subst ex
    rw [ints_rep hn w] at sx
    exact cr_max hc pins s σ H _ us Q I rx ⟨a, n :: ns, rfl, sx, by simp, fun m hm hl => by rw [maxI_of hm hl]; exact q _ _ (Same.refl _) Res.int⟩
  · split at e <;> cases e
    rename_i n ns hn
    obtain ⟨x, rfl, rx1⟩ := ress1 rr
    obtain ⟨a, vs, ex, sx, w⟩ := rx1.rep.lst
    subst ex
    rw [ints_rep hn w] at sx
    exact cr_min hc pins s σ H _ us Q I rx ⟨a, n :: ns, rfl, sx, by simp, fun m hm hl => by rw [minI_of hm hl]; exact q _ _ (Same.refl _) Res.int⟩
  · split at e <;> cases e
    rename_i ns hn
    obtain ⟨x, rfl, rx1⟩ := ress1 rr
    obtain ⟨a, vs, ex, sx, w⟩ := rx1.rep.lst
    subst ex
    rw [bls_rep hn w] at sx
    exact cr_all hc pins s σ H _ us Q I rx ⟨a, ns, rfl, sx, q _ _ (Same.refl _) Res.bl⟩
  · split at e <;> cases e
    rename_i ns hn
    obtain ⟨x, rfl, rx1⟩ := ress1 rr
    obtain ⟨a, vs, ex, sx, w⟩ := rx1.rep.lst
    subst ex
    rw [bls_rep hn w] at sx
    exact cr_any hc pins s σ H _ us Q I rx ⟨a, ns, rfl, sx, q _ _ (Same.refl _) Res.bl⟩
  · rename_i b
    cases e
    obtain ⟨x, rfl, rx1⟩ := ress1 rr
    rw [rx1.rep.bl] at rx
    obtain ⟨u, rfl, rfl⟩ := vals1 rx
    cases b
    · exact PySem.P.repr_of_bool ⟨.str (mkS _), H, I.tok _, ⟨_, rfl⟩, q _ _ (Same.refl _) Res.str⟩
    · exact PySem.P.repr_of_bool ⟨.str (mkS _), H, I.tok _, ⟨_, rfl⟩, q _ _ (Same.refl _) Res.str⟩
  · rename_i d nb
    split at e <;> cases e
    rename_i ok
    obtain ⟨x, rfl, rx1⟩ := ress1 rr
    exact op_repr gu un I rx rx1.rep ok (q _ _ (Same.refl _) Res.str)
  · cases e

/-! ### methods by values -/
def rM (K : PySem.W.Frag) (f : Kd → List Kd → R Kd) : V → List V → Hp → VK → Prop := fun x xs H Q => ∃ (H0 : Hp) (A : AS) (k : Kd) (ks : List Kd) (r : Kd), Same H0 H ∧ (∀ z, A z → IsM H0 z) ∧ Ress K H0 H A (k :: ks) (x :: xs) ∧ f k ks = .ok r ∧ ∀ v H', Same H H' → Res K H0 H' A r v → Q v H'
def meN : Me → String
  | .join => "join" | .sindex => "index" | .lindex => "index" | .startswith => "startswith" | .endswith => "endswith" | .count => "count" | .split => "split"
def meT : Me → String
  | .lindex => "list"
  | _ => "str"
def meI : Me → String
  | .join => "str.join" | .sindex => "str.index" | .lindex => "list.index" | .startswith => "str.startswith" | .endswith => "str.endswith" | .count => "str.count" | .split => "str.split"
theorem rep_cons {k : Kd} {ks : List Kd} {x : V} {xs : List V} (h : Ress K H0 H A (k :: ks) (x :: xs)) : RepR K H k.2 x ∧ RepRs K H (ks.map (·.2)) xs := by
  have := h.rep
  rw [List.map_cons] at this
  unfold RepRs at this
  obtain ⟨v, vs, e, r1, r2⟩ := this
  cases e
  exact ⟨r1, r2⟩
theorem RepRs.one {d : D} {vs : List V} (r : RepRs K H [d] vs) : ∃ v, vs = [v] ∧ RepR K H d v := by
  unfold RepRs at r
  obtain ⟨v, vs', e, r1, r2⟩ := r
  unfold RepRs at r2
  subst r2
  exact ⟨v, e, r1⟩
theorem strs_rp {G : Hp} : ∀ ys : List Str, RepRs K G (ys.map fun y => D.str y.cps.toList) (ys.map V.str)
  | [] => RepRs.nil
  | y :: ys => RepRs.cons (by unfold RepR; show V.str y = V.str (mkS y.cps.toList); unfold mkS; simp) (strs_rp ys)
/-- a new list of texts -/
theorem strs_new {ys : List Str} {p : Addr} (hp : H p = none) (s0 : Same H0 H) (hA : ∀ z, A z → IsM H0 z) : Res K H0 (upd H p (.lst (ys.map V.str))) A (newL 8 (ys.map fun y => D.str y.cps.toList)) (.ref p) := by
  have hcn : (ys.map fun y => D.str y.cps.toList).any D.cont = false := by
    rw [List.any_map]
    exact List.any_eq_false.mpr fun y _ => by simp [D.cont]
  refine Res.newL (O := fun _ => False) hp s0 (fun _ z => z.elim) (fun z a => (hA z a).mono s0) ?_
  exact (Owns.frz (R := Own K H (fun z => A z ∨ False) 0) (fun d v O n r => ⟨n, r⟩) (fun _ z => z) (strs_rp ys)).impIn fun d m v O1 _ r => (Own.flat (cont_of hcn d m)).mpr r
theorem op_me (m : Me) : MtR X (meI m) (rM X.K (meD m)) := by
  intro pins s σ H x xs v us Q I rx rxs ⟨H0, A, k, ks, r, s0, hA, rr, e, q⟩
  obtain ⟨ra, rb⟩ := rep_cons rr
  unfold meD at e
  split at e
  · split at e
    · split at e <;> cases e
      rename_i ys hy hl
      obtain ⟨y, rfl, ry⟩ := rb.one
      obtain ⟨a, vs, ex, sx, w⟩ := ry.lst
      subst ex
      rw [strs_rep hy w] at sx
      refine mt_join pins s σ H x _ v us Q I rx rxs ⟨_, a, _, ra.str, rfl, .inl sx, ?_, ?_⟩
      · rw [List.map_map, List.length_map, mkS_len]
        have : ((fun z : Str => z.length) ∘ mkS) = fun z : List Nat => z.length := by funext z; exact mkS_len z
        rw [this]
        exact hl
      · rw [join_mk]
        exact q _ _ (Same.refl _) Res.str
    · cases e
  · split at e <;> cases e
    rename_i n hn
    obtain ⟨y, rfl, ry⟩ := rb.one
    rw [ry.str] at rxs
    obtain ⟨rest, ho⟩ := occ_idx hn
    exact mt_sindex pins s σ H x _ v us Q I rx rxs ⟨_, _, n, rest, ra.str, rfl, ho, q _ _ (Same.refl _) Res.int⟩
  · cases e
    obtain ⟨y, rfl, ry⟩ := rb.one
    rw [ry.str] at rxs
    exact mt_startswith pins s σ H x _ v us Q I rx rxs ⟨_, _, ra.str, rfl, q _ _ (Same.refl _) Res.bl⟩
  · cases e
    obtain ⟨y, rfl, ry⟩ := rb.one
    rw [ry.str] at rxs
    exact mt_endswith pins s σ H x _ v us Q I rx rxs ⟨_, _, ra.str, rfl, q _ _ (Same.refl _) Res.bl⟩
  · cases e
    obtain ⟨y, rfl, ry⟩ := rb.one
    rw [ry.str] at rxs
    exact mt_count pins s σ H x _ v us Q I rx rxs ⟨_, _, ra.str, rfl, q _ _ (Same.refl _) Res.int⟩
  · rename_i s' t'
    split at e <;> cases e
    rename_i hl
    obtain ⟨y, rfl, ry⟩ := rb.one
    rw [ry.str] at rxs
    exact mt_split pins s σ H x _ v us Q I rx rxs ⟨_, _, ra.str, rfl, by rw [mkS_len]; exact hl.1, by rw [mkS_len, line_eq]; exact hl.2, fun p hp => q _ _ (same_new hp) (strs_new hp s0 hA)⟩
  · cases e
/-- what a method's call wants of its receiver's type -/
theorem me_ty {m : Me} {k : Kd} {ks : List Kd} {r : Kd} {x : V} (e : meD m k ks = .ok r) (ra : RepR K H k.2 x) : tyV K (meT m) x H := by
  unfold meD at e
  split at e <;> first | (cases e; done) | (rw [ra.str]; rfl)
end
end Px

/-! Px6: readings of codes; the rules for expressions. -/
namespace Px
open PySem PySem.Spec L2

/-! ### what a def promises below a stack without guards -/
structure FnG (P : Program) (w : World) (K : PySem.W.Frag) (mg : Str → Option Value) (base : Heap) (k : Nat) (f : Addr) (fd : FuncData) (ps : List Str) (sp : Sp) : Prop where
  len : ∀ vs H Q E, sp vs H Q E → vs.length = ps.length
  run : ∀ (A : Around) (outer : List PySem.Env) (s : Shared) (H : Hp) (us : List Value) (vs : List V) (Q : VK) (E : XK), A.guards = some [] → Room k A → Env0 P w K mg base A outer s H → BindsTo s fd ⟨us, []⟩ (ps.zip us) → Vals vs us → sp vs H Q E →
    codeAny (model P w) A (.call (.ref f) ⟨us, []⟩) (CR (L2.CX P w) outer P w H s Q E) s
section
variable {P : Program} {w : World} {K : PySem.W.Frag} {mg : Str → Option Value} {base : Heap} {f : Addr} {fd : FuncData} {ps : List Str} {sp : Sp}
theorem FnG.mono {j k : Nat} (F : FnG P w K mg base j f fd ps sp) (h : j ≤ k) : FnG P w K mg base k f fd ps sp :=
  ⟨F.len, fun A outer s H us vs Q E hg hr => F.run A outer s H us vs Q E hg (hr.mono h)⟩
theorem FnG.imp {k : Nat} {sp' : Sp} (F : FnG P w K mg base k f fd ps sp) (h : ∀ vs H Q E, sp' vs H Q E → sp vs H Q E) : FnG P w K mg base k f fd ps sp' :=
  ⟨fun vs H Q E q => F.len vs H Q E (h _ _ _ _ q), fun A outer s H us vs Q E hg hr e0 hb r q => F.run A outer s H us vs Q E hg hr e0 hb r (h _ _ _ _ q)⟩
/-- a def, by its body -/
theorem fng_of {x qual : Str} {st : Stmt} {N : List Str} {k : Nat} (Fu : Fun K x qual st f fd) (S : FnScope N ps (defScope st)) (len : ∀ vs H Q E, sp vs H Q E → vs.length = ps.length)
    (hb : ∀ (cdv : Value) (A : Around) (outer : List PySem.Env) (s : Shared) (H : Hp) (vs : List V) (Q : VK) (E : XK), A.guards = some [] → Room k (A.deeper (PyProof.Rows.envOfC qual (defScope st) s.heap.objs.size f cdv)) → sp vs H Q E →
      ∃ t, PSs (cxOf (L2.CX P w) P w K mg base N qual (defScope st) f cdv A outer s H E) (defBody st) t ∧ t { nx := fun _ H' => Q .non H', rt := Q } (L2.start N vs) H) : FnG P w K mg base (k + 1) f fd ps sp := by
  obtain ⟨oc, od, kV, doc, pm, an, cdv, ct, osl, efd, lk, hcd⟩ := Fu.ex
  subst efd
  constructor
  · exact len
  intro A outer s H us vs Q E hg hr e0 hbd rv hsp
  have keep := fun b o e => (e0.bs b o e).1
  have room := hr.deeper (PyProof.Rows.envOfC qual (defScope st) s.heap.objs.size f cdv)
  obtain ⟨t, body, pre⟩ := hb cdv A outer s H vs Q E hg room hsp
  have inK : K.In s.heap := e0.mod.kin.keeps keep
  have params : ∀ z ∈ ps.zip us, (defScope st).names.lookup z.1 = some .local ∨ ((defScope st).names.lookup z.1 = some .cell ∧ ((cellsFrom (s.heap.objs.size + 1) (defScope st).names []).lookup z.1).isSome = true) := by
    rintro ⟨n, v⟩ hz
    exact (S.par n (List.of_mem_zip hz).1).imp id fun c => ⟨c, PySem.W.cellsFrom_some _ _ _ (.inl c)⟩
  refine codeAny_call_function hr.depth (inK _ _ lk) rfl S.co S.gen rfl (PySem.W.codeRec_of inK hcd) (hbd _ _ _ _ ?_)
  refine wpAny_newFunctionEnv_cells S.kind params ?_
  intro env heq s1 fresh
  cases heq
  refine ⟨(e0.mod.nolimit.keeps keep).keeps fresh.toInCall.keep, codeAny_func (wpAny_mono (body.run [] s1 (L2.start N vs) H _ (inv_start S hr.hd e0 (len _ _ _ _ hsp) rv fresh) pre) ?_ fun _ _ z => z)⟩
  intro fl s' done
  match fl, done with
  | .ret u, ⟨v, _, H', J, rv', q⟩ => exact ⟨v, H', J.os, J.bare, J.base, J.hok, rv', q⟩
  | .next, ⟨_, H', J, q⟩ => exact ⟨.non, H', J.os, J.bare, J.base, J.hok, rfl, q⟩
  | .brk, ⟨_, _, _, z⟩ => exact z.elim
  | .cont, ⟨_, _, _, z⟩ => exact z.elim
end
/-- such a def is called by its name -/
theorem pe_callG {X : Cx} {k : Nat} {f : Addr} {fd : FuncData} {ps : List Str} {sp : Sp} {E : L2.St → XK} {x : Str} {p pos : Pos} {e : Expr} {es : List Expr} {t : TA} (F : FnG X.prog X.w X.K X.mg X.base k f fd ps sp) (gu : X.A.guards = some []) (hr : Room k X.A) (hg : Gl X x)
    (hm : X.mg x = some (.ref f)) (hk : PySem.W.keepIn X.K (.ref f) = true) (hb : Binds X.K fd ps []) (hx : ∀ σ, PassesAt (L2.CX X.prog X.w) X σ (E σ)) (ha : PA X (e :: es) t) (hdb : (x == ("__debug__" : Str)) = false)
    (he : starEach (e :: es) X.env = (false, eval e X.env) :: starEach es X.env) (hpl : (backTo pos (starEach es X.env)).any (·.1) = false) : PE X (.Call (.Name x p) (e :: es) [] pos) (tCallS sp E t) := by
  constructor
  intro pins s σ H Q I h
  refine wpAny_Call_Name_kw (ld_glob I hg hm (PySem.W.callWith_K (h₀ := X.base) I.ok.mod.kin hk (thn (ha.run pos pins s σ H _ I h) ?_) he hpl) hdb)
  rintro us s1 ⟨vs, H1, I1, rv, q⟩
  have bd := hb s1 us I1.kIn (by rw [List.append_nil, ← rv.length]; exact F.len _ _ _ _ q)
  rw [List.append_nil] at bd
  refine ⟨I1.kIn, wpAny_call (codeAny_mono (F.run X.A X.stack s1 H1 us vs Q (E σ) gu hr I1.env0 bd rv q) ?_)⟩
  intro r s' done
  match r, done with
  | .error e, d => exact hx σ pins H1 s1 e s' I1 d
  | .ok (.ret u), d => exact I1.after d
/-! ### what follows a computation -/
abbrev EC := String → Value
def IsExc (ec : EC) (x : String) (p : List (String × Int)) (cls : Value) (d : Option Addr) (H : Hp) : Prop :=
  cls = ec x ∧ (p = [] → d = none) ∧ (p ≠ [] → ∃ a, d = some a ∧ H a = some (.xd (p.map fun q => (Str.ofString q.1, V.int q.2))))
def aft (ec : EC) (W : WX) (σ : L2.St) (H : Hp) {α : Type} (r : R α) (k : α → Prop) : Prop := match r with
  | .ok a => k a
  | .exc x p => ∀ cls d H', Same H H' → IsExc ec x p cls d H' → W cls d σ H'
  | .stuck => False
section
variable {ec : EC} {W : WX} {σ : L2.St} {H H' H1 : Hp} {α β : Type}
theorem aft_bind {r : R α} {f : α → R β} {k : β → Prop} : aft ec W σ H (r >>= f) k ↔ aft ec W σ H r (fun a => aft ec W σ H (f a) k) := by
  cases r <;> exact Iff.rfl
theorem aft_mono {r : R α} {k k' : α → Prop} (s : Same H H1) (h : aft ec W σ H r k) (hk : ∀ a, k a → k' a) : aft ec W σ H1 r k' := by
  cases r with
  | ok a => exact hk a h
  | exc x p => exact fun cls d H' s' e => h cls d H' (s.trans s') e
  | stuck => exact h
theorem aft_ok {a : α} {k : α → Prop} : aft ec W σ H (R.ok a) k ↔ k a := Iff.rfl
theorem aft_pure {a : α} {k : α → Prop} : aft ec W σ H (pure a : R α) k ↔ k a := Iff.rfl
end
/-! ### what a def promises -/
def RetR (K : PySem.W.Frag) (H H' : Hp) (Z : AS) (k : Nat) (d : D) (v : V) : Prop := ∃ O : AS, (∀ x, O x → H x = none) ∧ Own K H' (fun x => Z x ∨ O x) k d v O
def spD (K : PySem.W.Frag) (ec : EC) (n : Nat) (m : Fn) : Sp := fun vs H Q E => vs.length = n ∧ ∃ (ds : List D) (Z : AS), (∀ x, Z x → IsM H x) ∧ RepRs K (cut H Z) ds vs ∧ match m ds with
  | .ok (k, d) => ∀ v H', Same H H' → RetR K H H' Z k d v → Q v H'
  | .exc x p => ∀ cls dd H', Same H H' → IsExc ec x p cls dd H' → E cls dd H'
  | .stuck => False
/-- a def that is called by its name -/
structure Cal (P : Program) (w : World) (K : PySem.W.Frag) (mg : Str → Option Value) (base : Heap) (ec : EC) where
  name : String
  n : Nat
  m : Fn
  k : Nat
  f : Addr
  fd : FuncData
  ps : List Str
  ok : FnG P w K mg base k f fd ps (spD K ec n m)
  gm : mg (Str.ofString name) = some (.ref f)
  kp : PySem.W.keepIn K (.ref f) = true
  b : Binds K fd ps []
/-- a constant of the module -/
structure Con1 (K : PySem.W.Frag) (mg : Str → Option Value) where
  name : String
  d : D
  v : V
  u : Value
  gm : mg (Str.ofString name) = some u
  r : RelV v u
  rep : ∀ H, RepR K H d v
/-- the names that a code speaks of -/
structure Cf where
  N : List Str
  gc : List String
  bn : List String
  fs : List (String × Nat)
  rs : List String := []
  bx : List String := []

/-! ### a code stands for an expression -/
def visB (sc : Scope) (x : Str) : Bool := match sc.names.lookup x with
  | some .local => true
  | some .cell => true
  | some .free => true
  | _ => false
def glB (sc : Scope) (x : Str) : Bool := decide (sc.names.lookup x = some .globalImplicit)
def nmB (x : Str) : Bool := !(x == ("__debug__" : Str)) && !(x == ("__classdict__" : Str)) && !(x == ("__name__" : Str))
def noStar : Expr → Bool
  | .Starred _ _ => false
  | _ => true
def noStars : List Expr → Bool
  | [] => true
  | e :: es => noStar e && noStars es
def plainIx : Expr → Bool
  | .Slice _ _ _ _ => false
  | _ => true
def litB : D → Const → Bool
  | .non, .none => true
  | .bl a, .bool b => a == b
  | .int a, .int b => decide (a = b)
  | .str s, .str x => decide (x.cps.toList = s)
  | _, _ => false
def plainTest : Expr → Bool
  | .Name _ _ => true
  | .Call _ _ _ _ => true
  | .Subscript _ _ _ => true
  | .Constant _ _ _ => true
  | _ => false
def biN : Bi → String
  | .len => "len" | .int => "int" | .list => "list" | .tuple => "tuple" | .abs => "abs" | .max2 => "max" | .min2 => "min" | .sum => "sum" | .maxL => "max" | .minL => "min" | .all => "all" | .any => "any" | .repr => "repr" | .str => "str"
def ownB (N : List Str) (is : List Nat) : List (Str × Nat) := is.map fun i => (N.getD i ("" : Str), i)
/-- whose cells were made at the entry: a def's: all; a block's: its own -/
def fnB : Option Scope → Str → Bool
  | none, _ => true
  | some raw, x => decide (raw.names.lookup x = some .cell)
/-- the stored names: of the block that runs -/
def locB (lv : Option Scope) (sc : Scope) (x : Str) : Bool := match sc.names.lookup x with
  | some .local => true
  | some .cell => fnB lv x
  | _ => false
mutual
def okP (cf : Cf) (lv : Option Scope) (sc : Scope) : Pat → Expr → Bool
  | .nm i, .Name x _ => decide (cf.N[i]? = some x) && locB lv sc x
  | .tp ps, .Tuple es _ _ => okPs cf lv sc ps es
  | _, _ => false
def okPs (cf : Cf) (lv : Option Scope) (sc : Scope) : List Pat → List Expr → Bool
  | [], [] => true
  | p :: ps, e :: es => okP cf lv sc p e && okPs cf lv sc ps es && noStar e
  | _, _ => false
end
def plainBase : Expr → Bool
  | .Call _ [] _ _ => false
  | _ => true
def isTupE : Expr → Bool
  | .Tuple _ _ _ => true
  | _ => false
def notSet : Expr → Bool
  | .Set _ _ _ => false
  | _ => true
def one1 (cf : Cf) (sc : Scope) (x : Str) (want : String) : Bool := decide (Str.ofString want = x) && cf.bn.contains want && glB sc x && nmB x
def glX (cf : Cf) (sc : Scope) (j : Nat) (x : Str) : Bool := (match cf.gc[j]? with | some y => decide (Str.ofString y = x) | none => false) && glB sc x && nmB x
def fnX (cf : Cf) (sc : Scope) (j : Nat) (x : Str) (l : Nat) : Bool := (match cf.fs[j]? with | some (y, n) => decide (Str.ofString y = x) && decide (l = n) | none => false) && glB sc x && nmB x
mutual
def okE (cf : Cf) : Ex → Scope → Expr → Bool
  | .var i, sc, e => (match e with
    | .Name x _ => decide (cf.N[i]? = some x) && visB sc x && nmB x
    | _ => false)
  | .lit d, _, e => (match e with
    | .Constant c _ _ => litB d c
    | _ => false)
  | .glob j, sc, e => (match e with
    | .Name x _ => glX cf sc j x
    | _ => false)
  | .bin o a b, sc, e => (match e with
    | .BinOp l op r _ => decide (o = op) && okE cf a sc l && okE cf b sc r
    | _ => false)
  | .un o a, sc, e => (match e with
    | .UnaryOp op e _ => decide (o = op) && okE cf a sc e
    | _ => false)
  | .cmp o a b, sc, e => (match e with
    | .Compare l [op] [r] _ => decide (o = op) && okE cf a sc l && okE cf b sc r && !(behindInMarks op r)
    | _ => false)
  | .chain o o' a b c, sc, e => (match e with
    | .Compare l [op, op'] [r, r'] _ => decide (o = op) && decide (o' = op') && okE cf a sc l && okE cf b sc r && okE cf c sc r' && !(lastMarks [op, op'] [r, r'])
    | _ => false)
  | .and a b, sc, e => (match e with
    | .BoolOp .And [x, y] _ => okE cf a sc x && okE cf b sc y
    | .BoolOp .And (x :: y :: z :: rest) pos => okE cf a sc x && okE cf b sc (.BoolOp .And (y :: z :: rest) pos)
    | _ => false)
  | .or a b, sc, e => (match e with
    | .BoolOp .Or [x, y] _ => okE cf a sc x && okE cf b sc y
    | .BoolOp .Or (x :: y :: z :: rest) pos => okE cf a sc x && okE cf b sc (.BoolOp .Or (y :: z :: rest) pos)
    | _ => false)
  | .not a, sc, e => (match e with
    | .UnaryOp .Not e _ => okE cf a sc e
    | _ => false)
  | .ite c a b, sc, e => (match e with
    | .IfExp t x y _ => okT cf c sc t && okE cf a sc x && okE cf b sc y
    | _ => false)
  | .idx a i, sc, e => (match e with
    | .Subscript v s _ => okE cf a sc v && okE cf i sc s && plainIx s
    | _ => false)
  | .sl a lo hi, sc, e => (match e with
    | .Subscript v (.Slice l u none _) _ => okE cf a sc v && okO cf lo sc l && okO cf hi sc u
    | _ => false)
  | .rev a, sc, e => (match e with
    | .Subscript v (.Slice none none (some (.UnaryOp .USub (.Constant (.int i) _ _) _)) _) _ => decide (i = 1) && okE cf a sc v
    | _ => false)
  | .call j es, sc, e => (match e with
    | .Call (.Name x _) (e :: args) [] _ => fnX cf sc j x (e :: args).length && noStars (e :: args) && okEs cf es sc (e :: args)
    | .Call (.Name x _) [] [] _ => fnX cf sc j x 0 && es.isEmpty
    | _ => false)
  | .bi b es, sc, e => (match e with
    | .Call (.Name x _) (e :: args) [] _ => one1 cf sc x (biN b) && noStars (e :: args) && okEs cf es sc (e :: args)
    | _ => false)
  | .me m a es, sc, e => (match e with
    | .Call (.Attribute o nm apos) (e :: args) [] cpos => decide (Str.ofString (meN m) = nm) && noStars (e :: args) && decide (args.length < 20) && plainBase o && (apos.endLine == cpos.line) && okE cf a sc o && okEs cf es sc (e :: args)
    | _ => false)
  | .tup es, sc, e => (match e with
    | .Tuple elts _ _ => noStars elts && okEs cf es sc elts
    | _ => false)
  | .list es, sc, e => (match e with
    | .List elts _ => noStars elts && okEs cf es sc elts
    | _ => false)
  | .isTy a t, sc, e => (match e with
    | .Call (.Name x _) [e, .Name y _] [] _ => one1 cf sc x "isinstance" && one1 cf sc y t && ["str", "int", "bool", "list", "tuple"].contains t && noStar e && okE cf a sc e
    | _ => false)
  | .comp p it cs el, sc, e => (match e with
    | .ListComp elt [⟨tg, iter, ifs, as⟩] scope _ => decide (as = 0) && okI cf it sc tg iter && notSet iter && blkC cf.N sc scope (ownB cf.N p.slots) && okP cf (some scope) (relS scope sc) p tg && okTs cf cs (relS scope sc) ifs && okE cf el (relS scope sc) elt
    | _ => false)
def okO (cf : Cf) : Ox → Scope → Option Expr → Bool
  | .no, _, e => e.isNone
  | .yes a, sc, e => (match e with
    | some e => okE cf a sc e
    | none => false)
def okT (cf : Cf) : Tx → Scope → Expr → Bool
  | .and a b, sc, e => (match e with
    | .BoolOp .And [x, y] _ => okT cf a sc x && okT cf b sc y
    | .BoolOp .And (x :: y :: z :: rest) pos => okT cf a sc x && okT cf b sc (.BoolOp .And (y :: z :: rest) pos)
    | _ => false)
  | .or a b, sc, e => (match e with
    | .BoolOp .Or [x, y] _ => okT cf a sc x && okT cf b sc y
    | .BoolOp .Or (x :: y :: z :: rest) pos => okT cf a sc x && okT cf b sc (.BoolOp .Or (y :: z :: rest) pos)
    | _ => false)
  | .not a, sc, e => (match e with
    | .UnaryOp .Not e _ => okT cf a sc e
    | _ => false)
  | .cmp o a b, sc, e => (match e with
    | .Compare l [op] [r] _ => decide (o = op) && okE cf a sc l && okE cf b sc r && !(behindInMarks op r)
    | _ => false)
  | .chain o o' a b c, sc, e => (match e with
    | .Compare l [op, op'] [r, r'] _ => decide (o = op) && decide (o' = op') && okE cf a sc l && okE cf b sc r && okE cf c sc r' && !(lastMarks [op, op'] [r, r'])
    | _ => false)
  | .val c, sc, e => okE cf c sc e && plainTest e
/-- what is walked, with its target -/
def okI (cf : Cf) : Ix → Scope → Expr → Expr → Bool
  | .rng1 a, sc, _, e => (match e with
    | .Call (.Name x _) [e] [] _ => one1 cf sc x "range" && noStar e && okE cf a sc e
    | _ => false)
  | .rng2 a b, sc, _, e => (match e with
    | .Call (.Name x _) [e, e'] [] _ => one1 cf sc x "range" && noStar e && noStar e' && okE cf a sc e && okE cf b sc e'
    | _ => false)
  | .rng3 a b c, sc, _, e => (match e with
    | .Call (.Name x _) [e, e', e''] [] _ => one1 cf sc x "range" && noStar e && noStar e' && noStar e'' && okE cf a sc e && okE cf b sc e' && okE cf c sc e''
    | _ => false)
  | .enum a, sc, tg, e => (match e with
    | .Call (.Name x _) [e] [] _ => one1 cf sc x "enumerate" && noStar e && isTupE tg && okE cf a sc e
    | _ => false)
  | .zip a b, sc, tg, e => (match e with
    | .Call (.Name x _) [e, e'] [] _ => one1 cf sc x "zip" && noStar e && noStar e' && isTupE tg && okE cf a sc e && okE cf b sc e'
    | _ => false)
  | .val c, sc, _, e => okE cf c sc e
def okEs (cf : Cf) : List Ex → Scope → List Expr → Bool
  | [], _, es => es.isEmpty
  | c :: cs, sc, es => (match es with
    | e :: es => noStar e && okE cf c sc e && okEs cf cs sc es
    | [] => false)
def okTs (cf : Cf) : List Tx → Scope → List Expr → Bool
  | [], _, es => es.isEmpty
  | c :: cs, sc, es => (match es with
    | [e] => okT cf c sc e && cs.isEmpty
    | _ => false)
end

/-! ### where a code runs -/
structure Okx (P : Program) (w : World) (K : PySem.W.Frag) (mg : Str → Option Value) (base : Heap) (N : List Str) (kk : Nat) (X : Cx) (sc : Scope) : Prop where
  hP : X.prog = P
  hw : X.w = w
  hK : X.K = K
  hmg : X.mg = mg
  hb : X.base = base
  hN : X.N = N
  hsc : X.env.scope = sc
  calm : X.calm = true
  nd : N.Nodup
  room : Room kk X.A

section
variable {K : PySem.W.Frag} {ec : EC}
/-- the reading of a code -/
def tE (K : PySem.W.Frag) (ec : EC) (W : WX) (F : List Fn) (C : List D) (c : Ex) : TE := fun σ H Q => ∃ (ρ : Env) (B : Hp) (Z : AS) (O : Nat → AS), Rel K B Z O σ H ρ ∧
  aft ec W σ H (ev F C c ρ) (fun k => ∀ v H', Same H H' → Res K H H' (ZO Z O) k v → Q v H')
def tEs (K : PySem.W.Frag) (ec : EC) (W : WX) (F : List Fn) (C : List D) (cs : List Ex) : TA := fun σ H Q => ∃ (ρ : Env) (B : Hp) (Z : AS) (O : Nat → AS), Rel K B Z O σ H ρ ∧
  aft ec W σ H (evs F C cs ρ) (fun ks => ∀ vs H', Same H H' → Ress K H H' (ZO Z O) ks vs → Q vs H')
def tT (K : PySem.W.Frag) (ec : EC) (W : WX) (F : List Fn) (C : List D) (c : Tx) : TT := fun σ H Q => ∃ (ρ : Env) (B : Hp) (Z : AS) (O : Nat → AS), Rel K B Z O σ H ρ ∧
  aft ec W σ H (tst F C c ρ) (fun b => ∀ H', Same H H' → Q b H')
def tO (K : PySem.W.Frag) (ec : EC) (W : WX) (F : List Fn) (C : List D) (c : Ox) : TO := fun σ H Q => ∃ (ρ : Env) (B : Hp) (Z : AS) (O : Nat → AS), Rel K B Z O σ H ρ ∧
  aft ec W σ H (evO F C c ρ) (fun o => ∀ H', Same H H' → Q o H')
theorem PE.imp {X : Cx} {e : Expr} {t t' : TE} (h : PE X e t) (w : ∀ σ H Q, t' σ H Q → t σ H Q) : PE X e t' := ⟨fun pins s σ H Q I q => h.run pins s σ H Q I (w σ H Q q)⟩
theorem PA.imp {X : Cx} {e : List Expr} {t t' : TA} (h : PA X e t) (w : ∀ σ H Q, t' σ H Q → t σ H Q) : PA X e t' := ⟨fun pos pins s σ H Q I q => h.run pos pins s σ H Q I (w σ H Q q)⟩
theorem PT.imp {X : Cx} {e : Expr} {t t' : TT} (h : PT X e t) (w : ∀ σ H Q, t' σ H Q → t σ H Q) : PT X e t' := ⟨fun pins s σ H Q I q => h.run pins s σ H Q I (w σ H Q q)⟩
theorem PW.imp {X : Cx} {e : Expr} {t t' : TT} (h : PW X e t) (w : ∀ σ H Q, t' σ H Q → t σ H Q) : PW X e t' := ⟨fun wh pins s σ H Q I q => h.run wh pins s σ H Q I (w σ H Q q)⟩
theorem PO.imp {X : Cx} {e : Option Expr} {t t' : TO} (h : PO X e t) (w : ∀ σ H Q, t' σ H Q → t σ H Q) : PO X e t' := ⟨fun pins s σ H Q I q => h.run pins s σ H Q I (w σ H Q q)⟩
theorem zo_res (Z O1 : AS) (O : Nat → AS) : (ZO (fun x => Z x ∨ O1 x) O) = fun x => ZO Z O x ∨ O1 x := by
  funext x
  apply propext
  constructor
  · rintro ((z | z) | z)
    · exact .inl (.inl z)
    · exact .inr z
    · exact .inl (.inr z)
  · rintro ((z | z) | z)
    · exact .inl (.inl z)
    · exact .inr z
    · exact .inl (.inr z)
variable {W : WX} {F : List Fn} {C : List D} {σ : L2.St} {H H1 H2 : Hp} {ρ : Env} {B : Hp} {Z : AS} {O : Nat → AS}
/-- behind a first value: the environment as it is, the value's own things reserved -/
theorem Rel.past {k : Kd} {v : V} {O1 : AS} (r : Rel K B Z O σ H ρ) (s : Same H H1) (f : ∀ x, O1 x → H x = none) (r1 : Res1 K H1 (fun x => ZO Z O x ∨ O1 x) k v O1) : Rel K B (fun x => Z x ∨ O1 x) O σ H1 ρ :=
  r.res s f fun x o => r1.dom o
theorem use_E {c : Ex} {Q : VK} (r : Rel K B Z O σ H ρ) (h : aft ec W σ H (ev F C c ρ) (fun k => ∀ v H', Same H H' → Res K H H' (ZO Z O) k v → Q v H')) : tE K ec W F C c σ H Q := ⟨ρ, B, Z, O, r, h⟩
/-- two values one after the other -/
theorem two {a b : Ex} {Q : V → V → Hp → Prop} {P : Kd → Kd → Prop} (r : Rel K B Z O σ H ρ) (h : aft ec W σ H (ev F C a ρ) (fun x => aft ec W σ H (ev F C b ρ) (fun y => P x y)))
    (q : ∀ ka kb v u H2, P ka kb → Same H H2 → Ress K H H2 (ZO Z O) [ka, kb] [v, u] → Q v u H2) : tE K ec W F C a σ H fun v H1 => tE K ec W F C b σ H1 fun u H2 => Q v u H2 := by
  refine use_E r (aft_mono (Same.refl _) h fun ka ha v H1 s1 ⟨O1, f1, r1⟩ => use_E (r.past s1 f1 r1) (aft_mono s1 ha fun kb hb u H2 s2 r2 => ?_))
  rw [zo_res] at r2
  obtain ⟨O2, f2, r2⟩ := r2
  refine q ka kb v u H2 hb (s1.trans s2) (Ress.cons f1 (fun x => r.am) s1 r1 s2 ?_)
  exact ⟨O2, f2, u, [], O2, fun _ => False, rfl, fun x => by simp, fun _ _ z => z, r2, rfl, fun _ z => z⟩
/-- no exception comes from an operation -/
def Calm2 (f : Kd → Kd → R Kd) : Prop := ∀ a b x p, f a b ≠ .exc x p
end
end Px

/-! Px7: expressions mean what their codes compute. -/
namespace Px
open PySem PySem.Spec L2
section
variable {K : PySem.W.Frag} {ec : EC} {W : WX} {F : List Fn} {C : List D} {X : Cx} {pos : Pos}
theorem bin_calm (o : Operator) : Calm2 (binD o) := by
  intro a b x p h
  unfold binD at h
  split at h
  all_goals first | (cases h; done) | (split at h <;> (first | (cases h; done) | skip))
  · rename_i k xs l ys _
    unfold chd at h
    repeat' split at h
    all_goals cases h
theorem idx_calm : Calm2 idxD := by
  intro a b x p h
  unfold idxD at h
  repeat' split at h
  all_goals cases h
theorem cmp_calm (o : CmpOp) (a b : Kd) (x : String) (p : List (String × Int)) : cmpD o a b ≠ .exc x p := by
  intro h
  unfold cmpD at h
  repeat' split at h
  all_goals cases h
theorem aft_calm {σ : L2.St} {H : Hp} {α : Type} {r : R α} {k : α → Prop} (h : aft ec W σ H r k) (c : ∀ x p, r ≠ .exc x p) : ∃ a, r = .ok a ∧ k a := by
  cases r with
  | ok a => exact ⟨a, rfl, h⟩
  | exc x p => exact absurd rfl (c x p)
  | stuck => exact h.elim
theorem Res.back {H0 H1 H : Hp} {A : AS} {k : Kd} {v : V} (s : Same H0 H1) (h : Res K H1 H A k v) : Res K H0 H A k v := let ⟨O, f, r⟩ := h; ⟨O, fun x o => s.free (f x o), r⟩
theorem e_var {i : Nat} {x : Str} (hN : X.N[i]? = some x) (hv : Vis X.env.scope x) (h1 : (x == ("__debug__" : Str)) = false) (h2 : (x == ("__classdict__" : Str)) = false) : PE X (.Name x pos) (tE K ec W F C (.var i)) := by
  refine PE.imp (pe_var hN hv h1 h2) fun σ H Q ⟨ρ, B, Z, O, r, h⟩ => ?_
  unfold ev at h
  split at h
  · rename_i k d e
    obtain ⟨v, e1, w⟩ := r.own i k d e
    refine ⟨v, e1, h v H (Same.refl _) ?_⟩
    split
    · rename_i hc
      split
      · rename_i hk
        subst hk
        exact ⟨fun _ => False, fun _ z => z.elim, fun _ z => z, w.2.cutO fun z a => a.elim id False.elim⟩
      · exact ⟨fun _ => False, fun _ z => z.elim, fun _ z => z, k, O i, fun z o => .inl (.inr ⟨i, o⟩), w.mono (Same.refl _) fun z a => .inl (a.elim id False.elim)⟩
    · rename_i hc
      exact Own.to_res (by simpa using hc) w (fun z a => a) (Same.refl _)
  · exact h.elim
theorem e_lit {d : D} {c : Const} {j : Nat} (h : litB d c = true) : PE X (.Constant c j pos) (tE K ec W F C (.lit d)) := by
  have go : ∀ {σ : L2.St} {H : Hp} {ρ : Env} {P : Kd → Prop} {d : D}, aft ec W σ H (ev F C (.lit d) ρ) P → P (at9 d) := fun h => by unfold ev at h; exact h
  unfold litB at h
  split at h
  · exact PE.imp pe_non fun σ H Q ⟨ρ, B, Z, O, r, h⟩ => go h _ _ (Same.refl _) Res.non
  · rename_i a b
    have e : a = b := eq_of_beq h
    subst e
    exact PE.imp pe_bl fun σ H Q ⟨ρ, B, Z, O, r, h⟩ => go h _ _ (Same.refl _) Res.bl
  · rename_i a b
    have e : a = b := of_decide_eq_true h
    subst e
    exact PE.imp pe_int fun σ H Q ⟨ρ, B, Z, O, r, h⟩ => go h _ _ (Same.refl _) Res.int
  · rename_i s z
    have e : z.cps.toList = s := of_decide_eq_true h
    subst e
    refine PE.imp pe_str fun σ H Q ⟨ρ, B, Z, O, r, h⟩ => ?_
    have := go h (.str (mkS z.cps.toList)) _ (Same.refl _) Res.str
    rw [mkS_list] at this
    exact this
  · cases h
theorem e_bin {o : Operator} {a b : Ex} {l r : Expr} (ha : PE X l (tE X.K ec W F C a)) (hb : PE X r (tE X.K ec W F C b)) : PE X (.BinOp l o r pos) (tE X.K ec W F C (.bin o a b)) := by
  refine PE.imp (pe_op (op_bin o) ha hb) fun σ H Q ⟨ρ, B, Z, O, r, h⟩ => ?_
  unfold ev at h
  rw [aft_bind] at h
  refine two (P := fun x y => aft ec W σ H (binD o x y) _) r (aft_mono (Same.refl _) h fun x hx => by rw [aft_bind] at hx; exact hx) fun ka kb v u H2 hp s rr => ?_
  obtain ⟨k, e, q⟩ := aft_calm hp (bin_calm o ka kb)
  exact ⟨H, ZO Z O, ka, kb, k, s, fun z => r.am, rr, e, fun v' H' s' res => q v' H' (s.trans s') res⟩
theorem e_idx {a b : Ex} {l r : Expr} (ha : PE X l (tE X.K ec W F C a)) (hb : PE X r (tE X.K ec W F C b)) (hp : PlainIxT r) : PE X (.Subscript l r pos) (tE X.K ec W F C (.idx a b)) := by
  refine PE.imp (pe_ix op_idx ha hb hp) fun σ H Q ⟨ρ, B, Z, O, r, h⟩ => ?_
  unfold ev at h
  rw [aft_bind] at h
  refine two (P := fun x y => aft ec W σ H (idxD x y) _) r (aft_mono (Same.refl _) h fun x hx => by rw [aft_bind] at hx; exact hx) fun ka kb v u H2 hp s rr => ?_
  obtain ⟨k, e, q⟩ := aft_calm hp (idx_calm ka kb)
  exact ⟨H, ZO Z O, ka, kb, k, s, fun z => r.am, rr, e, fun v' H' s' res => q v' H' (s.trans s') res⟩
/-- a comparison's two sides -/
theorem two_cmp {o : CmpOp} {a b : Ex} {σ : L2.St} {H : Hp} {ρ : Env} {B : Hp} {Z : AS} {O : Nat → AS} {k : Bool → Prop} {Q : VK} (r : Rel X.K B Z O σ H ρ)
    (h : aft ec W σ H (do let x ← ev F C a ρ; let y ← ev F C b ρ; cmpD o x y) k) (q : ∀ c H', k c → Same H H' → Q (.bl c) H') : tOp (rC X.K (cmpD o)) (tE X.K ec W F C a) (tE X.K ec W F C b) σ H Q := by
  rw [aft_bind] at h
  refine two (P := fun x y => aft ec W σ H (cmpD o x y) k) r (aft_mono (Same.refl _) h fun x hx => by rw [aft_bind] at hx; exact hx) fun ka kb v u H2 hp s rr => ?_
  obtain ⟨c, e, qc⟩ := aft_calm hp (cmp_calm o ka kb)
  obtain ⟨ra, rb⟩ := ress2 rr
  exact ⟨ka, kb, c, ra, rb, e, q c H2 qc s⟩
theorem e_cmp {o : CmpOp} {a b : Ex} {l r : Expr} (hu : X.A.units + 65 < cLine) (ha : PE X l (tE X.K ec W F C a)) (hb : PE X r (tE X.K ec W F C b)) (hm : behindInMarks o r = false) : PE X (.Compare l [o] [r] pos) (tE X.K ec W F C (.cmp o a b)) := by
  refine PE.imp (pe_cmpR (op_cmp hu o) ha hb hm) fun σ H Q ⟨ρ, B, Z, O, r, h⟩ => ?_
  unfold ev at h
  refine two_cmp (k := fun c => ∀ v H', Same H H' → Res X.K H H' (ZO Z O) (at9 (.bl c)) v → Q v H') r ?_ fun c H' hk s => hk (.bl c) H' s Res.bl
  rw [aft_bind] at h ⊢
  refine aft_mono (Same.refl _) h fun x hx => ?_
  rw [aft_bind] at hx ⊢
  refine aft_mono (Same.refl _) hx fun y hy => ?_
  rw [aft_bind] at hy
  exact hy
theorem t_cmp {o : CmpOp} {a b : Ex} {l r : Expr} (hu : X.A.units + 65 < cLine) (ha : PE X l (tE X.K ec W F C a)) (hb : PE X r (tE X.K ec W F C b)) (hm : behindInMarks o r = false) : PT X (.Compare l [o] [r] pos) (tT X.K ec W F C (.cmp o a b)) := by
  refine PT.imp (pt_cmpR (op_cmp hu o) ha hb hm) fun σ H Q ⟨ρ, B, Z, O, r, h⟩ => ?_
  unfold tst at h
  exact two_cmp r h fun c H' hk s => ⟨c, rfl, hk H' s⟩
theorem chain_core {o o' : CmpOp} {a b c : Ex} {σ : L2.St} {H : Hp} {ρ : Env} {B : Hp} {Z : AS} {O : Nat → AS} {k : Bool → Prop} {Q : VK} (r : Rel X.K B Z O σ H ρ)
    (h : aft ec W σ H (do let x ← ev F C a ρ; let y ← ev F C b ρ; let r ← cmpD o x y; if r then do let z ← ev F C c ρ; cmpD o' y z else R.ok false) k) (q : ∀ c H', k c → Same H H' → Q (.bl c) H') :
    tChain (rC X.K (cmpD o)) (rC X.K (cmpD o')) (tE X.K ec W F C a) (tE X.K ec W F C b) (tE X.K ec W F C c) σ H Q := by
  rw [aft_bind] at h
  refine use_E r (aft_mono (Same.refl _) h fun ka ha v H1 s1 ⟨O1, f1, r1⟩ => ?_)
  rw [aft_bind] at ha
  have rel1 := r.past s1 f1 r1
  refine use_E rel1 (aft_mono s1 ha fun kb hb u H2 s2 ⟨O2, f2, r2⟩ => ?_)
  rw [aft_bind] at hb
  obtain ⟨c1, e1, hc⟩ := aft_calm hb (cmp_calm o ka kb)
  have rb := r2.rep
  refine ⟨ka, kb, c1, r1.rep.mono s2, rb, e1, c1, rfl, ?_⟩
  cases c1 with
  | false =>
    rw [if_neg Bool.false_ne_true]
    exact q false H2 hc (s1.trans s2)
  | true =>
    rw [if_pos rfl]
    have hc : aft ec W σ H (do let z ← ev F C c ρ; cmpD o' kb z) k := hc
    rw [aft_bind] at hc
    refine use_E (rel1.past s2 f2 r2) (aft_mono (s1.trans s2) hc fun kc hz x H3 s3 r3 => ?_)
    obtain ⟨c2, e2, hk⟩ := aft_calm hz (cmp_calm o' kb kc)
    exact ⟨kb, kc, c2, rb.mono s3, r3.rep, e2, q c2 H3 hk (s1.trans (s2.trans s3))⟩
theorem e_chain {o o' : CmpOp} {a b c : Ex} {l r r' : Expr} (hu : X.A.units + 65 < cLine) (ha : PE X l (tE X.K ec W F C a)) (hb : PE X r (tE X.K ec W F C b)) (hc : PE X r' (tE X.K ec W F C c))
    (hm : lastMarks [o, o'] [r, r'] = false) : PE X (.Compare l [o, o'] [r, r'] pos) (tE X.K ec W F C (.chain o o' a b c)) := by
  refine PE.imp (pe_chain (op_cmp hu o) (op_cmp hu o') ha hb hc hm) fun σ H Q ⟨ρ, B, Z, O, r, h⟩ => ?_
  unfold ev at h
  refine chain_core (k := fun c => ∀ v H', Same H H' → Res X.K H H' (ZO Z O) (at9 (.bl c)) v → Q v H') r ?_ fun c H' hk s => hk (.bl c) H' s Res.bl
  rw [aft_bind] at h ⊢
  refine aft_mono (Same.refl _) h fun x hx => ?_
  rw [aft_bind] at hx ⊢
  refine aft_mono (Same.refl _) hx fun y hy => ?_
  rw [aft_bind] at hy ⊢
  refine aft_mono (Same.refl _) hy fun c1 hz => ?_
  cases c1 with
  | false => exact hz
  | true =>
    have hz : aft ec W σ H (do let z ← ev F C c ρ; let r' ← cmpD o' y z; R.ok (at9 (.bl r'))) _ := hz
    show aft ec W σ H (do let z ← ev F C c ρ; cmpD o' y z) _
    rw [aft_bind] at hz ⊢
    refine aft_mono (Same.refl _) hz fun z hw => ?_
    rw [aft_bind] at hw
    exact hw
theorem t_chain {o o' : CmpOp} {a b c : Ex} {l r r' : Expr} (hu : X.A.units + 65 < cLine) (ha : PE X l (tE X.K ec W F C a)) (hb : PE X r (tE X.K ec W F C b)) (hc : PE X r' (tE X.K ec W F C c))
    (hm : lastMarks [o, o'] [r, r'] = false) : PT X (.Compare l [o, o'] [r, r'] pos) (tT X.K ec W F C (.chain o o' a b c)) := by
  refine PT.imp (pt_chain (op_cmp hu o) (op_cmp hu o') ha hb hc hm) fun σ H Q ⟨ρ, B, Z, O, r, h⟩ => ?_
  unfold tst at h
  exact chain_core r h fun c H' hk s => ⟨c, rfl, hk H' s⟩
theorem e_un {o : UnaryOp} {a : Ex} {e : Expr} (ha : PE X e (tE X.K ec W F C a)) : PE X (.UnaryOp o e pos) (tE X.K ec W F C (.un o a)) := by
  refine PE.imp (pe_un (op_un o) ha) fun σ H Q ⟨ρ, B, Z, O, r, h⟩ => ?_
  unfold ev at h
  rw [aft_bind] at h
  refine use_E r (aft_mono (Same.refl _) h fun k hk v H1 s1 r1 => ?_)
  obtain ⟨k', e', q⟩ := aft_calm hk (fun x p h => by unfold unD at h; split at h <;> cases h)
  exact ⟨H, ZO Z O, k, k', s1, fun z => r.am, r1, e', fun v' H' s' res => q v' H' (s1.trans s') res⟩
theorem tru_calm (k : Kd) (x : String) (p : List (String × Int)) : truD k ≠ .exc x p := by
  intro h
  unfold truD at h
  repeat' split at h
  all_goals cases h
theorem tru_core {a : Ex} {σ : L2.St} {H : Hp} {ρ : Env} {B : Hp} {Z : AS} {O : Nat → AS} {k : Bool → Prop} {Q : Bool → Hp → Prop} (r : Rel X.K B Z O σ H ρ)
    (h : aft ec W σ H (do let x ← ev F C a ρ; truD x) k) (q : ∀ c H', k c → Same H H' → Q c H') : tE X.K ec W F C a σ H fun x H1 => ∃ c, TruV X.K x H1 c ∧ Q c H1 := by
  rw [aft_bind] at h
  refine use_E r (aft_mono (Same.refl _) h fun x hx v H1 s1 r1 => ?_)
  obtain ⟨c, e, hc⟩ := aft_calm hx (tru_calm x)
  exact ⟨c, tru_of e r1.rep, q c H1 hc s1⟩
theorem e_not {a : Ex} {e : Expr} (ha : PE X e (tE X.K ec W F C a)) : PE X (.UnaryOp .Not e pos) (tE X.K ec W F C (.not a)) := by
  refine PE.imp (pe_notT ha) fun σ H Q ⟨ρ, B, Z, O, r, h⟩ => ?_
  unfold ev at h
  refine tru_core (k := fun c => ∀ v H', Same H H' → Res X.K H H' (ZO Z O) (at9 (.bl (!c))) v → Q v H') r ?_ fun c H' hk s => hk (.bl (!c)) H' s Res.bl
  rw [aft_bind] at h ⊢
  refine aft_mono (Same.refl _) h fun x hx => ?_
  rw [aft_bind] at hx
  exact hx
theorem t_truth {a : Ex} {e : Expr} (ha : PE X e (tE X.K ec W F C a)) (hp : plainTest e = true) : PT X e (tT X.K ec W F C (.val a)) := by
  refine PT.imp (pt_truth ha fun whole => by cases e <;> first | rfl | cases hp) fun σ H Q ⟨ρ, B, Z, O, r, h⟩ => ?_
  unfold tst at h
  exact tru_core r h fun c H' hk s => hk H' s
theorem t_not {a : Tx} {e : Expr} (ha : PT X e (tT X.K ec W F C a)) : PT X (.UnaryOp .Not e pos) (tT X.K ec W F C (.not a)) := by
  refine PT.imp (pt_not ha) fun σ H Q ⟨ρ, B, Z, O, r, h⟩ => ?_
  unfold tst at h
  rw [aft_bind] at h
  exact ⟨ρ, B, Z, O, r, aft_mono (Same.refl _) h fun b hb H' s => hb H' s⟩
/-! and, or -/
theorem use_T {a : Tx} {σ : L2.St} {H : Hp} {ρ : Env} {B : Hp} {Z : AS} {O : Nat → AS} {Q : Bool → Hp → Prop} (r : Rel K B Z O σ H ρ) (h : aft ec W σ H (tst F C a ρ) (fun b => ∀ H', Same H H' → Q b H')) : tT K ec W F C a σ H Q := ⟨ρ, B, Z, O, r, h⟩
theorem t_and {a b : Tx} {x y : Expr} {rest : List Expr} (ha : PT X x (tT X.K ec W F C a)) (hb : PW X (.BoolOp .And (y :: rest) pos) (tT X.K ec W F C b)) : PW X (.BoolOp .And (x :: y :: rest) pos) (tT X.K ec W F C (.and a b)) := by
  refine PW.imp (pw_and ha hb) fun σ H Q ⟨ρ, B, Z, O, r, h⟩ => ?_
  unfold tst at h
  rw [aft_bind] at h
  refine use_T r (aft_mono (Same.refl _) h fun c hc H1 s1 => ?_)
  cases c with
  | true =>
    rw [if_pos rfl]
    exact use_T (r.mono s1) (aft_mono s1 (show aft ec W σ H (tst F C b ρ) _ from hc) fun d hd H' s => hd H' (s1.trans s))
  | false =>
    rw [if_neg Bool.false_ne_true]
    exact (show ∀ H', Same H H' → Q false H' from hc) H1 s1
theorem t_or {a b : Tx} {x y : Expr} {rest : List Expr} (ha : PT X x (tT X.K ec W F C a)) (hb : PW X (.BoolOp .Or (y :: rest) pos) (tT X.K ec W F C b)) : PW X (.BoolOp .Or (x :: y :: rest) pos) (tT X.K ec W F C (.or a b)) := by
  refine PW.imp (pw_or ha hb) fun σ H Q ⟨ρ, B, Z, O, r, h⟩ => ?_
  unfold tst at h
  rw [aft_bind] at h
  refine use_T r (aft_mono (Same.refl _) h fun c hc H1 s1 => ?_)
  cases c with
  | true =>
    rw [if_pos rfl]
    exact (show ∀ H', Same H H' → Q true H' from hc) H1 s1
  | false =>
    rw [if_neg Bool.false_ne_true]
    exact use_T (r.mono s1) (aft_mono s1 (show aft ec W σ H (tst F C b ρ) _ from hc) fun d hd H' s => hd H' (s1.trans s))
theorem e_and {a b : Ex} {x y : Expr} {rest : List Expr} (ha : PE X x (tE X.K ec W F C a)) (hb : PE X (.BoolOp .And (y :: rest) pos) (tE X.K ec W F C b)) : PE X (.BoolOp .And (x :: y :: rest) pos) (tE X.K ec W F C (.and a b)) := by
  refine PE.imp (pe_and ha hb) fun σ H Q ⟨ρ, B, Z, O, r, h⟩ => ?_
  unfold ev at h
  rw [aft_bind] at h
  refine use_E r (aft_mono (Same.refl _) h fun k hk v H1 s1 r1 => ?_)
  split at hk
  · refine ⟨true, r1.rep.bl, ?_⟩
    rw [if_pos rfl]
    exact use_E (r.mono s1) (aft_mono s1 hk fun d hd v' H' s res => hd v' H' (s1.trans s) (res.back s1))
  · refine ⟨false, r1.rep.bl, ?_⟩
    rw [if_neg Bool.false_ne_true]
    exact (show ∀ v H', Same H H' → Res X.K H H' (ZO Z O) (at9 (.bl false)) v → Q v H' from hk) _ H1 s1 Res.bl
  · exact hk.elim
theorem e_or {a b : Ex} {x y : Expr} {rest : List Expr} (ha : PE X x (tE X.K ec W F C a)) (hb : PE X (.BoolOp .Or (y :: rest) pos) (tE X.K ec W F C b)) : PE X (.BoolOp .Or (x :: y :: rest) pos) (tE X.K ec W F C (.or a b)) := by
  refine PE.imp (pe_or ha hb) fun σ H Q ⟨ρ, B, Z, O, r, h⟩ => ?_
  unfold ev at h
  rw [aft_bind] at h
  refine use_E r (aft_mono (Same.refl _) h fun k hk v H1 s1 r1 => ?_)
  split at hk
  · refine ⟨true, r1.rep.bl, ?_⟩
    rw [if_pos rfl]
    exact (show ∀ v H', Same H H' → Res X.K H H' (ZO Z O) (at9 (.bl true)) v → Q v H' from hk) _ H1 s1 Res.bl
  · refine ⟨false, r1.rep.bl, ?_⟩
    rw [if_neg Bool.false_ne_true]
    exact use_E (r.mono s1) (aft_mono s1 hk fun d hd v' H' s res => hd v' H' (s1.trans s) (res.back s1))
  · exact hk.elim
theorem e_ite {c : Tx} {a b : Ex} {t x y : Expr} (hc : PT X t (tT X.K ec W F C c)) (ha : PE X x (tE X.K ec W F C a)) (hb : PE X y (tE X.K ec W F C b)) : PE X (.IfExp t x y pos) (tE X.K ec W F C (.ite c a b)) := by
  refine PE.imp (pe_ifExp hc ha hb) fun σ H Q ⟨ρ, B, Z, O, r, h⟩ => ?_
  unfold ev at h
  rw [aft_bind] at h
  refine use_T r (aft_mono (Same.refl _) h fun c hc H1 s1 => ?_)
  cases c with
  | true =>
    rw [if_pos rfl]
    exact use_E (r.mono s1) (aft_mono s1 (show aft ec W σ H (ev F C a ρ) _ from hc) fun d hd v' H' s res => hd v' H' (s1.trans s) (res.back s1))
  | false =>
    rw [if_neg Bool.false_ne_true]
    exact use_E (r.mono s1) (aft_mono s1 (show aft ec W σ H (ev F C b ρ) _ from hc) fun d hd v' H' s res => hd v' H' (s1.trans s) (res.back s1))
end
end Px

/-! Px8: slices, displays, calls. -/
namespace Px
open PySem PySem.Spec L2
section
variable {K : PySem.W.Frag} {ec : EC} {W : WX} {F : List Fn} {C : List D} {X : Cx} {pos : Pos}
variable {σ : L2.St} {H H0 H1 H2 : Hp} {A : AS} {ρ : Env} {B : Hp} {Z : AS} {O : Nat → AS}
theorem Res.fwd {k : Kd} {v : V} (s : Same H1 H2) (hA : ∀ x, A x → IsM H x) (h : Res K H H1 A k v) : Res K H H2 A k v := by
  obtain ⟨O, f, r⟩ := h
  exact ⟨O, f, r.mono s (fun x z => .inl z) fun x z => z⟩
/-! slices -/
theorem use_O {a : Ox} {Q : Option Int → Hp → Prop} (r : Rel K B Z O σ H ρ) (h : aft ec W σ H (evO F C a ρ) (fun o => ∀ H', Same H H' → Q o H')) : tO K ec W F C a σ H Q := ⟨ρ, B, Z, O, r, h⟩
theorem o_none : PO X none (tO X.K ec W F C .no) := by
  refine PO.imp po_none fun σ H Q ⟨ρ, B, Z, O, r, h⟩ => ?_
  unfold evO at h
  exact (show ∀ H', Same H H' → Q none H' from h) H (Same.refl _)
theorem o_some {a : Ex} {e : Expr} (ha : PE X e (tE X.K ec W F C a)) : PO X (some e) (tO X.K ec W F C (.yes a)) := by
  refine PO.imp (po_some ha) fun σ H Q ⟨ρ, B, Z, O, r, h⟩ => ?_
  unfold evO at h
  rw [aft_bind] at h
  refine use_E r (aft_mono (Same.refl _) h fun k hk v H1 s1 r1 => ?_)
  split at hk
  · rename_i i
    exact ⟨i, r1.rep.int, (show ∀ H', Same H H' → Q (some i) H' from hk) H1 s1⟩
  · exact hk.elim
theorem sl_calm (k : Kd) (lo hi : Option Int) (x : String) (p : List (String × Int)) : slD k lo hi ≠ .exc x p := by
  intro h
  unfold slD at h
  split at h
  · split at h <;> cases h
  · unfold chd at h
    repeat' split at h
    all_goals cases h
  · cases h
  · cases h
theorem rev_calm (k : Kd) (x : String) (p : List (String × Int)) : revD k ≠ .exc x p := by
  intro h
  unfold revD at h
  split at h
  · split at h <;> cases h
  · unfold chd at h
    repeat' split at h
    all_goals cases h
  · cases h
theorem e_sl {a : Ex} {lo hi : Ox} {e : Expr} {l u : Option Expr} {p2 : Pos} (ha : PE X e (tE X.K ec W F C a)) (hl : PO X l (tO X.K ec W F C lo)) (hu : PO X u (tO X.K ec W F C hi)) :
    PE X (.Subscript e (.Slice l u none p2) pos) (tE X.K ec W F C (.sl a lo hi)) := by
  refine PE.imp (pe_slice op_sl ha hl hu) fun σ H Q ⟨ρ, B, Z, O, r, h⟩ => ?_
  unfold ev at h
  rw [aft_bind] at h
  refine use_E r (aft_mono (Same.refl _) h fun k hk v H1 s1 r1 => ?_)
  rw [aft_bind] at hk
  refine use_O (r.mono s1) (aft_mono s1 hk fun o1 h1 H2 s2 => ?_)
  rw [aft_bind] at h1
  refine use_O (r.mono (s1.trans s2)) (aft_mono (s1.trans s2) h1 fun o2 h2 H3 s3 => ?_)
  obtain ⟨k', e', q⟩ := aft_calm h2 (sl_calm k o1 o2)
  have s := s1.trans (s2.trans s3)
  exact ⟨H, ZO Z O, k, k', s, fun z => r.am, r1.fwd (s2.trans s3) fun z => r.am, e', fun v' H' s' res => q v' H' (s.trans s') res⟩
theorem e_rev {a : Ex} {e : Expr} {k : Nat} {p1 p2 p3 : Pos} (ha : PE X e (tE X.K ec W F C a)) : PE X (.Subscript e (.Slice none none (some (.UnaryOp .USub (.Constant (.int 1) k p1) p2)) p3) pos) (tE X.K ec W F C (.rev a)) := by
  refine PE.imp (pe_rev ha) fun σ H Q ⟨ρ, B, Z, O, r, h⟩ => ?_
  unfold ev at h
  rw [aft_bind] at h
  refine use_E r (aft_mono (Same.refl _) h fun k hk v H1 s1 r1 => ?_)
  obtain ⟨k', e', q⟩ := aft_calm hk (rev_calm k)
  exact ⟨H, ZO Z O, k, k', s1, fun z => r.am, r1, e', fun v' H' s' res => q v' H' (s1.trans s') res⟩
/-! several expressions -/
theorem use_Es {cs : List Ex} {Q : List V → Hp → Prop} (r : Rel K B Z O σ H ρ) (h : aft ec W σ H (evs F C cs ρ) (fun ks => ∀ vs H', Same H H' → Ress K H H' (ZO Z O) ks vs → Q vs H')) : tEs K ec W F C cs σ H Q := ⟨ρ, B, Z, O, r, h⟩
theorem starEach_of {e : Expr} {es : List Expr} {env : PySem.Env} (h : noStar e = true) : starEach (e :: es) env = (false, eval e env) :: starEach es env := by
  cases e <;> first | rfl | cases h
theorem a_nil : PA X [] (tEs X.K ec W F C []) := by
  refine PA.imp pa_nil fun σ H Q ⟨ρ, B, Z, O, r, h⟩ => ?_
  unfold evs at h
  exact (show ∀ vs H', Same H H' → Ress X.K H H' (ZO Z O) [] vs → Q vs H' from h) [] H (Same.refl _) Ress.nil
theorem a_cons {c : Ex} {cs : List Ex} {e : Expr} {es : List Expr} (hs : noStar e = true) (ha : PE X e (tE X.K ec W F C c)) (hr : PA X es (tEs X.K ec W F C cs)) : PA X (e :: es) (tEs X.K ec W F C (c :: cs)) := by
  refine PA.imp (pa_cons ha hr (starEach_of hs)) fun σ H Q ⟨ρ, B, Z, O, r, h⟩ => ?_
  unfold evs at h
  rw [aft_bind] at h
  refine use_E r (aft_mono (Same.refl _) h fun k hk v H1 s1 ⟨O1, f1, r1⟩ => ?_)
  rw [aft_bind] at hk
  refine use_Es (r.past s1 f1 r1) (aft_mono s1 hk fun ks hks vs H2 s2 r2 => ?_)
  rw [zo_res] at r2
  exact (show ∀ vs H', Same H H' → Ress X.K H H' (ZO Z O) (k :: ks) vs → Q vs H' from hks) (v :: vs) H2 (s1.trans s2) (Ress.cons f1 (fun x => r.am) s1 r1 s2 r2)
/-! displays -/
theorem mapR_need {ks : List Kd} {vs : List (Nat × D)} (h : mapR needV ks = .ok vs) : ks = vs.map fun p => (some p.1, p.2) := by
  induction ks generalizing vs with
  | nil => cases h; rfl
  | cons k ks ih =>
    unfold mapR at h
    obtain ⟨o, d⟩ := k
    cases o with
    | none => cases h
    | some k =>
      have h : (do let bs ← mapR needV ks; R.ok ((k, d) :: bs)) = R.ok vs := h
      cases q : mapR needV ks with
      | ok bs =>
        rw [q] at h
        cases h
        rw [ih q]; rfl
      | exc x p => rw [q] at h; cases h
      | stuck => rw [q] at h; cases h
theorem need_calm (ks : List Kd) (x : String) (p : List (String × Int)) : mapR needV ks ≠ .exc x p := by
  induction ks with
  | nil => intro h; cases h
  | cons k ks ih =>
    intro h
    unfold mapR at h
    obtain ⟨o, d⟩ := k
    cases o with
    | none => cases h
    | some k =>
      have h : (do let bs ← mapR needV ks; R.ok ((k, d) :: bs)) = R.exc x p := h
      cases q : mapR needV ks with
      | ok bs => rw [q] at h; cases h
      | exc y p' => exact ih (by rw [q] at h ⊢; cases h; rfl)
      | stuck => rw [q] at h; cases h
theorem dmin_le {l : List Nat} {k : Nat} (h : k ∈ l) : dmin l ≤ k := by
  induction l with
  | nil => cases h
  | cons a l ih =>
    unfold dmin
    rcases List.mem_cons.mp h with e | h
    · subst e; exact Nat.min_le_left _ _
    · exact Nat.le_trans (Nat.min_le_right _ _) (ih h)
/-- owned values, all to the depth c at the least, as one list -/
theorem ownsK_lower {H : Hp} {A : AS} (c : Nat) : ∀ {ps : List (Nat × D)} {vs : List V} {P : AS}, OwnsK (Res1 K H A) (ps.map fun p => (some p.1, p.2)) vs P → (∀ p ∈ ps, c ≤ p.1) →
    ∃ P' : AS, (∀ x, P' x → P x) ∧ ∀ A' : AS, (∀ x, A' x → A x) → (∀ x, A' x → P x → P' x) → Owns (Own K H A' c) (ps.map (·.2)) vs P'
  | [], _, P, h, _ => ⟨P, fun _ z => z, fun _ _ _ => h⟩
  | p :: ps, _, P, ⟨v, vs', O1, O2, e, h1, h2, r, q⟩, hc => by
    have r : Own K H A p.1 p.2 v O1 := r
    obtain ⟨P1, s1, f1⟩ := Own.lower r c (hc p (by simp))
    obtain ⟨P2, s2, f2⟩ := ownsK_lower c q fun p' m => hc p' (by simp [m])
    refine ⟨fun x => P1 x ∨ P2 x, fun x z => (h1 x).mpr (z.elim (fun z => .inl (s1 x z)) fun z => .inr (s2 x z)), fun A' sA hA => ?_⟩
    refine ⟨v, vs', P1, P2, e, fun x => Iff.rfl, fun x z1 z2 => h2 x (s1 x z1) (s2 x z2), f1 A' sA fun x z o1 => ?_, f2 A' sA fun x z o2 => ?_⟩
    · rcases hA x z ((h1 x).mpr (.inl o1)) with k | k
      · exact k
      · exact (h2 x o1 (s2 x k)).elim
    · rcases hA x z ((h1 x).mpr (.inr o2)) with k | k
      · exact (h2 x (s1 x k) o2).elim
      · exact k
theorem OwnsK.len {R : Kd → V → AS → Prop} : ∀ {ks : List Kd} {vs : List V} {O : AS}, OwnsK R ks vs O → vs.length = ks.length
  | [], _, _, h => by rw [h.1]; rfl
  | k :: ks, _, _, ⟨v, vs', O1, O2, e, h1, h2, r, q⟩ => by subst e; simp [OwnsK.len q]
/-- a new list of values -/
theorem listV_ok {ps : List (Nat × D)} {vs : List V} {r : Kd} (s0 : Same H0 H) (hA : ∀ z, A z → IsM H0 z) (rr : Ress K H0 H A (ps.map fun p => (some p.1, p.2)) vs) (e : listV ps = .ok r) :
    vs.length ≤ sizeLine ∧ ∀ p, H p = none → Res K H0 (upd H p (.lst vs)) A r (.ref p) := by
  unfold listV at e
  split at e <;> cases e
  rename_i hl
  obtain ⟨O, f, w⟩ := rr
  have lw := w.len
  rw [List.length_map] at lw
  refine ⟨by rw [lw, line_eq]; exact hl, fun p hp => ?_⟩
  obtain ⟨P', s', g⟩ := ownsK_lower (dmin (ps.map (·.1))) w fun q m => dmin_le (List.mem_map.mpr ⟨q, m, rfl⟩)
  refine Res.newL (O := P') hp s0 (fun x o => f x (s' x o)) (fun z a => (hA z a).mono s0) (g _ (fun x a => a.elim .inl fun o => .inr (s' x o)) fun x a o => ?_)
  rcases a with a | a
  · exact absurd (f x o) (hA x a).ne
  · exact a
theorem e_list {cs : List Ex} {es : List Expr} (ha : PA X es (tEs X.K ec W F C cs)) : PE X (.List es pos) (tE X.K ec W F C (.list cs)) := by
  refine PE.imp (pe_lst ha) fun σ H Q ⟨ρ, B, Z, O, r, h⟩ => ?_
  unfold ev at h
  rw [aft_bind] at h
  refine use_Es r (aft_mono (Same.refl _) h fun ks hk vs H1 s1 rr => ?_)
  unfold listD at hk
  rw [aft_bind] at hk
  obtain ⟨ps, e1, hk⟩ := aft_calm hk (need_calm ks)
  obtain ⟨k', e', q⟩ := aft_calm hk (fun x p h => by unfold listV at h; split at h <;> cases h)
  rw [mapR_need e1] at rr
  obtain ⟨h1, h2⟩ := listV_ok s1 (fun z => r.am) rr e'
  exact ⟨h1, fun p hp => q _ _ (s1.trans (same_new hp)) (h2 p hp)⟩
theorem e_tup {cs : List Ex} {es : List Expr} {x1 : Nat} (ha : PA X es (tEs X.K ec W F C cs)) : PE X (.Tuple es x1 pos) (tE X.K ec W F C (.tup cs)) := by
  refine PE.imp (pe_tup ha) fun σ H Q ⟨ρ, B, Z, O, r, h⟩ => ?_
  unfold ev at h
  rw [aft_bind] at h
  refine use_Es r (aft_mono (Same.refl _) h fun ks hk vs H1 s1 rr => ?_)
  unfold tupD at hk
  rw [aft_bind] at hk
  obtain ⟨ps, e1, hk⟩ := aft_calm hk (need_calm ks)
  obtain ⟨k', e', q⟩ := aft_calm hk (fun x p h => by split at h <;> cases h)
  rw [mapR_need e1] at rr
  split at e' <;> cases e'
  rename_i hl
  obtain ⟨O1, f, w⟩ := rr
  have lw := w.len
  rw [List.length_map] at lw
  refine ⟨by rw [lw, line_eq]; exact hl, fun p hp => q _ _ (s1.trans (same_new hp)) (Res.tupN hp (fun z a => (r.am a).mono s1) ?_)⟩
  obtain ⟨P', s', g⟩ := ownsK_lower 0 w fun q m => Nat.zero_le _
  exact (g (ZO Z O) (fun x a => .inl a) fun x a o => absurd (f x o) (r.am a).ne).rep fun _ _ _ r => r.2
/-! calls of built-ins -/
theorem bi_calm (b : Bi) (ks : List Kd) (x : String) (p : List (String × Int)) : biD b ks ≠ .exc x p := by
  intro h
  unfold biD at h
  split at h
  all_goals first | (cases h; done) | (split at h <;> first | (cases h; done) | skip) | skip
  all_goals first | (split at h <;> first | (cases h; done) | skip) | skip
  all_goals (unfold chd at h; repeat' split at h)
  all_goals cases h
theorem me_calm (m : Me) (k : Kd) (ks : List Kd) (x : String) (p : List (String × Int)) : meD m k ks ≠ .exc x p := by
  intro h
  unfold meD at h
  repeat' split at h
  all_goals cases h
theorem evs_cons {c : Ex} {cs : List Ex} {ks : List Kd} (h : evs F C (c :: cs) ρ = .ok ks) : ∃ k ks', ks = k :: ks' := by
  unfold evs at h
  cases q : ev F C c ρ with
  | ok k =>
    rw [q] at h
    cases q2 : evs F C cs ρ with
    | ok ks' => rw [R.bind_ok, q2] at h; cases h; exact ⟨_, _, rfl⟩
    | exc x p => rw [R.bind_ok, q2] at h; cases h
    | stuck => rw [R.bind_ok, q2] at h; cases h
  | exc x p => rw [q] at h; cases h
  | stuck => rw [q] at h; cases h
theorem bi_boot (b : Bi) : bootBuiltins (Str.ofString (biN b)) = some (biV b) := by cases b <;> decide +kernel
theorem bi_core {b : Bi} {cs : List Ex} {Q : VK} (r : Rel X.K B Z O σ H ρ) (h : aft ec W σ H (ev F C (.bi b cs) ρ) (fun k => ∀ v H', Same H H' → Res X.K H H' (ZO Z O) k v → Q v H')) :
    tCB (rF X.K (biD b)) (tEs X.K ec W F C cs) σ H Q := by
  unfold ev at h
  rw [aft_bind] at h
  refine use_Es r (aft_mono (Same.refl _) h fun ks hk vs H1 s1 rr => ?_)
  obtain ⟨k', e', q⟩ := aft_calm hk (bi_calm b ks)
  exact ⟨H, ZO Z O, ks, k', s1, fun z => r.am, rr, e', fun v' H' s' res => q v' H' (s1.trans s') res⟩
theorem plainTail : ∀ {es : List Expr} {env : PySem.Env} {p : Pos}, noStars es = true → (backTo p (starEach es env)).any (·.1) = false
  | [], _, _, _ => rfl
  | e :: es, env, p, h => by
    unfold noStars at h
    rw [Bool.and_eq_true] at h
    rw [starEach_of h.1]
    show (false || (backTo p (starEach es env)).any (·.1)) = false
    rw [plainTail h.2]; rfl
theorem e_bi {b : Bi} {cs : List Ex} {x : Str} {e : Expr} {es : List Expr} {p : Pos} (hc : X.calm = true) (gu : X.A.guards = some []) (un : X.A.units + 65 < cLine) (hx : Str.ofString (biN b) = x) (hg : Gl X x) (hm : X.mg x = none) (hn : nmB x = true) (hs : noStars (e :: es) = true)
    (ha : PA X (e :: es) (tEs X.K ec W F C cs)) : PE X (.Call (.Name x p) (e :: es) [] pos) (tE X.K ec W F C (.bi b cs)) := by
  unfold nmB at hn
  simp only [Bool.and_eq_true, Bool.not_eq_true'] at hn
  obtain ⟨⟨h1, h2⟩, h3⟩ := hn
  have hs' := hs
  unfold noStars at hs'
  rw [Bool.and_eq_true] at hs'
  have hne : x ≠ "__name__" := fun e => by rw [e] at h3; simp at h3
  subst hx
  have hb := bi_boot b
  have hv := op_bi (X := X) hc gu un b
  cases b
  all_goals first
    | exact PE.imp (pe_callB (id := "len") hv hg hm hb ha hne h1 (starEach_of hs'.1) (plainTail hs'.2)) fun σ H Q ⟨ρ, B, Z, O, r, h⟩ => bi_core r h
    | exact PE.imp (pe_callB (id := "abs") hv hg hm hb ha hne h1 (starEach_of hs'.1) (plainTail hs'.2)) fun σ H Q ⟨ρ, B, Z, O, r, h⟩ => bi_core r h
    | exact PE.imp (pe_callB (id := "max") hv hg hm hb ha hne h1 (starEach_of hs'.1) (plainTail hs'.2)) fun σ H Q ⟨ρ, B, Z, O, r, h⟩ => bi_core r h
    | exact PE.imp (pe_callB (id := "min") hv hg hm hb ha hne h1 (starEach_of hs'.1) (plainTail hs'.2)) fun σ H Q ⟨ρ, B, Z, O, r, h⟩ => bi_core r h
    | exact PE.imp (pe_callB (id := "sum") hv hg hm hb ha hne h1 (starEach_of hs'.1) (plainTail hs'.2)) fun σ H Q ⟨ρ, B, Z, O, r, h⟩ => bi_core r h
    | exact PE.imp (pe_callB (id := "all") hv hg hm hb ha hne h1 (starEach_of hs'.1) (plainTail hs'.2)) fun σ H Q ⟨ρ, B, Z, O, r, h⟩ => bi_core r h
    | exact PE.imp (pe_callB (id := "any") hv hg hm hb ha hne h1 (starEach_of hs'.1) (plainTail hs'.2)) fun σ H Q ⟨ρ, B, Z, O, r, h⟩ => bi_core r h
    | exact PE.imp (pe_callB (id := "repr") hv hg hm hb ha hne h1 (starEach_of hs'.1) (plainTail hs'.2)) fun σ H Q ⟨ρ, B, Z, O, r, h⟩ => bi_core r h
    | exact PE.imp (pe_callTy (T := "int") hv hg hm hb ha hne h1 (starEach_of hs'.1) (plainTail hs'.2)) fun σ H Q ⟨ρ, B, Z, O, r, h⟩ => bi_core r h
    | exact PE.imp (pe_callTy (T := "str") hv hg hm hb ha hne h1 (starEach_of hs'.1) (plainTail hs'.2)) fun σ H Q ⟨ρ, B, Z, O, r, h⟩ => bi_core r h
    | exact PE.imp (pe_callTy (T := "list") hv hg hm hb ha hne h1 (starEach_of hs'.1) (plainTail hs'.2)) fun σ H Q ⟨ρ, B, Z, O, r, h⟩ => bi_core r h
    | exact PE.imp (pe_callTy (T := "tuple") hv hg hm hb ha hne h1 (starEach_of hs'.1) (plainTail hs'.2)) fun σ H Q ⟨ρ, B, Z, O, r, h⟩ => bi_core r h
end
end Px

/-! Px9: methods, isinstance, calls of defs. -/
namespace Px
open PySem PySem.Spec L2
section
variable {K : PySem.W.Frag} {ec : EC} {W : WX} {F : List Fn} {C : List D} {X : Cx} {pos : Pos}
variable {σ : L2.St} {H H' H0 H1 H2 : Hp} {A : AS} {ρ : Env} {B : Hp} {Z : AS} {O : Nat → AS}
theorem base_of {o : Expr} {nm : Str} {env : PySem.Env} (h : plainBase o = true) : attributeBase o nm env (eval o env) = eval o env := by
  cases o <;> first | rfl | skip
  rename_i f args kws p
  cases args with
  | nil => cases h
  | cons a as => cases f <;> rfl
theorem plainAll : ∀ {es : List Expr} {env : PySem.Env} {p : Pos}, noStars es = true → (backTo p (starEach es env)).all (fun x => !x.1) = true
  | [], _, _, _ => rfl
  | e :: es, env, p, h => by
    unfold noStars at h
    rw [Bool.and_eq_true] at h
    rw [starEach_of h.1]
    show (!false && (backTo p (starEach es env)).all (fun x => !x.1)) = true
    rw [plainAll h.2]; rfl
theorem me_core {m : Me} {a : Ex} {cs : List Ex} {T : String} {Q : VK} (hT : meT m = T) (r : Rel X.K B Z O σ H ρ) (h : aft ec W σ H (ev F C (.me m a cs) ρ) (fun k => ∀ v H', Same H H' → Res X.K H H' (ZO Z O) k v → Q v H')) :
    tBM X.K T (rM X.K (meD m)) (tE X.K ec W F C a) (tEs X.K ec W F C cs) σ H Q := by
  unfold ev at h
  rw [aft_bind] at h
  refine use_E r (aft_mono (Same.refl _) h fun k hk v H1 s1 ⟨O1, f1, r1⟩ => ?_)
  have rep := r1.rep
  split at hk
  · rename_i hok
    have ty : tyV X.K T v H1 := by
      rw [← hT]
      clear hk h r1
      obtain ⟨o, d⟩ := k
      cases m <;> cases d <;> first
        | (cases hok; done)
        | (have e := rep.str; subst e; rfl)
        | (obtain ⟨a, vs, ex, sx, _⟩ := rep.lst; subst ex; exact .inl ⟨rfl, vs, sx⟩)
    refine ⟨ty, ?_⟩
    rw [aft_bind] at hk
    refine use_Es (r.past s1 f1 r1) (aft_mono s1 hk fun ks hks vs H2 s2 r2 => ?_)
    rw [zo_res] at r2
    obtain ⟨k', e', q⟩ := aft_calm hks (me_calm m k ks)
    exact ⟨H, ZO Z O, k, ks, k', s1.trans s2, fun z => r.am, Ress.cons f1 (fun x => r.am) s1 r1 s2 r2, e', fun v' H' s' res => q v' H' (s1.trans (s2.trans s')) res⟩
  · exact hk.elim
theorem e_me {m : Me} {a : Ex} {cs : List Ex} {o e : Expr} {es : List Expr} {nm : Str} {apos cpos : Pos} (hx : Str.ofString (meN m) = nm) (hs : noStars (e :: es) = true) (hl : es.length < 20) (hb : plainBase o = true) (hp : (apos.endLine == cpos.line) = true)
    (ho : PE X o (tE X.K ec W F C a)) (ha : PA X (e :: es) (tEs X.K ec W F C cs)) : PE X (.Call (.Attribute o nm apos) (e :: es) [] cpos) (tE X.K ec W F C (.me m a cs)) := by
  have hs' := hs
  unfold noStars at hs'
  rw [Bool.and_eq_true] at hs'
  have few : ((backTo cpos (starEach (e :: es) X.env)).all (fun x => !x.1) && (backToKw cpos (keywordEach [] X.env)).all (fun x => x.1.isSome) && decide ((e :: es).length + ([] : List Keyword).length + (if ([] : List Keyword).isEmpty then 0 else 1) < 30)) = true := by
    rw [plainAll hs]
    show (true && true && decide (es.length + 1 + 0 + 0 < 30)) = true
    rw [decide_eq_true (by omega)]; rfl
  subst hx
  have hv := op_me (X := X) m
  cases m
  · exact PE.imp (pe_bm PySem.F.plainAttrs_str PySem.F.slot_str_join PySem.F.type_str_join hv ho ha (base_of hb) few hp (starEach_of hs'.1) (plainTail hs'.2)) fun σ H Q ⟨ρ, B, Z, O, r, h⟩ => me_core rfl r h
  · exact PE.imp (pe_bm PySem.F.plainAttrs_str PySem.F.slot_str_index PySem.F.type_str_index hv ho ha (base_of hb) few hp (starEach_of hs'.1) (plainTail hs'.2)) fun σ H Q ⟨ρ, B, Z, O, r, h⟩ => me_core rfl r h
  · exact PE.imp (pe_bm PySem.F.plainAttrs_list PySem.F.slot_list_index PySem.F.type_list_index hv ho ha (base_of hb) few hp (starEach_of hs'.1) (plainTail hs'.2)) fun σ H Q ⟨ρ, B, Z, O, r, h⟩ => me_core rfl r h
  · exact PE.imp (pe_bm PySem.F.plainAttrs_str PySem.F.slot_str_startswith PySem.F.type_str_startswith hv ho ha (base_of hb) few hp (starEach_of hs'.1) (plainTail hs'.2)) fun σ H Q ⟨ρ, B, Z, O, r, h⟩ => me_core rfl r h
  · exact PE.imp (pe_bm PySem.F.plainAttrs_str PySem.F.slot_str_endswith PySem.F.type_str_endswith hv ho ha (base_of hb) few hp (starEach_of hs'.1) (plainTail hs'.2)) fun σ H Q ⟨ρ, B, Z, O, r, h⟩ => me_core rfl r h
  · exact PE.imp (pe_bm PySem.F.plainAttrs_str PySem.F.slot_str_count PySem.F.type_str_count hv ho ha (base_of hb) few hp (starEach_of hs'.1) (plainTail hs'.2)) fun σ H Q ⟨ρ, B, Z, O, r, h⟩ => me_core rfl r h
  · exact PE.imp (pe_bm PySem.F.plainAttrs_str PySem.F.slot_str_split PySem.F.type_str_split hv ho ha (base_of hb) few hp (starEach_of hs'.1) (plainTail hs'.2)) fun σ H Q ⟨ρ, B, Z, O, r, h⟩ => me_core rfl r h
/-! isinstance of a built-in type -/
theorem RepR.ty : ∀ {d : D} {v : V}, RepR K H d v → TyX K H v (.type (tyN d))
  | .non, _, r => by rw [r.non]; exact .base .non
  | .bl _, _, r => by rw [r.bl]; exact .base (.bl _)
  | .int _, _, r => by rw [r.int]; exact .base (.int _)
  | .str _, _, r => by rw [r.str]; exact .base (.str _)
  | .lst xs, _, r => by
    obtain ⟨a, vs, e, s, _⟩ := r.lst
    rw [e]
    rcases s with (s | ⟨o, s⟩) | ⟨o, its, n, k, c, _⟩
    · exact .base (.lst s)
    · exact .base (.frz s)
    · exact .kList k c
  | .tup xs, _, r => by
    obtain ⟨a, vs, e, s, _⟩ := r.tup
    rw [e]
    rcases s with (s | ⟨o, s⟩) | ⟨o, its, n, k, c, _⟩
    · exact .base (.tup s)
    · exact .fTuple s
    · exact .kTuple k c
  | .dct ks xs, _, r => by
    obtain ⟨a, vs, e, s, _⟩ := r.dct
    rw [e]
    rcases s with s | ⟨o, s⟩
    · exact .base (.dK s)
    · exact .fDict s
theorem ty_boot {t : String} (h : ["str", "int", "bool", "list", "tuple"].contains t = true) : bootBuiltins (Str.ofString t) = some (.type t) := by
  have : t = "str" ∨ t = "int" ∨ t = "bool" ∨ t = "list" ∨ t = "tuple" := by simpa using h
  rcases this with e | e | e | e | e <;> subst e <;> decide +kernel
theorem isi_boot : bootBuiltins (Str.ofString "isinstance") = some (.builtin "isinstance") := by decide +kernel
theorem e_isTy {a : Ex} {t : String} {x y : Str} {e : Expr} {p p' : Pos} (hx : Str.ofString "isinstance" = x) (hy : Str.ofString t = y) (hg : Gl X x) (hm : X.mg x = none) (hn : nmB x = true) (hg' : Gl X y) (hm' : X.mg y = none) (hn' : nmB y = true)
    (ht : ["str", "int", "bool", "list", "tuple"].contains t = true) (hs : noStar e = true) (ha : PE X e (tE X.K ec W F C a)) : PE X (.Call (.Name x p) [e, .Name y p'] [] pos) (tE X.K ec W F C (.isTy a t)) := by
  unfold nmB at hn hn'
  simp only [Bool.and_eq_true, Bool.not_eq_true'] at hn hn'
  obtain ⟨⟨h1, h2⟩, h3⟩ := hn
  obtain ⟨⟨h1', h2'⟩, h3'⟩ := hn'
  have hne : x ≠ "__name__" := fun e => by rw [e] at h3; simp at h3
  have hne' : y ≠ "__name__" := fun e => by rw [e] at h3'; simp at h3'
  subst hx; subst hy
  have hpa : PA X [e, .Name (Str.ofString t) p'] _ := pa_cons ha (pa_cons (pe_bltn (v := .ty t) hg' hm' (ty_boot ht) rfl hne' h1') pa_nil (by rfl)) (starEach_of hs)
  refine PE.imp (pe_callB call_isi hg hm isi_boot hpa hne h1 (starEach_of hs) (by rfl)) fun σ H Q ⟨ρ, B, Z, O, r, h⟩ => ?_
  unfold ev at h
  rw [aft_bind] at h
  refine use_E r (aft_mono (Same.refl _) h fun k hk v H1 s1 r1 => ?_)
  split at hk
  · rename_i b hb
    exact ⟨v, .ty t, .type (tyN k.2), .type t, b, rfl, .ty t, r1.rep.ty, kit_ty hb, (show ∀ v H', Same H H' → Res X.K H H' (ZO Z O) (at9 (.bl b)) v → Q v H' from hk) _ H1 s1 Res.bl⟩
  · exact hk.elim
/-! ### calls of defs -/
mutual
/-- what has no container in it leans on no list -/
theorem pure_cut : ∀ {d : D} {v : V}, pureD d = true → (∀ x, A x → IsM H x) → RepR K H d v → RepR K (cut H A) d v
  | .non, _, _, _, r => by rw [r.non]; unfold RepR; rfl
  | .bl _, _, _, _, r => by rw [r.bl]; unfold RepR; rfl
  | .int _, _, _, _, r => by rw [r.int]; unfold RepR; rfl
  | .str _, _, _, _, r => by rw [r.str]; unfold RepR; rfl
  | .lst _, _, h, _, _ => by unfold pureD at h; cases h
  | .dct _ _, _, h, _, _ => by unfold pureD at h; cases h
  | .tup xs, _, h, hA, r => by
    obtain ⟨a, vs, e, s, w⟩ := r.tup
    unfold RepR
    refine ⟨a, vs, e, ?_, pures_cut (by unfold pureD at h; exact h) hA w⟩
    have nA : ∀ {o : HO}, H a = some o → (∀ vs, o ≠ .lst vs) → (∀ vs, o ≠ .dK vs) → ¬ A a := fun e n1 n2 z => by
      rcases hA a z with ⟨vs, q⟩ | ⟨vs, q⟩
      · rw [e] at q; cases q; exact n1 _ rfl
      · rw [e] at q; cases q; exact n2 _ rfl
    rcases s with (s | ⟨o, s⟩) | s
    · exact .inl (.inl (cut_of s (nA s (fun _ z => by cases z) fun _ z => by cases z)))
    · exact .inl (.inr ⟨o, cut_of s (nA s (fun _ z => by cases z) fun _ z => by cases z)⟩)
    · exact .inr s
theorem pures_cut : ∀ {ds : List D} {vs : List V}, puresD ds = true → (∀ x, A x → IsM H x) → RepRs K H ds vs → RepRs K (cut H A) ds vs
  | [], _, _, _, r => by unfold RepRs at r; subst r; exact RepRs.nil
  | d :: ds, _, h, hA, r => by
    unfold RepRs at r
    obtain ⟨v, vs', e, r1, r2⟩ := r
    unfold puresD at h
    rw [Bool.and_eq_true] at h
    subst e
    exact RepRs.cons (pure_cut h.1 hA r1) (pures_cut h.2 hA r2)
end
theorem own_pure {A' : AS} (hA : ∀ x, A' x → IsM H x) : ∀ {k : Nat} {d : D} {v : V} {O : AS}, ownAll k d = true → Own K H A k d v O → Own K H A' k d v O
  | 0, d, v, O, h, w => ⟨w.1, pure_cut (by unfold ownAll at h; exact h) hA (w.2.mono cut_same)⟩
  | k + 1, d, v, O, h, w => by
    unfold Own at w ⊢
    unfold ownAll at h
    split at w
    · obtain ⟨a, vs, P, e1, e2, e3, e4, q⟩ := w
      exact ⟨a, vs, P, e1, e2, e3, e4, q.impIn fun d m v O1 _ r => own_pure hA (List.all_eq_true.mp h d m) r⟩
    · obtain ⟨a, vs, P, e1, e2, e5, e3, e4, q⟩ := w
      exact ⟨a, vs, P, e1, e2, e5, e3, e4, q.impIn fun d m v O1 _ r => own_pure hA (List.all_eq_true.mp h d m) r⟩
    · rename_i hl hd
      have h : pureD d = true := by
        split at h
        · exact (hl _ rfl).elim
        · exact (hd _ _ rfl).elim
        · exact h
      exact ⟨w.1, pure_cut h hA (w.2.mono cut_same)⟩
theorem ress_frz {ks : List Kd} {vs : List V} (hA : ∀ z, A z → IsM H0 z) (h : Ress K H0 H A ks vs) (hb : ks.any (fun x => x.1.isNone) = false) : RepRs K (cut H A) (ks.map (·.2)) vs := by
  obtain ⟨O, f, w⟩ := h
  have go : ∀ (ks : List Kd) (vs : List V) (P : AS), (∀ x, P x → O x) → ks.any (fun x => x.1.isNone) = false → OwnsK (Res1 K H (fun x => A x ∨ O x)) ks vs P → RepRs K (cut H A) (ks.map (·.2)) vs := by
    intro ks
    induction ks with
    | nil => intro vs P _ _ w; rw [w.1]; exact RepRs.nil
    | cons k ks ih =>
      intro vs P hP hb ⟨v, vs', O1, O2, e, h1, h2, r, q⟩
      subst e
      rw [List.any_cons, Bool.or_eq_false_iff] at hb
      obtain ⟨o, d⟩ := k
      cases o with
      | none => cases hb.1
      | some j =>
        have r : Own K H _ j d v O1 := r
        obtain ⟨P1, s1, f1⟩ := Own.lower r 0 (Nat.zero_le _)
        have r' := f1 A (fun x a => .inl a) fun x a o => absurd (f x (hP x ((h1 x).mpr (.inl o)))) (hA x a).ne
        exact RepRs.cons r'.2 (ih vs' O2 (fun x o => hP x ((h1 x).mpr (.inr o))) hb.2 q)
  exact go ks vs O (fun _ z => z) hb w
theorem cut_false : cut H (fun _ => False) = H := by
  funext b; unfold cut; rw [if_neg id]
theorem kd_res {k : Nat} {d : D} {v : V} {O : AS} (f : ∀ x, O x → H0 x = none) (w : Own K H (fun x => A x ∨ O x) k d v O) : Res K H0 H A (kd k d) v := by
  unfold kd
  split
  · exact ⟨O, f, w⟩
  · rename_i hc
    exact Own.to_res (by simpa using hc) w (fun z a => .inl a) (Same.refl _)
theorem e_call {j : Nat} {cs : List Ex} {c : Cal X.prog X.w X.K X.mg X.base ec} {x : Str} {e : Expr} {es : List Expr} {p : Pos} (hj : F[j]? = some c.m) (gu : X.A.guards = some []) (hr : Room c.k X.A) (tk : Takes X W)
    (hx : Str.ofString c.name = x) (hl : (e :: es).length = c.n) (hg : Gl X x) (hn : nmB x = true) (hs : noStars (e :: es) = true) (ha : PA X (e :: es) (tEs X.K ec W F C cs)) (hlen : ∀ ρ ks, evs F C cs ρ = .ok ks → ks.length = (e :: es).length) :
    PE X (.Call (.Name x p) (e :: es) [] pos) (tE X.K ec W F C (.call j cs)) := by
  unfold nmB at hn
  simp only [Bool.and_eq_true, Bool.not_eq_true'] at hn
  obtain ⟨⟨h1, h2⟩, h3⟩ := hn
  have hs' := hs
  unfold noStars at hs'
  rw [Bool.and_eq_true] at hs'
  subst hx
  refine PE.imp (pe_callG c.ok gu hr hg c.gm c.kp c.b (fun σ => passAt tk σ) ha h1 (starEach_of hs'.1) (plainTail hs'.2)) fun σ H Q ⟨ρ, B, Z, O, r, h⟩ => ?_
  unfold ev at h
  rw [aft_bind] at h
  cases hev : evs F C cs ρ with
  | exc x p => rw [hev] at h; exact use_Es r (by rw [hev]; exact h)
  | stuck => rw [hev] at h; exact h.elim
  | ok ks =>
    rw [hev] at h
    suffices hsuf : ∀ vs H', Same H H' → Ress X.K H H' (ZO Z O) ks vs → spD X.K ec c.n c.m vs H' Q (WE W σ) from use_Es r (by rw [hev]; exact hsuf)
    intro vs H1 s1 rr
    have h : aft ec W σ H (match F[j]? with | some f => callD f ks | none => R.stuck) _ := h
    rw [hj] at h
    have h : aft ec W σ H (callD c.m ks) (fun k => ∀ v H', Same H H' → Res X.K H H' (ZO Z O) k v → Q v H') := h
    have hlv : vs.length = c.n := by
      obtain ⟨_, _, w⟩ := rr
      rw [w.len, hlen ρ ks hev, hl]
    unfold callD at h
    rw [aft_bind] at h
    refine ⟨hlv, ks.map (·.2), ?_⟩
    by_cases hb : ks.any (fun x => x.1.isNone) = true
    · refine ⟨fun _ => False, fun _ z => z.elim, by rw [cut_false]; exact rr.rep, ?_⟩
      cases hm : c.m (ks.map (·.2)) with
      | stuck => rw [hm] at h; exact h.elim
      | exc x p => rw [hm] at h; exact fun cls dd H' s' e => h cls dd H' (s1.trans s') e
      | ok kd' =>
        obtain ⟨k, d⟩ := kd'
        rw [hm] at h
        have h : aft ec W σ H (if (ks.any (fun x => x.1.isNone) && !ownAll k d) = true then R.stuck else R.ok (kd k d)) (fun k => ∀ v H', Same H H' → Res X.K H H' (ZO Z O) k v → Q v H') := h
        rw [hb] at h
        cases ho : ownAll k d with
        | false => rw [ho] at h; exact h.elim
        | true =>
          rw [ho] at h
          intro v H' s' ⟨O', f', w⟩
          refine (show ∀ v H', Same H H' → Res X.K H H' (ZO Z O) (kd k d) v → Q v H' from h) v H' (s1.trans s') (kd_res (fun x o => s1.free (f' x o)) (own_pure (fun x a => ?_) ho w))
          rcases a with a | a
          · exact (r.am a).mono (s1.trans s')
          · exact w.dom a
    · have hb : ks.any (fun x => x.1.isNone) = false := by
        cases q : ks.any (fun x => x.1.isNone) with
        | false => rfl
        | true => exact absurd q hb
      refine ⟨ZO Z O, fun x a => (r.am a).mono s1, ress_frz (fun z => r.am) rr hb, ?_⟩
      cases hm : c.m (ks.map (·.2)) with
      | stuck => rw [hm] at h; exact h.elim
      | exc x p => rw [hm] at h; exact fun cls dd H' s' e => h cls dd H' (s1.trans s') e
      | ok kd' =>
        obtain ⟨k, d⟩ := kd'
        rw [hm] at h
        have h : aft ec W σ H (if (ks.any (fun x => x.1.isNone) && !ownAll k d) = true then R.stuck else R.ok (kd k d)) (fun k => ∀ v H', Same H H' → Res X.K H H' (ZO Z O) k v → Q v H') := h
        rw [hb] at h
        intro v H' s' ⟨O', f', w⟩
        exact (show ∀ v H', Same H H' → Res X.K H H' (ZO Z O) (kd k d) v → Q v H' from h) v H' (s1.trans s') (kd_res (fun x o => s1.free (f' x o)) w)
/-- a def that takes nothing -/
theorem e_call0 {j : Nat} {c : Cal X.prog X.w X.K X.mg X.base ec} {x : Str} {p : Pos} (hj : F[j]? = some c.m) (gu : X.A.guards = some []) (hr : Room c.k X.A) (tk : Takes X W) (hx : Str.ofString c.name = x) (hl : c.n = 0) (hg : Gl X x) (hn : nmB x = true) :
    PE X (.Call (.Name x p) [] [] pos) (tE X.K ec W F C (.call j [])) := by
  unfold nmB at hn
  simp only [Bool.and_eq_true, Bool.not_eq_true'] at hn
  obtain ⟨⟨h1, h2⟩, h3⟩ := hn
  subst hx
  constructor
  rintro pins s σ H Q I ⟨ρ, B, Z, O, r, h⟩
  unfold ev at h
  rw [show evs F C [] ρ = R.ok [] from by unfold evs; rfl, R.bind_ok] at h
  have h : aft ec W σ H (match F[j]? with | some f => callD f [] | none => R.stuck) _ := h
  rw [hj] at h
  have h : aft ec W σ H (callD c.m []) (fun k => ∀ v H', Same H H' → Res X.K H H' (ZO Z O) k v → Q v H') := h
  have pre : spD X.K ec c.n c.m [] H Q (WE W σ) := by
    refine ⟨hl.symm, [], ZO Z O, fun x => r.am, RepRs.nil, ?_⟩
    unfold callD at h
    rw [aft_bind] at h
    rw [List.map_nil] at h
    cases hm : c.m [] with
    | stuck => rw [hm] at h; exact h.elim
    | exc x p => rw [hm] at h; exact fun cls dd H' s' e => h cls dd H' s' e
    | ok kd' =>
      obtain ⟨k, d⟩ := kd'
      rw [hm] at h
      have h : ∀ v H', Same H H' → Res X.K H H' (ZO Z O) (kd k d) v → Q v H' := h
      intro v H' s' ⟨O', f', w⟩
      exact h v H' s' (kd_res f' w)
  have hps : c.ps.length = 0 := by have := c.ok.len _ _ _ _ pre; simpa using this.symm
  have bd := c.b s [] I.kIn (by rw [List.append_nil]; exact hps.symm)
  refine wpAny_Call_Name_kw (ld_glob I hg c.gm (PySem.W.callWith_K0 I.kIn c.kp (wpAny_call (codeAny_mono (c.ok.run X.A X.stack s H [] [] Q (WE W σ) gu hr I.env0 bd .nil pre) ?_))) h1)
  intro r s' done
  match r, done with
  | .error e, d => exact passAt tk σ pins H s e s' I d
  | .ok (.ret u), d => exact I.after d
end
end Px

/-! Px10: what is walked; targets. -/
namespace Px
open PySem PySem.Spec L2
section
variable {K : PySem.W.Frag} {ec : EC} {W : WX} {F : List Fn} {C : List D} {X : Cx} {pos : Pos}
variable {σ : L2.St} {H H' H0 H1 H2 : Hp} {A : AS} {ρ : Env} {B G : Hp} {Z : AS} {O : Nat → AS}
/-- J walks these items, as long as what stands in B stands; G: what is frozen -/
def IsIt (K : PySem.W.Frag) (B G : Hp) (J : It) (xs : List D) : Prop := ∀ H, Same B H → ∀ i : Nat,
  (∀ d, xs[i]? = some d → J.go i H ∧ ∀ x H', J.yld i H x H' → Same H H' ∧ ∀ A : AS, (∀ y, A y → H y ≠ none) → Same G (cut H A) → RepR K (cut H' A) d x) ∧ (xs.length = i → J.stop i H)
noncomputable def Bb (bor : Bool) (H : Hp) (O : Nat → AS) : Hp := if bor then H else cut H fun x => ∃ i, O i x
theorem bb_same {bor : Bool} : Same (Bb bor H O) H := by
  unfold Bb; split
  · exact Same.refl _
  · exact cut_same
theorem bb_cut {bor : Bool} : Same (cut H (ZO Z O)) (Bb bor H O) := by
  unfold Bb; split
  · exact cut_same
  · exact cut_set fun x h => .inr h
def tI (K : PySem.W.Frag) (ec : EC) (W : WX) (F : List Fn) (C : List D) (bor : Bool) (c : Ix) : TI := fun σ H Q => ∃ (ρ : Env) (B : Hp) (Z : AS) (O : Nat → AS), Rel K B Z O σ H ρ ∧
  aft ec W σ H (evI F C bor c ρ) (fun xs => ∀ J H', Same H H' → IsIt K (Bb bor H' O) (cut H' (ZO Z O)) J xs → Q J H')
theorem PI.imp {tg e : Expr} {t t' : TI} (h : PI X tg e t) (w : ∀ σ H Q, t' σ H Q → t σ H Q) : PI X tg e t' := ⟨fun pins s σ H Q I q => h.run pins s σ H Q I (w σ H Q q)⟩
/-! the walks themselves -/
theorem isIt_list {a : Addr} {vs : List V} {xs : List D} (hB : SqL K B a vs) (r : RepRs K G xs vs) : IsIt K B G (Itl K a) xs := by
  intro H sB i
  have hs : SqL K H a vs := L2.Same.seq sB hB
  refine ⟨fun d e => ?_, fun h => ⟨vs, hs, by rw [r.length]; exact Nat.le_of_eq h⟩⟩
  obtain ⟨v, ev, rv⟩ := r.get e
  refine ⟨⟨vs, v, hs, ev⟩, fun x H' ⟨eH, hx⟩ => ?_⟩
  subst eH
  have := hx vs hs
  rw [ev] at this
  cases this
  exact ⟨Same.refl _, fun A _ sG => rv.mono sG⟩
theorem isIt_tup {a : Addr} {vs : List V} {xs : List D} (hB : SqT K B a vs) (r : RepRs K G xs vs) : IsIt K B G (Itt K a) xs := by
  intro H sB i
  have hs : SqT K H a vs := Same.seqT sB hB
  refine ⟨fun d e => ?_, fun h => ⟨vs, hs, by rw [r.length]; exact Nat.le_of_eq h⟩⟩
  obtain ⟨v, ev, rv⟩ := r.get e
  refine ⟨⟨vs, v, hs, ev⟩, fun x H' ⟨eH, hx⟩ => ?_⟩
  subst eH
  have := hx vs hs
  rw [ev] at this
  cases this
  exact ⟨Same.refl _, fun A _ sG => rv.mono sG⟩
theorem isIt_str {s : List Nat} : IsIt K B G (Its (mkS s)) (s.map fun c => .str [c]) := by
  intro H sB i
  refine ⟨fun d e => ?_, fun h => by
    show (mkS s).cps.size ≤ i
    exact Nat.le_of_eq (by simpa using h)⟩
  rw [List.getElem?_map] at e
  cases q : s[i]? with
  | none => rw [q] at e; cases e
  | some c =>
    rw [q] at e
    cases e
    have hl : i < s.length := (List.getElem?_eq_some_iff.mp q).1
    refine ⟨by
      show i < (mkS s).cps.size
      simpa using hl, fun x H' ⟨eH, c', ec, ex⟩ => ?_⟩
    subst eH
    have : c' = c := by
      have ec : s[i]? = some c' := by simpa using ec
      rw [q] at ec; cases ec; rfl
    subst this
    subst ex
    exact ⟨Same.refl _, fun A _ sG => by unfold RepR; rfl⟩
theorem isIt_rng1 {lo hi : Int} : IsIt K B G (Itr lo (hi - lo).toNat) (rng1 lo hi) := by
  intro H sB i
  unfold rng1
  refine ⟨fun d e => ?_, fun h => by
    show (hi - lo).toNat ≤ i
    rw [List.length_map, List.length_range] at h
    exact Nat.le_of_eq h⟩
  rw [List.getElem?_map] at e
  by_cases hi' : i < (hi - lo).toNat
  · rw [List.getElem?_range hi'] at e
    cases e
    refine ⟨hi', fun x H' ⟨eH, ex⟩ => ?_⟩
    subst eH; subst ex
    exact ⟨Same.refl _, fun A _ sG => by unfold RepR; rfl⟩
  · rw [List.getElem?_eq_none (by simpa using hi')] at e
    cases e
theorem isIt_rngL {lo hi st : Int} : IsIt K B G (Itc lo st (Builtin.Range.rangeSize lo hi st).toNat) (rngL lo hi st) := by
  intro H sB i
  unfold rngL
  refine ⟨fun d e => ?_, fun h => by
    show (Builtin.Range.rangeSize lo hi st).toNat ≤ i
    rw [List.length_map, List.length_range] at h
    exact Nat.le_of_eq h⟩
  rw [List.getElem?_map] at e
  by_cases hi' : i < (Builtin.Range.rangeSize lo hi st).toNat
  · rw [List.getElem?_range hi'] at e
    cases e
    refine ⟨hi', fun x H' ⟨eH, ex⟩ => ?_⟩
    subst eH; subst ex
    exact ⟨Same.refl _, fun A _ sG => by unfold RepR; rfl⟩
  · rw [List.getElem?_eq_none (by simpa using hi')] at e
    cases e
/-- a new pair of what is frozen -/
theorem pair_new {T : Addr} {x y : V} {d e : D} (hT : H T = none) (hA : ∀ y, A y → H y ≠ none) (r1 : RepR K (cut H A) d x) (r2 : RepR K (cut H A) e y) : RepR K (cut (upd H T (.tup [x, y])) A) (.tup [d, e]) (.ref T) := by
  have s : Same (cut H A) (cut (upd H T (.tup [x, y])) A) := cut_heap (same_new hT)
  unfold RepR
  exact ⟨T, [x, y], rfl, SqT.of (cut_of upd_same fun a => hA T a hT), RepRs.cons (r1.mono s) (RepRs.cons (r2.mono s) RepRs.nil)⟩
theorem enumL_get {xs : List D} : ∀ {n i : Nat} {d : D}, (enumL n xs)[i]? = some d → ∃ e, xs[i]? = some e ∧ d = .tup [.int ((n + i : Nat) : Int), e] := by
  induction xs with
  | nil => intro n i d h; simp [enumL] at h
  | cons a xs ih =>
    intro n i d h
    unfold enumL at h
    cases i with
    | zero => simp at h; exact ⟨a, rfl, h.symm⟩
    | succ i =>
      obtain ⟨e, h1, h2⟩ := ih (n := n + 1) (by simpa using h)
      exact ⟨e, by simpa using h1, by rw [h2]; congr 3; congr 1; omega⟩
theorem enumL_len {xs : List D} : ∀ {n : Nat}, (enumL n xs).length = xs.length := by
  induction xs with
  | nil => intro n; rfl
  | cons a xs ih => intro n; unfold enumL; rw [List.length_cons, ih, List.length_cons]
theorem isIt_enum {a : Addr} {vs : List V} {xs : List D} (hB : SqL K B a vs) (r : RepRs K G xs vs) : IsIt K B G (Ite K a) (enumL 0 xs) := by
  intro H sB i
  have hs : SqL K H a vs := L2.Same.seq sB hB
  refine ⟨fun d e => ?_, fun h => ⟨vs, hs, by rw [enumL_len] at h; rw [r.length]; exact Nat.le_of_eq h⟩⟩
  obtain ⟨d', e', ed⟩ := enumL_get e
  obtain ⟨v, ev, rv⟩ := r.get e'
  refine ⟨⟨vs, v, hs, ev⟩, fun x H' ⟨T, y, ex, hT, eH, hx⟩ => ?_⟩
  subst ex; subst eH; subst ed
  have := hx vs hs
  rw [ev] at this
  cases this
  refine ⟨same_new hT, fun A hA sG => pair_new hT hA ?_ (rv.mono sG)⟩
  unfold RepR
  rw [Nat.zero_add]
theorem zipL_get : ∀ {xs ys : List D} {i : Nat} {d : D}, (zipL xs ys)[i]? = some d → ∃ e f, xs[i]? = some e ∧ ys[i]? = some f ∧ d = .tup [e, f]
  | [], _, i, d, h => by simp [zipL] at h
  | a :: xs, [], i, d, h => by simp [zipL] at h
  | a :: xs, b :: ys, 0, d, h => by
    unfold zipL at h
    simp at h
    exact ⟨a, b, rfl, rfl, h.symm⟩
  | a :: xs, b :: ys, i + 1, d, h => by
    unfold zipL at h
    obtain ⟨e, f, h1, h2, h3⟩ := zipL_get (xs := xs) (ys := ys) (i := i) (by simpa using h)
    exact ⟨e, f, by simpa using h1, by simpa using h2, h3⟩
theorem zipL_len : ∀ {xs ys : List D}, (zipL xs ys).length = min xs.length ys.length
  | [], _ => by simp [zipL]
  | a :: xs, [] => by simp [zipL]
  | a :: xs, b :: ys => by
    unfold zipL
    rw [List.length_cons, zipL_len, List.length_cons, List.length_cons]
    omega
theorem isIt_zip {a b : Addr} {vs us : List V} {xs ys : List D} (hB : SqL K B a vs) (hC : SqL K B b us) (r : RepRs K G xs vs) (q : RepRs K G ys us) : IsIt K B G (Itz K a b) (zipL xs ys) := by
  intro H sB i
  have hs : SqL K H a vs := L2.Same.seq sB hB
  have ht : SqL K H b us := L2.Same.seq sB hC
  refine ⟨fun d e => ?_, fun h => ⟨vs, us, hs, ht, by rw [zipL_len] at h; rw [r.length, q.length]; omega⟩⟩
  obtain ⟨d', f', e1, e2, ed⟩ := zipL_get e
  obtain ⟨v, ev, rv⟩ := r.get e1
  obtain ⟨u, eu, ru⟩ := q.get e2
  refine ⟨⟨vs, us, v, u, hs, ht, ev, eu⟩, fun x H' ⟨T, y, z, ex, hT, eH, hx, hy⟩ => ?_⟩
  subst ex; subst eH; subst ed
  have h1 := hx vs hs
  have h2 := hy us ht
  rw [ev] at h1; rw [eu] at h2
  cases h1; cases h2
  exact ⟨same_new hT, fun A hA sG => pair_new hT hA (rv.mono sG) (ru.mono sG)⟩
/-! a walked value, whatever it is -/
def iAny (K : PySem.W.Frag) (te : TE) : TI := fun σ H R => te σ H fun x H1 => (∃ a, x = .ref a ∧ (∃ xs, SqL K H1 a xs) ∧ R (Itl K a) H1) ∨ (∃ a, x = .ref a ∧ (∃ xs, SqT K H1 a xs) ∧ R (Itt K a) H1) ∨ ∃ z, x = .str z ∧ R (Its z) H1
theorem iter_new {tg : Expr} {pins : List (Addr × Obj)} {s : Shared} {J : It} {R : It → Hp → Prop} {o : Obj} {tn : Nat → Heap → Prop} (I : L2.Inv X pins σ H s) (T : Turn X.prog X.w X.K tg J [s.heap.objs.size] s.heap.objs.size tn) (t0 : tn 0 (s.heap.push o)) (q : R J H) :
    PIE X pins σ tg R (.ref s.heap.objs.size) { s with heap := s.heap.push o } := by
  refine ⟨_, [s.heap.objs.size], tn, J, H, rfl, I.kept (t' := s.toks) fun b o e => Heap.get?_push_of_some _ e, T, t0, fun b hb => ?_, q⟩
  have e : b = s.heap.objs.size := by simpa using hb
  rw [e]
  exact I.fpOk (Nat.le_refl _) (I.hok.fresh (Nat.le_refl _))
theorem pi_any {tg l : Expr} {tl : TE} (hl : PE X l tl) : PI X tg l (iAny X.K tl) := by
  refine ⟨fun pins s σ H R I h => thn (hl.run pins s σ H _ I h) fun v s1 ⟨x, H1, I1, r1, q1⟩ => ?_⟩
  rcases q1 with ⟨a, ex, ⟨xs, hs⟩, q⟩ | ⟨a, ex, ⟨xs, hs⟩, q⟩ | ⟨z, ex, q⟩ <;> subst ex
  · cases r1
    obtain ⟨its, rv, p, _⟩ := I1.list hs
    exact wpAny_pyIter_list p.isList (iter_new I1 (turn_list a _) ⟨_, Heap.get?_push_size _ rfl, rfl, rfl⟩ q)
  · cases r1
    obtain ⟨its, rv, p, _⟩ := I1.tuple hs
    exact wpAny_pyIter_tuple (show s1.heap.IsTuple a its.toArray from p) (iter_new I1 (turn_tuple a _) ⟨_, Heap.get?_push_size _ rfl, rfl, rfl⟩ q)
  · obtain ⟨t, rfl⟩ := r1
    cases ha : z.cps.all (· < 128)
    · exact wpAny_pyIter_wide ha (iter_new I1 (turn_str _ z t "str_iterator" (.inr rfl)) ⟨_, Heap.get?_push_size _ rfl, rfl, rfl⟩ q)
    · exact wpAny_pyIter_ascii ha (iter_new I1 (turn_str _ z t "str_ascii_iterator" (.inl rfl)) ⟨_, Heap.get?_push_size _ rfl, rfl, rfl⟩ q)
/-! the readings of what is walked -/
theorem items_calm (bor : Bool) (k : Kd) (x : String) (p : List (String × Int)) : itemsD bor k ≠ .exc x p := by
  intro h
  unfold itemsD at h
  split at h
  · split at h
    · cases h
    · unfold chd at h
      repeat' split at h
      all_goals cases h
  · cases h
  · cases h
  · cases h
theorem own_list {j : Nat} {xs : List D} {v : V} {P : AS} (w : Own K H A j (D.lst xs) v P) : ∃ a vs, v = .ref a ∧ SqL K H a vs ∧ (j = 0 → SqL K (cut H A) a vs) ∧ (j ≠ 0 → P a ∧ H a = some (.lst vs)) ∧
    ∃ P' : AS, (∀ x, P' x → P x) ∧ Owns (Own K H A (j - 1)) xs vs P' := by
  cases j with
  | zero =>
    obtain ⟨a, vs, e, s, q⟩ := RepR.lst w.2
    exact ⟨a, vs, e, L2.Same.seq cut_same s, fun _ => s, fun h => absurd rfl h, fun _ => False, fun _ z => z.elim, Owns.frz (fun d v O n r => ⟨n, r⟩) (fun _ z => z) q⟩
  | succ j =>
    unfold Own at w
    obtain ⟨a, vs, P', e, ea, h1, h2, q⟩ := w
    exact ⟨a, vs, e, SqL.of ea, fun h => (by cases h), fun _ => ⟨(h1 a).mpr (.inl rfl), ea⟩, P', fun x z => (h1 x).mpr (.inr z), q⟩
/-- the items of a list stand frozen, the list stays -/
theorem items_list {bor : Bool} {k : Option Nat} {xs ys : List D} {v : V} {O1 O2 : AS} (r : Rel K B Z O σ H ρ) (s : Same H H1) (f2 : ∀ x, O2 x → H x = none) (sub : ∀ x, O1 x → O2 x) (r1 : Res1 K H1 (fun x => ZO Z O x ∨ O2 x) (k, .lst xs) v O1)
    (e : itemsD bor (k, .lst xs) = .ok ys) : ys = xs ∧ ∃ a vs, v = .ref a ∧ SqL K H1 a vs ∧ SqL K (Bb bor H1 O) a vs ∧ RepRs K (cut H1 (ZO Z O)) xs vs := by
  have f : ∀ x, O1 x → H x = none := fun x o => f2 x (sub x o)
  unfold itemsD at e
  have e : (if (k.isNone && !bor) = true then R.stuck else do let _ ← chd k xs; R.ok xs) = R.ok ys := e
  split at e
  · cases e
  · rename_i hb
    cases e1 : chd k xs with
    | exc x p => rw [e1] at e; cases e
    | stuck => rw [e1] at e; cases e
    | ok c =>
      rw [e1] at e
      cases e
      refine ⟨rfl, ?_⟩
      cases k with
      | none =>
        have hbor : bor = true := by cases bor <;> first | rfl | exact absurd rfl hb
        obtain ⟨n, j, P, hp, w⟩ := r1
        obtain ⟨a, vs, ex, sx, _, _, P', sP, q⟩ := own_list w
        have hc : xs.any D.cont = false := by
          cases q : xs.any D.cont with
          | false => rfl
          | true => unfold chd at e1; rw [q] at e1; cases e1
        refine ⟨a, vs, ex, sx, ?_, ?_⟩
        · unfold Bb; rw [if_pos hbor]; exact sx
        · have q' := Owns.none_of (cont_of hc) q
          have q2 : Owns (Own K H1 (fun x => ZO Z O x ∨ O2 x) 0) xs vs (fun _ => False) := q'.impIn fun d m v O3 _ r => (Own.flat (cont_of hc d m)).mpr ((Own.flat (cont_of hc d m)).mp r)
          exact (q2.rep (R := Own K H1 (fun x => ZO Z O x ∨ O2 x) 0) (K := K) (H := cut H1 (fun x => ZO Z O x ∨ O2 x)) fun d v O r => r.2).mono (cut_set fun x h => .inl h)
      | some j =>
        have r1 : Own K H1 _ j (.lst xs) v O1 := r1
        obtain ⟨a, vs, ex, sx, h0, h1, P', sP, q⟩ := own_list r1
        obtain ⟨P2, sP2, g⟩ := owns_lower q 0 (Nat.zero_le _)
        have g := (g (ZO Z O) (fun x a => .inl a) fun x a p => absurd (f x (sP x p)) (r.am a).ne).rep (K := K) (H := cut H1 (ZO Z O)) fun _ _ _ r => r.2
        refine ⟨a, vs, ex, sx, ?_, g⟩
        unfold Bb
        split
        · exact sx
        · by_cases hj : j = 0
          · exact L2.Same.seq (cut_set fun x h => .inl (.inr h)) (h0 hj)
          · obtain ⟨ha, ea⟩ := h1 hj
            exact SqL.of (cut_of ea fun h => absurd (f a ha) (r.am (.inr h)).ne)
theorem i_ex {bor : Bool} {c : Ex} {tg e : Expr} (hc : PE X e (tE X.K ec W F C c)) : PI X tg e (tI X.K ec W F C bor (.val c)) := by
  refine PI.imp (pi_any hc) fun σ H Q ⟨ρ, B, Z, O, r, h⟩ => ?_
  unfold evI at h
  rw [aft_bind] at h
  refine use_E r (aft_mono (Same.refl _) h fun k hk v H1 s1 ⟨O1, f1, r1⟩ => ?_)
  obtain ⟨ys, e', q⟩ := aft_calm hk (items_calm bor k)
  obtain ⟨o, d⟩ := k
  cases d with
  | lst xs =>
    obtain ⟨e2, a, vs, ex, sx, sB, w⟩ := items_list r s1 f1 (fun _ o => o) r1 e'
    subst e2
    exact .inl ⟨a, ex, ⟨vs, sx⟩, q _ _ s1 (isIt_list sB w)⟩
  | tup xs =>
    unfold itemsD at e'
    cases e'
    obtain ⟨a, vs, ex, sx, wx⟩ := RepR.tup (Res1.flat rfl r1)
    have sG : Same (cut H1 (fun x => ZO Z O x ∨ O1 x)) (cut H1 (ZO Z O)) := cut_set fun x h => .inl h
    exact .inr (.inl ⟨a, ex, ⟨vs, Same.seqT cut_same sx⟩, q _ _ s1 (isIt_tup (Same.seqT (sG.trans bb_cut) sx) (wx.mono sG))⟩)
  | str s =>
    unfold itemsD at e'
    cases e'
    exact .inr (.inr ⟨mkS s, r1.rep.str, q _ _ s1 isIt_str⟩)
  | non => cases e'
  | bl _ => cases e'
  | int _ => cases e'
  | dct _ _ => cases e'
end
end Px

/-! PxZ: zip of a tuple and a list. -/
namespace Px
open PySem PySem.Spec PyProof.Rows L2
section
variable {prog : Program} {w : World} {A : Around}
/-- a tuple's iterator, drawn from -/
theorem drawT (hh : A.handled = none) (it l : Addr) (ne : l ≠ it) (items : Array Value) : Draws prog w A it [it, l] items.size (fun i v => items[i]? = some v) (fun i h => h.IsTupleIter it l i ∧ h.IsTuple l items) where
  live := fun _ _ st => let ⟨o, ho, _⟩ := st.1; ⟨o, ho⟩
  frame := fun _ _ _ st k => by
    obtain ⟨o, ho, r⟩ := st.2
    exact ⟨st.1.at fun o e => k it (by simp) o e, ⟨o, k l (by simp) o ho, r⟩⟩
  item := fun i s Q E hi st q => RZ.nextOf_tuple_item st.1 st.2 (x := items[i]) (by simp [hi]) fun h' a b => q _ h' s.toks (by simp [hi]) ⟨a, st.2.extBut b.extBut ne⟩ b
  done := fun s Q E st e => RZ.nextOf_tuple_end hh st.1 st.2 (by simp) e
end
/-- the tuple at a and the list at b as they stand at each turn, the items in new pairs -/
def ItzM (K : PySem.W.Frag) (a b : Addr) : It where
  go := fun i H => ∃ (xs ys : List V) (x y : V), SqT K H a xs ∧ SqL K H b ys ∧ xs[i]? = some x ∧ ys[i]? = some y
  yld := fun i H v H' => ∃ T x y, v = .ref T ∧ H T = none ∧ H' = upd H T (.tup [x, y]) ∧ (∀ xs, SqT K H a xs → xs[i]? = some x) ∧ ∀ ys, SqL K H b ys → ys[i]? = some y
  stop := fun i H => ∃ xs ys : List V, SqT K H a xs ∧ SqL K H b ys ∧ (xs.length ≤ i ∨ ys.length ≤ i) ∧ i ≤ xs.length ∧ i ≤ ys.length
abbrev StM (z TI TO i1 i2 a b : Addr) (i : Nat) (h : Heap) : Prop := IsZip h z TI TO .none ∧ IsPair h TI (.ref i1) (.ref i2) ∧ (∃ x y, IsPair h TO x y) ∧ h.IsTupleIter i1 a i ∧ h.IsListIter i2 b i
theorem sepM {z TI TO i1 i2 a b : Addr} (D : ZipApart z TI TO i1 i2 a b) : ZipSep2 z TI TO i1 i2 [i1, a] [i2, b] where
  TIz := D.TIz
  TOz := D.TOz
  TITO := D.TITO
  TIi1 := D.TIi1
  mem1 := by simp
  zf1 := by simp [D.i1z.symm, D.l1z.symm]
  Tf1 := by simp [D.TOi1, D.l1TO.symm]
  TIi2 := D.TIi2
  mem2 := by simp
  zf2 := by simp [D.i2z.symm, D.l2z.symm]
  Tf2 := by simp [D.TOi2, D.l2TO.symm]
  sep1_2 := by simp [D.i12, D.l2i1.symm]
  sep2_1 := by simp [D.i12.symm, D.l1i2.symm]
theorem five {P : Addr → Prop} {z TI TO i1 i2 : Addr} (h1 : P z) (h2 : P TI) (h3 : P TO) (h4 : P i1) (h5 : P i2) : ∀ c ∈ [z, TI, TO, i1, i2], P c := by
  intro c m
  simp only [List.mem_cons, List.not_mem_nil, or_false] at m
  rcases m with e | e | e | e | e <;> rw [e] <;> assumption
theorem turnM {P : Program} {w : World} {K : PySem.W.Frag} {elts : List Expr} {kk : Nat} {tpos : Pos} {a b z TI TO i1 i2 : Addr} (D : ZipApart z TI TO i1 i2 a b) : Turn P w K (.Tuple elts kk tpos) (ItzM K a b) [z, TI, TO, i1, i2] z (StM z TI TO i1 i2 a b) where
  mem := by simp
  obj := fun i h st => by
    obtain ⟨hz, hI, ⟨x, y, hO⟩, ⟨o1, e1, _, d1⟩, ⟨o2, e2, _, d2⟩⟩ := st
    exact five ⟨_, hz, fun v q => nomatch q⟩ ⟨_, hI, fun v q => nomatch q⟩ ⟨_, hO, fun v q => nomatch q⟩ ⟨o1, e1, fun v q => by rw [d1] at q; cases q⟩ ⟨o2, e2, fun v q => by rw [d2] at q; cases q⟩
  keep := fun i h h' st k => by
    obtain ⟨hz, hI, ⟨x, y, hO⟩, t1, t2⟩ := st
    exact ⟨k z (by simp) _ hz, k TI (by simp) _ hI, ⟨x, y, k TO (by simp) _ hO⟩, t1.at fun o q => k i1 (by simp) o q, t2.at fun o q => k i2 (by simp) o q⟩
  item := by
    intro X hP hw hK hc i pins s σ H E I hf st hg
    subst hP hw hK
    obtain ⟨hz, hI, ⟨x0, y0, hO⟩, t1, t2⟩ := st
    obtain ⟨xs, ys, x, y, sx, sy, hx, hy⟩ := hg
    obtain ⟨us, r1, p1, _⟩ := I.tuple sx
    obtain ⟨vs, r2, p2, _⟩ := I.list sy
    obtain ⟨u, hu, ru⟩ := r1.get hx
    obtain ⟨v, hv, rv⟩ := r2.get hy
    have hd := I.ok.hd hc
    have zl : z < s.heap.objs.size := Heap.lt_size hz
    have l1 : i < us.toArray.size := by simpa using (List.getElem?_eq_some_iff.mp hu).1
    have l2 : i < vs.toArray.size := by simpa using (List.getElem?_eq_some_iff.mp hv).1
    refine wpAny_pyNext_zipD2_item (sepM D) (drawT (prog := X.prog) (w := X.w) (A := X.A.in1) hd i1 a D.l1i1 us.toArray) (Draws.list (prog := X.prog) (w := X.w) (A := X.A.in1) hd i2 b D.l2i2 vs.toArray) hz hI hO ⟨t1, p1⟩ ⟨t2, p2.isList⟩ l1 l2 ?_
    intro u' v' h' tk eu ev z' O' n1 n2 hT hs keep
    have eu : u = u' := by
      have : us[i]? = some u' := by simpa using eu
      rw [hu] at this; cases this; rfl
    have ev : v = v' := by
      have : vs[i]? = some v' := by simpa using ev
      rw [hv] at this; cases this; rfl
    subst eu; subst ev
    refine ⟨_, rfl, wpAny_letOwnedTupleGo_zip (s := { s with heap := h', toks := tk }) z' fun g z'' sb => ?_⟩
    have at_ : g.get? s.heap.objs.size = some { cls := .type "tuple", data := .seq #[u, v] } := (sb.2 _ (Nat.ne_of_gt zl)).trans hT
    have old : ∀ c o, c ∉ [z, TI, TO, i1, i2] → s.heap.get? c = some o → g.get? c = some o := by
      intro c o n e
      simp only [List.mem_cons, List.not_mem_nil, or_false, not_or] at n
      exact (sb.2 c n.1).trans (keep c o n.1 n.2.2.1 n.2.2.2.1 n.2.2.2.2 e)
    have J : Inv X pins σ (upd H s.heap.objs.size (.tup [x, y])) { s with heap := g, toks := tk } :=
      I.turnedNew (t' := tk) (ch := [z, TI, TO, i1, i2]) old hf (Nat.le_refl _) ⟨by show 2 ≤ sizeLine; decide, [u, v], .cons ru (.cons rv .nil), ⟨_, at_, rfl, _, rfl⟩⟩
    refine ⟨.ref s.heap.objs.size, _, J, rfl, ⟨_, x, y, rfl, I.hok.fresh (Nat.le_refl _), rfl, fun l hl => by rw [I.tuple_inj hl sx]; exact hx, fun l hl => by rw [I.list_inj hl sy]; exact hy⟩, ⟨z'', (sb.2 _ D.TIz).trans (keep _ _ D.TIz D.TITO D.TIi1 D.TIi2 hI), ⟨u, v, (sb.2 _ D.TOz).trans O'⟩, n1.1.at fun o q => (sb.2 _ D.i1z).trans q, n2.1.at fun o q => (sb.2 _ D.i2z).trans q⟩, ?_⟩
    have below : ∀ c ∈ [z, TI, TO, i1, i2], c < s.heap.objs.size := by
      obtain ⟨_, e1, _⟩ := id t1
      obtain ⟨_, e2, _⟩ := id t2
      exact five zl (Heap.lt_size hI) (Heap.lt_size hO) (Heap.lt_size e1) (Heap.lt_size e2)
    intro c m
    rw [upd_ne (Nat.ne_of_lt (below c m))]
    exact (hf c m).1
  done := by
    intro X hP hw hK hc i pins s σ H E I hf st hg
    subst hP hw hK
    obtain ⟨hz, hI, ⟨x0, y0, hO⟩, t1, t2⟩ := st
    obtain ⟨xs, ys, sx, sy, e, b1, b2⟩ := hg
    obtain ⟨us, r1, p1, _⟩ := I.tuple sx
    obtain ⟨vs, r2, p2, _⟩ := I.list sy
    have hd := I.ok.hd hc
    have l1 := r1.length
    have l2 := r2.length
    refine wpAny_pyNext_zipD2_end (sepM D) (drawT (prog := X.prog) (w := X.w) (A := X.A.in1) hd i1 a D.l1i1 us.toArray) (Draws.list (prog := X.prog) (w := X.w) (A := X.A.in1) hd i2 b D.l2i2 vs.toArray) hz hI hO ⟨t1, p1⟩ ⟨t2, p2.isList⟩ (by simp; omega) (by simp; omega) (by simp; omega) ?_
    intro h' tk keep
    refine ⟨rfl, I.turnedL (t' := tk) (ch := [z, TI, TO, i1, i2]) (fun c o n q => ?_) hf⟩
    simp only [List.mem_cons, List.not_mem_nil, or_false, not_or] at n
    exact keep c o n.1 n.2.2.1 n.2.2.2.1 n.2.2.2.2 q
  self := fun A i s Q E st h => wpAny_pyIter_zip st.1 h
section
variable {prog : Program} {w : World} {A : Around} {E : Value → Shared → Prop} {s : Shared}
abbrev zM1 (h : Heap) (a : Addr) : Heap := h.push { cls := .type "tuple_iterator", data := .fields #[.ref a, .int 0 0] }
abbrev zM2 (h : Heap) (a b : Addr) : Heap := (zM1 h a).push { cls := .type "list_iterator", data := .fields #[.ref b, .int 0 0] }
abbrev zM3 (h : Heap) (a b : Addr) : Heap := (zM2 h a b).push { cls := .type "tuple", data := .seq #[.ref h.objs.size, .ref (zM1 h a).objs.size] }
abbrev zM4 (h : Heap) (a b : Addr) : Heap := (zM3 h a b).push { cls := .type "tuple", data := .seq #[.none, .none] }
abbrev zM5 (h : Heap) (a b : Addr) : Heap := (zM4 h a b).push { cls := .type "zip", data := .fields #[.none, .bool false, .bool false, .ref (zM2 h a b).objs.size, .ref (zM3 h a b).objs.size] }
theorem meetsM (a b : Addr) (xs ys : Array Value) : Meets (Builtin.«zip.__new__» ⟨[.type "zip", .ref a, .ref b], []⟩) (fun _ R s => s.heap.IsTuple a xs ∧ s.heap.IsList b ys ∧ R (.ok (.ret (.ref (zM4 s.heap a b).objs.size))) { s with heap := zM5 s.heap a b }) :=
  .of_wp fun prog w A R s h => by
    obtain ⟨hp, g, d, tk, os⟩ := s
    obtain ⟨ha, hb, h⟩ := h
    have zs := sub_zip
    have hA : Heap.IsTuple (Shared.heap ⟨hp, g, d, tk, os⟩) a xs := ha
    have hB : Heap.IsList (Shared.heap ⟨hp.push { cls := .type "tuple_iterator", data := .fields #[.ref a, .int 0 0] }, g, d, tk, os⟩) b ys := Heap.IsList.push hb _
    wp_walk using wpAny_pyIter_tuple hA, wpAny_pyIter_list hB
    exact ⟨_, rfl, h⟩
theorem callM {a b : Addr} {xs ys : Array Value} {Q : Value → Shared → Prop} (ha : s.heap.IsTuple a xs) (hb : s.heap.IsList b ys)
    (h : ∀ g, StM (s.heap.objs.size + 4) (s.heap.objs.size + 2) (s.heap.objs.size + 3) s.heap.objs.size (s.heap.objs.size + 1) a b 0 g → (∀ c o, s.heap.get? c = some o → g.get? c = some o) → Q (.ref (s.heap.objs.size + 4)) { s with heap := g }) :
    wpAny (model prog w) A (call (.type "zip") [.ref a, .ref b]) Q E s := by
  have n1 : (zM1 s.heap a).objs.size = s.heap.objs.size + 1 := Heap.size_push ..
  have n2 : (zM2 s.heap a b).objs.size = s.heap.objs.size + 2 := by rw [Heap.size_push, n1]
  have n3 : (zM3 s.heap a b).objs.size = s.heap.objs.size + 3 := by rw [Heap.size_push, n2]
  have n4 : (zM4 s.heap a b).objs.size = s.heap.objs.size + 4 := by rw [Heap.size_push, n3]
  have up1 : ∀ {c o}, (zM1 s.heap a).get? c = some o → (zM2 s.heap a b).get? c = some o := Heap.get?_push_of_some _
  have up2 : ∀ {c o}, (zM2 s.heap a b).get? c = some o → (zM3 s.heap a b).get? c = some o := Heap.get?_push_of_some _
  have up3 : ∀ {c o}, (zM3 s.heap a b).get? c = some o → (zM4 s.heap a b).get? c = some o := Heap.get?_push_of_some _
  have up4 : ∀ {c o}, (zM4 s.heap a b).get? c = some o → (zM5 s.heap a b).get? c = some o := Heap.get?_push_of_some _
  have g1 : (zM5 s.heap a b).get? s.heap.objs.size = some _ := up4 (up3 (up2 (up1 (Heap.get?_push_size _ rfl))))
  have g2 : (zM5 s.heap a b).get? (zM1 s.heap a).objs.size = some _ := up4 (up3 (up2 (Heap.get?_push_size _ rfl)))
  have g3 : (zM5 s.heap a b).get? (zM2 s.heap a b).objs.size = some _ := up4 (up3 (Heap.get?_push_size _ rfl))
  have g4 : (zM5 s.heap a b).get? (zM3 s.heap a b).objs.size = some _ := up4 (Heap.get?_push_size _ rfl)
  have g5 : (zM5 s.heap a b).get? (zM4 s.heap a b).objs.size = some _ := Heap.get?_push_size _ rfl
  refine callType_new F.called_zip (by decide) (F.typeCall_zip_2 _ _) (F.newCall_zip_2 _ _) (fun obj => F.args_object_init_3 obj _ _) F.entry_zip_new (meetsM a b xs ys) ⟨ha, hb, ?_⟩
  show _ ∧ _
  rw [n1] at g2
  rw [n1, n2] at g3
  rw [n3] at g4
  rw [n2, n3, n4] at g5
  rw [n4]
  exact ⟨⟨_, g5, rfl⟩, h _ ⟨g5, g3, ⟨_, _, g4⟩, ⟨_, g1, rfl, rfl⟩, ⟨_, g2, rfl, rfl⟩⟩ fun c o e => up4 (up3 (up2 (up1 (Heap.get?_push_of_some _ e))))⟩
end
/-- zip of two lists, or of a tuple and a list -/
def iZipM (K : PySem.W.Frag) (ta : TA) : TI := fun σ H R => ta σ H fun vs H1 => ∃ a b xs ys, vs = [.ref a, .ref b] ∧ SqL K H1 b ys ∧ ((SqL K H1 a xs ∧ R (Itz K a b) H1) ∨ (SqT K H1 a xs ∧ R (ItzM K a b) H1))
theorem pi_zipM {X : Cx} {e e2 : Expr} {ta : TA} {p pos tpos : Pos} {elts : List Expr} {kk : Nat} (hg : Gl X "zip") (hm : X.mg "zip" = none) (ha : PA X [e, e2] ta)
    (hs : starEach [e, e2] X.env = (false, eval e X.env) :: starEach [e2] X.env) (hpl : (backTo pos (starEach [e2] X.env)).any (·.1) = false) :
    PI X (.Tuple elts kk tpos) (.Call (.Name "zip" p) [e, e2] [] pos) (iZipM X.K ta) := by
  constructor
  intro pins s σ H R I h
  refine Call_ (ld_blt I hg hm PyProof.Rows.boot_zip (PyProof.Rows.callWith_type1 (thn (ha.run pos pins s σ H _ I h) ?_) hs hpl))
  rintro us s1 ⟨vs, H1, J, rv, a, b, xs, ys, ev, sy, q⟩
  subst ev
  cases rv with
  | cons ra rv =>
    cases rv with
    | cons rb rv =>
      cases rv; cases ra; cases rb
      have new : ∀ c ∈ [s1.heap.objs.size + 4, s1.heap.objs.size + 2, s1.heap.objs.size + 3, s1.heap.objs.size, s1.heap.objs.size + 1], FpOk X pins H1 c := by
        have go : ∀ k, FpOk X pins H1 (s1.heap.objs.size + k) := fun k => J.fpOk (Nat.le_add_right _ _) (J.hok.fresh (Nat.le_add_right _ _))
        exact five (go 4) (go 2) (go 3) (go 0) (go 1)
      obtain ⟨ws, r2, p2, _⟩ := J.list sy
      rcases q with ⟨sx, q⟩ | ⟨sx, q⟩
      · obtain ⟨us, r1, p1, _⟩ := J.list sx
        refine call_zip_2 p1.isList p2.isList fun g hz hI hO t1 t2 _ k => wpAny_pyIter_zip hz ?_
        exact ⟨_, _, _, _, H1, rfl, J.kept (t' := s1.toks) k, turn_zip (PySem.W.ktu_apart s1.heap.objs.size a b p1.lt p2.lt), ⟨hz, hI, ⟨_, _, hO⟩, t1, t2⟩, new, q⟩
      · obtain ⟨us, r1, p1, _⟩ := J.tuple sx
        have la : a < s1.heap.objs.size := by obtain ⟨o, ho, _⟩ := id p1; exact Heap.lt_size ho
        refine callM (xs := us.toArray) (ys := ws.toArray) p1 p2.isList fun g st k => wpAny_pyIter_zip st.1 ?_
        exact ⟨_, _, _, _, H1, rfl, J.kept (t' := s1.toks) k, turnM (PySem.W.ktu_apart s1.heap.objs.size a b la p2.lt), st, new, q⟩
end Px

/-! Px11: ranges, pairs; targets; comprehensions. -/
namespace Px
open PySem PySem.Spec L2
section
variable {K : PySem.W.Frag} {ec : EC} {W : WX} {F : List Fn} {C : List D} {X : Cx} {pos : Pos}
variable {σ : L2.St} {H H' H0 H1 H2 : Hp} {A : AS} {ρ : Env} {B G : Hp} {Z : AS} {O : Nat → AS}
theorem nmB_of {x : Str} (h : nmB x = true) : (x == ("__debug__" : Str)) = false ∧ (x == ("__classdict__" : Str)) = false ∧ x ≠ "__name__" := by
  unfold nmB at h
  simp only [Bool.and_eq_true, Bool.not_eq_true'] at h
  exact ⟨h.1.1, h.1.2, fun e => by rw [e] at h; have := h.2; simp at this⟩
theorem noStars1 {e : Expr} (h : noStar e = true) : noStars [e] = true := by unfold noStars noStars; rw [h]; rfl
theorem noStars2 {e e' : Expr} (h : noStar e = true) (h' : noStar e' = true) : noStars [e, e'] = true := by unfold noStars; rw [h, noStars1 h']; rfl
theorem i_rng1 {bor : Bool} {a : Ex} {tg e : Expr} {x : Str} {p : Pos} (hx : Str.ofString "range" = x) (hg : Gl X x) (hm : X.mg x = none) (hs : noStar e = true) (ha : PE X e (tE X.K ec W F C a)) : PI X tg (.Call (.Name x p) [e] [] pos) (tI X.K ec W F C bor (.rng1 a)) := by
  subst hx
  refine PI.imp (pi_range1 hg hm (a_cons hs ha a_nil) (starEach_of hs)) fun σ H Q ⟨ρ, B, Z, O, r, h⟩ => ?_
  unfold evI at h
  rw [aft_bind] at h
  refine use_Es r ?_
  unfold evs evs
  rw [aft_bind]
  refine aft_mono (Same.refl _) h fun k hk vs H1 s1 rr => ?_
  split at hk
  · rename_i n
    split at hk
    · rename_i hb
      unfold inBig big at hb
      simp only [Bool.and_eq_true, decide_eq_true_eq] at hb
      have rp := rr.rep
      obtain ⟨v, ev, rv⟩ := RepRs.one rp
      refine ⟨n, by rw [ev, rv.int], by omega, by omega, ?_⟩
      have q := (show ∀ J H', Same H H' → IsIt X.K (Bb bor H' O) (cut H' (ZO Z O)) J (rng1 0 n) → Q J H' from hk) (Itr 0 n.toNat) H1 s1
      have i := isIt_rng1 (K := X.K) (B := Bb bor H1 O) (G := cut H1 (ZO Z O)) (lo := 0) (hi := n)
      rw [Int.sub_zero] at i
      exact q i
    · exact hk.elim
  · exact hk.elim
theorem i_rng2 {bor : Bool} {a b : Ex} {tg e e' : Expr} {x : Str} {p : Pos} (hx : Str.ofString "range" = x) (hg : Gl X x) (hm : X.mg x = none) (hs : noStar e = true) (hs' : noStar e' = true) (ha : PE X e (tE X.K ec W F C a)) (hb : PE X e' (tE X.K ec W F C b)) :
    PI X tg (.Call (.Name x p) [e, e'] [] pos) (tI X.K ec W F C bor (.rng2 a b)) := by
  subst hx
  refine PI.imp (pi_range2 hg hm (a_cons hs ha (a_cons hs' hb a_nil)) (by rw [starEach_of hs, starEach_of hs']; rfl) (by rw [starEach_of hs']; rfl)) fun σ H Q ⟨ρ, B, Z, O, r, h⟩ => ?_
  unfold evI at h
  rw [aft_bind] at h
  refine use_Es r ?_
  unfold evs evs evs
  rw [aft_bind]
  refine aft_mono (Same.refl _) h fun k hk => ?_
  rw [aft_bind] at hk ⊢
  rw [aft_bind]
  refine aft_mono (Same.refl _) hk fun l hl vs H1 s1 rr => ?_
  split at hl
  · rename_i n _ m
    split at hl
    · rename_i hb
      unfold inBig big at hb
      simp only [Bool.and_eq_true, decide_eq_true_eq] at hb
      have rp := rr.rep
      have : RepRs X.K H1 [.int n, .int m] vs := rp
      unfold RepRs at this
      obtain ⟨v, vs', ev, rv, rp⟩ := this
      obtain ⟨u, eu, ru⟩ := RepRs.one rp
      refine ⟨n, m, by rw [ev, eu, rv.int, ru.int], ⟨by omega, by omega, by omega, by omega⟩, ?_⟩
      exact (show ∀ J H', Same H H' → IsIt X.K (Bb bor H' O) (cut H' (ZO Z O)) J (rng1 n m) → Q J H' from hl) _ H1 s1 isIt_rng1
    · exact hl.elim
  · exact hl.elim
theorem i_rng3 {bor : Bool} {a b c : Ex} {tg e e' e2 : Expr} {x : Str} {p : Pos} (hx : Str.ofString "range" = x) (hg : Gl X x) (hm : X.mg x = none) (hs : noStar e = true) (hs' : noStar e' = true) (hs2 : noStar e2 = true) (ha : PE X e (tE X.K ec W F C a)) (hb : PE X e' (tE X.K ec W F C b)) (hc : PE X e2 (tE X.K ec W F C c)) :
    PI X tg (.Call (.Name x p) [e, e', e2] [] pos) (tI X.K ec W F C bor (.rng3 a b c)) := by
  subst hx
  refine PI.imp (pi_range3 hg hm (a_cons hs ha (a_cons hs' hb (a_cons hs2 hc a_nil))) (starEach_of hs) (plainTail (noStars2 hs' hs2))) fun σ H Q ⟨ρ, B, Z, O, r, h⟩ => ?_
  unfold evI at h
  rw [aft_bind] at h
  refine use_Es r ?_
  unfold evs evs evs evs
  rw [aft_bind]
  refine aft_mono (Same.refl _) h fun k hk => ?_
  rw [aft_bind] at hk ⊢
  rw [aft_bind]
  refine aft_mono (Same.refl _) hk fun l hl => ?_
  rw [aft_bind] at hl
  show aft ec W σ H (do let ks ← (do let k ← ev F C c ρ; let ks ← R.ok []; R.ok (k :: ks)); R.ok (l :: ks)) _
  rw [aft_bind, aft_bind]
  refine aft_mono (Same.refl _) hl fun w hw vs H1 s1 rr => ?_
  split at hw
  · rename_i n _ m _ st
    split at hw
    · rename_i hb
      unfold inBig big at hb
      simp only [Bool.and_eq_true, decide_eq_true_eq] at hb
      obtain ⟨⟨⟨h1, h2⟩, h3⟩, h4⟩ := hb
      have : RepRs X.K H1 [.int n, .int m, .int st] vs := rr.rep
      unfold RepRs RepRs at this
      obtain ⟨v, vs', ev, rv, v2, vs2, ev2, rv2, rp⟩ := this
      obtain ⟨u, eu, ru⟩ := RepRs.one rp
      refine ⟨n, m, st, (Builtin.Range.rangeSize n m st).toNat, by rw [ev, ev2, eu, rv.int, rv2.int, ru.int], ⟨by simpa using h1.2, h2, h3, (Int.toNat_of_nonneg h4).symm⟩, ?_⟩
      exact (show ∀ J H', Same H H' → IsIt X.K (Bb bor H' O) (cut H' (ZO Z O)) J (rngL n m st) → Q J H' from hw) _ H1 s1 isIt_rngL
    · exact hw.elim
  · exact hw.elim
theorem itemsL_calm (bor : Bool) (k : Kd) (x : String) (p : List (String × Int)) : itemsL bor k ≠ .exc x p := by
  intro h
  unfold itemsL at h
  split at h
  · exact items_calm bor _ x p h
  · cases h
theorem itemsL_list {bor : Bool} {k : Kd} {ys : List D} (e : itemsL bor k = .ok ys) : ∃ o xs, k = (o, .lst xs) ∧ itemsD bor (o, .lst xs) = .ok ys := by
  unfold itemsL at e
  split at e
  · exact ⟨_, _, rfl, e⟩
  · cases e
theorem i_enum {bor : Bool} {a : Ex} {tg e : Expr} {x : Str} {p : Pos} (hx : Str.ofString "enumerate" = x) (hg : Gl X x) (hm : X.mg x = none) (hs : noStar e = true) (ht : isTupE tg = true) (ha : PE X e (tE X.K ec W F C a)) : PI X tg (.Call (.Name x p) [e] [] pos) (tI X.K ec W F C bor (.enum a)) := by
  subst hx
  cases tg <;> first | (cases ht; done) | skip
  refine PI.imp (pi_enum hg hm (a_cons hs ha a_nil) (starEach_of hs)) fun σ H Q ⟨ρ, B, Z, O, r, h⟩ => ?_
  unfold evI at h
  rw [aft_bind] at h
  refine use_Es r ?_
  unfold evs evs
  rw [aft_bind]
  refine aft_mono (Same.refl _) h fun k hk vs H1 s1 ⟨OO, f, v, vs', O1, O2, ev, h1, h2, r1, q⟩ => ?_
  obtain ⟨e1, _⟩ := q
  subst e1
  rw [aft_bind] at hk
  obtain ⟨ys, e', hz⟩ := aft_calm hk (itemsL_calm bor k)
  clear hk
  obtain ⟨o, xs, ek, e'⟩ := itemsL_list e'
  subst ek
  obtain ⟨e2, a, us, ex, sx, sB, w⟩ := items_list r s1 f (fun x o => (h1 x).mpr (.inl o)) r1 e'
  subst e2; subst ex
  exact ⟨a, us, ev, sx, (show ∀ J H', Same H H' → IsIt X.K (Bb bor H' O) (cut H' (ZO Z O)) J (enumL 0 ys) → Q J H' from hz) _ H1 s1 (isIt_enum sB w)⟩
theorem itemsM_calm (bor : Bool) (k : Kd) (x : String) (p : List (String × Int)) : itemsM bor k ≠ .exc x p := by
  intro h
  unfold itemsM at h
  split at h
  · exact items_calm bor _ x p h
  · exact items_calm bor _ x p h
  · cases h
theorem isIt_zipM {a b : Addr} {vs us : List V} {xs ys : List D} (hB : SqT K B a vs) (hC : SqL K B b us) (r : RepRs K G xs vs) (q : RepRs K G ys us) : IsIt K B G (ItzM K a b) (zipL xs ys) := by
  intro H sB i
  have hs : SqT K H a vs := Same.seqT sB hB
  have ht : SqL K H b us := L2.Same.seq sB hC
  refine ⟨fun d e => ?_, fun h => ?_⟩
  · obtain ⟨d', f', e1, e2, ed⟩ := zipL_get e
    obtain ⟨v, ev, rv⟩ := r.get e1
    obtain ⟨u, eu, ru⟩ := q.get e2
    refine ⟨⟨vs, us, v, u, hs, ht, ev, eu⟩, fun x H' ⟨T, y, z, ex, hT, eH, hx, hy⟩ => ?_⟩
    subst ex; subst eH; subst ed
    have h1 := hx vs hs
    have h2 := hy us ht
    rw [ev] at h1; rw [eu] at h2
    cases h1; cases h2
    exact ⟨same_new hT, fun A hA sG => pair_new hT hA (rv.mono sG) (ru.mono sG)⟩
  · rw [zipL_len] at h
    have l1 := r.length
    have l2 := q.length
    exact ⟨vs, us, hs, ht, by omega, by omega, by omega⟩
theorem i_zip {bor : Bool} {a b : Ex} {tg e e' : Expr} {x : Str} {p : Pos} (hx : Str.ofString "zip" = x) (hg : Gl X x) (hm : X.mg x = none) (hs : noStar e = true) (hs' : noStar e' = true) (ht : isTupE tg = true) (ha : PE X e (tE X.K ec W F C a)) (hb : PE X e' (tE X.K ec W F C b)) :
    PI X tg (.Call (.Name x p) [e, e'] [] pos) (tI X.K ec W F C bor (.zip a b)) := by
  subst hx
  cases tg <;> first | (cases ht; done) | skip
  refine PI.imp (pi_zipM hg hm (a_cons hs ha (a_cons hs' hb a_nil)) (starEach_of hs) (plainTail (noStars1 hs'))) fun σ H Q ⟨ρ, B, Z, O, r, h⟩ => ?_
  unfold evI at h
  rw [aft_bind] at h
  refine use_Es r ?_
  unfold evs evs evs
  rw [aft_bind]
  refine aft_mono (Same.refl _) h fun k hk => ?_
  rw [aft_bind] at hk ⊢
  rw [aft_bind]
  refine aft_mono (Same.refl _) hk fun l hl vs H1 s1 ⟨OO, f, v, vs', O1, O2, ev, h1, h2, r1, u, us', O3, O4, ev2, h3, h4, r2, e5, _⟩ => ?_
  rw [aft_bind] at hl
  obtain ⟨ys, ey, hz⟩ := aft_calm hl (itemsM_calm bor k)
  clear hl
  rw [aft_bind] at hz
  obtain ⟨ys2, ey2, hy⟩ := aft_calm hz (itemsL_calm bor l)
  clear hz
  obtain ⟨o2, xs2, ek2, ey2⟩ := itemsL_list ey2
  subst ek2
  obtain ⟨e3, b, ws, ex2, sx2, sB2, w2⟩ := items_list r s1 f (fun x o => (h1 x).mpr (.inr ((h3 x).mpr (.inl o)))) r2 ey2
  subst e3; subst ex2; subst e5; subst ev2
  have hy : ∀ J H', Same H H' → IsIt X.K (Bb bor H' O) (cut H' (ZO Z O)) J (zipL ys ys2) → Q J H' := hy
  obtain ⟨o, d⟩ := k
  cases d with
  | lst xs =>
    obtain ⟨e2, a, us, ex, sx, sB, w⟩ := items_list r s1 f (fun x o => (h1 x).mpr (.inl o)) r1 ey
    subst e2; subst ex
    exact ⟨a, b, us, ws, ev, sx2, .inl ⟨sx, hy _ H1 s1 (isIt_zip sB sB2 w w2)⟩⟩
  | tup xs =>
    unfold itemsM itemsD at ey
    cases ey
    obtain ⟨a, us, ex, sx, wx⟩ := RepR.tup (Res1.flat rfl r1)
    have sG : Same (cut H1 fun x => ZO Z O x ∨ OO x) (cut H1 (ZO Z O)) := cut_set fun x h => .inl h
    subst ex
    exact ⟨a, b, us, ws, ev, sx2, .inr ⟨Same.seqT cut_same sx, hy _ H1 s1 (isIt_zipM (Same.seqT (sG.trans bb_cut) sx) sB2 (wx.mono sG) w2)⟩⟩
  | _ => cases ey
end
end Px

/-! Px12: environments that change; targets. -/
namespace Px
open PySem PySem.Spec L2
section
variable {K : PySem.W.Frag} {ec : EC} {W : WX} {F : List Fn} {C : List D} {X : Cx} {pos : Pos}
variable {σ σ' : L2.St} {H H' H0 H1 H2 : Hp} {A : AS} {ρ ρ' : Env} {B B' G : Hp} {Z : AS} {O : Nat → AS}
def setO (O : Nat → AS) (i : Nat) (P : AS) : Nat → AS := fun j => if j = i then P else O j
theorem setO_same {i : Nat} {P : AS} : setO O i P i = P := if_pos rfl
theorem setO_ne {i j : Nat} {P : AS} (h : j ≠ i) : setO O i P j = O j := if_neg h
/-- slot i takes what owns P, reserved so far -/
theorem Rel.put {i : Nat} {P : AS} {k : Nat} {d : D} {v : V} (r : Rel K B (fun x => Z x ∨ P x) O σ H ρ) (hi : i < ρ.length) (hP : ∀ x, P x → B x = none ∧ ¬ Z x) (w : Own K H (fun x => ZO Z O x ∨ P x) k d v P) :
    Rel K B Z (setO O i P) (σ.set i (some v)) H (ρ.set i (some (k, d))) := by
  have sub : ∀ x, ZO Z (setO O i P) x → ZO Z O x ∨ P x := by
    rintro x (z | ⟨j, z⟩)
    · exact .inl (.inl z)
    · by_cases e : j = i
      · subst e; rw [setO_same] at z; exact .inr z
      · rw [setO_ne e] at z; exact .inl (.inr ⟨j, z⟩)
  refine ⟨by rw [List.length_set, List.length_set, r.len], fun x z => r.zm x (.inl z), ?_, ?_, r.base, ?_, ?_⟩
  · intro j j' x h1 h2
    by_cases e : j = i <;> by_cases e' : j' = i
    · rw [e, e']
    · subst e; rw [setO_same] at h1; rw [setO_ne e'] at h2; exact absurd (Or.inr h1) (r.fr j' x h2).1
    · subst e'; rw [setO_same] at h2; rw [setO_ne e] at h1; exact absurd (Or.inr h2) (r.fr j x h1).1
    · rw [setO_ne e] at h1; rw [setO_ne e'] at h2; exact r.dj j j' x h1 h2
  · intro j x h
    by_cases e : j = i
    · subst e; rw [setO_same] at h; exact ⟨(hP x h).2, (hP x h).1⟩
    · rw [setO_ne e] at h; exact ⟨fun z => (r.fr j x h).1 (.inl z), (r.fr j x h).2⟩
  · intro j k' d' e
    by_cases ej : j = i
    · subst ej
      rw [List.getElem?_set_self hi] at e
      cases e
      refine ⟨v, by rw [List.getElem?_set_self (by rw [r.len]; exact hi)], ?_⟩
      rw [setO_same]
      exact w.mono (Same.refl _) fun x z => .inl (sub x z)
    · rw [List.getElem?_set_ne (Ne.symm ej)] at e
      obtain ⟨u, e1, w'⟩ := r.own j k' d' e
      refine ⟨u, by rw [List.getElem?_set_ne (Ne.symm ej)]; exact e1, ?_⟩
      rw [setO_ne ej]
      refine w'.mono (Same.refl _) fun x z => .inl ?_
      rcases sub x z with (z | z) | z
      · exact .inl (.inl z)
      · exact .inr z
      · exact .inl (.inr z)
  · intro j h x
    by_cases ej : j = i
    · subst ej
      exact absurd (List.getElem?_set_self hi) (h k d)
    · rw [setO_ne ej]
      exact r.non j (fun k' d' e => h k' d' (by rw [List.getElem?_set_ne (Ne.symm ej)]; exact e)) x
/-- slot i is forgotten -/
theorem Rel.drop {i : Nat} {o : Option V} (r : Rel K B Z O σ H ρ) : Rel K B Z (setO O i fun _ => False) (σ.set i o) H (ρ.set i none) := by
  have sub : ∀ x, ZO Z (setO O i fun _ => False) x → ZO Z O x := by
    rintro x (z | ⟨j, z⟩)
    · exact .inl z
    · by_cases e : j = i
      · subst e; rw [setO_same] at z; exact z.elim
      · rw [setO_ne e] at z; exact .inr ⟨j, z⟩
  have sb : ∀ j x, setO O i (fun _ => False) j x → O j x := fun j x h => by
    by_cases e : j = i
    · subst e; rw [setO_same] at h; exact h.elim
    · rw [setO_ne e] at h; exact h
  refine ⟨by rw [List.length_set, List.length_set, r.len], r.zm, fun j j' x h1 h2 => r.dj j j' x (sb _ _ h1) (sb _ _ h2), fun j x h => r.fr j x (sb _ _ h), r.base, ?_, ?_⟩
  · intro j k' d' e
    have ej : j ≠ i := fun ej => by
      subst ej
      rw [List.getElem?_set] at e
      split at e
      · split at e <;> cases e
      · rename_i h; exact h rfl
    rw [List.getElem?_set_ne (Ne.symm ej)] at e
    obtain ⟨u, e1, w'⟩ := r.own j k' d' e
    refine ⟨u, by rw [List.getElem?_set_ne (Ne.symm ej)]; exact e1, ?_⟩
    rw [setO_ne ej]
    exact w'.mono (Same.refl _) fun x z => .inl (sub x z)
  · intro j h x
    by_cases ej : j = i
    · subst ej; rw [setO_same]; exact id
    · rw [setO_ne ej]
      exact r.non j (fun k' d' e => h k' d' (by rw [List.getElem?_set_ne (Ne.symm ej)]; exact e)) x
theorem Rel.wipe (r : Rel K B Z O σ H ρ) : ∀ vs : List Nat, ∃ O', (∀ i x, O' i x → O i x) ∧ Rel K B Z O' (wipe σ vs) H (wipeE ρ vs)
  | [] => ⟨O, fun _ _ h => h, r⟩
  | v :: vs => by
    obtain ⟨O', h, q⟩ := Rel.wipe r vs
    refine ⟨_, fun i x z => ?_, q.drop (i := v) (o := none)⟩
    by_cases e : i = v
    · subst e; rw [setO_same] at z; exact z.elim
    · rw [setO_ne e] at z; exact h i x z
/-- .. what they owned stays reserved -/
theorem Rel.dropZ {i : Nat} {o : Option V} (r : Rel K B Z O σ H ρ) : Rel K B (fun x => Z x ∨ O i x) (setO O i fun _ => False) (σ.set i o) H (ρ.set i none) := by
  have q := r.drop (i := i) (o := o)
  have eq : ∀ x, ZO (fun x => Z x ∨ O i x) (setO O i fun _ => False) x → ZO Z O x := by
    rintro x ((z | z) | ⟨j, z⟩)
    · exact .inl z
    · exact .inr ⟨i, z⟩
    · by_cases e : j = i
      · subst e; rw [setO_same] at z; exact z.elim
      · rw [setO_ne e] at z; exact .inr ⟨j, z⟩
  refine ⟨q.len, fun x z => z.elim (r.zm x) r.om, q.dj, fun j x z => ⟨fun z' => ?_, (q.fr j x z).2⟩, q.base, fun j k d e => ?_, q.non⟩
  · by_cases e : j = i
    · subst e; rw [setO_same] at z; exact z.elim
    · have z2 := z
      rw [setO_ne e] at z2
      rcases z' with z' | z'
      · exact (q.fr j x z).1 z'
      · exact e (r.dj j i x z2 z')
  · have ej : j ≠ i := fun ej => by
      subst ej
      rw [List.getElem?_set] at e
      split at e
      · split at e <;> cases e
      · rename_i h; exact h rfl
    rw [List.getElem?_set_ne (Ne.symm ej)] at e
    obtain ⟨u, e1, w'⟩ := r.own j k d e
    refine ⟨u, by rw [List.getElem?_set_ne (Ne.symm ej)]; exact e1, ?_⟩
    rw [setO_ne ej]
    exact w'.mono (Same.refl _) fun x z => .inl (eq x z)
theorem Rel.wipeZ (r : Rel K B Z O σ H ρ) : ∀ vs : List Nat, ∃ Z' O', (∀ x, ZO Z' O' x ↔ ZO Z O x) ∧ (∀ i ∈ vs, ∀ x, ¬ O' i x) ∧ Rel K B Z' O' (L2.wipe σ vs) H (wipeE ρ vs)
  | [] => ⟨Z, O, fun _ => Iff.rfl, (fun _ h => by cases h), r⟩
  | v :: vs => by
    obtain ⟨Z', O', h, n, q⟩ := Rel.wipeZ r vs
    refine ⟨_, _, fun x => ?_, fun i hi x z => ?_, q.dropZ (i := v) (o := none)⟩
    · rw [← h x]
      constructor
      · rintro ((z | z) | ⟨j, z⟩)
        · exact .inl z
        · exact .inr ⟨v, z⟩
        · by_cases e : j = v
          · subst e; rw [setO_same] at z; exact z.elim
          · rw [setO_ne e] at z; exact .inr ⟨j, z⟩
      · rintro (z | ⟨j, z⟩)
        · exact .inl (.inl z)
        · by_cases e : j = v
          · subst e; exact .inl (.inr z)
          · exact .inr ⟨j, by rw [setO_ne e]; exact z⟩
    · by_cases e : i = v
      · subst e; rw [setO_same] at z; exact z
      · rw [setO_ne e] at z
        rcases List.mem_cons.mp hi with hi | hi
        · exact e hi
        · exact n i hi x z
/-- another beginning -/
theorem Rel.rebase (r : Rel K B Z O σ H ρ) (h : Same B' H) (n : ∀ i x, O i x → B' x = none) : Rel K B' Z O σ H ρ := ⟨r.len, r.zm, r.dj, fun i x o => ⟨(r.fr i x o).1, n i x o⟩, h, r.own, r.non⟩
theorem wipe_in {i : Nat} : ∀ {vs : List Nat}, i ∈ vs → (wipe σ vs)[i]? = if i < σ.length then some none else none
  | [], h => by cases h
  | v :: vs, h => by
    show ((wipe σ vs).set v none)[i]? = _
    by_cases e : v = i
    · subst e
      rw [List.getElem?_set, if_pos rfl, wipe_length]
    · rw [List.getElem?_set_ne e]
      rcases List.mem_cons.mp h with h | h
      · exact absurd h.symm e
      · exact wipe_in h
theorem wipe_eq {vs : List Nat} (hl : σ'.length = σ.length) (h : ∀ i, i ∉ vs → σ'[i]? = σ[i]?) : wipe σ' vs = wipe σ vs := by
  apply List.ext_getElem?
  intro i
  by_cases e : i ∈ vs
  · rw [wipe_in e, wipe_in e, hl]
  · rw [wipe_out e, wipe_out e, h i e]
theorem wipe_idem {vs : List Nat} : wipe (wipe σ vs) vs = wipe σ vs := wipe_eq (wipe_length _ _) fun i h => wipe_out h
/-! ### targets -/
theorem PG.or {tg : Expr} {t u : TG} (h1 : PG X tg t) (h2 : PG X tg u) : PG X tg (fun v σ H Q => t v σ H Q ∨ u v σ H Q) :=
  ⟨fun pins s σ H v w Q I r q => q.elim (h1.run pins s σ H v w Q I r) (h2.run pins s σ H v w Q I r)⟩
theorem PG.imp {tg : Expr} {t t' : TG} (h : PG X tg t) (w : ∀ v σ H Q, t' v σ H Q → t v σ H Q) : PG X tg t' := ⟨fun pins s σ H v u Q I r q => h.run pins s σ H v u Q I r (w v σ H Q q)⟩
theorem PGs.imp {tg : List Expr} {t t' : TGs} (h : PGs X tg t) (w : ∀ v σ H Q, t' v σ H Q → t v σ H Q) : PGs X tg t' := ⟨fun pins s σ H v u Q I r q => h.run pins s σ H v u Q I r (w v σ H Q q)⟩
/-- behind a store into some slots -/
def Bound (K : PySem.W.Frag) (B : Hp) (Z : AS) (O : Nat → AS) (sl : List Nat) (σ : L2.St) (H : Hp) (ρ' : Env) (Q : L2.St → Hp → Prop) : Prop := ∀ σ' O', Rel K B Z O' σ' H ρ' → (∀ i, i ∉ sl → σ'[i]? = σ[i]?) → σ'.length = σ.length → (∀ i x, O' i x → O i x) → (∀ i x, O i x → i ∉ sl → O' i x) → Q σ' H
def tP (K : PySem.W.Frag) (p : Pat) : TG := fun v σ H Q => ∃ (ρ : Env) (B : Hp) (Z : AS) (O : Nat → AS) (d : D) (ρ' : Env), Rel K B Z O σ H ρ ∧ RepR K (cut H (ZO Z O)) d v ∧ bindP p d ρ = .ok ρ' ∧ Bound K B Z O p.slots σ H ρ' Q
def tPs (K : PySem.W.Frag) (ps : List Pat) : TGs := fun vs σ H Q => ∃ (ρ : Env) (B : Hp) (Z : AS) (O : Nat → AS) (ds : List D) (ρ' : Env), Rel K B Z O σ H ρ ∧ RepRs K (cut H (ZO Z O)) ds vs ∧ bindPs ps ds ρ = .ok ρ' ∧ Bound K B Z O (slotsL ps) σ H ρ' Q
theorem assignEach_of {e : Expr} {es : List Expr} {env : PySem.Env} (h : noStar e = true) : assignEach (e :: es) env = (false, assign e env) :: assignEach es env := by
  cases e <;> first | rfl | cases h
theorem okPs_len {cf : Cf} {lv : Option Scope} {sc : Scope} {env : PySem.Env} : ∀ {ps : List Pat} {es : List Expr}, okPs cf lv sc ps es = true → (assignEach es env).length = ps.length ∧ (assignEach es env).findIdx? (·.1) = none
  | [], [], _ => ⟨rfl, rfl⟩
  | [], _ :: _, h => by unfold okPs at h; cases h
  | _ :: _, [], h => by unfold okPs at h; cases h
  | p :: ps, e :: es, h => by
    unfold okPs at h
    simp only [Bool.and_eq_true] at h
    obtain ⟨l, f⟩ := okPs_len (env := env) h.1.2
    rw [assignEach_of h.2]
    refine ⟨by simp [l], ?_⟩
    rw [List.findIdx?_cons]
    simp [f]
theorem bindPs_len : ∀ {ps : List Pat} {ds : List D} {ρ ρ' : Env}, bindPs ps ds ρ = .ok ρ' → ds.length = ps.length
  | [], [], _, _, _ => rfl
  | [], _ :: _, _, _, h => by unfold bindPs at h; cases h
  | _ :: _, [], _, _, h => by unfold bindPs at h; cases h
  | p :: ps, d :: ds, ρ, ρ', h => by
    unfold bindPs at h
    cases q : bindP p d ρ with
    | ok ρ1 => rw [q] at h; simp [bindPs_len h]
    | exc x p => rw [q] at h; cases h
    | stuck => rw [q] at h; cases h
theorem cut_sub {A A' : AS} (h : ∀ x, A' x → A x) : Same (cut H A) (cut H A') := cut_set h
mutual
theorem p_ok {cf : Cf} {lv : Option Scope} {sc : Scope} (hc : X.calm = true) (hnd : X.N.Nodup) (hN : X.N = cf.N) (hsc : X.env.scope = sc) (hf : ∀ x, fnB lv x = true → X.fn x = true) : ∀ {p : Pat} {e : Expr}, okP cf lv sc p e = true → PG X e (tP X.K p)
  | .nm i, e, h => by
    cases e <;> unfold okP at h <;> first | (cases h; done) | skip
    rename_i x px
    rw [Bool.and_eq_true] at h
    obtain ⟨h1, h2⟩ := h
    have h1 := of_decide_eq_true h1
    have hl : Loc X.env.scope x ∧ (X.fn x = true ∨ X.env.scope.names.lookup x = some .local) := by
      rw [hsc]
      unfold locB at h2
      split at h2
      · rename_i e; exact ⟨.inl e, .inr e⟩
      · rename_i e; exact ⟨.inr e, .inl (hf x h2)⟩
      · cases h2
    refine PG.imp (pg_name (i := i) hnd (by rw [hN]; exact h1) hl.1 hl.2) fun v σ H Q ⟨ρ, B, Z, O, d, ρ', r, rv, hb, q⟩ => ?_
    unfold bindP at hb
    split at hb <;> cases hb
    rename_i hi
    have r0 : Rel X.K B (fun x => Z x ∨ False) O σ H ρ := by
      have e : (fun x => Z x ∨ False) = Z := by funext x; simp
      rw [e]; exact r
    have w : Own X.K H (fun x => ZO Z O x ∨ False) ((kd 0 d).1.getD 0) d v (fun _ => False) := by
      have w0 : Own X.K H (fun x => ZO Z O x ∨ False) 0 d v (fun _ => False) := ⟨fun _ z => z, rv.mono (cut_sub fun x z => z.elim id False.elim)⟩
      unfold kd
      split
      · exact w0
      · rename_i hd
        exact (Own.flat (by simpa using hd)).mpr w0
    refine q _ _ (r0.put hi (fun x z => z.elim) w) (fun j hj => ?_) (by rw [List.length_set]) (fun j x z => ?_) fun j x z hj => ?_
    · unfold Pat.slots at hj
      rw [List.getElem?_set_ne (fun e => hj (by simp [e]))]
    · by_cases e : j = i
      · subst e; rw [setO_same] at z; exact z.elim
      · rw [setO_ne e] at z; exact z
    · unfold Pat.slots at hj
      rw [setO_ne (fun e => hj (by simp [e]))]; exact z
  | .tp ps, e, h => by
    cases e <;> unfold okP at h <;> first | (cases h; done) | skip
    rename_i es k px
    obtain ⟨l, f⟩ := okPs_len (env := X.env) h
    have hh := ps_ok hc hnd hN hsc hf h
    refine PG.imp (PG.or (pg_tup hc hh l f) (pg_unl hc hh l f)) fun v σ H Q ⟨ρ, B, Z, O, d, ρ', r, rv, hb, q⟩ => ?_
    unfold bindP at hb
    cases d with
    | tup ds =>
      obtain ⟨a, vs, e, s, w⟩ := rv.tup
      exact .inl ⟨a, vs, e, Same.seqT cut_same s, by rw [w.length]; exact bindPs_len hb, ρ, B, Z, O, ds, ρ', r, w, hb, by unfold Pat.slots at q; exact q⟩
    | lst ds =>
      obtain ⟨a, vs, e, s, w⟩ := rv.lst
      exact .inr ⟨a, vs, e, L2.Same.seq cut_same s, by rw [w.length]; exact bindPs_len hb, ρ, B, Z, O, ds, ρ', r, w, hb, by unfold Pat.slots at q; exact q⟩
    | non => cases hb
    | bl _ => cases hb
    | int _ => cases hb
    | str _ => cases hb
    | dct _ _ => cases hb
theorem ps_ok {cf : Cf} {lv : Option Scope} {sc : Scope} (hc : X.calm = true) (hnd : X.N.Nodup) (hN : X.N = cf.N) (hsc : X.env.scope = sc) (hf : ∀ x, fnB lv x = true → X.fn x = true) : ∀ {ps : List Pat} {es : List Expr}, okPs cf lv sc ps es = true → PGs X es (tPs X.K ps)
  | [], [], _ => PGs.imp pgs_nil fun v σ H Q ⟨ρ, B, Z, O, ds, ρ', r, rv, hb, q⟩ => by
    cases ds with
    | nil =>
      unfold bindPs at hb
      cases hb
      unfold RepRs at rv
      exact ⟨rv, q σ O r (fun _ _ => rfl) rfl (fun _ _ z => z) fun _ _ z _ => z⟩
    | cons d ds => unfold bindPs at hb; cases hb
  | [], _ :: _, h => by unfold okPs at h; cases h
  | _ :: _, [], h => by unfold okPs at h; cases h
  | p :: ps, e :: es, h => by
    unfold okPs at h
    simp only [Bool.and_eq_true] at h
    refine PGs.imp (pgs_cons (p_ok hc hnd hN hsc hf h.1.1) (ps_ok hc hnd hN hsc hf h.1.2) (by rw [assignEach_of h.2]; rfl)) fun v σ H Q ⟨ρ, B, Z, O, ds, ρ', r, rv, hb, q⟩ => ?_
    cases ds with
    | nil => unfold bindPs at hb; cases hb
    | cons d ds =>
      unfold RepRs at rv
      obtain ⟨x, xs, ex, r1, r2⟩ := rv
      unfold bindPs at hb
      cases q1 : bindP p d ρ with
      | exc x p => rw [q1] at hb; cases hb
      | stuck => rw [q1] at hb; cases hb
      | ok ρ1 =>
        rw [q1] at hb
        refine ⟨x, xs, ex, ρ, B, Z, O, d, ρ1, r, r1, q1, fun σ1 O1 rel1 same1 len1 sub1 sup1 => ?_⟩
        refine ⟨ρ1, B, Z, O1, ds, ρ', rel1, r2.mono (cut_sub fun x z => z.elim .inl fun ⟨i, z⟩ => .inr ⟨i, sub1 i x z⟩), hb, fun σ2 O2 rel2 same2 len2 sub2 sup2 => ?_⟩
        refine q σ2 O2 rel2 (fun i hi => ?_) (len2.trans len1) (fun i x z => sub1 i x (sub2 i x z)) fun i x z hi => ?_
        · unfold slotsL at hi
          rw [List.mem_append, not_or] at hi
          rw [same2 i hi.2, same1 i hi.1]
        · unfold slotsL at hi
          rw [List.mem_append, not_or] at hi
          exact sup2 i x (sup1 i x z hi.1) hi.2
end
end
end Px

/-! Px13: comprehensions. -/
namespace Px
open PySem PySem.Spec L2
section
variable {K : PySem.W.Frag} {ec : EC} {W : WX} {F : List Fn} {C : List D} {X : Cx} {pos : Pos}
variable {σ σ' : L2.St} {H H' H0 H1 H2 : Hp} {A : AS} {ρ ρ' : Env} {B B' G : Hp} {Z : AS} {O : Nat → AS}
abbrev Wn : WX := fun _ _ _ _ => False
theorem noExc_ok {α : Type} {r : R α} {k : α → Prop} (h : aft ec W σ H (noExc r) k) : ∃ a, r = .ok a ∧ k a := by
  cases r with
  | ok a => exact ⟨a, rfl, h⟩
  | exc x p => exact h.elim
  | stuck => exact h.elim
def tTs (K : PySem.W.Frag) (ec : EC) (W : WX) (F : List Fn) (C : List D) (cs : List Tx) : TT := fun σ H Q => ∃ (ρ : Env) (B : Hp) (Z : AS) (O : Nat → AS), Rel K B Z O σ H ρ ∧
  aft ec W σ H (tsts F C cs ρ) (fun b => ∀ H', Same H H' → Q b H')
theorem PTs.imp {e : List Expr} {t t' : TT} (h : PTs X e t) (w : ∀ σ H Q, t' σ H Q → t σ H Q) : PTs X e t' := ⟨fun pins s σ H Q I q => h.run pins s σ H Q I (w σ H Q q)⟩
theorem ts_nil : PTs X [] (tTs X.K ec W F C []) := PTs.imp pts_nil fun σ H Q ⟨ρ, B, Z, O, r, h⟩ => by
  unfold tsts at h
  exact (show ∀ H', Same H H' → Q true H' from h) H (Same.refl _)
theorem ts_one {c : Tx} {e : Expr} (hc : PT X e (tT X.K ec W F C c)) : PTs X [e] (tTs X.K ec W F C [c]) := PTs.imp (pts_one hc) fun σ H Q ⟨ρ, B, Z, O, r, h⟩ => by
  unfold tsts at h
  rw [aft_bind] at h
  refine use_T r (aft_mono (Same.refl _) h fun b hb H1 s1 => ?_)
  cases b with
  | true => unfold tsts at hb; exact (show ∀ H', Same H H' → Q true H' from hb) H1 s1
  | false => exact (show ∀ H', Same H H' → Q false H' from hb) H1 s1
theorem compR_cons {f : D → R (Option (Nat × D))} {d : D} {ds : List D} {r : List (Nat × D)} (h : compR f (d :: ds) = .ok r) : ∃ b bs, f d = .ok b ∧ compR f ds = .ok bs ∧ r = b.toList ++ bs := by
  unfold compR at h
  cases q : f d with
  | exc x p => rw [q] at h; cases h
  | stuck => rw [q] at h; cases h
  | ok b =>
    rw [q, R.bind_ok] at h
    cases q2 : compR f ds with
    | exc x p => rw [q2] at h; cases h
    | stuck => rw [q2] at h; cases h
    | ok bs =>
      rw [q2, R.bind_ok] at h
      cases b with
      | none => cases h; exact ⟨_, _, rfl, rfl, rfl⟩
      | some b => cases h; exact ⟨_, _, rfl, rfl, rfl⟩
theorem OwnsK.append {R' : Kd → V → AS → Prop} : ∀ {ds es : List Kd} {vs us : List V} {O1 O2 O : AS}, (∀ x, O x ↔ O1 x ∨ O2 x) → (∀ x, O1 x → ¬ O2 x) → OwnsK R' ds vs O1 → OwnsK R' es us O2 → OwnsK R' (ds ++ es) (vs ++ us) O
  | [], [], _, _, O1, O2, O, e, _, h, q => by
    obtain ⟨rfl, n1⟩ := h; obtain ⟨rfl, n2⟩ := q
    exact ⟨rfl, fun x z => by rcases (e x).mp z with k | k; exact n1 x k; exact n2 x k⟩
  | [], d :: es, _, _, O1, O2, O, e, _, h, q => by
    obtain ⟨rfl, n1⟩ := h
    obtain ⟨v, vs', P1, P2, e', h1, h2, r, q⟩ := q
    exact ⟨v, vs', P1, P2, e', fun x => by rw [e x, h1 x]; constructor; (rintro (z | z); exact (n1 x z).elim; exact z); exact .inr, h2, r, q⟩
  | d :: ds, es, _, _, O1, O2, O, e, dj, h, q => by
    obtain ⟨v, vs', P1, P2, e', h1, h2, r, h⟩ := h
    subst e'
    refine ⟨v, _, P1, fun x => P2 x ∨ O2 x, rfl, fun x => by rw [e x, h1 x]; constructor; (rintro ((z | z) | z); exact .inl z; exact .inr (.inl z); exact .inr (.inr z)); (rintro (z | z | z); exact .inl (.inl z); exact .inl (.inr z); exact .inr z), fun x z1 z2 => ?_, r, OwnsK.append (fun x => Iff.rfl) (fun x z => dj x ((h1 x).mpr (.inr z))) h q⟩
    rcases z2 with z2 | z2
    · exact h2 x z1 z2
    · exact dj x ((h1 x).mpr (.inl z1)) z2
theorem OwnsK.impIn {R R' : Kd → V → AS → Prop} : ∀ {ds : List Kd} {vs : List V} {O : AS}, OwnsK R ds vs O → (∀ d ∈ ds, ∀ v O1, (∀ x, O1 x → O x) → R d v O1 → R' d v O1) → OwnsK R' ds vs O
  | [], _, _, h, _ => h
  | d :: ds, _, _, ⟨v, vs', O1, O2, e, h1, h2, r, q⟩, f => ⟨v, vs', O1, O2, e, h1, h2, f _ (by simp) _ _ (fun x z => (h1 x).mpr (.inl z)) r,
      OwnsK.impIn q fun d' m v' O' s => f d' (by simp [m]) v' O' fun x z => (h1 x).mpr (.inr (s x z))⟩
abbrev kss (ps : List (Nat × D)) : List Kd := ps.map fun p => (some p.1, p.2)
/-- the list at T so far: these items, what they own at P -/
def Acc (K : PySem.W.Frag) (H1 : Hp) (A : AS) (T : Addr) (done : List (Nat × D)) (P : AS) (H : Hp) : Prop := ∃ accV, Same H1 H ∧ H T = some (.lst accV) ∧ (∀ x, P x → H1 x = none ∧ x ≠ T) ∧ OwnsK (Res1 K H (fun x => (A x ∨ x = T) ∨ P x)) (kss done) accV P
theorem Acc.start {T : Addr} (hT : H1 T = none) : Acc K H1 A T [] (fun _ => False) (upd H1 T (.lst [])) := ⟨[], same_new hT, upd_same, fun _ z => z.elim, rfl, fun _ z => z⟩
theorem Acc.mono {T : Addr} {done : List (Nat × D)} {P : AS} (a : Acc K H1 A T done P H) (s : Same H H') : Acc K H1 A T done P H' := by
  obtain ⟨accV, s0, e, hP, w⟩ := a
  exact ⟨accV, s0.trans s, s _ _ e, hP, w.imp fun d v O r => r.mono s (fun x z => .inl z) fun x z => z⟩
theorem Acc.more {T : Addr} {done : List (Nat × D)} {P P2 : AS} {k : Nat} {d : D} {y : V} (a : Acc K H1 A T done P H) (hT : H1 T = none) (hA : ∀ x, A x → IsM H1 x) (s : Same H H') (f : ∀ x, P2 x → H x = none) (w2 : Own K H' (fun x => ((A x ∨ x = T) ∨ P x) ∨ P2 x) k d y P2) :
    ∃ acc, H' T = some (.lst acc) ∧ acc.length = done.length ∧ Acc K H1 A T (done ++ [(k, d)]) (fun x => P x ∨ P2 x) (upd H' T (.lst (acc ++ [y]))) := by
  obtain ⟨accV, s0, e, hP, w⟩ := a
  have nT : ¬ P2 T := fun z => by rw [f T z] at e; cases e
  refine ⟨accV, s _ _ e, by rw [w.len]; simp, accV ++ [y], fun b o q => ?_, upd_same, fun x z => ?_, ?_⟩
  · rw [upd_ne (fun z => by subst z; rw [hT] at q; cases q)]
    exact (s0.trans s) b o q
  · rcases z with z | z
    · exact hP x z
    · exact ⟨s0.free (f x z), fun ex => nT (ex ▸ z)⟩
  · have hsame : ∀ x, ((A x ∨ x = T) ∨ (P x ∨ P2 x)) ↔ (((A x ∨ x = T) ∨ P x) ∨ P2 x) := fun x => by
      constructor
      · rintro (z | z | z)
        · exact .inl (.inl z)
        · exact .inl (.inr z)
        · exact .inr z
      · rintro ((z | z) | z)
        · exact .inl z
        · exact .inr (.inl z)
        · exact .inr (.inr z)
    have hin : (A T ∨ T = T) ∨ (P T ∨ P2 T) := .inl (.inr rfl)
    have upd1 : ∀ {j : Nat} {d : D} {v : V} {O1 : AS}, ¬ O1 T → Own K H' (fun x => (A x ∨ x = T) ∨ (P x ∨ P2 x)) j d v O1 → Own K (upd H' T (.lst (accV ++ [y]))) (fun x => (A x ∨ x = T) ∨ (P x ∨ P2 x)) j d v O1 := fun n w => w.upd hin n
    have e1 : kss (done ++ [(k, d)]) = kss done ++ [(some k, d)] := by simp [kss]
    rw [e1]
    refine OwnsK.append (fun x => Iff.rfl) (fun x z z2 => ?_) (w.impIn fun d' m v O1 sO r => ?_) ⟨y, [], P2, fun _ => False, rfl, fun x => by simp, fun _ _ z => z, ?_, rfl, fun _ z => z⟩
    · have h1 : H x = none := f x z2
      exact (w.dom z).ne h1
    · obtain ⟨p, _, ep⟩ := List.mem_map.mp m
      subst ep
      have r : Own K H _ p.1 p.2 v O1 := r
      refine upd1 (fun z => (hP T (sO T z)).2 rfl) (r.mono s fun x z => ?_)
      rcases (hsame x).mp z with z | z
      · exact .inl z
      · exact .inr (f x z)
    · exact upd1 nT (w2.mono (Same.refl _) fun x z => .inl ((hsame x).mp z))
theorem Acc.res {T : Addr} {done : List (Nat × D)} {P : AS} {kk : Kd} (a : Acc K H1 A T done P H) (hA : ∀ x, A x → IsM H0 x) (s1 : Same H0 H1) (hT : H1 T = none) (e : listV done = .ok kk) : Res K H0 H A kk (.ref T) := by
  obtain ⟨accV, s0, eT, hP, w⟩ := a
  unfold listV at e
  split at e <;> cases e
  obtain ⟨P', s', g⟩ := ownsK_lower (dmin (done.map (·.1))) w fun q m => dmin_le (List.mem_map.mpr ⟨q, m, rfl⟩)
  refine ⟨fun x => x = T ∨ P' x, fun x z => ?_, ?_⟩
  · rcases z with z | z
    · subst z; exact s1.free hT
    · exact s1.free (hP x (s' x z)).1
  · show Own K _ _ (_ + 1) (.lst _) (.ref T) _
    unfold Own
    refine ⟨T, accV, P', rfl, eT, fun x => Iff.rfl, fun z => (hP T (s' T z)).2 rfl, g _ (fun x z => ?_) fun x z p => ?_⟩
    · rcases z with z | z | z
      · exact .inl (.inl z)
      · exact .inl (.inr z)
      · exact .inr (s' x z)
    · rcases z with z | z | z
      · exact absurd (s1.free (hP x p).1) (hA x z).ne
      · exact absurd z (hP x p).2
      · exact z
/-- the reading of a comprehension, by that of its parts -/
theorem comp_core {p : Pat} {it : Ix} {cs : List Tx} {e : Ex} {Q : VK} (r : Rel K B Z O σ H ρ) (h : aft ec W σ H (ev F C (.comp p it cs e) ρ) (fun k => ∀ v H', Same H H' → Res K H H' (ZO Z O) k v → Q v H')) :
    tLc (tI K ec W F C true it) (tP K p) (tTs K ec Wn F C cs) (tE K ec Wn F C e) p.slots σ H Q := by
  unfold ev at h
  rw [aft_bind] at h
  refine ⟨ρ, B, Z, O, r, aft_mono (Same.refl _) h fun xs hx J H1 s1 hit T hT => ?_⟩
  rw [aft_bind] at hx
  obtain ⟨ks, hks, hx⟩ := noExc_ok hx
  obtain ⟨kk, hkk, q⟩ := aft_calm hx (fun x p h => by unfold listV at h; split at h <;> cases h)
  have hlen : ks.length ≤ line := by
    unfold listV at hkk
    split at hkk
    · assumption
    · cases hkk
  generalize hf : (fun d => do
      let ρ' ← bindP p d (wipeE ρ p.slots)
      let r ← tsts F C cs ρ'
      if r then do let k ← ev F C e ρ'; let k ← needV k; R.ok (some k) else R.ok none : D → R (Option (Nat × D))) = f at hks
  have hB : Bb true H1 O = H1 := by unfold Bb; rw [if_pos rfl]
  rw [hB] at hit
  have hA : ∀ x, ZO Z O x → IsM H1 x := fun x z => (r.am z).mono s1
  refine ⟨fun i m H2 => m = xs.length - i ∧ i ≤ xs.length ∧ ∃ done rest P, compR f (xs.drop i) = .ok rest ∧ done ++ rest = ks ∧ Acc K H1 (ZO Z O) T done P H2, ⟨xs.length, by simp, Nat.zero_le _, [], ks, _, hks, rfl, Acc.start hT⟩, ?_⟩
  rintro i m H2 ⟨rfl, hi, done, rest, P, hr, hdr, acc⟩
  have s2 : Same H1 H2 := by obtain ⟨_, s, _⟩ := acc; exact s
  by_cases hlt : i < xs.length
  · refine .inr ?_
    have ed : xs[i]? = some xs[i] := List.getElem?_eq_getElem hlt
    generalize xs[i] = d at ed
    have edrop : xs.drop i = d :: xs.drop (i + 1) := by
      rw [List.drop_eq_getElem_cons hlt]
      have := List.getElem?_eq_getElem hlt
      rw [ed] at this
      cases this; rfl
    rw [edrop] at hr
    obtain ⟨b, bs, hb, hbs, er⟩ := compR_cons hr
    obtain ⟨go, hy⟩ := (hit H2 s2 i).1 d ed
    refine ⟨go, fun H' => (fun i m H2 => m = xs.length - i ∧ i ≤ xs.length ∧ ∃ done rest P, compR f (xs.drop i) = .ok rest ∧ done ++ rest = ks ∧ Acc K H1 (ZO Z O) T done P H2) (i + 1) (xs.length - (i + 1)) H', fun H' w => ⟨_, by omega, w⟩, fun x H3 y3 => ?_⟩
    obtain ⟨s3, rv⟩ := hy x H3 y3
    obtain ⟨accV, _, eT, hP, w⟩ := id acc
    have mm : ∀ y, (ZO Z O y ∨ (y = T ∨ P y)) → IsM H2 y := fun y z => by
      rcases z with z | z | z
      · exact (hA y z).mono s2
      · subst z; exact .inl ⟨_, eT⟩
      · exact w.dom z
    have rv := rv (fun y => ZO Z O y ∨ (y = T ∨ P y)) (fun y z => (mm y z).ne) fun b o q => by
      obtain ⟨q1, q2⟩ := cut_some q
      refine cut_of (s2 _ _ q1) fun z => ?_
      rcases z with z | z | z
      · exact q2 z
      · subst z; rw [hT] at q1; cases q1
      · rw [(hP b z).1] at q1; cases q1
    have s13 := s2.trans s3
    -- the block's environment
    have rel3 : Rel K B (fun x => Z x ∨ (x = T ∨ P x)) O σ H3 ρ := r.res (s1.trans s13) (T := fun x => x = T ∨ P x) (fun x z => by
      rcases z with z | z
      · subst z; exact s1.free hT
      · exact s1.free (hP x z).1) fun x z => (mm x (.inr z)).mono s3
    obtain ⟨Z', O', hZ, hn, relW⟩ := rel3.wipeZ p.slots
    have hZ' : ∀ x, ZO Z' O' x ↔ ZO Z O x ∨ (x = T ∨ P x) := fun x => by
      rw [hZ x, zo_res]
    subst hf
    have hb : (do
      let ρ' ← bindP p d (wipeE ρ p.slots)
      let r ← tsts F C cs ρ'
      if r then do let k ← ev F C e ρ'; let k ← needV k; R.ok (some k) else R.ok none : R (Option (Nat × D))) = R.ok b := hb
    cases q1 : bindP p d (wipeE ρ p.slots) with
    | exc x p => rw [q1] at hb; cases hb
    | stuck => rw [q1] at hb; cases hb
    | ok ρ1 =>
      rw [q1, R.bind_ok] at hb
      refine ⟨wipeE ρ p.slots, B, Z', O', d, ρ1, relW, rv.mono (cut_set fun x z => (hZ' x).mp z), q1, fun σ4 O4 rel4 same4 len4 sub4 sup4 => ⟨(wipe_eq len4 same4).trans wipe_idem, ?_⟩⟩
      have hZ4 : ∀ x, ZO Z' O4 x ↔ ZO Z O x ∨ (x = T ∨ P x) := fun x => by
        rw [← hZ' x]
        constructor
        · rintro (z | ⟨j, z⟩)
          · exact .inl z
          · exact .inr ⟨j, sub4 j x z⟩
        · rintro (z | ⟨j, z⟩)
          · exact .inl z
          · exact .inr ⟨j, sup4 j x z fun hj => hn j hj x z⟩
      cases q2 : tsts F C cs ρ1 with
      | exc x p => rw [q2] at hb; cases hb
      | stuck => rw [q2] at hb; cases hb
      | ok t =>
        rw [q2, R.bind_ok] at hb
        refine ⟨ρ1, B, Z', O4, rel4, ?_⟩
        rw [q2]
        intro H4 s4
        cases t with
        | false =>
          cases hb
          refine ⟨rfl, hlt, done, bs, P, hbs, ?_, acc.mono (s3.trans s4)⟩
          rw [← hdr, er]
          simp
        | true =>
          rw [if_pos rfl] at hb
          cases q3 : ev F C e ρ1 with
          | exc x p => rw [q3] at hb; cases hb
          | stuck => rw [q3] at hb; cases hb
          | ok k =>
            rw [q3, R.bind_ok] at hb
            obtain ⟨o, dd⟩ := k
            cases o with
            | none => cases hb
            | some j =>
              cases hb
              refine ⟨ρ1, B, Z', O4, rel4.mono s4, ?_⟩
              rw [q3]
              intro y H5 s5 ⟨P2, f2, w2⟩
              have w2 : Own K H5 (fun x => ZO Z' O4 x ∨ P2 x) j dd y P2 := w2
              have acc4 := acc.mono (s3.trans s4)
              have w3 : Own K H5 (fun x => ((ZO Z O x ∨ x = T) ∨ P x) ∨ P2 x) j dd y P2 := w2.mono (Same.refl _) fun x z => by
                rcases z with ((z | z) | z) | z
                · exact .inl (.inl ((hZ4 x).mpr (.inl z)))
                · exact .inl (.inl ((hZ4 x).mpr (.inr (.inl z))))
                · exact .inl (.inl ((hZ4 x).mpr (.inr (.inr z))))
                · exact .inl (.inr z)
              obtain ⟨av, e5, l5, acc5⟩ := acc4.more (P2 := P2) (k := j) (d := dd) (y := y) hT hA s5 f2 w3
              refine ⟨av, e5, ?_, rfl, hlt, done ++ [(j, dd)], bs, _, hbs, ?_, acc5⟩
              · have : ks.length = done.length + rest.length := by rw [← hdr, List.length_append]
                rw [l5, line_eq]
                rw [er] at this
                have h1 : (Option.toList (some (j, dd)) ++ bs).length = bs.length + 1 := by simp
                omega
              · rw [← hdr, er]; simp
  · refine .inl ?_
    have ei : i = xs.length := by omega
    refine ⟨(hit H2 s2 i).2 (by omega), ?_⟩
    rw [ei, List.drop_length] at hr
    unfold compR at hr
    cases hr
    rw [List.append_nil] at hdr
    subst hdr
    exact (show ∀ v H', Same H H' → Res K H H' (ZO Z O) kk v → Q v H' from q) _ _ (s1.trans s2) (acc.res (fun x z => r.am z) s1 hT hkk)
end
end Px

/-! Px14: a code that stands for an expression is sound. -/
namespace Px
open PySem PySem.Spec L2
/-- what a code leans on -/
structure Good (ec : EC) (cf : Cf) (F : List Fn) (C : List D) (X : Cx) (W : WX) : Prop where
  calm : X.calm = true
  nd : X.N.Nodup
  hN : X.N = cf.N
  un : X.A.units + 65 < cLine
  bn : ∀ n : String, cf.bn.contains n = true → X.mg (Str.ofString n) = none
  fs : ∀ (j : Nat) (y : String) (n : Nat), cf.fs[j]? = some (y, n) → ∃ c : Cal X.prog X.w X.K X.mg X.base ec, c.name = y ∧ c.n = n ∧ F[j]? = some c.m ∧ Room c.k X.A
  gc : ∀ (j : Nat) (y : String), cf.gc[j]? = some y → ∃ c : Con1 X.K X.mg, c.name = y ∧ C[j]? = some c.d
  gu : X.A.guards = some []
  tk : Takes X W
section
variable {ec : EC} {cf : Cf} {F : List Fn} {C : List D} {X : Cx} {W : WX} {sc : Scope} {pos : Pos}
theorem Good.blk (g : Good ec cf F C X W) {s : Shared} {H : Hp} {scope : Scope} {ce : PySem.Env} {fp : List Addr} : Good ec cf F C (X.blk s H scope ce fp) Wn :=
  ⟨g.calm, g.nd, g.hN, g.un, g.bn, g.fs, g.gc, g.gu, takes0⟩
theorem vis_of {x : Str} (hsc : X.env.scope = sc) (h : visB sc x = true) : Vis X.env.scope x := by
  rw [hsc]
  unfold visB at h
  split at h
  · exact .inl (by assumption)
  · exact .inr (.inl (by assumption))
  · exact .inr (.inr (by assumption))
  · cases h
theorem gl_of {x : Str} (hsc : X.env.scope = sc) (h : glB sc x = true) : Gl X x := by
  unfold glB at h
  show X.env.scope.names.lookup x = _
  rw [hsc]; exact of_decide_eq_true h
theorem plainIx_of {b : Expr} (h : plainIx b = true) : PlainIxT b := by
  intro o i
  cases b <;> first | rfl | cases h
theorem one_of {x : Str} {want : String} (g : Good ec cf F C X W) (hsc : X.env.scope = sc) (h : one1 cf sc x want = true) : Str.ofString want = x ∧ X.mg x = none ∧ Gl X x ∧ nmB x = true := by
  unfold one1 at h
  simp only [Bool.and_eq_true] at h
  obtain ⟨⟨⟨h1, h2⟩, h3⟩, h4⟩ := h
  have h1 := of_decide_eq_true h1
  exact ⟨h1, h1 ▸ g.bn _ h2, gl_of hsc h3, h4⟩
theorem folded_of {e : Expr} (h : notSet e = true) : ∀ (env : PySem.Env) (x : Value), foldedSetIterable e env x = pure x := by
  intro env x
  cases e <;> first | rfl | cases h
theorem e_glob {j : Nat} {x : Str} (g : Good ec cf F C X W) (hsc : X.env.scope = sc) (h : glX cf sc j x = true) : PE X (.Name x pos) (tE X.K ec W F C (.glob j)) := by
  unfold glX at h
  simp only [Bool.and_eq_true] at h
  obtain ⟨⟨h1, h2⟩, h3⟩ := h
  split at h1
  · rename_i y hy
    obtain ⟨c, e1, e2⟩ := g.gc j y hy
    have h1 := of_decide_eq_true h1
    subst e1
    subst h1
    refine PE.imp (pe_glob (gl_of hsc h2) c.gm c.r (nmB_of h3).1) fun σ H Q ⟨ρ, B, Z, O, r, h⟩ => ?_
    unfold ev at h
    rw [e2] at h
    have h : ∀ v H', Same H H' → Res X.K H H' (ZO Z O) (kd 0 c.d) v → Q v H' := h
    exact h _ _ (Same.refl _) (kd_res (O := fun _ => False) (fun _ z => z.elim) ⟨fun _ z => z, c.rep _⟩)
  · cases h1
theorem evs_len : ∀ {cs : List Ex} {ρ : Env} {ks : List Kd}, evs F C cs ρ = .ok ks → ks.length = cs.length
  | [], ρ, ks, h => by unfold evs at h; cases h; rfl
  | c :: cs, ρ, ks, h => by
    unfold evs at h
    cases q : ev F C c ρ with
    | exc x p => rw [q] at h; cases h
    | stuck => rw [q] at h; cases h
    | ok k =>
      rw [q, R.bind_ok] at h
      cases q2 : evs F C cs ρ with
      | exc x p => rw [q2] at h; cases h
      | stuck => rw [q2] at h; cases h
      | ok ks' => rw [q2, R.bind_ok] at h; cases h; simp [evs_len q2]
theorem okEs_len : ∀ {cs : List Ex} {es : List Expr}, okEs cf cs sc es = true → cs.length = es.length
  | [], [], _ => rfl
  | [], _ :: _, h => by unfold okEs at h; cases h
  | _ :: _, [], h => by unfold okEs at h; cases h
  | c :: cs, e :: es, h => by
    unfold okEs at h
    simp only [Bool.and_eq_true] at h
    simp [okEs_len h.2]
theorem and1 {op : PySem.BoolOp} {e : Expr} {a : Ex} (h : PE X e (tE X.K ec W F C a)) : PE X (.BoolOp op [e] pos) (tE X.K ec W F C a) := pe_one h
mutual
theorem e_ok : ∀ {c : Ex} {X : Cx} {W : WX} {sc : Scope} {e : Expr}, Good ec cf F C X W → X.env.scope = sc → okE cf c sc e = true → PE X e (tE X.K ec W F C c)
  | .var i, X, W, sc, e, g, hsc, h => by
    unfold okE at h
    split at h <;> first | (cases h; done) | skip
    simp only [Bool.and_eq_true] at h
    obtain ⟨⟨h1, h2⟩, h3⟩ := h
    exact e_var (by rw [g.hN]; exact of_decide_eq_true h1) (vis_of hsc h2) (nmB_of h3).1 (nmB_of h3).2.1
  | .lit d, X, W, sc, e, g, hsc, h => by
    unfold okE at h
    split at h <;> first | (cases h; done) | skip
    exact e_lit h
  | .glob j, X, W, sc, e, g, hsc, h => by
    unfold okE at h
    split at h <;> first | (cases h; done) | skip
    exact e_glob g hsc h
  | .bin o a b, X, W, sc, e, g, hsc, h => by
    unfold okE at h
    split at h <;> first | (cases h; done) | skip
    simp only [Bool.and_eq_true] at h
    obtain ⟨⟨h1, h2⟩, h3⟩ := h
    have h1 := of_decide_eq_true h1
    subst h1
    exact e_bin (e_ok g hsc h2) (e_ok g hsc h3)
  | .un o a, X, W, sc, e, g, hsc, h => by
    unfold okE at h
    split at h <;> first | (cases h; done) | skip
    simp only [Bool.and_eq_true] at h
    obtain ⟨h1, h2⟩ := h
    have h1 := of_decide_eq_true h1
    subst h1
    exact e_un (e_ok g hsc h2)
  | .cmp o a b, X, W, sc, e, g, hsc, h => by
    unfold okE at h
    split at h <;> first | (cases h; done) | skip
    simp only [Bool.and_eq_true, Bool.not_eq_true'] at h
    obtain ⟨⟨⟨h1, h2⟩, h3⟩, h4⟩ := h
    have h1 := of_decide_eq_true h1
    subst h1
    exact e_cmp g.un (e_ok g hsc h2) (e_ok g hsc h3) h4
  | .chain o o' a b c, X, W, sc, e, g, hsc, h => by
    unfold okE at h
    split at h <;> first | (cases h; done) | skip
    simp only [Bool.and_eq_true, Bool.not_eq_true'] at h
    obtain ⟨⟨⟨⟨⟨h1, h1'⟩, h2⟩, h3⟩, h4⟩, h5⟩ := h
    have h1 := of_decide_eq_true h1
    have h1' := of_decide_eq_true h1'
    subst h1
    subst h1'
    exact e_chain g.un (e_ok g hsc h2) (e_ok g hsc h3) (e_ok g hsc h4) h5
  | .and a b, X, W, sc, e, g, hsc, h => by
    unfold okE at h
    split at h <;> first | (cases h; done) | skip
    · rw [Bool.and_eq_true] at h
      exact e_and (e_ok g hsc h.1) (and1 (e_ok g hsc h.2))
    · rw [Bool.and_eq_true] at h
      exact e_and (e_ok g hsc h.1) (e_ok g hsc h.2)
  | .or a b, X, W, sc, e, g, hsc, h => by
    unfold okE at h
    split at h <;> first | (cases h; done) | skip
    · rw [Bool.and_eq_true] at h
      exact e_or (e_ok g hsc h.1) (and1 (e_ok g hsc h.2))
    · rw [Bool.and_eq_true] at h
      exact e_or (e_ok g hsc h.1) (e_ok g hsc h.2)
  | .not a, X, W, sc, e, g, hsc, h => by
    unfold okE at h
    split at h <;> first | (cases h; done) | skip
    exact e_not (e_ok g hsc h)
  | .ite c a b, X, W, sc, e, g, hsc, h => by
    unfold okE at h
    split at h <;> first | (cases h; done) | skip
    simp only [Bool.and_eq_true] at h
    obtain ⟨⟨h1, h2⟩, h3⟩ := h
    exact e_ite (t_ok g hsc h1).1 (e_ok g hsc h2) (e_ok g hsc h3)
  | .idx a i, X, W, sc, e, g, hsc, h => by
    unfold okE at h
    split at h <;> first | (cases h; done) | skip
    simp only [Bool.and_eq_true] at h
    obtain ⟨⟨h1, h2⟩, h3⟩ := h
    exact e_idx (e_ok g hsc h1) (e_ok g hsc h2) (plainIx_of h3)
  | .sl a lo hi, X, W, sc, e, g, hsc, h => by
    unfold okE at h
    split at h <;> first | (cases h; done) | skip
    simp only [Bool.and_eq_true] at h
    obtain ⟨⟨h1, h2⟩, h3⟩ := h
    exact e_sl (e_ok g hsc h1) (o_ok g hsc h2) (o_ok g hsc h3)
  | .rev a, X, W, sc, e, g, hsc, h => by
    unfold okE at h
    split at h <;> first | (cases h; done) | skip
    simp only [Bool.and_eq_true] at h
    obtain ⟨h1, h2⟩ := h
    have h1 := of_decide_eq_true h1
    subst h1
    exact e_rev (e_ok g hsc h2)
  | .call j es, X, W, sc, e, g, hsc, h => by
    unfold okE at h
    split at h <;> first | (cases h; done) | skip
    simp only [Bool.and_eq_true] at h
    obtain ⟨⟨h1, h2⟩, h3⟩ := h
    unfold fnX at h1
    simp only [Bool.and_eq_true] at h1
    obtain ⟨⟨h1, h4⟩, h5⟩ := h1
    split at h1
    · rename_i y n hy
      simp only [Bool.and_eq_true, decide_eq_true_eq] at h1
      obtain ⟨c, e1, e2, e3, e4⟩ := g.fs j y n hy
      refine e_call e3 g.gu e4 g.tk (by rw [e1]; exact h1.1) (by rw [e2]; exact h1.2) (gl_of hsc h4) h5 h2 (es_ok g hsc h3) fun ρ ks hk => ?_
      rw [evs_len hk, okEs_len h3]
    · cases h1
    simp only [Bool.and_eq_true] at h
    obtain ⟨h1, h2⟩ := h
    unfold fnX at h1
    simp only [Bool.and_eq_true] at h1
    obtain ⟨⟨h1, h4⟩, h5⟩ := h1
    split at h1
    · rename_i y n hy
      simp only [Bool.and_eq_true, decide_eq_true_eq] at h1
      obtain ⟨c, e1, e2, e3, e4⟩ := g.fs j y n hy
      cases es with
      | nil => exact e_call0 e3 g.gu e4 g.tk (by rw [e1]; exact h1.1) (by rw [e2]; exact h1.2.symm) (gl_of hsc h4) h5
      | cons _ _ => cases h2
    · cases h1
  | .bi b es, X, W, sc, e, g, hsc, h => by
    unfold okE at h
    split at h <;> first | (cases h; done) | skip
    simp only [Bool.and_eq_true] at h
    obtain ⟨⟨h1, h2⟩, h3⟩ := h
    obtain ⟨o1, o2, o3, o4⟩ := one_of g hsc h1
    exact e_bi g.calm g.gu g.un o1 o3 o2 o4 h2 (es_ok g hsc h3)
  | .me m a es, X, W, sc, e, g, hsc, h => by
    unfold okE at h
    split at h <;> first | (cases h; done) | skip
    simp only [Bool.and_eq_true] at h
    obtain ⟨⟨⟨⟨⟨⟨h1, h2⟩, h3⟩, h4⟩, h5⟩, h6⟩, h7⟩ := h
    exact e_me (of_decide_eq_true h1) h2 (of_decide_eq_true h3) h4 h5 (e_ok g hsc h6) (es_ok g hsc h7)
  | .tup es, X, W, sc, e, g, hsc, h => by
    unfold okE at h
    split at h <;> first | (cases h; done) | skip
    rw [Bool.and_eq_true] at h
    exact e_tup (es_ok g hsc h.2)
  | .list es, X, W, sc, e, g, hsc, h => by
    unfold okE at h
    split at h <;> first | (cases h; done) | skip
    rw [Bool.and_eq_true] at h
    exact e_list (es_ok g hsc h.2)
  | .isTy a t, X, W, sc, e, g, hsc, h => by
    unfold okE at h
    split at h <;> first | (cases h; done) | skip
    simp only [Bool.and_eq_true] at h
    obtain ⟨⟨⟨⟨h1, h2⟩, h3⟩, h4⟩, h5⟩ := h
    obtain ⟨o1, o2, o3, o4⟩ := one_of g hsc h1
    obtain ⟨p1, p2, p3, p4⟩ := one_of g hsc h2
    exact e_isTy o1 p1 o3 o2 o4 p3 p2 p4 h3 h4 (e_ok g hsc h5)
  | .comp p it cs el, X, W, sc, e, g, hsc, h => by
    unfold okE at h
    split at h <;> first | (cases h; done) | skip
    rename_i elt tg iter ifs as scope cpos
    simp only [Bool.and_eq_true] at h
    obtain ⟨⟨⟨⟨⟨⟨h1, h2⟩, h3⟩, h4⟩, h5⟩, h6⟩, h7⟩ := h
    have h1 := of_decide_eq_true h1
    subst h1
    have hv : (ownB cf.N p.slots).map (·.2) = p.slots := by
      unfold ownB; rw [List.map_map]; exact List.map_id _
    have hb := blkOk_by h4
    rw [← g.hN, ← hsc] at hb
    have gb : ∀ (s : Shared) (H : Hp) (D : Addr) (cl : List (Str × Addr)) (fp : List Addr), Good ec cf F C (X.blk s H scope (compEnvC scope cl D X.env) fp) Wn := fun s H D cl fp => g.blk
    have hsb : ∀ (s : Shared) (H : Hp) (D : Addr) (cl : List (Str × Addr)) (fp : List Addr), (X.blk s H scope (compEnvC scope cl D X.env) fp).env.scope = relS scope sc := fun s H D cl fp => by rw [← hsc]; rfl
    have q := pe_lc (X := X) (elt := elt) (tg := tg) (iter := iter) (ifs := ifs) (scope := scope) (pos := cpos) (own := ownB X.N p.slots) (wi := tI X.K ec W F C true it) (g := tP X.K p) (tt := tTs X.K ec Wn F C cs) (te := tE X.K ec Wn F C el) g.calm g.nd (i_ok g hsc h2) hb
      (fun s H D cl fp => p_ok (X := X.blk s H scope (compEnvC scope cl D X.env) fp) (cf := cf) (lv := some scope) g.calm g.nd g.hN (hsb s H D cl fp) (fun x hx => by
        unfold fnB at hx
        show (scope.names.lookup x == some .cell) = true
        rw [of_decide_eq_true hx]; rfl) h5)
      (fun s H D cl fp => ts_ok (gb s H D cl fp) (hsb s H D cl fp) h6) (fun s H D cl fp => e_ok (gb s H D cl fp) (hsb s H D cl fp) h7) (folded_of h3 _)
    rw [g.hN, hv] at q
    exact PE.imp q fun σ H Q ⟨ρ, B, Z, O, r, h⟩ => comp_core r h
theorem o_ok : ∀ {c : Ox} {X : Cx} {W : WX} {sc : Scope} {e : Option Expr}, Good ec cf F C X W → X.env.scope = sc → okO cf c sc e = true → PO X e (tO X.K ec W F C c)
  | .no, X, W, sc, e, g, hsc, h => by
    unfold okO at h
    cases e with
    | none => exact o_none
    | some e => cases h
  | .yes a, X, W, sc, e, g, hsc, h => by
    unfold okO at h
    split at h
    · exact o_some (e_ok g hsc h)
    · cases h
theorem t_ok : ∀ {c : Tx} {X : Cx} {W : WX} {sc : Scope} {e : Expr}, Good ec cf F C X W → X.env.scope = sc → okT cf c sc e = true → PT X e (tT X.K ec W F C c) ∧ ∀ op xs pos, e = .BoolOp op xs pos → PW X e (tT X.K ec W F C c)
  | .and a b, X, W, sc, e, g, hsc, h => by
    unfold okT at h
    split at h <;> first | (cases h; done) | skip
    · rw [Bool.and_eq_true] at h
      have q := t_and (pos := (by assumption)) (t_ok g hsc h.1).1 (pw_and1 (t_ok g hsc h.2).1)
      exact ⟨q.pt, fun _ _ _ _ => q⟩
    · rw [Bool.and_eq_true] at h
      have q := t_and (t_ok g hsc h.1).1 ((t_ok g hsc h.2).2 _ _ _ rfl)
      exact ⟨q.pt, fun _ _ _ _ => q⟩
  | .or a b, X, W, sc, e, g, hsc, h => by
    unfold okT at h
    split at h <;> first | (cases h; done) | skip
    · rw [Bool.and_eq_true] at h
      have q := t_or (pos := (by assumption)) (t_ok g hsc h.1).1 (pw_or1 (t_ok g hsc h.2).1)
      exact ⟨q.pt, fun _ _ _ _ => q⟩
    · rw [Bool.and_eq_true] at h
      have q := t_or (t_ok g hsc h.1).1 ((t_ok g hsc h.2).2 _ _ _ rfl)
      exact ⟨q.pt, fun _ _ _ _ => q⟩
  | .not a, X, W, sc, e, g, hsc, h => by
    unfold okT at h
    split at h <;> first | (cases h; done) | skip
    exact ⟨t_not (t_ok g hsc h).1, fun _ _ _ e => by cases e⟩
  | .cmp o a b, X, W, sc, e, g, hsc, h => by
    unfold okT at h
    split at h <;> first | (cases h; done) | skip
    simp only [Bool.and_eq_true, Bool.not_eq_true'] at h
    obtain ⟨⟨⟨h1, h2⟩, h3⟩, h4⟩ := h
    have h1 := of_decide_eq_true h1
    subst h1
    exact ⟨t_cmp g.un (e_ok g hsc h2) (e_ok g hsc h3) h4, fun _ _ _ e => by cases e⟩
  | .chain o o' a b c, X, W, sc, e, g, hsc, h => by
    unfold okT at h
    split at h <;> first | (cases h; done) | skip
    simp only [Bool.and_eq_true, Bool.not_eq_true'] at h
    obtain ⟨⟨⟨⟨⟨h1, h1'⟩, h2⟩, h3⟩, h4⟩, h5⟩ := h
    have h1 := of_decide_eq_true h1
    have h1' := of_decide_eq_true h1'
    subst h1
    subst h1'
    exact ⟨t_chain g.un (e_ok g hsc h2) (e_ok g hsc h3) (e_ok g hsc h4) h5, fun _ _ _ e => by cases e⟩
  | .val c, X, W, sc, e, g, hsc, h => by
    unfold okT at h
    rw [Bool.and_eq_true] at h
    exact ⟨t_truth (e_ok g hsc h.1) h.2, fun op xs pos q => by subst q; cases h.2⟩
theorem i_ok : ∀ {c : Ix} {X : Cx} {W : WX} {sc : Scope} {bor : Bool} {tg e : Expr}, Good ec cf F C X W → X.env.scope = sc → okI cf c sc tg e = true → PI X tg e (tI X.K ec W F C bor c)
  | .rng1 a, X, W, sc, bor, tg, e, g, hsc, h => by
    unfold okI at h
    split at h <;> first | (cases h; done) | skip
    simp only [Bool.and_eq_true] at h
    obtain ⟨⟨h1, h2⟩, h3⟩ := h
    obtain ⟨o1, o2, o3, o4⟩ := one_of g hsc h1
    exact i_rng1 o1 o3 o2 h2 (e_ok g hsc h3)
  | .rng2 a b, X, W, sc, bor, tg, e, g, hsc, h => by
    unfold okI at h
    split at h <;> first | (cases h; done) | skip
    simp only [Bool.and_eq_true] at h
    obtain ⟨⟨⟨⟨h1, h2⟩, h3⟩, h4⟩, h5⟩ := h
    obtain ⟨o1, o2, o3, o4⟩ := one_of g hsc h1
    exact i_rng2 o1 o3 o2 h2 h3 (e_ok g hsc h4) (e_ok g hsc h5)
  | .rng3 a b c, X, W, sc, bor, tg, e, g, hsc, h => by
    unfold okI at h
    split at h <;> first | (cases h; done) | skip
    simp only [Bool.and_eq_true] at h
    obtain ⟨⟨⟨⟨⟨⟨h1, h2⟩, h3⟩, h4⟩, h5⟩, h6⟩, h7⟩ := h
    obtain ⟨o1, o2, o3, o4⟩ := one_of g hsc h1
    exact i_rng3 o1 o3 o2 h2 h3 h4 (e_ok g hsc h5) (e_ok g hsc h6) (e_ok g hsc h7)
  | .enum a, X, W, sc, bor, tg, e, g, hsc, h => by
    unfold okI at h
    split at h <;> first | (cases h; done) | skip
    simp only [Bool.and_eq_true] at h
    obtain ⟨⟨⟨h1, h2⟩, h3⟩, h4⟩ := h
    obtain ⟨o1, o2, o3, o4⟩ := one_of g hsc h1
    exact i_enum o1 o3 o2 h2 h3 (e_ok g hsc h4)
  | .zip a b, X, W, sc, bor, tg, e, g, hsc, h => by
    unfold okI at h
    split at h <;> first | (cases h; done) | skip
    simp only [Bool.and_eq_true] at h
    obtain ⟨⟨⟨⟨⟨h1, h2⟩, h3⟩, h4⟩, h5⟩, h6⟩ := h
    obtain ⟨o1, o2, o3, o4⟩ := one_of g hsc h1
    exact i_zip o1 o3 o2 h2 h3 h4 (e_ok g hsc h5) (e_ok g hsc h6)
  | .val c, X, W, sc, bor, tg, e, g, hsc, h => by
    unfold okI at h
    exact i_ex (e_ok g hsc h)
theorem es_ok : ∀ {cs : List Ex} {X : Cx} {W : WX} {sc : Scope} {es : List Expr}, Good ec cf F C X W → X.env.scope = sc → okEs cf cs sc es = true → PA X es (tEs X.K ec W F C cs)
  | [], X, W, sc, es, g, hsc, h => by
    unfold okEs at h
    cases es with
    | nil => exact a_nil
    | cons e es => cases h
  | c :: cs, X, W, sc, es, g, hsc, h => by
    unfold okEs at h
    split at h
    · simp only [Bool.and_eq_true] at h
      exact a_cons h.1.1 (e_ok g hsc h.1.2) (es_ok g hsc h.2)
    · cases h
theorem ts_ok : ∀ {cs : List Tx} {X : Cx} {W : WX} {sc : Scope} {es : List Expr}, Good ec cf F C X W → X.env.scope = sc → okTs cf cs sc es = true → PTs X es (tTs X.K ec W F C cs)
  | [], X, W, sc, es, g, hsc, h => by
    unfold okTs at h
    cases es with
    | nil => exact ts_nil
    | cons e es => cases h
  | c :: cs, X, W, sc, es, g, hsc, h => by
    unfold okTs at h
    split at h
    · rw [Bool.and_eq_true] at h
      cases cs with
      | nil => exact ts_one (t_ok g hsc h.1).1
      | cons c' cs => cases h.2
    · cases h
end
end
end Px

/-! Px15: the code of statements, and what it computes. -/
namespace Px
open PySem PySem.Spec L2

/-- what an except suite may say of the error it holds -/
inductive Hx where
  | lit (d : D) | isIn (c : String) | isAny (cs : List String) | fld (f : String) | and (a b : Hx) | or (a b : Hx) | not (a : Hx) | ite (c a b : Hx) | tup (es : List Hx)
inductive Hs where
  | ret (e : Hx) | ifs (c : Hx) (a b : List Hs) | set (i : Nat) (e : Hx) | pass | brk | cont
/-- a statement -/
inductive Cm where
  | pass | brk | cont
  | set (i : Nat) (e : Ex) | mov (i j : Nat) | unp (p : Pat) (e : Ex) | par (i j : Nat) (a b : Ex) | aug (i : Nat) (o : Operator) (e : Ex)
  | app (i : Nat) (e : Ex) | ext (i : Nat) (e : Ex) | pop (i : Nat) | popS (j i : Nat) | popI (j i : Nat) (e : Ex) | rev (i : Nat) | ins (i : Nat) (a e : Ex) | put (i : Nat) (x e : Ex) | augAt (i : Nat) (x : Ex) (o : Operator) (e : Ex)
  | exp (e : Ex)
  | ifs (c : Tx) (a b : List Cm) | whl (n : Nat) (c : Tx) (b : List Cm) | for (p : Pat) (it : Ix) (b els : List Cm)
  | ret (e : Ex) | retn | retv (i : Nat) | raise (x : String)
  | try (n : Option Nat) (b : List Cm) (hs : List (String × List Hs))
  | frz (i : Nat)

inductive Rs where
  | nx (ρ : Env) | ret (k : Nat) (d : D) | bk (ρ : Env) | ct (ρ : Env) | exc (x : String) (p : List (String × Int)) (ρ : Env) | stuck
def liftR {α : Type} (r : R α) (ρ : Env) (f : α → Rs) : Rs := match r with
  | .ok a => f a
  | .exc x p => .exc x p ρ
  | .stuck => .stuck
def Rs.seq (r : Rs) (f : Env → Rs) : Rs := match r with
  | .nx ρ => f ρ
  | r => r
def setR (i k : Nat) (d : D) (ρ : Env) : Rs := if i < ρ.length then .nx (ρ.set i (some (k, d))) else .stuck
/-- the list that slot i owns -/
def lstAt (ρ : Env) (i : Nat) (f : Nat → List D → Rs) : Rs := match ρ[i]? with
  | some (some (k + 1, .lst xs)) => f k xs
  | _ => .stuck
abbrev Tab := List (String × List String)
def isA (T : Tab) (x c : String) : Option Bool := (T.lookup x).map (·.contains c)
mutual
def hev (T : Tab) (x : String) (p : List (String × Int)) : Hx → Option D
  | .lit d => some d
  | .isIn c => if p.isEmpty then (isA T x c).map D.bl else none
  | .isAny cs => if p.isEmpty then (T.lookup x).map fun l => D.bl (cs.any fun c => l.contains c) else none
  | .fld f => (p.lookup f).map D.int
  | .and a b => match hev T x p a with
    | some (.bl true) => hev T x p b
    | some (.bl false) => some (.bl false)
    | _ => none
  | .or a b => match hev T x p a with
    | some (.bl true) => some (.bl true)
    | some (.bl false) => hev T x p b
    | _ => none
  | .not a => match hev T x p a with
    | some (.bl b) => some (.bl (!b))
    | _ => none
  | .ite c a b => match hev T x p c with
    | some (.bl true) => hev T x p a
    | some (.bl false) => hev T x p b
    | _ => none
  | .tup es => (hevs T x p es).map D.tup
def hevs (T : Tab) (x : String) (p : List (String × Int)) : List Hx → Option (List D)
  | [] => some []
  | e :: es => match hev T x p e, hevs T x p es with
    | some d, some ds => some (d :: ds)
    | _, _ => none
end
mutual
def hrun (T : Tab) (x : String) (p : List (String × Int)) : Hs → Env → Rs
  | .ret e, _ => match hev T x p e with
    | some d => if d.cont then .stuck else .ret 9 d
    | none => .stuck
  | .ifs c a b, ρ => match hev T x p c with
    | some (.bl true) => hruns T x p a ρ
    | some (.bl false) => hruns T x p b ρ
    | _ => .stuck
  | .set i e, ρ => match hev T x p e with
    | some d => if d.cont then .stuck else setR i 9 d ρ
    | none => .stuck
  | .pass, ρ => .nx ρ
  | .brk, ρ => .bk ρ
  | .cont, ρ => .ct ρ
def hruns (T : Tab) (x : String) (p : List (String × Int)) : List Hs → Env → Rs
  | [], ρ => .nx ρ
  | c :: cs, ρ => (hrun T x p c ρ).seq (hruns T x p cs)
end
def wipe1 (n : Option Nat) (ρ : Env) : Env := match n with
  | some i => ρ.set i none
  | none => ρ
def Rs.wipe (n : Option Nat) : Rs → Rs
  | .nx ρ => .nx (wipe1 n ρ)
  | .bk ρ => .bk (wipe1 n ρ)
  | .ct ρ => .ct (wipe1 n ρ)
  | r => r
def lenOk (n : Option Nat) (ρ : Env) : Bool := match n with
  | some i => decide (i < ρ.length)
  | none => true
/-- the clauses of a try, one after the other -/
def handle (T : Tab) (n : Option Nat) (x : String) (p : List (String × Int)) (ρ : Env) : List (String × List Hs) → Rs
  | [] => .exc x p ρ
  | (c, su) :: r => match isA T x c with
    | some true => if lenOk n ρ then (hruns T x p su (wipe1 n ρ)).wipe n else .stuck
    | some false => handle T n x p ρ r
    | none => .stuck
def loopW (c : Env → R Bool) (b : Env → Rs) : Nat → Env → Rs
  | 0, _ => .stuck
  | n + 1, ρ => liftR (c ρ) ρ fun t => if t then (match b ρ with
      | .nx ρ' => loopW c b n ρ'
      | .ct ρ' => loopW c b n ρ'
      | .bk ρ' => .nx ρ'
      | r => r) else .nx ρ
def loopF (p : Pat) (b e : Env → Rs) : List D → Env → Rs
  | [], ρ => e ρ
  | d :: ds, ρ => match bindP p d ρ with
    | .ok ρ1 => (match b ρ1 with
      | .nx ρ' => loopF p b e ds ρ'
      | .ct ρ' => loopF p b e ds ρ'
      | .bk ρ' => .nx ρ'
      | r => r)
    | _ => .stuck
/-- the depth that a value has in a list of depth k -/
def inD (k k2 : Nat) : Nat := min k k2
section
variable (F : List Fn) (C : List D) (T : Tab)
mutual
def run1 : Cm → Env → Rs
  | .pass, ρ => .nx ρ
  | .brk, ρ => .bk ρ
  | .cont, ρ => .ct ρ
  | .set i e, ρ => liftR (ev F C e ρ) ρ fun k => liftR (needV k) ρ fun v => setR i v.1 v.2 ρ
  | .mov i j, ρ => match ρ[j]? with
    | some (some (k, d)) => setR i k d (ρ.set j none)
    | _ => .stuck
  | .unp p e, ρ => liftR (ev F C e ρ) ρ fun k => liftR (needV k) ρ fun v => liftR (bindP p v.2 ρ) ρ fun ρ' => .nx ρ'
  | .par i j a b, ρ => if i = j then .stuck else liftR (ev F C a ρ) ρ fun k => liftR (ev F C b ρ) ρ fun l => liftR (needV k) ρ fun v => liftR (needV l) ρ fun w => if v.2.cont || w.2.cont then .stuck else (setR i v.1 v.2 ρ).seq (setR j w.1 w.2)
  | .aug i o e, ρ => match ρ[i]? with
    | some (some (_, .int a)) => liftR (ev F C e ρ) ρ fun k => (match o, k with
      | .Add, (_, .int b) => setR i 9 (.int (a + b)) ρ
      | .Sub, (_, .int b) => setR i 9 (.int (a - b)) ρ
      | _, _ => .stuck)
    | _ => .stuck
  | .app i e, ρ => lstAt ρ i fun j xs => liftR (ev F C e ρ) ρ fun k => liftR (needV k) ρ fun v => if xs.length < line then setR i (min j v.1 + 1) (.lst (xs ++ [v.2])) ρ else .stuck
  | .ext i e, ρ => lstAt ρ i fun j xs => liftR (ev F C e ρ) ρ fun k => match k with
    | (some (l + 1), .lst ys) => if xs.length + ys.length ≤ line then setR i (min j l + 1) (.lst (xs ++ ys)) ρ else .stuck
    | _ => .stuck
  | .pop i, ρ => lstAt ρ i fun j xs => if xs.isEmpty then .stuck else setR i (j + 1) (.lst xs.dropLast) ρ
  | .popS t i, ρ => lstAt ρ i fun j xs => match xs[xs.length - 1]? with
    | some d => if t = i then .stuck else (setR i (j + 1) (.lst xs.dropLast) ρ).seq (setR t (if d.cont then j else 9) d)
    | none => .stuck
  | .popI t i e, ρ => lstAt ρ i fun j xs => liftR (ev F C e ρ) ρ fun k => (match k with
    | (_, .int n) => if 9223372036854775808 ≤ n ∨ n < -9223372036854775808 then .stuck else (match ixN xs.length n with
      | some m => (match xs[m]? with
        | some d => if t = i then .stuck else (setR i (j + 1) (.lst (xs.eraseIdx m)) ρ).seq (setR t (if d.cont then j else 9) d)
        | none => .stuck)
      | none => .stuck)
    | _ => .stuck)
  | .rev i, ρ => lstAt ρ i fun j xs => setR i (j + 1) (.lst xs.reverse) ρ
  | .ins i a e, ρ => lstAt ρ i fun j xs => liftR (ev F C a ρ) ρ fun a => liftR (ev F C e ρ) ρ fun k => liftR (needV k) ρ fun v => (match a with
    | (_, .int n) => if xs.length < line ∧ 0 ≤ n ∧ n < 9223372036854775808 then setR i (min j v.1 + 1) (.lst (xs.take n.toNat ++ [v.2] ++ xs.drop n.toNat)) ρ else .stuck
    | _ => .stuck)
  | .put i x e, ρ => liftR (ev F C e ρ) ρ fun k => liftR (needV k) ρ fun v => lstAt ρ i fun j xs => liftR (ev F C x ρ) ρ fun y => (match y with
    | (_, .int n) => (match ixN xs.length n with
      | some m => setR i (min j v.1 + 1) (.lst (xs.set m v.2)) ρ
      | none => .stuck)
    | _ => .stuck)
  | .augAt i x o e, ρ => lstAt ρ i fun j xs => liftR (ev F C x ρ) ρ fun y => (match y with
    | (_, .int n) => if 0 ≤ n then (match xs[n.toNat]? with
        | some (.int a) => liftR (ev F C e ρ) ρ fun k => (match k with
          | (_, .int b) => setR i (min j 9 + 1) (.lst (xs.set n.toNat (.int (if o = .Add then a + b else a - b)))) ρ
          | _ => .stuck)
        | _ => .stuck) else .stuck
    | _ => .stuck)
  | .exp e, ρ => liftR (ev F C e ρ) ρ fun _ => .nx ρ
  | .ifs c a b, ρ => liftR (tst F C c ρ) ρ fun t => if t then runs a ρ else runs b ρ
  | .whl n c b, ρ => loopW (tst F C c) (runs b) n ρ
  | .for p it b els, ρ => liftR (evI F C false it ρ) ρ fun xs => loopF p (runs b) (runs els) xs ρ
  | .ret e, ρ => liftR (ev F C e ρ) ρ fun k => liftR (needV k) ρ fun v => .ret v.1 v.2
  | .retn, _ => .ret 9 .non
  | .retv i, ρ => match ρ[i]? with
    | some (some (k, d)) => .ret k d
    | _ => .stuck
  | .raise x, ρ => .exc x [] ρ
  | .try n b hs, ρ => match runs b ρ with
    | .exc x p ρ' => handle T n x p ρ' hs
    | r => r
  | .frz i, ρ => match ρ[i]? with
    | some (some (_, d)) => if d.cont then setR i 0 d ρ else .nx ρ
    | _ => .stuck
def runs : List Cm → Env → Rs
  | [], ρ => .nx ρ
  | c :: cs, ρ => (run1 c ρ).seq (runs cs)
end
end
/-- a def: its parameters first among the slots -/
def runFd (F : List Fn) (C : List D) (T : Tab) (np n : Nat) (code : List Cm) : Fn := fun ds => if ds.length = np then (match runs F C T code (ds.map (fun d => some ((kd 0 d).1.getD 0, d)) ++ List.replicate (n - np) none) with
  | .ret k d => .ok (k, d)
  | .nx _ => .ok (9, .non)
  | .exc x p _ => .exc x p
  | _ => .stuck) else .stuck
end Px

/-! Px16: readings of statements; what is mutated. -/
namespace Px
open PySem PySem.Spec L2
section
variable {K : PySem.W.Frag} {ec : EC} {W : WX} {F : List Fn} {C : List D} {T : Tab} {X : Cx} {pos : Pos}
variable {σ σ' : L2.St} {H H' H0 H1 H2 : Hp} {A : AS} {ρ ρ' : Env} {B B' G : Hp} {Z P : AS} {O : Nat → AS} {En : Ends}
def post (K : PySem.W.Frag) (ec : EC) (W : WX) (B : Hp) (Z : AS) (En : Ends) : Rs → Prop
  | .nx ρ' => ∀ σ' H' O', Rel K B Z O' σ' H' ρ' → En.nx σ' H'
  | .bk ρ' => ∀ σ' H' O', Rel K B Z O' σ' H' ρ' → En.bk σ' H'
  | .ct ρ' => ∀ σ' H' O', Rel K B Z O' σ' H' ρ' → En.ct σ' H'
  | .ret k d => ∀ v H', Same B H' → RetR K B H' Z k d v → En.rt v H'
  | .exc x p ρ' => ∀ σ' H' O' cls dd, Rel K B Z O' σ' H' ρ' → IsExc ec x p cls dd H' → W cls dd σ' H'
  | .stuck => False
def tS (K : PySem.W.Frag) (ec : EC) (W : WX) (F : List Fn) (C : List D) (T : Tab) (c : Cm) : TS := fun En σ H => ∃ (ρ : Env) (B : Hp) (Z : AS) (O : Nat → AS), Rel K B Z O σ H ρ ∧ post K ec W B Z En (run1 F C T c ρ)
def tSs (K : PySem.W.Frag) (ec : EC) (W : WX) (F : List Fn) (C : List D) (T : Tab) (c : List Cm) : TS := fun En σ H => ∃ (ρ : Env) (B : Hp) (Z : AS) (O : Nat → AS), Rel K B Z O σ H ρ ∧ post K ec W B Z En (runs F C T c ρ)
theorem PS.imp {st : Stmt} {t t' : TS} (h : PS X st t) (w : ∀ D σ H, t' D σ H → t D σ H) : PS X st t' := ⟨fun pins s σ H D I q => h.run pins s σ H D I (w D σ H q)⟩
theorem PSs.imp {st : List Stmt} {t t' : TS} (h : PSs X st t) (w : ∀ D σ H, t' D σ H → t D σ H) : PSs X st t' := ⟨fun pins s σ H D I q => h.run pins s σ H D I (w D σ H q)⟩
theorem post_lift {α : Type} {r : R α} {f : α → Rs} (rel : Rel K B Z O σ H ρ) (h : post K ec W B Z En (liftR r ρ f)) : aft ec W σ H r (fun a => post K ec W B Z En (f a)) := by
  cases r with
  | ok a => exact h
  | exc x p => exact fun cls d H' s e => h σ H' O cls d (rel.mono s) e
  | stuck => exact h
theorem post_need {k : Kd} {f : Nat × D → Rs} (h : post K ec W B Z En (liftR (needV k) ρ f)) : ∃ j d, k = (some j, d) ∧ post K ec W B Z En (f (j, d)) := by
  obtain ⟨o, d⟩ := k
  cases o with
  | none => exact h.elim
  | some j => exact ⟨j, d, rfl, h⟩
theorem post_set {i k : Nat} {d : D} (h : post K ec W B Z En (setR i k d ρ)) : i < ρ.length ∧ ∀ σ' H' O', Rel K B Z O' σ' H' (ρ.set i (some (k, d))) → En.nx σ' H' := by
  unfold setR at h
  split at h
  · exact ⟨by assumption, h⟩
  · exact h.elim
theorem post_lst {i : Nat} {f : Nat → List D → Rs} (h : post K ec W B Z En (lstAt ρ i f)) : ∃ k xs, ρ[i]? = some (some (k + 1, .lst xs)) ∧ post K ec W B Z En (f k xs) := by
  unfold lstAt at h
  split at h
  · exact ⟨_, _, by assumption, h⟩
  · exact h.elim
theorem post_seq {r : Rs} {f : Env → Rs} (h : post K ec W B Z En (r.seq f)) : post K ec W B Z { En with nx := fun σ' H' => ∃ ρ' O', Rel K B Z O' σ' H' ρ' ∧ post K ec W B Z En (f ρ') } r := by
  cases r with
  | nx ρ' => exact fun σ' H' O' rel => ⟨ρ', O', rel, h⟩
  | bk ρ' => exact h
  | ct ρ' => exact h
  | ret k d => exact h
  | exc x p ρ' => exact h
  | stuck => exact h
theorem s_nil : PSs X [] (tSs X.K ec W F C T []) := PSs.imp pss_nil fun En σ H ⟨ρ, B, Z, O, r, h⟩ => by
  unfold runs at h
  exact (show ∀ σ' H' O', Rel X.K B Z O' σ' H' ρ → En.nx σ' H' from h) σ H O r
theorem s_cons {c : Cm} {cs : List Cm} {st : Stmt} {sts : List Stmt} (h1 : PS X st (tS X.K ec W F C T c)) (h2 : PSs X sts (tSs X.K ec W F C T cs)) : PSs X (st :: sts) (tSs X.K ec W F C T (c :: cs)) :=
  PSs.imp (pss_cons h1 h2) fun En σ H ⟨ρ, B, Z, O, r, h⟩ => by
    unfold runs at h
    have q := post_seq h
    refine ⟨ρ, B, Z, O, r, ?_⟩
    cases e : run1 F C T c ρ with
    | nx ρ' => rw [e] at q; exact fun σ' H' O' rel => let ⟨ρ2, O2, rel2, p2⟩ := q σ' H' O' rel; ⟨ρ2, B, Z, O2, rel2, p2⟩
    | bk ρ' => rw [e] at q; exact q
    | ct ρ' => rw [e] at q; exact q
    | ret k d => rw [e] at q; exact q
    | exc x p ρ' => rw [e] at q; exact q
    | stuck => rw [e] at q; exact q
/-! ### values go into slots -/
theorem fresh_of (r : Rel K B Z O σ H ρ) (f : ∀ x, P x → H x = none) : ∀ x, P x → B x = none ∧ ¬ Z x := fun x p => ⟨r.base.free (f x p), fun z => (r.zm x z).ne (f x p)⟩
/-- a value of an expression goes into slot i -/
theorem Rel.store {i k : Nat} {d : D} {v : V} (r : Rel K B Z O σ H ρ) (s : Same H H1) (res : Res K H H1 (ZO Z O) (some k, d) v) (hi : i < ρ.length) : ∃ O', Rel K B Z O' (σ.set i (some v)) H1 (ρ.set i (some (k, d))) := by
  obtain ⟨P, f, w⟩ := res
  exact ⟨_, (r.past s f w).put hi (fresh_of r f) w⟩
/-! ### slot i forgets what it owns, its value stands frozen -/
theorem Rel.freeze {i k : Nat} {d : D} (r : Rel K B Z O σ H ρ) (e : ρ[i]? = some (some (k, d))) : ∃ O', Rel K B Z O' σ H (ρ.set i (some (0, d))) := by
  obtain ⟨v, ev, w⟩ := r.own i k d e
  obtain ⟨O', s, g⟩ := Own.lower w 0 (Nat.zero_le _)
  have hi : i < ρ.length := (List.getElem?_eq_some_iff.mp e).1
  have sub : ∀ j x, setO O i O' j x → O j x := fun j x h => by
    by_cases e : j = i
    · subst e; rw [setO_same] at h; exact s x h
    · rw [setO_ne e] at h; exact h
  have subZ : ∀ x, ZO Z (setO O i O') x → ZO Z O x := fun x h => h.elim .inl fun ⟨j, h⟩ => .inr ⟨j, sub j x h⟩
  refine ⟨setO O i O', by rw [List.length_set]; exact r.len, r.zm, fun j j' x h1 h2 => r.dj j j' x (sub j x h1) (sub j' x h2), fun j x h => r.fr j x (sub j x h), r.base, fun j k' d' q => ?_, fun j h x hx => ?_⟩
  · by_cases ej : j = i
    · subst ej
      rw [List.getElem?_set_self hi] at q
      cases q
      refine ⟨v, ev, ?_⟩
      rw [setO_same]
      refine g _ subZ fun x z o => ?_
      rcases z with z | ⟨j', z⟩
      · exact absurd z (r.fr j x o).1
      · have := r.dj j' j x (sub j' x z) o
        subst this
        rw [setO_same] at z; exact z
    · rw [List.getElem?_set_ne (Ne.symm ej)] at q
      obtain ⟨u, e1, w'⟩ := r.own j k' d' q
      refine ⟨u, e1, ?_⟩
      rw [setO_ne ej]
      exact w'.mono (Same.refl _) fun x z => .inl (subZ x z)
  · by_cases ej : j = i
    · subst ej
      exact absurd (List.getElem?_set_self hi) (h 0 d)
    · exact r.non j (fun k' d' q => h k' d' (by rw [List.getElem?_set_ne (Ne.symm ej)]; exact q)) x (sub j x hx)
/-! ### what slot j holds goes into slot i -/
theorem set_self {α : Type} : ∀ {l : List α} {i : Nat} {a : α}, l[i]? = some a → l.set i a = l := fun {l i a} h => by
  apply List.ext_getElem?
  intro j
  by_cases e : i = j
  · subst e; rw [List.getElem?_set_self (List.getElem?_eq_some_iff.mp h).1, h]
  · rw [List.getElem?_set_ne e]
theorem Rel.move {i j k : Nat} {d : D} {v : V} (r : Rel K B Z O σ H ρ) (e : ρ[j]? = some (some (k, d))) (ev : σ[j]? = some (some v)) (hi : i < ρ.length) : ∃ O', Rel K B Z O' (σ.set i (some v)) H ((ρ.set j none).set i (some (k, d))) := by
  obtain ⟨v', ev', w⟩ := r.own j k d e
  rw [ev] at ev'; cases ev'
  have q := r.dropZ (i := j) (o := some v)
  rw [set_self ev] at q
  refine ⟨_, q.put (by rw [List.length_set]; exact hi) (fun x o => ⟨(r.fr j x o).2, (r.fr j x o).1⟩) (w.mono (Same.refl _) fun x z => .inl ?_)⟩
  rcases z with (z | ⟨j', z⟩) | z
  · exact .inl z
  · by_cases e : j' = j
    · subst e; rw [setO_same] at z; exact z.elim
    · rw [setO_ne e] at z; exact .inr ⟨j', z⟩
  · exact .inr ⟨j, z⟩
/-! ### a list that slot i owns changes -/
theorem Rel.lstAt {i k : Nat} {xs : List D} (r : Rel K B Z O σ H ρ) (e : ρ[i]? = some (some (k + 1, .lst xs))) : ∃ a vs O1, σ[i]? = some (some (.ref a)) ∧ H a = some (.lst vs) ∧ (∀ x, O i x ↔ x = a ∨ O1 x) ∧ ¬ O1 a ∧ Owns (Own K H (ZO Z O) k) xs vs O1 := by
  obtain ⟨v, ev, w⟩ := r.own i _ _ e
  unfold Own at w
  obtain ⟨a, vs, O1, e1, e2, e3, e4, q⟩ := w
  subst e1
  exact ⟨a, vs, O1, ev, e2, e3, e4, q⟩
theorem Rel.mutL {i k k' : Nat} {xs xs' : List D} {a : Addr} {vs vs' : List V} {O1 O2 : AS} (r : Rel K B (fun x => Z x ∨ P x) O σ H ρ) (hP : ∀ x, P x → B x = none ∧ ¬ Z x) (e : ρ[i]? = some (some (k, .lst xs))) (ea : σ[i]? = some (some (.ref a))) (eH : H a = some (.lst vs)) (eO : ∀ x, O i x ↔ x = a ∨ O1 x) (na : ¬ O1 a)
    (sO : ∀ x, O2 x → O1 x ∨ P x) (q : Owns (Own K H (ZO Z (setO O i fun x => x = a ∨ O2 x)) k') xs' vs' O2) : Rel K B Z (setO O i fun x => x = a ∨ O2 x) σ (upd H a (.lst vs')) (ρ.set i (some (k' + 1, .lst xs'))) := by
  have hi : i < ρ.length := (List.getElem?_eq_some_iff.mp e).1
  have oa : O i a := (eO a).mpr (.inl rfl)
  have sub : ∀ j x, setO O i (fun x => x = a ∨ O2 x) j x → O j x ∨ (j = i ∧ P x) := fun j x h => by
    by_cases ej : j = i
    · subst ej; rw [setO_same] at h
      rcases h with h | h
      · exact .inl ((eO x).mpr (.inl h))
      · rcases sO x h with h | h
        · exact .inl ((eO x).mpr (.inr h))
        · exact .inr ⟨rfl, h⟩
    · rw [setO_ne ej] at h; exact .inl h
  have up : ∀ x, IsM H x → IsM (upd H a (.lst vs')) x := fun x m => by
    by_cases ex : x = a
    · subst ex; exact .inl ⟨_, upd_same⟩
    · rcases m with ⟨u, m⟩ | ⟨u, m⟩
      · exact .inl ⟨u, by rw [upd_ne ex]; exact m⟩
      · exact .inr ⟨u, by rw [upd_ne ex]; exact m⟩
  have nP : ¬ P a := fun p => (r.fr i a oa).1 (.inr p)
  have n2 : ¬ O2 a := fun h => (sO a h).elim na nP
  have aIn : ZO Z (setO O i fun x => x = a ∨ O2 x) a := .inr ⟨i, by rw [setO_same]; exact .inl rfl⟩
  refine ⟨by rw [List.length_set]; exact r.len, fun x z => up x (r.zm x (.inl z)), ?_, ?_, ?_, ?_, ?_⟩
  · intro j j' x h1 h2
    rcases sub j x h1 with h1 | ⟨e1, p1⟩ <;> rcases sub j' x h2 with h2 | ⟨e2, p2⟩
    · exact r.dj j j' x h1 h2
    · exact absurd (.inr p2) (r.fr j x h1).1
    · exact absurd (.inr p1) (r.fr j' x h2).1
    · rw [e1, e2]
  · intro j x h
    rcases sub j x h with h | ⟨_, p⟩
    · exact ⟨fun z => (r.fr j x h).1 (.inl z), (r.fr j x h).2⟩
    · exact ⟨(hP x p).2, (hP x p).1⟩
  · intro b o eb
    have : b ≠ a := fun h => by subst h; rw [(r.fr i b oa).2] at eb; cases eb
    rw [upd_ne this]; exact r.base b o eb
  · intro j kk d eq
    by_cases ej : j = i
    · subst ej
      rw [List.getElem?_set_self hi] at eq
      cases eq
      refine ⟨_, ea, ?_⟩
      rw [setO_same]
      unfold Own
      exact ⟨a, vs', O2, rfl, upd_same, fun x => Iff.rfl, n2, q.impIn fun d m v O3 s w => w.upd aIn fun z => n2 (s a z)⟩
    · rw [List.getElem?_set_ne (Ne.symm ej)] at eq
      obtain ⟨u, e1, w⟩ := r.own j kk d eq
      refine ⟨u, e1, ?_⟩
      rw [setO_ne ej]
      have na' : ¬ O j a := fun h => ej (r.dj j i a h oa)
      refine (w.mono (Same.refl _) fun x z => .inl ?_).upd aIn na'
      rcases z with z | ⟨j', z⟩
      · exact .inl (.inl z)
      · rcases sub j' x z with z | ⟨_, p⟩
        · exact .inr ⟨j', z⟩
        · exact .inl (.inr p)
  · intro j h x hx
    by_cases ej : j = i
    · subst ej
      exact absurd (List.getElem?_set_self hi) (h _ _)
    · rw [setO_ne ej] at hx
      exact r.non j (fun k' d' q => h k' d' (by rw [List.getElem?_set_ne (Ne.symm ej)]; exact q)) x hx
/-- some of its things go, some new ones come -/
theorem Rel.mix {i k l : Nat} {xs ys xs' : List D} {a : Addr} {vs us vs' : List V} {O1 : AS} (r : Rel K B (fun x => Z x ∨ P x) O σ H ρ) (hP : ∀ x, P x → B x = none ∧ ¬ Z x) (e : ρ[i]? = some (some (k + 1, .lst xs))) (ea : σ[i]? = some (some (.ref a))) (eH : H a = some (.lst vs)) (eO : ∀ x, O i x ↔ x = a ∨ O1 x) (na : ¬ O1 a)
    (q : Owns (Own K H (ZO (fun x => Z x ∨ P x) O) k) xs vs O1) (q2 : Owns (Own K H (ZO (fun x => Z x ∨ P x) O) l) ys us P)
    (hG : ∀ (R : D → V → AS → Prop) (O1 P1 : AS), (∀ x, O1 x → ¬ P1 x) → Owns R xs vs O1 → Owns R ys us P1 → ∃ O2 : AS, (∀ x, O2 x → O1 x ∨ P1 x) ∧ Owns R xs' vs' O2) : ∃ O', Rel K B Z O' σ (upd H a (.lst vs')) (ρ.set i (some (min k l + 1, .lst xs'))) := by
  obtain ⟨O3, s3, g3⟩ := owns_lower q (min k l) (Nat.min_le_left _ _)
  obtain ⟨P3, t3, h3⟩ := owns_lower q2 (min k l) (Nat.min_le_right _ _)
  have dis : ∀ x, O1 x → ¬ P x := fun x o p => (r.fr i x ((eO x).mpr (.inr o))).1 (.inr p)
  let A1 : AS := ZO Z (setO O i fun x => x = a ∨ O3 x ∨ P3 x)
  have inA : ∀ x, A1 x → ZO (fun x => Z x ∨ P x) O x := by
    rintro x (z | ⟨j, z⟩)
    · exact .inl (.inl z)
    · by_cases ej : j = i
      · subst ej; rw [setO_same] at z
        rcases z with z | z | z
        · exact .inr ⟨j, (eO x).mpr (.inl z)⟩
        · exact .inr ⟨j, (eO x).mpr (.inr (s3 x z))⟩
        · exact .inl (.inr (t3 x z))
      · rw [setO_ne ej] at z; exact .inr ⟨j, z⟩
  have w1 := g3 A1 inA fun x z o => by
    have oi : O i x := (eO x).mpr (.inr o)
    rcases z with z | ⟨j, z⟩
    · exact absurd (.inl z) (r.fr i x oi).1
    · by_cases ej : j = i
      · subst ej; rw [setO_same] at z
        rcases z with z | z | z
        · subst z; exact absurd o na
        · exact z
        · exact absurd (t3 x z) (dis x o)
      · rw [setO_ne ej] at z
        exact absurd (r.dj j i x z oi) ej
  have w2 := h3 A1 inA fun x z p => by
    rcases z with z | ⟨j, z⟩
    · exact absurd z (hP x p).2
    · by_cases ej : j = i
      · subst ej; rw [setO_same] at z
        rcases z with z | z | z
        · subst z; exact absurd (.inr p) (r.fr j x ((eO x).mpr (.inl rfl))).1
        · exact absurd p (dis x (s3 x z))
        · exact z
      · rw [setO_ne ej] at z
        exact absurd (.inr p) (r.fr j x z).1
  obtain ⟨O2, sO, w⟩ := hG _ O3 P3 (fun x o p => dis x (s3 x o) (t3 x p)) w1 w2
  refine ⟨_, r.mutL hP e ea eH eO na (O2 := O2) (fun x o => (sO x o).elim (fun o => .inl (s3 x o)) fun p => .inr (t3 x p)) (w.imp fun d v O4 w4 => w4.mono (Same.refl _) fun x z => .inl ?_)⟩
  rcases z with z | ⟨j, z⟩
  · exact .inl z
  · refine .inr ⟨j, ?_⟩
    by_cases ej : j = i
    · subst ej; rw [setO_same] at z ⊢
      exact z.imp id fun z => sO x z
    · rw [setO_ne ej] at z ⊢; exact z
end
end Px

/-! Px17: statements, one by one. -/
namespace Px
open PySem PySem.Spec L2
/-- what is known of an error class of the program's own -/
def XcOk (K : PySem.W.Frag) (mg : Str → Option Value) (ec : EC) (x : String) : Prop := ∃ D : Addr, ec x = .ref D ∧ mg (Str.ofString x) = some (.ref D) ∧ PySem.W.keepIn K (.ref D) = true ∧ PySem.W.subIn K (.ref D) (.type "BaseException") = some true ∧
  PySem.W.typeIn K (.ref D) = some (.type "type") ∧ ExcC K D
def chainVE : List Value := [.type "ValueError", .type "Exception", .type "BaseException", .type "object"]
/-- .. that is made with a text -/
def XcMk (K : PySem.W.Frag) (ec : EC) (x : String) : Prop := ∃ D : Addr, ec x = .ref D ∧ PySem.W.excIn K D chainVE "ValueError.__new__" = true
/-- what the statements of a def lean on -/
structure GoodS (ec : EC) (cf : Cf) (F : List Fn) (C : List D) (T : Tab) (X : Cx) (W : WX) : Prop where
  g : Good ec cf F C X W
  fn : ∀ x, X.fn x = true
  kind : X.env.scope.kind = .function
  pass : PassesOwn (model X.prog X.w) X.A X.env X.xe
  stk : X.stack = X.env :: X.outer
  frm : X.env.frame = some X.env.locals
  xc : ∀ (x : String) l, T.lookup x = some l → XcOk X.K X.mg ec x
  rm : ∀ x : String, cf.rs.contains x = true → (T.lookup x).isSome = true ∧ XcMk X.K ec x
  sub : ∀ (x c : String) b l, isA T x c = some b → T.lookup c = some l → PySem.W.exmOne X.K (ec x) (ec c) = some b ∧ PySem.W.kitOne X.K (ec x) (ec c) = some b
  bsub : ∀ (x c : String) b, isA T x c = some b → cf.bx.contains c = true → PySem.W.kitOne X.K (ec x) (.type c) = some b ∧ bootBuiltins (Str.ofString c) = some (.type c) ∧ X.mg (Str.ofString c) = none
section
variable {ec : EC} {W : WX} {F : List Fn} {C : List D} {T : Tab} {cf : Cf} {X : Cx} {sc : Scope} {pos : Pos}
variable {σ σ' : L2.St} {H H' H0 H1 H2 : Hp} {A : AS} {ρ ρ' : Env} {B B' : Hp} {Z P : AS} {O : Nat → AS} {En : Ends}
def nmI (cf : Cf) (sc : Scope) (i : Nat) (x : Str) : Bool := decide (cf.N[i]? = some x) && locB none sc x
def vrI (cf : Cf) (sc : Scope) (i : Nat) (x : Str) : Bool := decide (cf.N[i]? = some x) && visB sc x && nmB x
theorem nm_of {i : Nat} {x : Str} (g : GoodS ec cf F C T X W) (hsc : X.env.scope = sc) (h : nmI cf sc i x = true) : X.N[i]? = some x ∧ Loc X.env.scope x ∧ (X.fn x = true ∨ X.env.scope.names.lookup x = some .local) := by
  unfold nmI at h
  rw [Bool.and_eq_true] at h
  refine ⟨by rw [g.g.hN]; exact of_decide_eq_true h.1, ?_, .inl (g.fn x)⟩
  rw [hsc]
  have h2 := h.2
  unfold locB at h2
  split at h2
  · exact .inl (by assumption)
  · exact .inr (by assumption)
  · cases h2
theorem pe_slot {i : Nat} {x : Str} (g : Good ec cf F C X W) (hsc : X.env.scope = sc) (h : vrI cf sc i x = true) : PE X (.Name x pos) (tVar i) := by
  unfold vrI at h
  simp only [Bool.and_eq_true] at h
  exact pe_var (by rw [g.hN]; exact of_decide_eq_true h.1.1) (vis_of hsc h.1.2) (nmB_of h.2).1 (nmB_of h.2).2.1
/-! name = value -/
def isComp : Expr → Bool
  | .ListComp _ _ _ _ => true
  | .SetComp _ _ _ _ => true
  | .DictComp _ _ _ _ _ => true
  | _ => false
theorem swaps_no {e : Expr} {tg : Option Expr} {l : Nat} {env : PySem.Env} (h : isComp e = false) : swapsWith e tg l env = pure false := by
  cases e <;> first | rfl | cases h
/-- one line, the name a local, none of the block's own -/
def swB (sc : Scope) (x : Str) (px : Pos) : Expr → Bool
  | .ListComp _ _ s p => decide (sc.names.lookup x = some .local) && (px.line == p.line) && !(s.names.any fun (n, k) => n == x && (k == .local || k == .cell))
  | _ => false
def isLC : Expr → Bool
  | .ListComp _ _ _ _ => true
  | _ => false
theorem swaps_of {e : Expr} {x : Str} {px : Pos} {l : Nat} (hk : X.env.scope.kind = .function) (hsc : X.env.scope = sc) (he : isLC e = true) : swapsWith e (some (.Name x px)) l X.env = pure (swB sc x px e) := by
  cases e <;> first | (cases he; done) | skip
  rename_i elt gs s p
  have hb : X.env.blockKind = .function := by unfold PySem.Env.blockKind; rw [hk]; rfl
  unfold swapsWith swB
  simp only [hb, Expr.pos]
  have hkk : X.env.kindOf x = sc.names.lookup x := by rw [← hsc]; rfl
  rw [hkk]
  cases sc.names.lookup x with
  | none => rfl
  | some k => cases k <;> rfl
theorem set_comp {i : Nat} {x : Str} {px spos : Pos} {c : Ex} {e : Expr} (g : GoodS ec cf F C T X W) (hsc : X.env.scope = sc) (hx : nmI cf sc i x = true) (he : okE cf c sc e = true) (hlc : isLC e = true) (hsw : swB sc x px e = true) :
    PS X (.Assign [.Name x px] e spos) (tAsg (tE X.K ec W F C c) (gName i)) := by
  have hs := swaps_of (x := x) (px := px) (l := spos.line) g.kind hsc hlc
  rw [hsw] at hs
  obtain ⟨n1, n2, _⟩ := nm_of g hsc hx
  have hl : X.env.scope.names.lookup x = some .local := by
    unfold swB at hsw
    split at hsw
    · simp only [Bool.and_eq_true] at hsw
      rw [hsc]; exact of_decide_eq_true hsw.1.1
    · cases hsw
  have none_of : ∀ {b : Bool}, b = false → b = true → False := fun h1 h2 => by rw [h1] at h2; cases h2
  cases c with
  | comp p it cs el => ?_
  | _ =>
    exfalso
    cases e <;> first | (cases hlc; done) | (unfold okE at he; simp at he; done)
  unfold okE at he
  split at he <;> first | (cases he; done) | skip
  rename_i elt tg iter ifs as scope cpos
  simp only [Bool.and_eq_true] at he
  obtain ⟨⟨⟨⟨⟨⟨h1, h2⟩, h3⟩, h4⟩, h5⟩, h6⟩, h7⟩ := he
  have h1 := of_decide_eq_true h1
  subst h1
  have hv : (ownB cf.N p.slots).map (·.2) = p.slots := by
    unfold ownB; rw [List.map_map]; exact List.map_id _
  have hb := blkOk_by h4
  have G := g.g
  rw [← G.hN, ← hsc] at hb
  have gb : ∀ (s : Shared) (H : Hp) (D : Addr) (cl : List (Str × Addr)) (fp : List Addr), Good ec cf F C (X.blk s H scope (compEnvC scope cl D X.env) fp) Wn := fun s H D cl fp => G.blk
  have hsb : ∀ (s : Shared) (H : Hp) (D : Addr) (cl : List (Str × Addr)) (fp : List Addr), (X.blk s H scope (compEnvC scope cl D X.env) fp).env.scope = relS scope sc := fun s H D cl fp => by rw [← hsc]; rfl
  have q := ps_setLc (X := X) (i := i) (y := x) (py := px) (elt := elt) (tg := tg) (iter := iter) (ifs := ifs) (scope := scope) (pos := cpos) (spos := spos) (own := ownB X.N p.slots) (wi := tI X.K ec W F C true it) (g := tP X.K p) (tt := tTs X.K ec Wn F C cs) (te := tE X.K ec Wn F C el) G.calm G.nd n1 hl hs (i_ok G hsc h2) hb
    (fun s H D cl fp => p_ok (X := X.blk s H scope (compEnvC scope cl D X.env) fp) (cf := cf) (lv := some scope) G.calm G.nd G.hN (hsb s H D cl fp) (fun x hx => by
      unfold fnB at hx
      show (scope.names.lookup x == some .cell) = true
      rw [of_decide_eq_true hx]; rfl) h5)
    (fun s H D cl fp => ts_ok (gb s H D cl fp) (hsb s H D cl fp) h6) (fun s H D cl fp => e_ok (gb s H D cl fp) (hsb s H D cl fp) h7) (folded_of h3 _)
  rw [G.hN, hv] at q
  exact PS.imp q fun En σ H ⟨ρ, B, Z, O, r, h⟩ => comp_core r h
/-- both ways -/
def setB (sc : Scope) (x : Str) (px : Pos) (e : Expr) : Bool := !(isComp e) || isLC e
theorem set_any {i : Nat} {x : Str} {px spos : Pos} {c : Ex} {e : Expr} (g : GoodS ec cf F C T X W) (hsc : X.env.scope = sc) (hx : nmI cf sc i x = true) (he : okE cf c sc e = true) (hb : setB sc x px e = true) :
    PS X (.Assign [.Name x px] e spos) (tAsg (tE X.K ec W F C c) (gName i)) := by
  obtain ⟨n1, n2, n3⟩ := nm_of g hsc hx
  unfold setB at hb
  rw [Bool.or_eq_true] at hb
  cases hc : isComp e with
  | false => exact ps_set g.g.nd n1 n2 (e_ok g.g hsc he) (swaps_no hc) n3
  | true =>
    rw [hc] at hb
    have hlc : isLC e = true := hb.elim (fun z => by cases z) id
    cases hw : swB sc x px e with
    | true => exact set_comp g hsc hx he hlc hw
    | false => exact ps_set g.g.nd n1 n2 (e_ok g.g hsc he) (by rw [swaps_of g.kind hsc hlc, hw]) n3
theorem s_set {i : Nat} {x : Str} {px spos : Pos} {c : Ex} {e : Expr} (g : GoodS ec cf F C T X W) (hsc : X.env.scope = sc) (hx : nmI cf sc i x = true) (he : okE cf c sc e = true) (hb : setB sc x px e = true) :
    PS X (.Assign [.Name x px] e spos) (tS X.K ec W F C T (.set i c)) := by
  refine PS.imp (set_any g hsc hx he hb) fun En σ H ⟨ρ, B, Z, O, r, h⟩ => ?_
  unfold run1 at h
  refine use_E r (aft_mono (Same.refl _) (post_lift r h) fun k hk v H1 s1 res => ?_)
  obtain ⟨j, d, ek, hk⟩ := post_need hk
  subst ek
  obtain ⟨hi, hk⟩ := post_set hk
  obtain ⟨O', r'⟩ := r.store s1 res hi
  exact hk _ _ _ r'
theorem s_mov {i j : Nat} {x y : Str} {px py spos : Pos} (g : GoodS ec cf F C T X W) (hsc : X.env.scope = sc) (hx : nmI cf sc i x = true) (hy : vrI cf sc j y = true) :
    PS X (.Assign [.Name x px] (.Name y py) spos) (tS X.K ec W F C T (.mov i j)) := by
  obtain ⟨n1, n2, n3⟩ := nm_of g hsc hx
  refine PS.imp (ps_set g.g.nd n1 n2 (pe_slot g.g hsc hy) rfl n3) fun En σ H ⟨ρ, B, Z, O, r, h⟩ => ?_
  unfold run1 at h
  split at h
  · rename_i k d e
    obtain ⟨hi, h⟩ := post_set h
    obtain ⟨v, ev, _⟩ := r.own j k d e
    rw [List.length_set] at hi
    obtain ⟨O', r'⟩ := r.move e ev hi
    exact ⟨v, ev, h _ _ _ r'⟩
  · exact h.elim
/-! (a, b, ..) = value -/
def notTup : Expr → Bool
  | .Tuple _ _ _ => false
  | _ => true
mutual
theorem bindP_calm : ∀ {p : Pat} {d : D} {ρ : Env} {x : String} {q : List (String × Int)}, bindP p d ρ = .exc x q → False
  | .nm i, d, ρ, x, q, h => by unfold bindP at h; split at h <;> cases h
  | .tp ps, d, ρ, x, q, h => by
    cases d <;> unfold bindP at h <;> first | (cases h; done) | exact bindPs_calm h
theorem bindPs_calm : ∀ {p : List Pat} {d : List D} {ρ : Env} {x : String} {q : List (String × Int)}, bindPs p d ρ = .exc x q → False
  | [], [], ρ, x, q, h => by unfold bindPs at h; cases h
  | [], _ :: _, ρ, x, q, h => by unfold bindPs at h; cases h
  | _ :: _, [], ρ, x, q, h => by unfold bindPs at h; cases h
  | p :: ps, d :: ds, ρ, x, q, h => by
    unfold bindPs at h
    cases e : bindP p d ρ with
    | exc y z => exact bindP_calm e
    | stuck => rw [e] at h; cases h
    | ok ρ1 => rw [e] at h; exact bindPs_calm h
end
theorem s_unp {p : Pat} {es : List Expr} {k : Nat} {tp spos : Pos} {c : Ex} {e : Expr} (g : GoodS ec cf F C T X W) (hsc : X.env.scope = sc) (hp : okP cf none sc p (.Tuple es k tp) = true) (he : okE cf c sc e = true) (hn : notTup e = true) :
    PS X (.Assign [.Tuple es k tp] e spos) (tS X.K ec W F C T (.unp p c)) := by
  have hg := p_ok (X := X) g.g.calm g.g.nd g.g.hN hsc (lv := none) (fun x _ => g.fn x) hp
  refine PS.imp (ps_asg (e_ok g.g hsc he) hg (by cases e <;> rfl) (by cases e <;> first | rfl | cases hn) (by rfl)) fun En σ H ⟨ρ, B, Z, O, r, h⟩ => ?_
  unfold run1 at h
  refine use_E r (aft_mono (Same.refl _) (post_lift r h) fun k hk v H1 s1 ⟨O1, f1, r1⟩ => ?_)
  obtain ⟨j, d, ek, hq⟩ := post_need hk
  clear hk
  subst ek
  have r1 : Own X.K H1 (fun x => ZO Z O x ∨ O1 x) j d v O1 := r1
  obtain ⟨O2, s2, g2⟩ := Own.lower r1 0 (Nat.zero_le _)
  have w := g2 (ZO Z O) (fun x z => .inl z) fun x z o => absurd (f1 x o) (r.am z).ne
  have hq : post X.K ec W B Z En (liftR (bindP p d ρ) ρ fun ρ' => Rs.nx ρ') := hq
  cases hb : bindP p d ρ with
  | exc x q => exact (bindP_calm hb).elim
  | stuck => rw [hb] at hq; exact hq.elim
  | ok ρ1 =>
    rw [hb] at hq
    exact ⟨ρ, B, Z, O, d, ρ1, r.mono s1, w.2, hb, fun σ' O' r' _ _ _ _ => hq σ' H1 O' r'⟩
end
end Px

/-! Px18: statements that change lists. -/
namespace Px
open PySem PySem.Spec L2
section
variable {ec : EC} {W : WX} {F : List Fn} {C : List D} {T : Tab} {cf : Cf} {X : Cx} {sc : Scope} {pos : Pos}
variable {σ σ' : L2.St} {H H' H0 H1 H2 : Hp} {A : AS} {ρ ρ' : Env} {B B' : Hp} {Z P : AS} {O : Nat → AS} {En : Ends}
theorem few_of {e : Expr} {es : List Expr} {env : PySem.Env} {cpos : Pos} (hs : noStars (e :: es) = true) (hl : es.length < 20) : ((backTo cpos (starEach (e :: es) env)).all (fun x => !x.1) && (backToKw cpos (keywordEach [] env)).all (fun x => x.1.isSome) && decide ((e :: es).length + ([] : List Keyword).length + (if ([] : List Keyword).isEmpty then 0 else 1) < 30)) = true := by
  rw [plainAll hs]
  show (true && true && decide (es.length + 1 + 0 + 0 < 30)) = true
  rw [decide_eq_true (by omega)]; rfl
theorem Res.own1 {j : Nat} {d : D} {v : V} (h : Res X.K H H1 A (some j, d) v) : ∃ P : AS, (∀ x, P x → H x = none) ∧ Own X.K H1 (fun x => A x ∨ P x) j d v P := h
theorem one_owns {K : PySem.W.Frag} {j : Nat} {d : D} {v : V} {P : AS} (w : Own K H A j d v P) : Owns (Own K H A j) [d] [v] P := ⟨v, [], P, fun _ => False, rfl, fun x => by simp, fun _ _ z => z, w, rfl, fun _ z => z⟩
theorem zo_past (Z P : AS) (O : Nat → AS) : (ZO (fun x => Z x ∨ P x) O) = fun x => ZO Z O x ∨ P x := zo_res Z P O
theorem Owns.append' {R : D → V → AS → Prop} : ∀ {ds es : List D} {vs us : List V} {O1 O2 O : AS}, (∀ x, O x ↔ O1 x ∨ O2 x) → (∀ x, O1 x → ¬ O2 x) → Owns R ds vs O1 → Owns R es us O2 → Owns R (ds ++ es) (vs ++ us) O
  | [], [], _, _, O1, O2, O, e, _, h, q => by
    obtain ⟨rfl, n1⟩ := h; obtain ⟨rfl, n2⟩ := q
    exact ⟨rfl, fun x z => by rcases (e x).mp z with k | k; exact n1 x k; exact n2 x k⟩
  | [], d :: es, _, _, O1, O2, O, e, _, h, q => by
    obtain ⟨rfl, n1⟩ := h
    obtain ⟨v, vs', P1, P2, e', h1, h2, r, q⟩ := q
    exact ⟨v, vs', P1, P2, e', fun x => by rw [e x, h1 x]; constructor; (rintro (z | z); exact (n1 x z).elim; exact z); exact .inr, h2, r, q⟩
  | d :: ds, es, _, _, O1, O2, O, e, dj, h, q => by
    obtain ⟨v, vs', P1, P2, e', h1, h2, r, h⟩ := h
    subst e'
    refine ⟨v, _, P1, fun x => P2 x ∨ O2 x, rfl, fun x => by rw [e x, h1 x]; constructor; (rintro ((z | z) | z); exact .inl z; exact .inr (.inl z); exact .inr (.inr z)); (rintro (z | z | z); exact .inl (.inl z); exact .inl (.inr z); exact .inr z), fun x z1 z2 => ?_, r, Owns.append' (fun x => Iff.rfl) (fun x z => dj x ((h1 x).mpr (.inr z))) h q⟩
    rcases z2 with z2 | z2
    · exact h2 x z1 z2
    · exact dj x ((h1 x).mpr (.inl z1)) z2
/-- x.append(e) -/
theorem s_app {i : Nat} {x : Str} {px apos cpos epos : Pos} {c : Ex} {e : Expr} (g : GoodS ec cf F C T X W) (hsc : X.env.scope = sc) (hx : vrI cf sc i x = true) (he : okE cf c sc e = true) (hs : noStar e = true) (hline : (apos.endLine == cpos.line) = true) :
    PS X (.Expr (.Call (.Attribute (.Name x px) "append" apos) [e] [] cpos) epos) (tS X.K ec W F C T (.app i c)) := by
  refine PS.imp (ps_expr (pe_bm PySem.F.plainAttrs_list PySem.F.slot_list_append PySem.F.type_list_append mt_append (pe_slot g.g hsc hx) (pa_cons (e_ok g.g hsc he) pa_nil (starEach_of hs)) rfl (few_of (noStars1 hs) (by decide)) hline (starEach_of hs) rfl) rfl) fun En σ H ⟨ρ, B, Z, O, r, h⟩ => ?_
  unfold run1 at h
  obtain ⟨k, xs, e0, h⟩ := post_lst h
  obtain ⟨a, vs, O1, ea, eH, eO, na, q⟩ := r.lstAt e0
  refine ⟨_, ea, .inl ⟨rfl, vs, SqL.of eH⟩, use_E r (aft_mono (Same.refl _) (post_lift r h) fun k2 hk v H1 s1 res => ?_)⟩
  obtain ⟨j, d, ek, hq⟩ := post_need hk
  clear hk
  subst ek
  obtain ⟨P, f, w⟩ := res.own1
  split at hq
  · rename_i hl
    obtain ⟨hi, hn⟩ := post_set hq
    have lv : vs.length = xs.length := q.length
    refine ⟨a, vs, v, rfl, rfl, s1 _ _ eH, by rw [lv, line_eq]; exact hl, ?_⟩
    have r2 := r.past (k := (some j, d)) s1 f w
    have q2 : Owns (Own X.K H1 (ZO (fun x => Z x ∨ P x) O) k) xs vs O1 := by
      rw [zo_past]
      exact q.imp fun d v O3 w3 => w3.mono s1 fun x z => z.elim .inl fun z => .inr (f x z)
    obtain ⟨O', r3⟩ := r2.mix (fresh_of r f) e0 ea (s1 _ _ eH) eO na q2 (by rw [zo_past]; exact one_owns w) (xs' := xs ++ [d]) (vs' := vs ++ [v]) fun R O3 P3 dj h1 h2 => ⟨fun x => O3 x ∨ P3 x, fun x z => z, Owns.append' (fun x => Iff.rfl) dj h1 h2⟩
    exact hn _ _ _ r3
  · exact hq.elim
/-- the general step: slot i's list changes, some of what it owned may be reserved -/
theorem Rel.mutG {K : PySem.W.Frag} {Z' Zr : AS} {i k k' : Nat} {xs xs' : List D} {a : Addr} {vs vs' : List V} {O2 : AS} (r : Rel K B Zr O σ H ρ) (e : ρ[i]? = some (some (k, .lst xs))) (ea : σ[i]? = some (some (.ref a))) (eH : H a = some (.lst vs)) (oa : O i a)
    (hz : ∀ x, Z' x → IsM H x) (hin : ∀ x, ZO Z' (setO O i fun x => x = a ∨ O2 x) x → ZO Zr O x) (hj : ∀ j x, j ≠ i → O j x → ¬ Z' x) (h2 : ∀ x, O2 x → ¬ Z' x ∧ B x = none ∧ ∀ j, j ≠ i → ¬ O j x) (za : ¬ Z' a) (n2 : ¬ O2 a)
    (q : Owns (Own K H (ZO Z' (setO O i fun x => x = a ∨ O2 x)) k') xs' vs' O2) : Rel K B Z' (setO O i fun x => x = a ∨ O2 x) σ (upd H a (.lst vs')) (ρ.set i (some (k' + 1, .lst xs'))) := by
  have hi : i < ρ.length := (List.getElem?_eq_some_iff.mp e).1
  have up : ∀ x, IsM H x → IsM (upd H a (.lst vs')) x := fun x m => by
    by_cases ex : x = a
    · subst ex; exact .inl ⟨_, upd_same⟩
    · rcases m with ⟨u, m⟩ | ⟨u, m⟩
      · exact .inl ⟨u, by rw [upd_ne ex]; exact m⟩
      · exact .inr ⟨u, by rw [upd_ne ex]; exact m⟩
  have aIn : ZO Z' (setO O i fun x => x = a ∨ O2 x) a := .inr ⟨i, by rw [setO_same]; exact .inl rfl⟩
  have sub : ∀ j x, setO O i (fun x => x = a ∨ O2 x) j x → (j ≠ i ∧ O j x) ∨ (j = i ∧ (x = a ∨ O2 x)) := fun j x h => by
    by_cases ej : j = i
    · subst ej; rw [setO_same] at h; exact .inr ⟨rfl, h⟩
    · rw [setO_ne ej] at h; exact .inl ⟨ej, h⟩
  refine ⟨by rw [List.length_set]; exact r.len, fun x z => up x (hz x z), ?_, ?_, ?_, ?_, ?_⟩
  · intro j j' x p1 p2
    rcases sub j x p1 with ⟨n1, g1⟩ | ⟨e1, g1⟩ <;> rcases sub j' x p2 with ⟨n2, g2⟩ | ⟨e2, g2⟩
    · exact r.dj j j' x g1 g2
    · rcases g2 with g2 | g2
      · exact absurd (r.dj j i x g1 (g2 ▸ oa)) n1
      · exact absurd g1 ((h2 x g2).2.2 j n1)
    · rcases g1 with g1 | g1
      · exact absurd (r.dj j' i x g2 (g1 ▸ oa)) n2
      · exact absurd g2 ((h2 x g1).2.2 j' n2)
    · rw [e1, e2]
  · intro j x h
    rcases sub j x h with ⟨n1, h⟩ | ⟨_, h | h⟩
    · exact ⟨hj j x n1 h, (r.fr j x h).2⟩
    · subst h; exact ⟨za, (r.fr i x oa).2⟩
    · exact ⟨(h2 x h).1, (h2 x h).2.1⟩
  · intro b o eb
    have : b ≠ a := fun h => by subst h; rw [(r.fr i b oa).2] at eb; cases eb
    rw [upd_ne this]; exact r.base b o eb
  · intro j kk d eq
    by_cases ej : j = i
    · subst ej
      rw [List.getElem?_set_self hi] at eq
      cases eq
      refine ⟨_, ea, ?_⟩
      rw [setO_same]
      unfold Own
      exact ⟨a, vs', O2, rfl, upd_same, fun x => Iff.rfl, n2, q.impIn fun d m v O3 s w => w.upd aIn fun z => n2 (s a z)⟩
    · rw [List.getElem?_set_ne (Ne.symm ej)] at eq
      obtain ⟨u, e1, w⟩ := r.own j kk d eq
      refine ⟨u, e1, ?_⟩
      rw [setO_ne ej]
      exact (w.mono (Same.refl _) fun x z => .inl (hin x z)).upd aIn fun h => ej (r.dj j i a h oa)
  · intro j h x hx
    rcases sub j x hx with ⟨n1, hx⟩ | ⟨e1, _⟩
    · exact r.non j (fun k' d' q => h k' d' (by rw [List.getElem?_set_ne (Ne.symm n1)]; exact q)) x hx
    · subst e1
      exact absurd (List.getElem?_set_self hi) (h _ _)
/-- fewer things in it -/
theorem Rel.less {K : PySem.W.Frag} {i k : Nat} {xs xs' : List D} {a : Addr} {vs vs' : List V} {O1 : AS} (r : Rel K B Z O σ H ρ) (e : ρ[i]? = some (some (k + 1, .lst xs))) (ea : σ[i]? = some (some (.ref a))) (eH : H a = some (.lst vs)) (eO : ∀ x, O i x ↔ x = a ∨ O1 x) (na : ¬ O1 a)
    (q : Owns (Own K H (ZO Z O) k) xs vs O1) (hG : ∀ (R : D → V → AS → Prop) (O1 : AS), Owns R xs vs O1 → ∃ O2 : AS, (∀ x, O2 x → O1 x) ∧ Owns R xs' vs' O2) : ∃ O', Rel K B Z O' σ (upd H a (.lst vs')) (ρ.set i (some (k + 1, .lst xs'))) := by
  obtain ⟨O2, s, w⟩ := hG _ _ q
  have oi : ∀ x, O2 x → O i x := fun x h => (eO x).mpr (.inr (s x h))
  have oa : O i a := (eO a).mpr (.inl rfl)
  have hin : ∀ x, ZO Z (setO O i fun x => x = a ∨ O2 x) x → ZO Z O x := by
    rintro x (z | ⟨j, z⟩)
    · exact .inl z
    · by_cases ej : j = i
      · subst ej; rw [setO_same] at z
        rcases z with z | z
        · subst z; exact .inr ⟨j, oa⟩
        · exact .inr ⟨j, oi x z⟩
      · rw [setO_ne ej] at z; exact .inr ⟨j, z⟩
  exact ⟨_, r.mutG e ea eH oa r.zm hin (fun j x _ o => (r.fr j x o).1) (fun x o => ⟨(r.fr i x (oi x o)).1, (r.fr i x (oi x o)).2, fun j nj oj => nj (r.dj j i x oj (oi x o))⟩) (r.fr i a oa).1 (fun h => na (s a h)) (w.imp fun d v O3 w3 => w3.mono (Same.refl _) fun x z => .inl (hin x z))⟩
/-- one thing goes out of it -/
theorem Rel.out {K : PySem.W.Frag} {i k : Nat} {xs xs' : List D} {a : Addr} {vs vs' : List V} {O1 : AS} {d : D} {v : V} (r : Rel K B Z O σ H ρ) (e : ρ[i]? = some (some (k + 1, .lst xs))) (ea : σ[i]? = some (some (.ref a))) (eH : H a = some (.lst vs)) (eO : ∀ x, O i x ↔ x = a ∨ O1 x) (na : ¬ O1 a)
    (q : Owns (Own K H (ZO Z O) k) xs vs O1) (hG : ∀ (R : D → V → AS → Prop) (O1 : AS), Owns R xs vs O1 → ∃ O2 O3 : AS, (∀ x, O2 x → O1 x) ∧ (∀ x, O3 x → O1 x) ∧ (∀ x, O2 x → ¬ O3 x) ∧ Owns R xs' vs' O2 ∧ R d v O3) :
    ∃ O' P, Rel K B (fun x => Z x ∨ P x) O' σ (upd H a (.lst vs')) (ρ.set i (some (k + 1, .lst xs'))) ∧ (∀ x, P x → B x = none ∧ ¬ Z x) ∧ Own K (upd H a (.lst vs')) (fun x => ZO Z O' x ∨ P x) k d v P := by
  obtain ⟨O2, O3, s2, s3, dj, w, wd⟩ := hG _ _ q
  have oi : ∀ x, O1 x → O i x := fun x h => (eO x).mpr (.inr h)
  have oa : O i a := (eO a).mpr (.inl rfl)
  have hin : ∀ x, ZO (fun x => Z x ∨ O3 x) (setO O i fun x => x = a ∨ O2 x) x → ZO Z O x := by
    rintro x ((z | z) | ⟨j, z⟩)
    · exact .inl z
    · exact .inr ⟨i, oi x (s3 x z)⟩
    · by_cases ej : j = i
      · subst ej; rw [setO_same] at z
        rcases z with z | z
        · subst z; exact .inr ⟨j, oa⟩
        · exact .inr ⟨j, oi x (s2 x z)⟩
      · rw [setO_ne ej] at z; exact .inr ⟨j, z⟩
  have rel := r.mutG (Z' := fun x => Z x ∨ O3 x) e ea eH oa (fun x z => z.elim (r.zm x) fun z => r.om (oi x (s3 x z))) hin
    (fun j x nj o z => z.elim (r.fr j x o).1 fun z => nj (r.dj j i x o (oi x (s3 x z)))) (fun x o => ⟨fun z => z.elim (r.fr i x (oi x (s2 x o))).1 (dj x o), (r.fr i x (oi x (s2 x o))).2, fun j nj oj => nj (r.dj j i x oj (oi x (s2 x o)))⟩)
    (fun z => z.elim (r.fr i a oa).1 fun z => na (s3 a z)) (fun h => na (s2 a h)) (w.imp fun d v O4 w4 => w4.mono (Same.refl _) fun x z => .inl (hin x z))
  refine ⟨_, O3, rel, fun x p => ⟨(r.fr i x (oi x (s3 x p))).2, (r.fr i x (oi x (s3 x p))).1⟩, ?_⟩
  rw [← zo_past]
  have aIn : ZO (fun x => Z x ∨ O3 x) (setO O i fun x => x = a ∨ O2 x) a := .inr ⟨i, by rw [setO_same]; exact .inl rfl⟩
  exact (wd.mono (Same.refl _) fun x z => .inl (hin x z)).upd aIn fun z => na (s3 a z)
theorem Owns.dropLast {R : D → V → AS → Prop} : ∀ {ds : List D} {vs : List V} {O : AS}, Owns R ds vs O → ∃ O2 : AS, (∀ x, O2 x → O x) ∧ Owns R ds.dropLast vs.dropLast O2
  | [], _, O, h => ⟨O, fun _ z => z, by obtain ⟨e, n⟩ := h; subst e; exact ⟨rfl, n⟩⟩
  | [d], _, O, ⟨v, vs', O1, O2, e, h1, h2, r, e2, n⟩ => by subst e; subst e2; exact ⟨fun _ => False, fun _ z => z.elim, rfl, fun _ z => z⟩
  | d :: d' :: ds, _, O, ⟨v, vs', O1, O2, e, h1, h2, r, q⟩ => by
    obtain ⟨O3, s, w⟩ := Owns.dropLast q
    have : vs' ≠ [] := by
      obtain ⟨v', vs2, _, _, e', _⟩ := q
      rw [e']; exact List.cons_ne_nil _ _
    subst e
    refine ⟨fun x => O1 x ∨ O3 x, fun x z => (h1 x).mpr (z.imp id (s x)), ?_⟩
    rw [List.dropLast_cons_of_ne_nil this, List.dropLast_cons_of_ne_nil (List.cons_ne_nil _ _)]
    exact ⟨v, _, O1, O3, rfl, fun x => Iff.rfl, fun x z1 z2 => h2 x z1 (s x z2), r, w⟩
/-- one item, and the others -/
theorem Owns.erase {R : D → V → AS → Prop} : ∀ {ds : List D} {vs : List V} {O : AS} {m : Nat} {d : D}, Owns R ds vs O → ds[m]? = some d → ∃ v O2 O3, vs[m]? = some v ∧ (∀ x, O2 x → O x) ∧ (∀ x, O3 x → O x) ∧ (∀ x, O2 x → ¬ O3 x) ∧ Owns R (ds.eraseIdx m) (vs.eraseIdx m) O2 ∧ R d v O3
  | [], _, _, _, _, _, e => by simp at e
  | d :: ds, _, O, 0, d', ⟨v, vs', O1, O2, e, h1, h2, r, q⟩, e' => by
    simp at e'
    subst e'; subst e
    exact ⟨v, O2, O1, rfl, fun x z => (h1 x).mpr (.inr z), fun x z => (h1 x).mpr (.inl z), fun x z z' => h2 x z' z, q, r⟩
  | d :: ds, _, O, m + 1, d', ⟨v, vs', O1, O2, e, h1, h2, r, q⟩, e' => by
    subst e
    obtain ⟨u, O3, O4, a1, a2, a3, a4, a5, a6⟩ := Owns.erase (m := m) q (by simpa using e')
    refine ⟨u, fun x => O1 x ∨ O3 x, O4, by simpa using a1, fun x z => (h1 x).mpr (z.imp id (a2 x)), fun x z => (h1 x).mpr (.inr (a3 x z)), fun x z z' => z.elim (fun z => h2 x z (a3 x z')) fun z => a4 x z z', ?_, a6⟩
    exact ⟨v, _, O1, O3, rfl, fun x => Iff.rfl, fun x z1 z2 => h2 x z1 (a2 x z2), r, a5⟩
theorem eraseIdx_last {α : Type} (l : List α) : l.eraseIdx (l.length - 1) = l.dropLast := by
  cases l with
  | nil => rfl
  | cons a l => rw [List.eraseIdx_eq_dropLast]; simp
theorem seq_set {i k : Nat} {d : D} {f : Env → Rs} (hi : i < ρ.length) : (setR i k d ρ).seq f = f (ρ.set i (some (k, d))) := by
  unfold setR; rw [if_pos hi]; rfl
theorem own_flat9 {K : PySem.W.Frag} {k : Nat} {d : D} {v : V} (w : Own K H A k d v P) : Own K H A (if d.cont then k else 9) d v P := by
  split
  · exact w
  · rename_i hc
    exact (Own.flat (by simpa using hc)).mpr ((Own.flat (by simpa using hc)).mp w)
/-- x.pop() -/
theorem s_pop {i : Nat} {x : Str} {px apos cpos epos : Pos} (g : GoodS ec cf F C T X W) (hsc : X.env.scope = sc) (hx : vrI cf sc i x = true) (hline : (apos.endLine == cpos.line) = true) :
    PS X (.Expr (.Call (.Attribute (.Name x px) "pop" apos) [] [] cpos) epos) (tS X.K ec W F C T (.pop i)) := by
  refine PS.imp (ps_expr (pe_bm0 PySem.F.plainAttrs_list PySem.F.slot_list_pop PySem.F.type_list_pop mt_pop (pe_slot g.g hsc hx) rfl hline) rfl) fun En σ H ⟨ρ, B, Z, O, r, h⟩ => ?_
  unfold run1 at h
  obtain ⟨k, xs, e0, h⟩ := post_lst h
  obtain ⟨a, vs, O1, ea, eH, eO, na, q⟩ := r.lstAt e0
  split at h
  · exact h.elim
  · rename_i hne
    obtain ⟨hi, hn⟩ := post_set h
    have lv : vs.length = xs.length := q.length
    have hpos : 0 < xs.length := by
      cases xs with
      | nil => exact absurd rfl hne
      | cons _ _ => simp
    obtain ⟨y, ey⟩ : ∃ y, vs[vs.length - 1]? = some y := ⟨_, List.getElem?_eq_getElem (by omega)⟩
    obtain ⟨O', r3⟩ := r.less e0 ea eH eO na q (xs' := xs.dropLast) (vs' := vs.dropLast) fun R O3 w => w.dropLast
    exact ⟨_, ea, .inl ⟨rfl, vs, SqL.of eH⟩, a, vs, y, rfl, rfl, eH, ey, hn _ _ _ r3⟩
/-- t = x.pop() -/
theorem s_popS {t i : Nat} {x y : Str} {px py apos cpos spos : Pos} (g : GoodS ec cf F C T X W) (hsc : X.env.scope = sc) (hx : vrI cf sc i x = true) (hy : nmI cf sc t y = true) (hline : (apos.endLine == cpos.line) = true) :
    PS X (.Assign [.Name y py] (.Call (.Attribute (.Name x px) "pop" apos) [] [] cpos) spos) (tS X.K ec W F C T (.popS t i)) := by
  obtain ⟨n1, n2, n3⟩ := nm_of g hsc hy
  refine PS.imp (ps_set g.g.nd n1 n2 (pe_bm0 PySem.F.plainAttrs_list PySem.F.slot_list_pop PySem.F.type_list_pop mt_pop (pe_slot g.g hsc hx) rfl hline) rfl n3) fun En σ H ⟨ρ, B, Z, O, r, h⟩ => ?_
  unfold run1 at h
  obtain ⟨k, xs, e0, h⟩ := post_lst h
  obtain ⟨a, vs, O1, ea, eH, eO, na, q⟩ := r.lstAt e0
  split at h
  · rename_i d ed
    split at h
    · exact h.elim
    · rename_i hne
      have lv : vs.length = xs.length := q.length
      have hi : i < ρ.length := (List.getElem?_eq_some_iff.mp e0).1
      rw [seq_set hi] at h
      obtain ⟨ht, hn⟩ := post_set h
      obtain ⟨v, _, _, ev, _⟩ := q.erase ed
      obtain ⟨O', P, r3, hP, w⟩ := r.out (d := d) (v := v) e0 ea eH eO na q (xs' := xs.dropLast) (vs' := vs.dropLast) fun R O3 w => by
        obtain ⟨v', O4, O5, e1, s4, s5, dj, w4, w5⟩ := w.erase ed
        rw [ev] at e1; cases e1
        rw [eraseIdx_last, ← lv, eraseIdx_last] at w4
        exact ⟨O4, O5, s4, s5, dj, w4, w5⟩
      refine ⟨_, ea, .inl ⟨rfl, vs, SqL.of eH⟩, a, vs, v, rfl, rfl, eH, by rw [lv]; exact ev, ?_⟩
      exact hn _ _ _ (r3.put ht hP (own_flat9 w))
  · exact h.elim
/-- t = x.pop(e) -/
theorem s_popI {t i : Nat} {x y : Str} {px py apos cpos spos : Pos} {c : Ex} {e : Expr} (g : GoodS ec cf F C T X W) (hsc : X.env.scope = sc) (hx : vrI cf sc i x = true) (hy : nmI cf sc t y = true) (he : okE cf c sc e = true) (hs : noStar e = true) (hline : (apos.endLine == cpos.line) = true) :
    PS X (.Assign [.Name y py] (.Call (.Attribute (.Name x px) "pop" apos) [e] [] cpos) spos) (tS X.K ec W F C T (.popI t i c)) := by
  obtain ⟨n1, n2, n3⟩ := nm_of g hsc hy
  refine PS.imp (ps_set g.g.nd n1 n2 (pe_bm PySem.F.plainAttrs_list PySem.F.slot_list_pop PySem.F.type_list_pop mt_popAt (pe_slot g.g hsc hx) (pa_cons (e_ok g.g hsc he) pa_nil (starEach_of hs)) rfl (few_of (noStars1 hs) (by decide)) hline (starEach_of hs) rfl) rfl n3) fun En σ H ⟨ρ, B, Z, O, r, h⟩ => ?_
  unfold run1 at h
  obtain ⟨k, xs, e0, h⟩ := post_lst h
  obtain ⟨a, vs, O1, ea, eH, eO, na, q⟩ := r.lstAt e0
  refine ⟨_, ea, .inl ⟨rfl, vs, SqL.of eH⟩, use_E r (aft_mono (Same.refl _) (post_lift r h) fun k2 hk u H1 s1 res => ?_)⟩
  split at hk
  · rename_i n
    split at hk
    · exact hk.elim
    rename_i hb
    split at hk
    · rename_i m em
      split at hk
      · rename_i d ed
        split at hk
        · exact hk.elim
        · have lv : vs.length = xs.length := q.length
          have hi : i < ρ.length := (List.getElem?_eq_some_iff.mp e0).1
          rw [seq_set hi] at hk
          obtain ⟨ht, hn⟩ := post_set hk
          obtain ⟨v, _, _, ev, _⟩ := q.erase ed
          have q1 : Owns (Own X.K H1 (ZO Z O) k) xs vs O1 := q.imp fun d v O3 w3 => w3.mono s1 fun x z => .inl z
          obtain ⟨O', P, r3, hP, w⟩ := (r.mono s1).out (d := d) (v := v) e0 ea (s1 _ _ eH) eO na q1 (xs' := xs.eraseIdx m) (vs' := vs.eraseIdx m) fun R O3 w => by
            obtain ⟨v', O4, O5, e1, s4, s5, dj, w4, w5⟩ := w.erase ed
            rw [ev] at e1; cases e1
            exact ⟨O4, O5, s4, s5, dj, w4, w5⟩
          obtain ⟨i1, i2, i3, i4⟩ := ixN_seq em
          exact ⟨a, vs, n, m, v, rfl, by rw [res.rep.int], s1 _ _ eH, by omega, by omega, by rw [lv]; exact i1, ev, hn _ _ _ (r3.put ht hP (own_flat9 w))⟩
      · exact hk.elim
    · exact hk.elim
  · exact hk.elim
theorem Owns.rev' {R : D → V → AS → Prop} : ∀ {ds : List D} {vs : List V} {O : AS}, Owns R ds vs O → Owns R ds.reverse vs.reverse O
  | [], _, _, h => by obtain ⟨e, n⟩ := h; subst e; exact ⟨rfl, n⟩
  | d :: ds, _, O, ⟨v, vs', O1, O2, e, h1, h2, r, q⟩ => by
    subst e
    rw [List.reverse_cons, List.reverse_cons]
    exact Owns.append' (O1 := O2) (O2 := O1) (fun x => by rw [h1 x]; exact Or.comm) (fun x z z' => h2 x z' z) (Owns.rev' q) ⟨v, [], O1, fun _ => False, rfl, fun x => by simp, fun _ _ z => z, r, rfl, fun _ z => z⟩
/-- x.reverse() -/
theorem s_rev {i : Nat} {x : Str} {px apos cpos epos : Pos} (g : GoodS ec cf F C T X W) (hsc : X.env.scope = sc) (hx : vrI cf sc i x = true) (hline : (apos.endLine == cpos.line) = true) :
    PS X (.Expr (.Call (.Attribute (.Name x px) "reverse" apos) [] [] cpos) epos) (tS X.K ec W F C T (.rev i)) := by
  refine PS.imp (ps_expr (pe_bm0 PySem.F.plainAttrs_list PySem.F.slot_list_reverse PySem.F.type_list_reverse mt_reverse (pe_slot g.g hsc hx) rfl hline) rfl) fun En σ H ⟨ρ, B, Z, O, r, h⟩ => ?_
  unfold run1 at h
  obtain ⟨k, xs, e0, h⟩ := post_lst h
  obtain ⟨a, vs, O1, ea, eH, eO, na, q⟩ := r.lstAt e0
  obtain ⟨hi, hn⟩ := post_set h
  obtain ⟨O', r3⟩ := r.less e0 ea eH eO na q (xs' := xs.reverse) (vs' := vs.reverse) fun R O3 w => ⟨O3, fun _ z => z, w.rev'⟩
  exact ⟨_, ea, .inl ⟨rfl, vs, SqL.of eH⟩, a, vs, rfl, rfl, eH, hn _ _ _ r3⟩
/-- x.extend(e), e a new list -/
theorem s_ext {i : Nat} {x : Str} {px apos cpos epos : Pos} {c : Ex} {e : Expr} (g : GoodS ec cf F C T X W) (hsc : X.env.scope = sc) (hx : vrI cf sc i x = true) (he : okE cf c sc e = true) (hs : noStar e = true) (hline : (apos.endLine == cpos.line) = true) :
    PS X (.Expr (.Call (.Attribute (.Name x px) "extend" apos) [e] [] cpos) epos) (tS X.K ec W F C T (.ext i c)) := by
  refine PS.imp (ps_expr (pe_bm PySem.F.plainAttrs_list PySem.F.slot_list_extend PySem.F.type_list_extend mt_extend (pe_slot g.g hsc hx) (pa_cons (e_ok g.g hsc he) pa_nil (starEach_of hs)) rfl (few_of (noStars1 hs) (by decide)) hline (starEach_of hs) rfl) rfl) fun En σ H ⟨ρ, B, Z, O, r, h⟩ => ?_
  unfold run1 at h
  obtain ⟨k, xs, e0, h⟩ := post_lst h
  obtain ⟨a, vs, O1, ea, eH, eO, na, q⟩ := r.lstAt e0
  refine ⟨_, ea, .inl ⟨rfl, vs, SqL.of eH⟩, use_E r (aft_mono (Same.refl _) (post_lift r h) fun k2 hk v H1 s1 res => ?_)⟩
  split at hk
  · rename_i l ys
    split at hk
    · rename_i hl
      obtain ⟨P, f, w⟩ := res.own1
      obtain ⟨hi, hn⟩ := post_set hk
      have w' := w
      unfold Own at w'
      obtain ⟨b, us, P', e1, e2, e3, e4, qy⟩ := w'
      subst e1
      have lv : vs.length = xs.length := q.length
      have lu : us.length = ys.length := qy.length
      have hP' : ∀ x, P' x → H x = none := fun x p => f x ((e3 x).mpr (.inr p))
      have r2 : Rel X.K B (fun x => Z x ∨ P' x) O σ H1 ρ := r.res s1 hP' fun x p => w.dom ((e3 x).mpr (.inr p))
      have q2 : Owns (Own X.K H1 (ZO (fun x => Z x ∨ P' x) O) k) xs vs O1 := by
        rw [zo_past]
        exact q.imp fun d v O3 w3 => w3.mono s1 fun x z => z.elim .inl fun z => .inr (hP' x z)
      have qy2 : Owns (Own X.K H1 (ZO (fun x => Z x ∨ P' x) O) l) ys us P' := by
        rw [zo_past]
        exact qy.imp fun d v O3 w3 => w3.mono (Same.refl _) fun x z => .inl (z.elim .inl fun z => .inr ((e3 x).mpr (.inr z)))
      obtain ⟨O', r3⟩ := r2.mix (fresh_of r hP') e0 ea (s1 _ _ eH) eO na q2 qy2 (xs' := xs ++ ys) (vs' := vs ++ us) fun R O3 P3 dj h1 h2 => ⟨fun x => O3 x ∨ P3 x, fun x z => z, Owns.append' (fun x => Iff.rfl) dj h1 h2⟩
      exact ⟨a, b, vs, us, rfl, rfl, s1 _ _ eH, e2, by rw [lv, lu, line_eq]; exact hl, hn _ _ _ r3⟩
    · exact hk.elim
  · exact hk.elim
theorem Owns.set' {R : D → V → AS → Prop} {e : D} {u : V} {P : AS} : ∀ {ds : List D} {vs : List V} {O : AS} {m : Nat}, Owns R ds vs O → R e u P → (∀ x, O x → ¬ P x) → m < ds.length → ∃ O2, (∀ x, O2 x → O x ∨ P x) ∧ Owns R (ds.set m e) (vs.set m u) O2
  | [], _, _, _, _, _, _, h => by simp at h
  | d :: ds, _, O, 0, ⟨v, vs', O1, O2, e1, h1, h2, r, q⟩, w, dj, _ => by
    subst e1
    exact ⟨fun x => P x ∨ O2 x, fun x z => z.elim .inr fun z => .inl ((h1 x).mpr (.inr z)), u, vs', P, O2, rfl, fun x => Iff.rfl, fun x p o => dj x ((h1 x).mpr (.inr o)) p, w, q⟩
  | d :: ds, _, O, m + 1, ⟨v, vs', O1, O2, e1, h1, h2, r, q⟩, w, dj, hm => by
    subst e1
    obtain ⟨O3, s, w3⟩ := Owns.set' (m := m) q w (fun x o => dj x ((h1 x).mpr (.inr o))) (by simpa using hm)
    refine ⟨fun x => O1 x ∨ O3 x, fun x z => z.elim (fun z => .inl ((h1 x).mpr (.inl z))) fun z => (s x z).imp (fun z => (h1 x).mpr (.inr z)) id, v, _, O1, O3, rfl, fun x => Iff.rfl, fun x z1 z2 => ?_, r, w3⟩
    rcases s x z2 with z | z
    · exact h2 x z1 z
    · exact dj x ((h1 x).mpr (.inl z1)) z
/-- x[i] = e -/
theorem s_put {i : Nat} {x : Str} {px tpos spos : Pos} {c cx : Ex} {e ex : Expr} (g : GoodS ec cf F C T X W) (hsc : X.env.scope = sc) (hx : vrI cf sc i x = true) (hi : okE cf cx sc ex = true) (he : okE cf c sc e = true) (hp : plainIx ex = true) :
    PS X (.Assign [.Subscript (.Name x px) ex tpos] e spos) (tS X.K ec W F C T (.put i cx c)) := by
  refine PS.imp (ps_asg (e_ok g.g hsc he) (pg_sub (pe_slot g.g hsc hx) (e_ok g.g hsc hi) set_list (by intro v; cases ex <;> first | rfl | cases hp)) (by cases e <;> rfl) (by cases e <;> rfl) (by rfl)) fun En σ H ⟨ρ, B, Z, O, r, h⟩ => ?_
  unfold run1 at h
  refine use_E r (aft_mono (Same.refl _) (post_lift r h) fun k2 hk v H1 s1 res => ?_)
  obtain ⟨j, d, ek, hq⟩ := post_need hk
  clear hk
  subst ek
  obtain ⟨P, f, w⟩ := res.own1
  obtain ⟨k, xs, e0, hq⟩ := post_lst hq
  obtain ⟨a, vs, O1, ea, eH, eO, na, q⟩ := r.lstAt e0
  have r2 := r.past (k := (some j, d)) s1 f w
  refine ⟨_, ea, use_E r2 ?_⟩
  have hq2 : aft ec W σ H1 (ev F C cx ρ) _ := post_lift (r.mono s1) hq
  refine aft_mono (Same.refl _) hq2 fun y hy u H2 s2 resy => ?_
  split at hy
  · rename_i n
    split at hy
    · rename_i m em
      obtain ⟨hi, hn⟩ := post_set hy
      have lv : vs.length = xs.length := q.length
      have f2 : ∀ x, P x → H x = none := f
      have q2 : Owns (Own X.K H2 (ZO (fun x => Z x ∨ P x) O) k) xs vs O1 := by
        rw [zo_past]
        exact q.imp fun d v O3 w3 => w3.mono (s1.trans s2) fun x z => z.elim .inl fun z => .inr (f x z)
      obtain ⟨i1, i2, i3, i4⟩ := ixN_seq em
      obtain ⟨O', r3⟩ := (r2.mono s2).mix (fresh_of r f) e0 ea (s2 _ _ (s1 _ _ eH)) eO na q2 (by rw [zo_past]; exact one_owns (w.mono s2 fun x z => .inl z)) (ys := [d]) (us := [v]) (xs' := xs.set m d) (vs' := vs.set m v) fun R O3 P3 dj h1 h2' => by
        obtain ⟨v', vs2, P4, P5, g1, g2, g3, g4, g5, g6⟩ := h2'
        cases g1
        obtain ⟨O4, t1, t2⟩ := h1.set' g4 (fun x o p => dj x o ((g2 x).mpr (.inl p))) i2
        exact ⟨O4, fun x z => (t1 x z).imp id fun z => (g2 x).mpr (.inl z), t2⟩
      exact ⟨a, vs, n, m, rfl, by rw [resy.rep.int], s2 _ _ (s1 _ _ eH), by rw [lv]; exact em, hn _ _ _ r3⟩
    · exact hy.elim
  · exact hy.elim
end
end Px

/-! Px19: statements: the others. -/
namespace Px
open PySem PySem.Spec L2
section
variable {ec : EC} {W : WX} {F : List Fn} {C : List D} {T : Tab} {cf : Cf} {X : Cx} {sc : Scope} {pos : Pos}
variable {σ σ' : L2.St} {H H' H0 H1 H2 : Hp} {A : AS} {ρ ρ' : Env} {B B' : Hp} {Z P : AS} {O : Nat → AS} {En : Ends}
theorem s_aug {i : Nat} {o : Operator} {x : Str} {px epos : Pos} {c : Ex} {e : Expr} (g : GoodS ec cf F C T X W) (hsc : X.env.scope = sc) (hx : nmI cf sc i x = true) (he : okE cf c sc e = true) (ho : o = .Add ∨ o = .Sub) :
    PS X (.AugAssign (.Name x px) o e epos) (tS X.K ec W F C T (.aug i o c)) := by
  obtain ⟨n1, n2, n3⟩ := nm_of g hsc hx
  rcases ho with ho | ho2
  · subst ho
    refine PS.imp (ps_aug g.g.nd n1 n2 (e_ok g.g hsc he) ip_add n3) fun En σ H ⟨ρ, B, Z, O, r, h⟩ => ?_
    unfold run1 at h
    split at h
    · rename_i k a e0
      obtain ⟨v, ev, w⟩ := r.own i k _ e0
      refine ⟨v, ev, use_E r (aft_mono (Same.refl _) (post_lift r h) fun k2 hk u H1 s1 res => ?_)⟩
      split at hk
      · rename_i b hs
        obtain ⟨hi, hn⟩ := post_set hk
        obtain ⟨O', r'⟩ := r.store (v := .int (a + b)) s1 Res.int hi
        exact ⟨a, b, w.rep.int, res.rep.int, hn _ _ _ r'⟩
      · rename_i hs; cases hs
      · exact hk.elim
    · exact h.elim
  · subst ho2
    refine PS.imp (ps_aug g.g.nd n1 n2 (e_ok g.g hsc he) ip_sub n3) fun En σ H ⟨ρ, B, Z, O, r, h⟩ => ?_
    unfold run1 at h
    split at h
    · rename_i k a e0
      obtain ⟨v, ev, w⟩ := r.own i k _ e0
      refine ⟨v, ev, use_E r (aft_mono (Same.refl _) (post_lift r h) fun k2 hk u H1 s1 res => ?_)⟩
      split at hk
      · rename_i hs; cases hs
      · rename_i b hs
        obtain ⟨hi, hn⟩ := post_set hk
        obtain ⟨O', r'⟩ := r.store (v := .int (a - b)) s1 Res.int hi
        exact ⟨a, b, w.rep.int, res.rep.int, hn _ _ _ r'⟩
      · exact hk.elim
    · exact h.elim
theorem s_exp {epos : Pos} {c : Ex} {e : Expr} (g : GoodS ec cf F C T X W) (hsc : X.env.scope = sc) (he : okE cf c sc e = true) (hn : isComp e = false) : PS X (.Expr e epos) (tS X.K ec W F C T (.exp c)) := by
  refine PS.imp (ps_expr (e_ok g.g hsc he) (swaps_no hn)) fun En σ H ⟨ρ, B, Z, O, r, h⟩ => ?_
  unfold run1 at h
  exact use_E r (aft_mono (Same.refl _) (post_lift r h) fun k hk v H1 s1 res => hk σ H1 O (r.mono s1))
theorem s_ifs {c : Tx} {t : Expr} {p q : List Cm} {a b : List Stmt} (g : GoodS ec cf F C T X W) (hsc : X.env.scope = sc) (hc : okT cf c sc t = true) (ha : PSs X a (tSs X.K ec W F C T p)) (hb : PSs X b (tSs X.K ec W F C T q)) : PS X (.If t a b pos) (tS X.K ec W F C T (.ifs c p q)) := by
  refine PS.imp (ps_if (t_ok g.g hsc hc).1 ha hb) fun En σ H ⟨ρ, B, Z, O, r, h⟩ => ?_
  unfold run1 at h
  refine use_T r (aft_mono (Same.refl _) (post_lift r h) fun t ht H1 s1 => ?_)
  cases t with
  | true => rw [if_pos rfl] at ht ⊢; exact ⟨ρ, B, Z, O, r.mono s1, ht⟩
  | false => rw [if_neg Bool.false_ne_true] at ht ⊢; exact ⟨ρ, B, Z, O, r.mono s1, ht⟩
theorem s_ret {c : Ex} {e : Expr} (g : GoodS ec cf F C T X W) (hsc : X.env.scope = sc) (he : okE cf c sc e = true) : PS X (.Return (some e) pos) (tS X.K ec W F C T (.ret c)) := by
  refine PS.imp (ps_ret (e_ok g.g hsc he)) fun En σ H ⟨ρ, B, Z, O, r, h⟩ => ?_
  unfold run1 at h
  refine use_E r (aft_mono (Same.refl _) (post_lift r h) fun k hk v H1 s1 res => ?_)
  obtain ⟨j, d, ek, hq⟩ := post_need hk
  clear hk
  subst ek
  obtain ⟨P, f, w⟩ := res.own1
  exact (show ∀ v H', Same B H' → RetR X.K B H' Z j d v → En.rt v H' from hq) v H1 (r.base.trans s1) ⟨P, fun x p => r.base.free (f x p), w.mono (Same.refl _) fun x z => .inl (z.elim (fun z => .inl (.inl z)) .inr)⟩
theorem s_retv {i : Nat} {x : Str} {px : Pos} (g : GoodS ec cf F C T X W) (hsc : X.env.scope = sc) (hx : vrI cf sc i x = true) : PS X (.Return (some (.Name x px)) pos) (tS X.K ec W F C T (.retv i)) := by
  refine PS.imp (ps_ret (pe_slot g.g hsc hx)) fun En σ H ⟨ρ, B, Z, O, r, h⟩ => ?_
  unfold run1 at h
  split at h
  · rename_i k d e0
    obtain ⟨v, ev, w⟩ := r.own i k d e0
    exact ⟨v, ev, (show ∀ v H', Same B H' → RetR X.K B H' Z k d v → En.rt v H' from h) v H r.base ⟨O i, fun x o => (r.fr i x o).2, w.mono (Same.refl _) fun x z => .inl (z.elim .inl fun z => .inr ⟨i, z⟩)⟩⟩
  · exact h.elim
theorem s_retn : PS X (.Return none pos) (tS X.K ec W F C T .retn) := PS.imp ps_retN fun En σ H ⟨ρ, B, Z, O, r, h⟩ => by
  unfold run1 at h
  refine (show ∀ v H', Same B H' → RetR X.K B H' Z 9 .non v → En.rt v H' from h) .non H r.base ⟨fun _ => False, fun _ z => z.elim, (Own.flat rfl).mpr ⟨fun _ z => z, ?_⟩⟩
  unfold RepR; rfl
theorem s_pass : PS X (.Pass pos) (tS X.K ec W F C T .pass) := PS.imp ps_pass fun En σ H ⟨ρ, B, Z, O, r, h⟩ => by
  unfold run1 at h
  exact (show ∀ σ' H' O', Rel X.K B Z O' σ' H' ρ → En.nx σ' H' from h) σ H O r
theorem s_brk : PS X (.Break pos) (tS X.K ec W F C T .brk) := PS.imp ps_break fun En σ H ⟨ρ, B, Z, O, r, h⟩ => by
  unfold run1 at h
  exact (show ∀ σ' H' O', Rel X.K B Z O' σ' H' ρ → En.bk σ' H' from h) σ H O r
theorem s_cont : PS X (.Continue pos) (tS X.K ec W F C T .cont) := PS.imp ps_continue fun En σ H ⟨ρ, B, Z, O, r, h⟩ => by
  unfold run1 at h
  exact (show ∀ σ' H' O', Rel X.K B Z O' σ' H' ρ → En.ct σ' H' from h) σ H O r
theorem Rel.storeF {K : PySem.W.Frag} {i k : Nat} {d : D} {v : V} (r : Rel K B Z O σ H ρ) (c : d.cont = false) (w : RepR K (cut H (ZO Z O)) d v) (hi : i < ρ.length) : ∃ O', (∀ j x, O' j x → O j x) ∧ Rel K B Z O' (σ.set i (some v)) H (ρ.set i (some (k, d))) := by
  have e : (fun x => Z x ∨ False) = Z := by funext x; simp
  have r0 : Rel K B (fun x => Z x ∨ False) O σ H ρ := by rw [e]; exact r
  refine ⟨_, fun j x z => ?_, r0.put (P := fun _ => False) hi (fun _ z => z.elim) ((Own.flat c).mpr ⟨fun _ z => z, w.cutO fun x z => z.elim id False.elim⟩)⟩
  by_cases ej : j = i
  · subst ej; rw [setO_same] at z; exact z.elim
  · rw [setO_ne ej] at z; exact z
/-- a, b = x, y -/
theorem s_par {i j : Nat} {x y : Str} {a b : Ex} {ea eb : Expr} {px py pt pt2 : Pos} {kt k2 : Nat} (g : GoodS ec cf F C T X W) (hsc : X.env.scope = sc) (hx : nmI cf sc i x = true) (hy : nmI cf sc j y = true) (lx : sc.names.lookup x = some .local) (ly : sc.names.lookup y = some .local)
    (hs : noStar ea = true) (hs' : noStar eb = true) (ha : okE cf a sc ea = true) (hb : okE cf b sc eb = true) (hw : swappedStores [.Tuple [.Name x px, .Name y py] kt pt] (.Tuple [ea, eb] k2 pt2) X.env = pure (some [x, y])) :
    PS X (.Assign [.Tuple [.Name x px, .Name y py] kt pt] (.Tuple [ea, eb] k2 pt2) pos) (tS X.K ec W F C T (.par i j a b)) := by
  obtain ⟨n1, n2, _⟩ := nm_of g hsc hx
  obtain ⟨m1, m2, _⟩ := nm_of g hsc hy
  by_cases hij : i = j
  · refine PS.imp ps_never fun En σ H ⟨ρ, B, Z, O, r, h⟩ => ?_
    unfold run1 at h
    rw [if_pos hij] at h
    exact h.elim
  refine PS.imp (ps_par g.g.calm g.g.nd n1 m1 hij (by rw [hsc]; exact lx) (by rw [hsc]; exact ly) (a_cons hs (e_ok g.g hsc ha) (a_cons hs' (e_ok g.g hsc hb) a_nil)) hw) fun En σ H ⟨ρ, B, Z, O, r, h⟩ => ?_
  unfold run1 at h
  rw [if_neg hij] at h
  refine use_Es r ?_
  unfold evs evs evs
  rw [aft_bind]
  refine aft_mono (Same.refl _) (post_lift r h) fun k hk => ?_
  rw [aft_bind, aft_bind]
  refine aft_mono (Same.refl _) (post_lift r hk) fun l hl vs H1 s1 ⟨OO, f, v, vs', O1, O2, ev, h1, h2, r1, u, us', O3, O4, ev2, h3, h4, r2, e5, _⟩ => ?_
  obtain ⟨p, d, ek, hq⟩ := post_need hl
  obtain ⟨p', d', ek', hq⟩ := post_need hq
  subst ek
  subst ek'
  subst e5
  subst ev2
  refine ⟨v, u, ev, ?_⟩
  have hq : post X.K ec W B Z En (if (d.cont || d'.cont) = true then Rs.stuck else (setR i p d ρ).seq (setR j p' d')) := hq
  cases c1 : d.cont with
  | true => rw [c1] at hq; exact hq.elim
  | false =>
    cases c2 : d'.cont with
    | true => rw [c1, c2] at hq; exact hq.elim
    | false =>
      rw [c1, c2, if_neg (by decide)] at hq
      have hi : i < ρ.length := by
        by_cases hi : i < ρ.length
        · exact hi
        · unfold setR at hq; rw [if_neg hi] at hq; exact hq.elim
      rw [seq_set hi] at hq
      obtain ⟨hj, hn⟩ := post_set hq
      have r1 : Own X.K H1 (fun x => ZO Z O x ∨ OO x) p d v O1 := r1
      have r2 : Own X.K H1 (fun x => ZO Z O x ∨ OO x) p' d' u O3 := r2
      obtain ⟨O5, s5, r5⟩ := (r.mono s1).storeF (k := p) c1 (((Own.flat c1).mp r1).2.cutO fun x z => .inl z) hi
      obtain ⟨O6, _, r6⟩ := r5.storeF (k := p') c2 (((Own.flat c2).mp r2).2.cutO fun x z => .inl (z.imp id fun ⟨j, z⟩ => ⟨j, s5 j x z⟩)) hj
      exact hn _ _ _ r6
/-! ### loops -/
theorem Rel.unbase {K : PySem.W.Frag} {B1 : Hp} (s : Same B B1) (r : Rel K B1 Z O σ H ρ) : Rel K B Z O σ H ρ := r.rebase (s.trans r.base) fun i x o => s.free (r.fr i x o).2
theorem s_whl {n : Nat} {c : Tx} {t : Expr} {p : List Cm} {a : List Stmt} (g : GoodS ec cf F C T X W) (hsc : X.env.scope = sc) (hc : okT cf c sc t = true) (ha : PSs X a (tSs X.K ec W F C T p)) : PS X (.While t a [] pos) (tS X.K ec W F C T (.whl n c p)) := by
  refine PS.imp (ps_while g.pass (t_ok g.g hsc hc).1 ha) fun En σ H ⟨ρ, B, Z, O, r, h⟩ => ?_
  unfold run1 at h
  refine ⟨fun m σ H => ∃ ρ O, Rel X.K B Z O σ H ρ ∧ post X.K ec W B Z En (loopW (tst F C c) (runs F C T p) m ρ), ⟨n, ρ, O, r, h⟩, ?_⟩
  rintro m σ H ⟨ρ, O, r, h⟩
  cases m with
  | zero => exact h.elim
  | succ m =>
    unfold loopW at h
    refine use_T r (aft_mono (Same.refl _) (post_lift r h) fun t ht H1 s1 => ?_)
    cases t with
    | false =>
      rw [if_neg Bool.false_ne_true] at ht ⊢
      exact (show ∀ σ' H' O', Rel X.K B Z O' σ' H' ρ → En.nx σ' H' from ht) σ H1 O (r.mono s1)
    | true =>
      rw [if_pos rfl] at ht ⊢
      refine ⟨fun σ H => ∃ ρ O, Rel X.K B Z O σ H ρ ∧ post X.K ec W B Z En (loopW (tst F C c) (runs F C T p) m ρ), fun σ' H' w => ⟨m, Nat.lt_succ_self _, w⟩, ρ, B, Z, O, r.mono s1, ?_⟩
      cases e : runs F C T p ρ with
      | nx ρ' => rw [e] at ht; exact fun σ' H' O' rel => ⟨ρ', O', rel, ht⟩
      | ct ρ' => rw [e] at ht; exact fun σ' H' O' rel => ⟨ρ', O', rel, ht⟩
      | bk ρ' => rw [e] at ht; exact ht
      | ret k d => rw [e] at ht; exact ht
      | exc x q ρ' => rw [e] at ht; exact ht
      | stuck => rw [e] at ht; exact ht
theorem s_for {p : Pat} {it : Ix} {b els : List Cm} {tg iter : Expr} {body orelse : List Stmt} (g : GoodS ec cf F C T X W) (hsc : X.env.scope = sc) (hp : okP cf none sc p tg = true) (hi : okI cf it sc tg iter = true) (hn : notSet iter = true)
    (hb : PSs X body (tSs X.K ec W F C T b)) (ho : PSs X orelse (tSs X.K ec W F C T els)) : PS X (.For tg iter body orelse pos) (tS X.K ec W F C T (.for p it b els)) := by
  have hg := p_ok (X := X) g.g.calm g.g.nd g.g.hN hsc (lv := none) (fun x _ => g.fn x) hp
  refine PS.imp (ps_forE g.pass g.g.calm (i_ok (bor := false) g.g hsc hi) hg hb ho (folded_of hn _)) fun En σ H ⟨ρ, B, Z, O, r, h⟩ => ?_
  unfold run1 at h
  refine ⟨ρ, B, Z, O, r, aft_mono (Same.refl _) (post_lift r h) fun xs hx J H1 s1 hit => ?_⟩
  have r1 := r.mono s1
  -- within the loop: what no slot owns at its beginning stays
  have sB : Same B (Bb false H1 O) := fun b o e => by
    unfold Bb
    rw [if_neg Bool.false_ne_true]
    exact cut_of (r1.base b o e) fun ⟨i, z⟩ => by rw [(r1.fr i b z).2] at e; cases e
  generalize hB1 : Bb false H1 O = B1 at hit sB
  have rB : Rel X.K B1 Z O σ H1 ρ := r1.rebase (by rw [← hB1]; exact bb_same) fun i x z => by
    rw [← hB1]
    unfold Bb
    rw [if_neg Bool.false_ne_true]
    cases e : cut H1 (fun x => ∃ i, O i x) x with
    | none => rfl
    | some o => exact absurd ⟨i, z⟩ (cut_some e).2
  have sG : Same (cut H1 (ZO Z O)) B1 := by rw [← hB1]; exact bb_cut
  refine ⟨fun i m σ H => m = xs.length - i ∧ i ≤ xs.length ∧ ∃ ρ O, Rel X.K B1 Z O σ H ρ ∧ post X.K ec W B Z En (loopF p (runs F C T b) (runs F C T els) (xs.drop i) ρ), ⟨xs.length, by simp, Nat.zero_le _, ρ, O, rB, hx⟩, ?_⟩
  rintro i m σ2 H2 ⟨rfl, hi, ρ2, O2, r2, h2⟩
  by_cases hlt : i < xs.length
  · refine .inr ?_
    have ed : xs[i]? = some xs[i] := List.getElem?_eq_getElem hlt
    generalize xs[i] = d at ed
    have edrop : xs.drop i = d :: xs.drop (i + 1) := by
      rw [List.drop_eq_getElem_cons hlt]
      have := List.getElem?_eq_getElem hlt
      rw [ed] at this
      cases this; rfl
    rw [edrop] at h2
    unfold loopF at h2
    obtain ⟨go, hy⟩ := (hit H2 r2.base i).1 d ed
    refine ⟨go, fun σ' H' => (fun i m σ H => m = xs.length - i ∧ i ≤ xs.length ∧ ∃ ρ O, Rel X.K B1 Z O σ H ρ ∧ post X.K ec W B Z En (loopF p (runs F C T b) (runs F C T els) (xs.drop i) ρ)) (i + 1) (xs.length - (i + 1)) σ' H', fun σ' H' w => ⟨_, by omega, w⟩, fun x H3 y3 => ?_⟩
    obtain ⟨s3, rv⟩ := hy x H3 y3
    cases e1 : bindP p d ρ2 with
    | exc y q => rw [e1] at h2; exact h2.elim
    | stuck => rw [e1] at h2; exact h2.elim
    | ok ρ3 =>
      rw [e1] at h2
      have rv := rv (ZO Z O2) (fun y z => (r2.am z).ne) fun b o q => by
        refine cut_of (r2.base b o (sG b o q)) fun z => ?_
        rcases z with z | ⟨j, z⟩
        · exact (cut_some q).2 (.inl z)
        · have := (r2.fr j b z).2
          rw [sG b o q] at this; cases this
      refine ⟨ρ2, B1, Z, O2, d, ρ3, r2.mono s3, rv, e1, fun σ4 O4 r4 _ _ _ _ => ⟨ρ3, B1, Z, O4, r4, ?_⟩⟩
      have h2 : post X.K ec W B Z En (match runs F C T b ρ3 with
        | .nx ρ' => loopF p (runs F C T b) (runs F C T els) (xs.drop (i + 1)) ρ'
        | .ct ρ' => loopF p (runs F C T b) (runs F C T els) (xs.drop (i + 1)) ρ'
        | .bk ρ' => .nx ρ'
        | r => r) := h2
      cases e : runs F C T b ρ3 with
      | nx ρ' => rw [e] at h2; exact fun σ' H' O' rel => ⟨rfl, hlt, ρ', O', rel, h2⟩
      | ct ρ' => rw [e] at h2; exact fun σ' H' O' rel => ⟨rfl, hlt, ρ', O', rel, h2⟩
      | bk ρ' => rw [e] at h2; exact fun σ' H' O' rel => (show ∀ σ' H' O', Rel X.K B Z O' σ' H' ρ' → En.nx σ' H' from h2) σ' H' O' (rel.unbase sB)
      | ret k d => rw [e] at h2; exact fun v H' s ⟨P, f, w⟩ => (show ∀ v H', Same B H' → RetR X.K B H' Z k d v → En.rt v H' from h2) v H' (sB.trans s) ⟨P, fun x p => sB.free (f x p), w⟩
      | exc x q ρ' => rw [e] at h2; exact fun σ' H' O' cls dd rel ix => (show ∀ σ' H' O' cls dd, Rel X.K B Z O' σ' H' ρ' → IsExc ec x q cls dd H' → W cls dd σ' H' from h2) σ' H' O' cls dd (rel.unbase sB) ix
      | stuck => rw [e] at h2; exact h2
  · refine .inl ?_
    have ei : i = xs.length := by omega
    rw [ei, List.drop_length] at h2
    unfold loopF at h2
    exact ⟨(hit H2 r2.base i).2 (by omega), ρ2, B, Z, O2, r2.unbase sB, h2⟩
/-- x[i], by values, i not negative -/
def rGetN : V → V → Hp → VK → Prop := fun o i H Q => ∃ p xs k z, o = .ref p ∧ i = .int k ∧ H p = some (.lst xs) ∧ 0 ≤ k ∧ xs[k.toNat]? = some z ∧ Q z H
theorem get_listN : PGet X rGetN := by
  intro pins s σ H o i ov iv Q I ro ri h
  obtain ⟨p, xs, k, z, rfl, rfl, hp, h0, hz, q⟩ := h
  cases ro
  obtain ⟨t, rfl⟩ := ri
  obtain ⟨its, rv, pl, hl⟩ := I.list (.inl (.inl hp))
  obtain ⟨u, eu, ru⟩ := rv.get hz
  have hk : k.toNat < its.length := (List.getElem?_eq_some_iff.mp eu).1
  have h63 := line63
  have hlen := rv.length
  exact wpAny_getItem_list pl.isList h0 (by omega) (by simpa using eu) ⟨z, H, I, ru, q⟩
/-- x[i] += e -/
theorem s_augAt {i : Nat} {o : Operator} {x : Str} {px tpos spos : Pos} {c cx : Ex} {e ex : Expr} (g : GoodS ec cf F C T X W) (hsc : X.env.scope = sc) (hx : vrI cf sc i x = true) (hi : okE cf cx sc ex = true) (he : okE cf c sc e = true) (ho : o = .Add ∨ o = .Sub) (pl : plainIx ex = true) :
    PS X (.AugAssign (.Subscript (.Name x px) ex tpos) o e spos) (tS X.K ec W F C T (.augAt i cx o c)) := by
  have core : ∀ {tip : TIp}, (∀ (a b : Int) (H : Hp) (Q : VK), Q (.int (if o = .Add then a + b else a - b)) H → tip (.int a) (.int b) H Q) → PIp X o tip → PS X (.AugAssign (.Subscript (.Name x px) ex tpos) o e spos) (tS X.K ec W F C T (.augAt i cx o c)) := by
    intro tip htip hp
    refine PS.imp (ps_augS (pe_slot g.g hsc hx) (e_ok g.g hsc hi) get_listN (e_ok g.g hsc he) hp set_list (by intro ov iv new; cases ex <;> first | rfl | cases pl)) fun En σ H ⟨ρ, B, Z, O, r, h⟩ => ?_
    unfold run1 at h
    obtain ⟨k, xs, e0, hq⟩ := post_lst h
    obtain ⟨a, vs, O1, ea, eH, eO, na, q⟩ := r.lstAt e0
    refine ⟨_, ea, use_E r (aft_mono (Same.refl _) (post_lift r hq) fun y hy u H1 s1 resy => ?_)⟩
    split at hy
    case h_2 => exact hy.elim
    rename_i n
    split at hy
    case isFalse => exact hy.elim
    rename_i h0
    split at hy
    case h_2 => exact hy.elim
    rename_i a0 em
    obtain ⟨v0, ev0, rv0⟩ := q.rep (fun _ _ _ w => w.rep) |>.get em
    refine ⟨a, vs, n, v0, rfl, resy.rep.int, s1 _ _ eH, h0, ev0, ?_⟩
    refine use_E (r.mono s1) (aft_mono (Same.refl _) (post_lift (r.mono s1) hy) fun k2 hk v H2 s2 res => ?_)
    split at hk
    case h_2 => exact hk.elim
    rename_i b
    rw [rv0.int, res.rep.int]
    refine htip _ _ _ _ ?_
    obtain ⟨hi, hn⟩ := post_set hk
    have lv : vs.length = xs.length := q.length
    have hlt : n.toNat < xs.length := (List.getElem?_eq_some_iff.mp em).1
    have q2 : Owns (Own X.K H2 (ZO (fun x => Z x ∨ (fun _ => False) x) O) k) xs vs O1 := by
      rw [zo_past]
      exact q.imp fun d v O3 w3 => w3.mono (s1.trans s2) fun x z => z.elim .inl fun z => z.elim
    have w : Own X.K H2 (ZO (fun x => Z x ∨ (fun _ => False) x) O) 9 (.int (if o = .Add then a0 + b else a0 - b)) (.int (if o = .Add then a0 + b else a0 - b)) (fun _ => False) := (Own.flat rfl).mpr ⟨fun _ z => z, by unfold RepR; rfl⟩
    have rr : Rel X.K B (fun x => Z x ∨ (fun _ => False) x) O σ H2 ρ := by
      have : (fun x => Z x ∨ (fun _ => False) x) = Z := by funext x; simp
      rw [this]; exact (r.mono s1).mono s2
    obtain ⟨O', r3⟩ := rr.mix (fun _ z => z.elim) e0 ea (s2 _ _ (s1 _ _ eH)) eO na q2 (one_owns w) (ys := [.int (if o = .Add then a0 + b else a0 - b)]) (us := [.int (if o = .Add then a0 + b else a0 - b)])
        (xs' := xs.set n.toNat (.int (if o = .Add then a0 + b else a0 - b))) (vs' := vs.set n.toNat (.int (if o = .Add then a0 + b else a0 - b))) fun R O3 P3 dj h1 h2' => by
      obtain ⟨v', vs2, P4, P5, g1, g2, g3, g4, g5, g6⟩ := h2'
      cases g1
      obtain ⟨O4, t1, t2⟩ := h1.set' g4 (fun x o p => dj x o ((g2 x).mpr (.inl p))) hlt
      exact ⟨O4, fun x z => (t1 x z).imp id fun z => (g2 x).mpr (.inl z), t2⟩
    have hix : ixN vs.length n = some n.toNat := by
      unfold ixN
      simp only [lv]
      split <;> first | omega | (split <;> first | omega | rfl)
    exact ⟨a, vs, n, n.toNat, rfl, resy.rep.int, s2 _ _ (s1 _ _ eH), hix, hn _ _ _ r3⟩
  rcases ho with ho | ho
  · subst ho
    exact core (fun a b H Q q => ⟨a, b, rfl, rfl, q⟩) ip_add
  · subst ho
    exact core (fun a b H Q q => ⟨a, b, rfl, rfl, q⟩) ip_sub
end
end Px

/-! Px20: errors: raise, except suites, try. -/
namespace Px
open PySem PySem.Spec L2
section
variable {ec : EC} {W : WX} {F : List Fn} {C : List D} {T : Tab} {cf : Cf} {X : Cx} {sc : Scope} {pos : Pos}
variable {σ σ' : L2.St} {H H' H0 H1 H2 : Hp} {A : AS} {ρ ρ' : Env} {B B' : Hp} {Z P : AS} {O : Nat → AS} {En : Ends}
theorem IsExc.mono {x : String} {p : List (String × Int)} {cls : Value} {dd : Option Addr} (s : Same H H') (h : IsExc ec x p cls dd H) : IsExc ec x p cls dd H' := ⟨h.1, h.2.1, fun n => let ⟨a, e, q⟩ := h.2.2 n; ⟨a, e, s _ _ q⟩⟩
theorem s_raise {x : String} {nm m : Str} {j : Nat} {p p2 p3 : Pos} (g : GoodS ec cf F C T X W) (hsc : X.env.scope = sc) (hx : Str.ofString x = nm) (hr : cf.rs.contains x = true) (hg : glB sc nm = true) (hn : nmB nm = true) :
    PS X (.Raise (some (.Call (.Name nm p) [.Constant (.str m) j p2] [] p3)) none pos) (tS X.K ec W F C T (.raise x)) := by
  subst hx
  obtain ⟨h1, D, e1, q⟩ := g.rm x hr
  obtain ⟨l, el⟩ := Option.isSome_iff_exists.mp h1
  obtain ⟨D', e2, gm, kp, sb, ty, _⟩ := g.xc x l el
  rw [e1] at e2
  cases e2
  refine PS.imp (ps_raise g.g.calm g.g.tk (pmk_own PySem.F.excBase_ValueError q gm kp (raises_own sb ty) (gl_of hsc hg) (nmB_of hn).1)) fun En σ H ⟨ρ, B, Z, O, r, h⟩ => ?_
  unfold run1 at h
  exact (show ∀ σ' H' O' cls dd, Rel X.K B Z O' σ' H' ρ → IsExc ec x [] cls dd H' → W cls dd σ' H' from h) σ H O _ _ r ⟨e1.symm, fun _ => rfl, fun n => absurd rfl n⟩
/-! ### an except suite -/
def isNm (nm : Str) : Expr → Bool
  | .Name y _ => decide (y = nm)
  | _ => false
def noIte : Hx → Bool
  | .ite _ _ _ => false
  | .and a b => noIte a && noIte b
  | .or a b => noIte a && noIte b
  | .not a => noIte a
  | _ => true
mutual
def okHx (cf : Cf) (T : Tab) (i : Option Nat) : Hx → Scope → Expr → Bool
  | .lit d, _, e => (match e with
    | .Constant c _ _ => litB d c
    | _ => false)
  | .isIn c, sc, e => (match e with
    | .Call (.Name f _) [.Name y _, .Name z _] [] _ => one1 cf sc f "isinstance" && (match i with | some j => vrI cf sc j y | none => false) && decide (Str.ofString c = z) && glB sc z && nmB z && ((T.lookup c).isSome || cf.bx.contains c)
    | _ => false)
  | .isAny _, _, _ => false
  | .fld _, _, _ => false
  | .and a b, sc, e => (match e with
    | .BoolOp .And [x, y] _ => okHx cf T i a sc x && okHx cf T i b sc y
    | .BoolOp .And (x :: y :: z :: rest) pos => okHx cf T i a sc x && okHx cf T i b sc (.BoolOp .And (y :: z :: rest) pos)
    | _ => false)
  | .or a b, sc, e => (match e with
    | .BoolOp .Or [x, y] _ => okHx cf T i a sc x && okHx cf T i b sc y
    | .BoolOp .Or (x :: y :: z :: rest) pos => okHx cf T i a sc x && okHx cf T i b sc (.BoolOp .Or (y :: z :: rest) pos)
    | _ => false)
  | .not a, sc, e => (match e with
    | .UnaryOp .Not x _ => okHx cf T i a sc x
    | _ => false)
  | .ite c a b, sc, e => (match e with
    | .IfExp t x y _ => noIte c && okHx cf T i c sc t && okHx cf T i a sc x && okHx cf T i b sc y
    | _ => false)
  | .tup es, sc, e => (match e with
    | .Tuple elts _ _ => noStars elts && okHxs cf T i es sc elts && decide (es.length ≤ 1000)
    | _ => false)
def okHxs (cf : Cf) (T : Tab) (i : Option Nat) : List Hx → Scope → List Expr → Bool
  | [], _, es => es.isEmpty
  | c :: cs, sc, es => (match es with
    | e :: es => noStar e && okHx cf T i c sc e && okHxs cf T i cs sc es
    | [] => false)
end
/-- the value stands alone -/
def Alone (K : PySem.W.Frag) (H H' : Hp) (d : D) (v : V) : Prop := ∀ A : AS, (∀ y, A y → H y ≠ none) → RepR K (cut H' A) d v
theorem Alone.rep {K : PySem.W.Frag} {d : D} {v : V} (h : Alone K H H' d v) : RepR K H' d v := (h (fun _ => False) fun _ z => z.elim).mono cut_same
def tHx (K : PySem.W.Frag) (ec : EC) (T : Tab) (i : Option Nat) (a : Addr) (cls : Value) (dd : Option Addr) (c : Hx) : TE := fun σ H Q => ∃ (x : String) (p : List (String × Int)) (d : D), IsExc ec x p cls dd H ∧ (∀ j, i = some j → σ[j]? = some (some (.ref a))) ∧ hev T x p c = some d ∧ ∀ v H', Same H H' → Alone K H H' d v → Q v H'
def tHxs (K : PySem.W.Frag) (ec : EC) (T : Tab) (i : Option Nat) (a : Addr) (cls : Value) (dd : Option Addr) (c : List Hx) : TA := fun σ H Q => ∃ (x : String) (p : List (String × Int)) (ds : List D), IsExc ec x p cls dd H ∧ (∀ j, i = some j → σ[j]? = some (some (.ref a))) ∧ hevs T x p c = some ds ∧
  ∀ vs H', Same H H' → (∀ A : AS, (∀ y, A y → H y ≠ none) → RepRs K (cut H' A) ds vs) → Q vs H'
def tHt (ec : EC) (T : Tab) (i : Option Nat) (a : Addr) (cls : Value) (dd : Option Addr) (c : Hx) : TT := fun σ H Q => ∃ (x : String) (p : List (String × Int)) (b : Bool), IsExc ec x p cls dd H ∧ (∀ j, i = some j → σ[j]? = some (some (.ref a))) ∧ hev T x p c = some (.bl b) ∧ ∀ H', Same H H' → Q b H'
/-- the context of a suite -/
structure Sui (ec : EC) (cf : Cf) (T : Tab) (X : Cx) (a : Addr) (oe : Obj) (cls : Value) (dd : Option Addr) : Prop where
  hN : X.N = cf.N
  nd : X.N.Nodup
  fn : ∀ x, X.fn x = true
  hz : Zc cls dd oe
  hf : ∃ vs, oe.data = .fields vs
  bn : ∀ n : String, cf.bn.contains n = true → X.mg (Str.ofString n) = none
  xc : ∀ (x : String) l, T.lookup x = some l → XcOk X.K X.mg ec x
  sub : ∀ (x c : String) b l, isA T x c = some b → T.lookup c = some l → PySem.W.exmOne X.K (ec x) (ec c) = some b ∧ PySem.W.kitOne X.K (ec x) (ec c) = some b
  bsub : ∀ (x c : String) b, isA T x c = some b → cf.bx.contains c = true → PySem.W.kitOne X.K (ec x) (.type c) = some b ∧ bootBuiltins (Str.ofString c) = some (.type c) ∧ X.mg (Str.ofString c) = none
theorem Alone.bl {K : PySem.W.Frag} {b : Bool} : Alone K H H' (.bl b) (.bl b) := fun A _ => by unfold RepR; rfl
theorem isA_known {x c : String} {b : Bool} (h : isA T x c = some b) : ∃ l, T.lookup x = some l := by
  unfold isA at h
  cases e : T.lookup x with
  | none => rw [e] at h; cases h
  | some l => exact ⟨l, rfl⟩
section
variable {a : Addr} {oe : Obj} {cls : Value} {dd : Option Addr} {pn : List (Addr × Obj)} {i : Option Nat}
theorem h_isIn {c : String} {f y z : Str} {p1 p2 p3 : Pos} (S : Sui ec cf T X a oe cls dd) (hsc : X.env.scope = sc) (h1 : one1 cf sc f "isinstance" = true) (h2 : (match i with | some j => vrI cf sc j y | none => false) = true) (h3 : Str.ofString c = z) (h4 : glB sc z = true) (h5 : nmB z = true) (h6 : ((T.lookup c).isSome || cf.bx.contains c) = true) :
    PE (X.suite a ((a, oe) :: pn)) (.Call (.Name f p1) [.Name y p2, .Name z p3] [] pos) (tHx X.K ec T i a cls dd (.isIn c)) := by
  have contra : ∀ {σ H Q}, tHx X.K ec T i a cls dd (.isIn c) σ H Q → (∃ D, cls = .ref D ∧ ExcC X.K D ∧ dd = none) ∧ ∃ x b, isA T x c = some b := fun {σ H Q} ⟨x, p, d, ix, es, hv, q⟩ => by
    unfold hev at hv
    split at hv
    · rename_i hp
      cases e : isA T x c with
      | none => rw [e] at hv; cases hv
      | some b =>
        obtain ⟨l, el⟩ := isA_known e
        obtain ⟨D, e1, _, _, _, _, C⟩ := S.xc x l el
        exact ⟨⟨D, by rw [ix.1, e1], C, ix.2.1 (List.isEmpty_iff.mp hp)⟩, x, b, e⟩
    · cases hv
  by_cases hD : (∃ D, cls = .ref D ∧ ExcC X.K D ∧ dd = none) ∧ ∃ x b, isA T x c = some b
  · obtain ⟨⟨D, e1, EC', e2⟩, hk⟩ := hD
    subst e1
    subst e2
    unfold one1 at h1
    simp only [Bool.and_eq_true] at h1
    obtain ⟨⟨⟨o1, o2⟩, o3⟩, o4⟩ := h1
    have o1 := of_decide_eq_true o1
    subst o1
    split at h2 <;> first | (cases h2; done) | skip
    rename_i j
    unfold vrI at h2
    simp only [Bool.and_eq_true] at h2
    obtain ⟨⟨v1, v2⟩, v3⟩ := h2
    have pv : PE (X.suite a ((a, oe) :: pn)) (.Name y p2) (tVar j) := pe_var (by show X.N[j]? = _; rw [S.hN]; exact of_decide_eq_true v1) (vis_of (X := X) hsc v2) (nmB_of v3).1 (nmB_of v3).2.1
    have hg0 : Gl (X.suite a ((a, oe) :: pn)) (Str.ofString "isinstance") := gl_of (X := X) hsc o3
    have hgz : Gl (X.suite a ((a, oe) :: pn)) z := gl_of (X := X) hsc h4
    have hdn := (nmB_of o4)
    -- the class, as a value
    have hc : ∃ (cv : V) (cu : Value), PE (X.suite a ((a, oe) :: pn)) (.Name z p3) (tC cv) ∧ (∀ u, RelV cv u → u = cu) ∧ ∀ x b, isA T x c = some b → PySem.W.kitOne X.K (ec x) cu = some b := by
      rw [Bool.or_eq_true] at h6
      rcases h6 with h6 | h6
      · obtain ⟨l, el⟩ := Option.isSome_iff_exists.mp h6
        obtain ⟨D2, g1, g2, _⟩ := S.xc c l el
        subst h3
        exact ⟨.ref D2, .ref D2, pe_glob hgz g2 rfl (nmB_of h5).1, fun u r => r, fun x b h => by rw [← g1]; exact (S.sub x c b l h el).2⟩
      · obtain ⟨x, b, hk⟩ := hk
        obtain ⟨_, g2, g3⟩ := S.bsub x c b hk h6
        subst h3
        exact ⟨.ty c, .type c, pe_bltn hgz g3 g2 rfl (nmB_of h5).2.2 (nmB_of h5).1, fun u r => r, fun x b h => (S.bsub x c b h h6).1⟩
    obtain ⟨cv, cu, pc, rc, kc⟩ := hc
    refine PE.imp (pe_callB (call_isE EC' S.hz S.hf) hg0 (S.bn _ o2) isi_boot (pa_cons pv (pa_cons pc pa_nil)) hdn.2.2 hdn.1) fun σ H Q ⟨x, p, d, ix, es, hv, q⟩ => ?_
    unfold hev at hv
    split at hv
    · cases e : isA T x c with
      | none => rw [e] at hv; cases hv
      | some b =>
        rw [e] at hv
        cases hv
        exact ⟨_, es j rfl, cv, cu, b, rfl, rc, by rw [ix.1]; exact kc x b e, q _ _ (Same.refl _) Alone.bl⟩
    · cases hv
  · exact ⟨fun pins s σ H Q I h => absurd (contra h) hD⟩
theorem hx_and {c d : Hx} {x y : Expr} {rest : List Expr} (ha : PE (X.suite a ((a, oe) :: pn)) x (tHx X.K ec T i a cls dd c)) (hb : PE (X.suite a ((a, oe) :: pn)) (.BoolOp .And (y :: rest) pos) (tHx X.K ec T i a cls dd d)) : PE (X.suite a ((a, oe) :: pn)) (.BoolOp .And (x :: y :: rest) pos) (tHx X.K ec T i a cls dd (.and c d)) := by
  refine PE.imp (pe_and ha hb) fun σ H Q ⟨x, p, r, ix, es, hv, q⟩ => ?_
  unfold hev at hv
  split at hv
  · rename_i e
    refine ⟨x, p, _, ix, es, e, fun v H1 s1 al => ⟨true, al.rep.bl, ?_⟩⟩
    rw [if_pos rfl]
    exact ⟨x, p, _, ix.mono s1, es, hv, fun v' H2 s2 al2 => q v' H2 (s1.trans s2) fun A hA => al2 A fun y z e => hA y z (s1.free e)⟩
  · rename_i e
    cases hv
    refine ⟨x, p, _, ix, es, e, fun v H1 s1 al => ⟨false, al.rep.bl, ?_⟩⟩
    rw [if_neg Bool.false_ne_true]
    exact q _ H1 s1 Alone.bl
  · cases hv
theorem hx_or {c d : Hx} {x y : Expr} {rest : List Expr} (ha : PE (X.suite a ((a, oe) :: pn)) x (tHx X.K ec T i a cls dd c)) (hb : PE (X.suite a ((a, oe) :: pn)) (.BoolOp .Or (y :: rest) pos) (tHx X.K ec T i a cls dd d)) : PE (X.suite a ((a, oe) :: pn)) (.BoolOp .Or (x :: y :: rest) pos) (tHx X.K ec T i a cls dd (.or c d)) := by
  refine PE.imp (pe_or ha hb) fun σ H Q ⟨x, p, r, ix, es, hv, q⟩ => ?_
  unfold hev at hv
  split at hv
  · rename_i e
    cases hv
    refine ⟨x, p, _, ix, es, e, fun v H1 s1 al => ⟨true, al.rep.bl, ?_⟩⟩
    rw [if_pos rfl]
    exact q _ H1 s1 Alone.bl
  · rename_i e
    refine ⟨x, p, _, ix, es, e, fun v H1 s1 al => ⟨false, al.rep.bl, ?_⟩⟩
    rw [if_neg Bool.false_ne_true]
    exact ⟨x, p, _, ix.mono s1, es, hv, fun v' H2 s2 al2 => q v' H2 (s1.trans s2) fun A hA => al2 A fun y z e => hA y z (s1.free e)⟩
  · cases hv
theorem hx_not {c : Hx} {x : Expr} (ha : PE (X.suite a ((a, oe) :: pn)) x (tHx X.K ec T i a cls dd c)) : PE (X.suite a ((a, oe) :: pn)) (.UnaryOp .Not x pos) (tHx X.K ec T i a cls dd (.not c)) := by
  refine PE.imp (pe_not ha) fun σ H Q ⟨x, p, r, ix, es, hv, q⟩ => ?_
  unfold hev at hv
  split at hv
  · rename_i b e
    cases hv
    exact ⟨x, p, _, ix, es, e, fun v H1 s1 al => ⟨b, al.rep.bl, q _ H1 s1 Alone.bl⟩⟩
  · cases hv
/-- as a test -/
theorem ht_val {c : Hx} {e : Expr} (ha : PE (X.suite a ((a, oe) :: pn)) e (tHx X.K ec T i a cls dd c)) (hp : plainTest e = true) : PT (X.suite a ((a, oe) :: pn)) e (tHt ec T i a cls dd c) := by
  refine PT.imp (pt_val ha fun whole => by cases e <;> first | rfl | cases hp) fun σ H Q ⟨x, p, b, ix, es, hv, q⟩ => ?_
  exact ⟨x, p, _, ix, es, hv, fun v H1 s1 al => ⟨b, al.rep.bl, q H1 s1⟩⟩
theorem ht_and {c d : Hx} {x y : Expr} {rest : List Expr} (ha : PT (X.suite a ((a, oe) :: pn)) x (tHt ec T i a cls dd c)) (hb : PW (X.suite a ((a, oe) :: pn)) (.BoolOp .And (y :: rest) pos) (tHt ec T i a cls dd d)) : PW (X.suite a ((a, oe) :: pn)) (.BoolOp .And (x :: y :: rest) pos) (tHt ec T i a cls dd (.and c d)) := by
  refine PW.imp (pw_and ha hb) fun σ H Q ⟨x, p, b, ix, es, hv, q⟩ => ?_
  unfold hev at hv
  split at hv
  · rename_i e
    refine ⟨x, p, _, ix, es, e, fun H1 s1 => ?_⟩
    dsimp only
    rw [if_pos rfl]
    exact ⟨x, p, b, ix.mono s1, es, hv, fun H2 s2 => q H2 (s1.trans s2)⟩
  · rename_i e
    cases hv
    refine ⟨x, p, _, ix, es, e, fun H1 s1 => ?_⟩
    dsimp only
    rw [if_neg Bool.false_ne_true]
    exact q H1 s1
  · cases hv
theorem ht_or {c d : Hx} {x y : Expr} {rest : List Expr} (ha : PT (X.suite a ((a, oe) :: pn)) x (tHt ec T i a cls dd c)) (hb : PW (X.suite a ((a, oe) :: pn)) (.BoolOp .Or (y :: rest) pos) (tHt ec T i a cls dd d)) : PW (X.suite a ((a, oe) :: pn)) (.BoolOp .Or (x :: y :: rest) pos) (tHt ec T i a cls dd (.or c d)) := by
  refine PW.imp (pw_or ha hb) fun σ H Q ⟨x, p, b, ix, es, hv, q⟩ => ?_
  unfold hev at hv
  split at hv
  · rename_i e
    cases hv
    refine ⟨x, p, _, ix, es, e, fun H1 s1 => ?_⟩
    dsimp only
    rw [if_pos rfl]
    exact q H1 s1
  · rename_i e
    refine ⟨x, p, _, ix, es, e, fun H1 s1 => ?_⟩
    dsimp only
    rw [if_neg Bool.false_ne_true]
    exact ⟨x, p, b, ix.mono s1, es, hv, fun H2 s2 => q H2 (s1.trans s2)⟩
  · cases hv
theorem ht_not {c : Hx} {x : Expr} (ha : PT (X.suite a ((a, oe) :: pn)) x (tHt ec T i a cls dd c)) : PT (X.suite a ((a, oe) :: pn)) (.UnaryOp .Not x pos) (tHt ec T i a cls dd (.not c)) := by
  refine PT.imp (pt_not ha) fun σ H Q ⟨x, p, b, ix, es, hv, q⟩ => ?_
  unfold hev at hv
  split at hv
  · rename_i b' e
    cases hv
    exact ⟨x, p, _, ix, es, e, fun H1 s1 => q H1 s1⟩
  · cases hv
theorem h_lit {d : D} {c : Const} {j : Nat} (h : litB d c = true) : PE (X.suite a ((a, oe) :: pn)) (.Constant c j pos) (tHx X.K ec T i a cls dd (.lit d)) := by
  have al : ∀ {H : Hp} {v : V}, RepR X.K H d v → (∀ H', RepR X.K H' d v) → Alone X.K H H d v := fun r f A _ => f _
  cases d <;> cases c <;> first | (cases h; done) | skip
  · exact PE.imp pe_non fun σ H Q ⟨x, p, r, ix, es, hv, q⟩ => by
      unfold hev at hv; cases hv
      exact q _ H (Same.refl _) fun A _ => by unfold RepR; rfl
  · rename_i b b'
    have e : b = b' := by simpa [litB] using h
    subst e
    exact PE.imp pe_bl fun σ H Q ⟨x, p, r, ix, es, hv, q⟩ => by
      unfold hev at hv; cases hv
      exact q _ H (Same.refl _) fun A _ => by unfold RepR; rfl
  · rename_i b b'
    have e : b = b' := by simpa [litB] using h
    subst e
    exact PE.imp pe_int fun σ H Q ⟨x, p, r, ix, es, hv, q⟩ => by
      unfold hev at hv; cases hv
      exact q _ H (Same.refl _) fun A _ => by unfold RepR; rfl
  · rename_i b b'
    have e : b'.cps.toList = b := by simpa [litB] using h
    subst e
    exact PE.imp pe_str fun σ H Q ⟨x, p, r, ix, es, hv, q⟩ => by
      unfold hev at hv; cases hv
      exact q _ H (Same.refl _) fun A _ => by unfold RepR; rw [mkS_list]
theorem hx_tup {cs : List Hx} {es : List Expr} {k : Nat} (hl : cs.length ≤ 1000) (hlen : ∀ x p ds, hevs T x p cs = some ds → ds.length = cs.length) (ha : PA (X.suite a ((a, oe) :: pn)) es (tHxs X.K ec T i a cls dd cs)) : PE (X.suite a ((a, oe) :: pn)) (.Tuple es k pos) (tHx X.K ec T i a cls dd (.tup cs)) := by
  refine PE.imp (pe_tup ha) fun σ H Q ⟨x, p, r, ix, ess, hv, q⟩ => ?_
  unfold hev at hv
  cases e : hevs T x p cs with
  | none => rw [e] at hv; cases hv
  | some ds =>
    rw [e] at hv
    cases hv
    refine ⟨x, p, ds, ix, ess, e, fun vs H1 s1 al => ⟨?_, fun T' hT => q _ _ (s1.trans (same_new hT)) fun A hA => ?_⟩⟩
    · have := (al (fun _ => False) fun _ z => z.elim).length
      rw [this, hlen x p ds e, sizeLine_eq]
      omega
    · unfold RepR
      exact ⟨T', vs, rfl, SqT.of (cut_of upd_same fun z => hA T' z (s1.free hT)), (al A hA).mono (cut_heap (same_new hT))⟩
theorem hevs_len {x : String} {p : List (String × Int)} : ∀ {cs : List Hx} {ds : List D}, hevs T x p cs = some ds → ds.length = cs.length
  | [], ds, h => by unfold hevs at h; cases h; rfl
  | c :: cs, ds, h => by
    unfold hevs at h
    split at h
    · rename_i e1 e2
      cases h
      simp [hevs_len e2]
    · cases h
theorem hxs_nil : PA (X.suite a ((a, oe) :: pn)) [] (tHxs X.K ec T i a cls dd []) := PA.imp pa_nil fun σ H Q ⟨x, p, ds, ix, es, hv, q⟩ => by
  unfold hevs at hv
  cases hv
  exact q [] H (Same.refl _) fun A _ => RepRs.nil
theorem hxs_cons {c : Hx} {cs : List Hx} {e : Expr} {es : List Expr} (hs : noStar e = true) (ha : PE (X.suite a ((a, oe) :: pn)) e (tHx X.K ec T i a cls dd c)) (hr : PA (X.suite a ((a, oe) :: pn)) es (tHxs X.K ec T i a cls dd cs)) : PA (X.suite a ((a, oe) :: pn)) (e :: es) (tHxs X.K ec T i a cls dd (c :: cs)) := by
  refine PA.imp (pa_cons ha hr (starEach_of hs)) fun σ H Q ⟨x, p, ds, ix, ess, hv, q⟩ => ?_
  unfold hevs at hv
  split at hv
  · rename_i d ds' e1 e2
    cases hv
    refine ⟨x, p, d, ix, ess, e1, fun v H1 s1 al => ⟨x, p, ds', ix.mono s1, ess, e2, fun vs H2 s2 al2 => q _ H2 (s1.trans s2) fun A hA => ?_⟩⟩
    exact RepRs.cons ((al A hA).mono (cut_heap s2)) (al2 A fun y z e => hA y z (s1.free e))
  · cases hv
mutual
theorem hx_ok (S : Sui ec cf T X a oe cls dd) (hsc : X.env.scope = sc) : ∀ {c : Hx} {e : Expr}, okHx cf T i c sc e = true → PE (X.suite a ((a, oe) :: pn)) e (tHx X.K ec T i a cls dd c)
  | .lit d, e, h => by
    unfold okHx at h
    split at h <;> first | (cases h; done) | skip
    exact h_lit h
  | .isIn c, e, h => by
    unfold okHx at h
    split at h <;> first | (cases h; done) | skip
    simp only [Bool.and_eq_true] at h
    obtain ⟨⟨⟨⟨⟨h1, h2⟩, h3⟩, h4⟩, h5⟩, h6⟩ := h
    exact h_isIn S hsc h1 h2 (of_decide_eq_true h3) h4 h5 h6
  | .isAny _, e, h => by unfold okHx at h; cases h
  | .fld _, e, h => by unfold okHx at h; cases h
  | .and c d, e, h => by
    unfold okHx at h
    split at h <;> first | (cases h; done) | skip
    · rw [Bool.and_eq_true] at h
      exact hx_and (hx_ok S hsc h.1) (pe_one (hx_ok S hsc h.2))
    · rw [Bool.and_eq_true] at h
      exact hx_and (hx_ok S hsc h.1) (hx_ok S hsc h.2)
  | .or c d, e, h => by
    unfold okHx at h
    split at h <;> first | (cases h; done) | skip
    · rw [Bool.and_eq_true] at h
      exact hx_or (hx_ok S hsc h.1) (pe_one (hx_ok S hsc h.2))
    · rw [Bool.and_eq_true] at h
      exact hx_or (hx_ok S hsc h.1) (hx_ok S hsc h.2)
  | .not c, e, h => by
    unfold okHx at h
    split at h <;> first | (cases h; done) | skip
    exact hx_not (hx_ok S hsc h)
  | .ite c p q, e, h => by
    unfold okHx at h
    split at h <;> first | (cases h; done) | skip
    simp only [Bool.and_eq_true] at h
    obtain ⟨⟨⟨h0, h1⟩, h2⟩, h3⟩ := h
    refine PE.imp (pe_ifExp (ht_ok S hsc h0 h1).1 (hx_ok S hsc h2) (hx_ok S hsc h3)) fun σ H Q ⟨x, p, r, ix, es, hv, q⟩ => ?_
    unfold hev at hv
    split at hv
    · rename_i e
      refine ⟨x, p, true, ix, es, e, fun H1 s1 => ?_⟩
      dsimp only
      rw [if_pos rfl]
      exact ⟨x, p, _, ix.mono s1, es, hv, fun v' H2 s2 al2 => q v' H2 (s1.trans s2) fun A hA => al2 A fun y z e => hA y z (s1.free e)⟩
    · rename_i e
      refine ⟨x, p, false, ix, es, e, fun H1 s1 => ?_⟩
      dsimp only
      rw [if_neg Bool.false_ne_true]
      exact ⟨x, p, _, ix.mono s1, es, hv, fun v' H2 s2 al2 => q v' H2 (s1.trans s2) fun A hA => al2 A fun y z e => hA y z (s1.free e)⟩
    · cases hv
  | .tup cs, e, h => by
    unfold okHx at h
    split at h <;> first | (cases h; done) | skip
    simp only [Bool.and_eq_true] at h
    exact hx_tup (of_decide_eq_true h.2) (fun x p ds h => hevs_len h) (hxs_ok S hsc h.1.2)
theorem ht_ok (S : Sui ec cf T X a oe cls dd) (hsc : X.env.scope = sc) : ∀ {c : Hx} {e : Expr}, noIte c = true → okHx cf T i c sc e = true → PT (X.suite a ((a, oe) :: pn)) e (tHt ec T i a cls dd c) ∧ ∀ op xs pos, e = .BoolOp op xs pos → PW (X.suite a ((a, oe) :: pn)) e (tHt ec T i a cls dd c)
  | .lit d, e, hn, h => by
    unfold okHx at h
    split at h <;> first | (cases h; done) | skip
    exact ⟨ht_val (h_lit h) rfl, fun _ _ _ q => by cases q⟩
  | .isIn c, e, hn, h => by
    unfold okHx at h
    split at h <;> first | (cases h; done) | skip
    simp only [Bool.and_eq_true] at h
    obtain ⟨⟨⟨⟨⟨h1, h2⟩, h3⟩, h4⟩, h5⟩, h6⟩ := h
    exact ⟨ht_val (h_isIn S hsc h1 h2 (of_decide_eq_true h3) h4 h5 h6) rfl, fun _ _ _ q => by cases q⟩
  | .isAny _, e, hn, h => by unfold okHx at h; cases h
  | .fld _, e, hn, h => by unfold okHx at h; cases h
  | .and c d, e, hn, h => by
    unfold noIte at hn
    rw [Bool.and_eq_true] at hn
    unfold okHx at h
    split at h <;> first | (cases h; done) | skip
    · rw [Bool.and_eq_true] at h
      have q := ht_and (pos := (by assumption)) (ht_ok S hsc hn.1 h.1).1 (pw_and1 (ht_ok S hsc hn.2 h.2).1)
      exact ⟨q.pt, fun _ _ _ _ => q⟩
    · rw [Bool.and_eq_true] at h
      have q := ht_and (ht_ok S hsc hn.1 h.1).1 ((ht_ok S hsc hn.2 h.2).2 _ _ _ rfl)
      exact ⟨q.pt, fun _ _ _ _ => q⟩
  | .or c d, e, hn, h => by
    unfold noIte at hn
    rw [Bool.and_eq_true] at hn
    unfold okHx at h
    split at h <;> first | (cases h; done) | skip
    · rw [Bool.and_eq_true] at h
      have q := ht_or (pos := (by assumption)) (ht_ok S hsc hn.1 h.1).1 (pw_or1 (ht_ok S hsc hn.2 h.2).1)
      exact ⟨q.pt, fun _ _ _ _ => q⟩
    · rw [Bool.and_eq_true] at h
      have q := ht_or (ht_ok S hsc hn.1 h.1).1 ((ht_ok S hsc hn.2 h.2).2 _ _ _ rfl)
      exact ⟨q.pt, fun _ _ _ _ => q⟩
  | .not c, e, hn, h => by
    unfold noIte at hn
    unfold okHx at h
    split at h <;> first | (cases h; done) | skip
    exact ⟨ht_not (ht_ok S hsc hn h).1, fun _ _ _ q => by cases q⟩
  | .ite c p q, e, hn, h => by unfold noIte at hn; cases hn
  | .tup cs, e, hn, h => by
    refine ⟨⟨fun pins s σ H Q I h2 => ?_⟩, fun op xs pos q => ?_⟩
    · obtain ⟨x, p, b, _, _, hv, _⟩ := h2
      unfold hev at hv
      cases e : hevs T x p cs with
      | none => rw [e] at hv; cases hv
      | some ds => rw [e] at hv; cases hv
    · subst q; unfold okHx at h; cases h
theorem hxs_ok (S : Sui ec cf T X a oe cls dd) (hsc : X.env.scope = sc) : ∀ {cs : List Hx} {es : List Expr}, okHxs cf T i cs sc es = true → PA (X.suite a ((a, oe) :: pn)) es (tHxs X.K ec T i a cls dd cs)
  | [], [], h => hxs_nil
  | [], _ :: _, h => by unfold okHxs at h; cases h
  | _ :: _, [], h => by unfold okHxs at h; cases h
  | c :: cs, e :: es, h => by
    unfold okHxs at h
    simp only [Bool.and_eq_true] at h
    exact hxs_cons h.1.1 (hx_ok S hsc h.1.2) (hxs_ok S hsc h.2)
end
/-! statements of a suite -/
def postH (K : PySem.W.Frag) (B : Hp) (Z : AS) (i : Option Nat) (a : Addr) (H : Hp) (En : Ends) : Rs → Prop
  | .nx ρ' => ∀ σ' H' O', Rel K B Z O' σ' H' ρ' → Same H H' → (∀ j, i = some j → σ'[j]? = some (some (.ref a))) → En.nx σ' H'
  | .bk ρ' => ∀ σ' H' O', Rel K B Z O' σ' H' ρ' → Same H H' → (∀ j, i = some j → σ'[j]? = some (some (.ref a))) → En.bk σ' H'
  | .ct ρ' => ∀ σ' H' O', Rel K B Z O' σ' H' ρ' → Same H H' → (∀ j, i = some j → σ'[j]? = some (some (.ref a))) → En.ct σ' H'
  | .ret k d => ∀ v H', Same H H' → Same B H' → RetR K B H' Z k d v → En.rt v H'
  | _ => False
def tH (K : PySem.W.Frag) (ec : EC) (T : Tab) (i : Option Nat) (a : Addr) (cls : Value) (dd : Option Addr) (c : Hs) : TS := fun En σ H => ∃ (ρ : Env) (B : Hp) (Z : AS) (O : Nat → AS) (x : String) (p : List (String × Int)), Rel K B Z O σ H ρ ∧ IsExc ec x p cls dd H ∧ (∀ j, i = some j → σ[j]? = some (some (.ref a))) ∧ postH K B Z i a H En (hrun T x p c ρ)
def tHs (K : PySem.W.Frag) (ec : EC) (T : Tab) (i : Option Nat) (a : Addr) (cls : Value) (dd : Option Addr) (c : List Hs) : TS := fun En σ H => ∃ (ρ : Env) (B : Hp) (Z : AS) (O : Nat → AS) (x : String) (p : List (String × Int)), Rel K B Z O σ H ρ ∧ IsExc ec x p cls dd H ∧ (∀ j, i = some j → σ[j]? = some (some (.ref a))) ∧ postH K B Z i a H En (hruns T x p c ρ)
mutual
def okH (cf : Cf) (T : Tab) (i : Option Nat) : Hs → Scope → Stmt → Bool
  | .ret e, sc, st => (match st with
    | .Return (some x) _ => okHx cf T i e sc x
    | _ => false)
  | .ifs c a b, sc, st => (match st with
    | .If t p q _ => noIte c && okHx cf T i c sc t && okHs cf T i a sc p && okHs cf T i b sc q
    | _ => false)
  | .set j e, sc, st => (match st with
    | .Assign [.Name x _] v _ => nmI cf sc j x && decide (i ≠ some j) && okHx cf T i e sc v && !(isComp v)
    | _ => false)
  | .pass, _, st => (match st with
    | .Pass _ => true
    | _ => false)
  | .brk, _, st => (match st with
    | .Break _ => true
    | _ => false)
  | .cont, _, st => (match st with
    | .Continue _ => true
    | _ => false)
def okHs (cf : Cf) (T : Tab) (i : Option Nat) : List Hs → Scope → List Stmt → Bool
  | [], _, sts => sts.isEmpty
  | c :: cs, sc, sts => (match sts with
    | st :: sts => okH cf T i c sc st && okHs cf T i cs sc sts
    | [] => false)
end
theorem suite_own {K : PySem.W.Frag} {d : D} {v : V} (c : d.cont = false) (al : Alone K H H' d v) (hA : ∀ y, A y → H y ≠ none) : Own K H' (fun x => A x ∨ False) 9 d v (fun _ => False) :=
  (Own.flat c).mpr ⟨fun _ z => z, (al A hA).mono (cut_set fun x z => z.elim id False.elim)⟩
theorem postH_seq {r : Rs} {f : Env → Rs} (h : postH X.K B Z i a H En (r.seq f)) : postH X.K B Z i a H { En with nx := fun σ' H' => ∃ ρ' O', Rel X.K B Z O' σ' H' ρ' ∧ Same H H' ∧ (∀ j, i = some j → σ'[j]? = some (some (.ref a))) ∧ postH X.K B Z i a H En (f ρ') } r := by
  cases r with
  | nx ρ' => exact fun σ' H' O' rel s e => ⟨ρ', O', rel, s, e, h⟩
  | bk ρ' => exact h
  | ct ρ' => exact h
  | ret k d => exact h
  | exc x p ρ' => exact h
  | stuck => exact h
theorem postH_mono {r : Rs} (s : Same H H') (h : postH X.K B Z i a H En r) : postH X.K B Z i a H' En r := by
  cases r with
  | nx ρ' => exact fun σ' H2 O' rel s2 e => h σ' H2 O' rel (s.trans s2) e
  | bk ρ' => exact fun σ' H2 O' rel s2 e => h σ' H2 O' rel (s.trans s2) e
  | ct ρ' => exact fun σ' H2 O' rel s2 e => h σ' H2 O' rel (s.trans s2) e
  | ret k d => exact fun v H2 s2 => h v H2 (s.trans s2)
  | exc x p ρ' => exact h
  | stuck => exact h
mutual
theorem hs_one (S : Sui ec cf T X a oe cls dd) (hsc : X.env.scope = sc) : ∀ {c : Hs} {st : Stmt}, okH cf T i c sc st = true → PS (X.suite a ((a, oe) :: pn)) st (tH X.K ec T i a cls dd c)
  | .ret e, st, h => by
    unfold okH at h
    split at h <;> first | (cases h; done) | skip
    refine PS.imp (ps_ret (hx_ok S hsc h)) fun En σ H ⟨ρ, B, Z, O, x, p, r, ix, es, q⟩ => ?_
    unfold hrun at q
    split at q
    · rename_i d hd
      split at q
      · exact q.elim
      · rename_i hc
        refine ⟨x, p, d, ix, es, hd, fun v H1 s1 al => ?_⟩
        refine (show ∀ v H', Same H H' → Same B H' → RetR X.K B H' Z 9 d v → En.rt v H' from q) v H1 s1 (r.base.trans s1) ⟨fun _ => False, fun _ z => z.elim, suite_own (by simpa using hc) al fun y z => (r.zm y z).ne⟩
    · exact q.elim
  | .ifs c p q, st, h => by
    unfold okH at h
    split at h <;> first | (cases h; done) | skip
    simp only [Bool.and_eq_true] at h
    obtain ⟨⟨⟨h0, h1⟩, h2⟩, h3⟩ := h
    refine PS.imp (ps_if (ht_ok S hsc h0 h1).1 (hs_all S hsc h2) (hs_all S hsc h3)) fun En σ H ⟨ρ, B, Z, O, x, p, r, ix, es, q⟩ => ?_
    unfold hrun at q
    split at q
    · rename_i e
      refine ⟨x, p, true, ix, es, e, fun H1 s1 => ?_⟩
      dsimp only
      rw [if_pos rfl]
      exact ⟨ρ, B, Z, O, x, p, r.mono s1, ix.mono s1, es, postH_mono s1 q⟩
    · rename_i e
      refine ⟨x, p, false, ix, es, e, fun H1 s1 => ?_⟩
      dsimp only
      rw [if_neg Bool.false_ne_true]
      exact ⟨ρ, B, Z, O, x, p, r.mono s1, ix.mono s1, es, postH_mono s1 q⟩
    · exact q.elim
  | .set j e, st, h => by
    unfold okH at h
    split at h <;> first | (cases h; done) | skip
    rename_i nm pos1 v pos2
    simp only [Bool.and_eq_true, Bool.not_eq_true'] at h
    obtain ⟨⟨⟨h1, h2⟩, h3⟩, h4⟩ := h
    have h2 := of_decide_eq_true h2
    unfold nmI at h1
    rw [Bool.and_eq_true] at h1
    have hl : Loc X.env.scope nm := by
      rw [hsc]
      have h2 := h1.2
      unfold locB at h2
      split at h2
      · exact .inl (by assumption)
      · exact .inr (by assumption)
      · cases h2
    refine PS.imp (ps_set (X := X.suite a ((a, oe) :: pn)) S.nd (by show X.N[j]? = _; rw [S.hN]; exact of_decide_eq_true h1.1) hl (hx_ok S hsc h3) (swaps_no h4) (.inl (S.fn nm))) fun En σ H ⟨ρ, B, Z, O, x, p, r, ix, es, q⟩ => ?_
    unfold hrun at q
    split at q
    · rename_i d hd
      split at q
      · exact q.elim
      · rename_i hc
        refine ⟨x, p, d, ix, es, hd, fun v H1 s1 al => ?_⟩
        unfold setR at q
        split at q
        · rename_i hi
          obtain ⟨O', _, r'⟩ := (r.mono s1).storeF (k := 9) (v := v) (by simpa using hc) (al _ fun y z => (r.am z).ne) hi
          refine (show ∀ σ' H' O', Rel X.K B Z O' σ' H' (ρ.set j (some (9, d))) → Same H H' → (∀ j, i = some j → σ'[j]? = some (some (.ref a))) → En.nx σ' H' from q) _ H1 O' r' s1 fun j' e => ?_
          rw [List.getElem?_set_ne (fun z => h2 (by rw [e, z]))]
          exact es j' e
        · exact q.elim
    · exact q.elim
  | .pass, st, h => by
    unfold okH at h
    split at h <;> first | (cases h; done) | skip
    exact PS.imp ps_pass fun En σ H ⟨ρ, B, Z, O, x, p, r, ix, es, q⟩ => by
      unfold hrun at q
      exact (show ∀ σ' H' O', Rel X.K B Z O' σ' H' ρ → Same H H' → (∀ j, i = some j → σ'[j]? = some (some (.ref a))) → En.nx σ' H' from q) σ H O r (Same.refl _) es
  | .brk, st, h => by
    unfold okH at h
    split at h <;> first | (cases h; done) | skip
    exact PS.imp ps_break fun En σ H ⟨ρ, B, Z, O, x, p, r, ix, es, q⟩ => by
      unfold hrun at q
      exact (show ∀ σ' H' O', Rel X.K B Z O' σ' H' ρ → Same H H' → (∀ j, i = some j → σ'[j]? = some (some (.ref a))) → En.bk σ' H' from q) σ H O r (Same.refl _) es
  | .cont, st, h => by
    unfold okH at h
    split at h <;> first | (cases h; done) | skip
    exact PS.imp ps_continue fun En σ H ⟨ρ, B, Z, O, x, p, r, ix, es, q⟩ => by
      unfold hrun at q
      exact (show ∀ σ' H' O', Rel X.K B Z O' σ' H' ρ → Same H H' → (∀ j, i = some j → σ'[j]? = some (some (.ref a))) → En.ct σ' H' from q) σ H O r (Same.refl _) es
theorem hs_all (S : Sui ec cf T X a oe cls dd) (hsc : X.env.scope = sc) : ∀ {cs : List Hs} {sts : List Stmt}, okHs cf T i cs sc sts = true → PSs (X.suite a ((a, oe) :: pn)) sts (tHs X.K ec T i a cls dd cs)
  | [], [], h => PSs.imp pss_nil fun En σ H ⟨ρ, B, Z, O, x, p, r, ix, es, q⟩ => by
    unfold hruns at q
    exact (show ∀ σ' H' O', Rel X.K B Z O' σ' H' ρ → Same H H' → (∀ j, i = some j → σ'[j]? = some (some (.ref a))) → En.nx σ' H' from q) σ H O r (Same.refl _) es
  | [], _ :: _, h => by unfold okHs at h; cases h
  | _ :: _, [], h => by unfold okHs at h; cases h
  | c :: cs, st :: sts, h => by
    unfold okHs at h
    simp only [Bool.and_eq_true] at h
    refine PSs.imp (pss_cons (hs_one S hsc h.1) (hs_all S hsc h.2)) fun En σ H ⟨ρ, B, Z, O, x, p, r, ix, es, q⟩ => ?_
    unfold hruns at q
    have q := postH_seq q
    refine ⟨ρ, B, Z, O, x, p, r, ix, es, ?_⟩
    cases e : hrun T x p c ρ with
    | nx ρ' => rw [e] at q; exact fun σ' H' O' rel s es' => let ⟨ρ2, O2, rel2, s2, es2, p2⟩ := q σ' H' O' rel s es'; ⟨ρ2, B, Z, O2, x, p, rel2, ix.mono s2, es2, postH_mono s2 p2⟩
    | bk ρ' => rw [e] at q; exact q
    | ct ρ' => rw [e] at q; exact q
    | ret k d => rw [e] at q; exact q
    | exc x p ρ' => rw [e] at q; exact q
    | stuck => rw [e] at q; exact q
end
end
end
end Px

/-! PxN: several except clauses, each with a name. -/
namespace Px
open PySem PySem.Spec L2
abbrev Suit := Addr → Value → Option Addr → TS
/-- the ends behind a suite: slot i is empty again -/
def offE (i : Nat) (D : Ends) : Ends := ⟨fun τ G => D.nx (τ.set i none) G, D.rt, fun τ G => D.bk (τ.set i none) G, fun τ G => D.ct (τ.set i none) G⟩
/-- what the clauses wish, one after the other -/
def wNm (K : PySem.W.Frag) (i : Nat) (W : WX) (D : Ends) : List (Value × Suit) → WX
  | [] => W
  | q :: r => fun cls d σ H => ∃ b, PySem.W.exmOne K cls q.1 = some b ∧ (if b = true then ∀ a, H a = none → q.2 a cls d (offE i D) (σ.set i (some (.ref a))) H else wNm K i W D r cls d σ H)
/-- the written clauses are those -/
def IsCl (X : Cx) (i : Nat) : List ExceptHandler → List (Value × Suit) → Prop
  | [], [] => True
  | h :: hs, q :: qs => (∃ (x n : Str) (b : Stmt) (bs : List Stmt) (np p : Pos), h = .ExceptHandler (some (.Name x np)) (some n) (b :: bs) p ∧ Names X x q.1 ∧ X.N[i]? = some n ∧ X.env.kindOf n = some .local ∧
      ∀ (a : Addr) (oe : Obj) (cls : Value) (d : Option Addr) (pn : List (Addr × Obj)), Zc cls d oe → (∃ vs, oe.data = .fields vs) → PSs (X.suite a ((a, oe) :: pn)) (b :: bs) (q.2 a cls d)) ∧ IsCl X i hs qs
  | _, _ => False
/-- an exception that has come to the clauses -/
structure Here (X : Cx) (pins : List (Addr × Obj)) (a : Addr) (B : Heap) (s0 s : Shared) (σ : L2.St) (H : Hp) (cls : Value) (d : Option Addr) : Prop where
  ok : X.Ok
  stk : X.stack = X.env :: X.outer
  frm : X.env.frame = some X.env.locals
  inv : Inv X pins σ H s0
  nb : ∀ b o, s0.heap.get? b = some o → b ∉ frs X.stack → B.get? b = some o
  up : s0.heap.UpToSlots s.heap
  fly : HandSPX.FlyingZ B (X.env :: X.outer) a (Zc cls d) s.heap
  na : H a = none
  os : s.os = s0.os
  ag : PyProof.Rows.AllBare s.gens
section
variable {X : Cx} {pins : List (Addr × Obj)} {a : Addr} {B : Heap} {s0 s : Shared} {σ : L2.St} {H : Hp} {cls : Value} {d : Option Addr} {D : Ends} {W : WX} {i : Nat}
theorem Here.next (h : Here X pins a B s0 s σ H cls d) {g : Heap} (f : HandSPX.FlyingZ B (X.env :: X.outer) a (Zc cls d) g) (u : s.heap.UpToSlots g) : Here X pins a B s0 { s with heap := g } σ H cls d :=
  ⟨h.ok, h.stk, h.frm, h.inv, h.nb, h.up.trans u, f, h.na, h.os, h.ag⟩
/-- where the exception lies, the invariant with it -/
theorem Here.at_ (h : Here X pins a B s0 s σ H cls d) : Inv X pins σ H s ∧ ∃ (oe : Obj) (vs : Array Value), s.heap.get? a = some oe ∧ Zc cls d oe ∧ oe.data = .fields vs ∧ Inv (X.suite a ((a, oe) :: (X.pn ++ pins))) [] σ H s := by
  have J : Inv X pins σ H s := h.inv.landed h.nb h.fly.1 h.up h.os h.ag
  obtain ⟨oe, vs, e, z, ed⟩ := h.fly.there
  have out : a ∉ frs (X.env :: X.outer) := by
    intro m
    obtain ⟨_, o, eo, no⟩ := h.fly.2.2.1.mem m
    rw [e] at eo
    cases eo
    exact no _ ed
  have notL : a ≠ X.env.locals := by
    rintro rfl
    exact out (List.mem_filterMap.mpr ⟨X.env, List.mem_cons_self, h.frm⟩)
  have notF : a ∉ X.fs := by
    intro m
    obtain ⟨v, hv, q⟩ := List.mem_filterMap.mp m
    exact out (List.mem_filterMap.mpr ⟨v, List.mem_cons_of_mem _ hv, q⟩)
  exact ⟨J, oe, vs, e, z, ed, J.suite e ed h.na notL notF⟩
/-- a clause is chosen -/
theorem Here.suite {n : Str} {b : Stmt} {bs : List Stmt} {p : Pos} {ts : Suit} (h : Here X pins a B s0 s σ H cls d) (hN : X.N.Nodup) (hi : X.N[i]? = some n) (hl : X.env.kindOf n = some .local)
    (hsu : ∀ (a : Addr) (oe : Obj) (cls : Value) (d : Option Addr) (pn : List (Addr × Obj)), Zc cls d oe → (∃ vs, oe.data = .fields vs) → PSs (X.suite a ((a, oe) :: pn)) (b :: bs) (ts a cls d)) (w : ts a cls d (offE i D) (σ.set i (some (.ref a))) H)
    {R : Flow → Shared → Prop} {E1 E2 E3 : Value → Shared → Prop} {M : Model} {A : Around} (hM : M = model X.prog X.w) (hA : A = X.A) (hR : ∀ f s', SP X pins D f s' → R f s') :
    wpAny (model X.prog X.w) (X.A.mark (some (.ref a))) (storeName X.env n (.ref a)) (fun _ s₂ => wpAny (model X.prog X.w) (X.A.mark (some (.ref a))) (execs (b :: bs) X.env)
      (fun f s₃ => wpAny M A (do bindName X.env n .none; unbindBehindTheSuite X.env n p) (fun _ s₄ => R f s₄) E1 s₃) E2 s₂) E3 s := by
  subst hM hA
  obtain ⟨J, oe, vs, e, z, ed, S⟩ := h.at_
  refine store_ok (X := X.suite a ((a, oe) :: (X.pn ++ pins))) (v := .ref a) S hN hi (.inl hl) rfl (fun t T => ?_) (.inr hl)
  refine wpAny_mono ((hsu a oe cls d (X.pn ++ pins) z ⟨_, ed⟩).run [] t _ H _ T w) (fun f s6 hf => ?_) fun _ _ k => k.elim
  have gone : ∀ {τ : L2.St} {G : Hp} {q : Shared → Prop}, Inv (X.suite a ((a, oe) :: (X.pn ++ pins))) [] τ G s6 → (∀ s7, Inv X pins (τ.set i none) G s7 → q s7) → wpAny (model X.prog X.w) X.A (do bindName X.env n .none; unbindBehindTheSuite X.env n p) (fun _ s7 => q s7) E1 s6 :=
    fun U k => gone_ok (U.unsuite h.ok) hN hi hl k
  match f, hf with
  | .next, ⟨τ, G, U, q⟩ => exact gone U fun s7 V => hR _ _ ⟨_, _, V, q⟩
  | .brk, ⟨τ, G, U, q⟩ => exact gone U fun s7 V => hR _ _ ⟨_, _, V, q⟩
  | .cont, ⟨τ, G, U, q⟩ => exact gone U fun s7 V => hR _ _ ⟨_, _, V, q⟩
  | .ret u, ⟨v, τ, G, U, r, q⟩ => exact gone U fun s7 V => hR _ _ ⟨_, _, _, V, r, q⟩
/-- no clause is left -/
theorem Here.none_left (h : Here X pins a B s0 s σ H cls d) (tk : Takes X W) (w : W cls d σ H) : wpAny (model X.prog X.w) X.A (handleBy (.ref a) X.env []) (SP X pins D) X.xe s := by
  refine wpAny_handleBy_nil ?_
  have off : wpAny (model X.prog X.w) X.A (setFlight (.ref a) X.env.frame) (fun _ t => wpAny (model X.prog X.w) X.A (throw (.ref a) : Sem Flow) (SP X pins D) X.xe t) X.xe s := by
    rw [h.frm]
    refine HandSPX.setFlight_upZ h.fly fun g held u => wpAny_throw (tk _ _ ?_)
    refine ⟨a, B, s0, pins, σ, H, cls, d, rfl, h.inv, h.nb, h.up.trans u, .inr (.inr ?_), h.na, h.os, h.ag, w⟩
    rw [h.stk]; exact held
  obtain ⟨_, _, _, oe, vs, T, _, _, e, _, ed, e1, _⟩ := id h.fly
  unfold PySem.passOn
  refine wpAny_bind (wpAny_field e ed e1 ?_)
  rw [if_neg (by simp)]
  first
    | exact wpAny_bind (wpAny_pure (wpAny_bind off))
    | exact wpAny_bind off
theorem named_go (tk : Takes X W) (hN : X.N.Nodup) : ∀ {hs : List ExceptHandler} {qs : List (Value × Suit)} {s : Shared}, IsCl X i hs qs → Here X pins a B s0 s σ H cls d → wNm X.K i W D qs cls d σ H →
    wpAny (model X.prog X.w) X.A (handleBy (.ref a) X.env hs) (SP X pins D) X.xe s
  | [], [], s, _, h, w => h.none_left tk w
  | [], _ :: _, _, c, _, _ => c.elim
  | _ :: _, [], _, c, _, _ => c.elim
  | c0 :: hs, q :: qs, s, c, h, w => by
    obtain ⟨⟨x, n, b, bs, np, p, rfl, nm, hi, hl, hsu⟩, c⟩ := c
    obtain ⟨t, et, w⟩ := w
    obtain ⟨J, oe, vs, e, z, ed, S⟩ := h.at_
    have look : PySem.W.Looks (model X.prog X.w) s.heap (typeOf (.ref a)) cls := fun A Q E s k q => wpAny_typeOf_ref (k _ _ e) (by rw [z.1]; exact q)
    have mt := PySem.W.exm_one (M := model X.prog X.w) J.kIn look et
    refine wpAny_handleBy_cons (codeAny_handlers_test ?_) (by intro q; cases q)
    have name : ∀ {Q E : Value → Shared → Prop}, Q q.1 s → wpAny (model X.prog X.w) (X.A.mark (some (.ref a))) (eval (.Name x np) X.env) Q E s := by
      intro Q E k
      obtain ⟨hg, hd, hm | ⟨hm, hv, hn⟩⟩ := nm
      · exact ld_glob S hg hm k hd
      · exact ld_blt S hg hm hv k hn hd
    refine name (mt.here ?_)
    cases t with
    | false => exact named_go tk hN c h w
    | true =>
      refine codeAny_handlers_suite_as (HandSPX.lands_againZ h.fly fun g f u => ?_)
      exact (h.next f u).suite hN hi hl hsu (w a h.na) rfl rfl fun f s' k => k
/-- try with such clauses -/
theorem ps_named {body : List Stmt} {hs : List ExceptHandler} {qs : List (Value × Suit)} {h0 : ExceptHandler} {pos : Pos} {tb : WX → TS} (stk : X.stack = X.env :: X.outer) (frm : X.env.frame = some X.env.locals) (hN : X.N.Nodup) (tk : Takes X W) (c : IsCl X i (h0 :: hs) qs)
    (hb : ∀ (W : WX) (pn : List (Addr × Obj)) (xe : Value → Shared → Prop), Takes (X.tr pn xe) W → PassesOwn (model X.prog X.w) X.A X.env xe → PSs (X.tr pn xe) body (tb W)) :
    PS X (.Try body (h0 :: hs) [] [] pos) (fun D σ H => tb (wNm X.K i W D qs) D σ H) := by
  refine ⟨fun pins s σ H D I h => wpAny_Try_except ?_⟩
  have ok := I.ok
  have frames : X.A.frames = some (X.env :: X.outer) := ok.frames.trans (by rw [stk])
  let after : Value → Shared → Prop := fun e s₁ => wpAny (model X.prog X.w) X.A (noteFrame e X.env) (fun _ s₂ => wpAny (model X.prog X.w) X.A (setFlight e none) (fun _ s₃ => wpAny (model X.prog X.w) X.A (handleBy e X.env (h0 :: hs)) (SP X pins D) X.xe s₃) X.xe s₂) X.xe s₁
  have caught : Takes (X.tr (X.pn ++ pins) after) (wNm X.K i W D qs) := by
    rintro u s' ⟨a, B, s0, pins', σ', H', cls, d, rfl, J', nb, up, sky, na, os, ag, w⟩
    rw [show (X.tr (X.pn ++ pins) after).stack = X.env :: X.outer from stk] at sky
    refine Sky.land Zc.steady frames frm sky fun g f u => ?_
    exact named_go (s := { s' with heap := g }) tk hN c ⟨ok, stk, frm, J'.ofTry ok, nb, up.trans u, f, na, os, ag⟩ w
  refine wpAny_mono ((hb _ (X.pn ++ pins) after caught PassesOwn.looking).run [] s σ H D (I.toTry _) h) (fun f s1 done => ?_) fun _ _ z => z
  match f, done with
  | .next, ⟨τ, G, U, q⟩ => exact wpAny_execs_nil ⟨τ, G, U.ofTry ok, q⟩
  | .brk, ⟨τ, G, U, q⟩ => exact ⟨τ, G, U.ofTry ok, q⟩
  | .cont, ⟨τ, G, U, q⟩ => exact ⟨τ, G, U.ofTry ok, q⟩
  | .ret u, ⟨v, τ, G, U, r, q⟩ => exact ⟨v, τ, G, U.ofTry ok, r, q⟩
end
end Px

/-! Px21: try; all statements; a def. -/
namespace Px
open PySem PySem.Spec L2
section
variable {ec : EC} {W : WX} {F : List Fn} {C : List D} {T : Tab} {cf : Cf} {X : Cx} {sc : Scope} {pos : Pos}
variable {σ σ' : L2.St} {H H' H0 H1 H2 : Hp} {A : AS} {ρ ρ' : Env} {B B' : Hp} {Z P : AS} {O : Nat → AS} {En : Ends}
theorem GoodS.tr (g : GoodS ec cf F C T X W) {W' : WX} {pn : List (Addr × Obj)} {xe : Value → Shared → Prop} (tk : Takes (X.tr pn xe) W') (hp : PassesOwn (model X.prog X.w) X.A X.env xe) : GoodS ec cf F C T (X.tr pn xe) W' :=
  ⟨⟨g.g.calm, g.g.nd, g.g.hN, g.g.un, g.g.bn, g.g.fs, g.g.gc, g.g.gu, tk⟩, g.fn, g.kind, hp, g.stk, g.frm, g.xc, g.rm, g.sub, g.bsub⟩
theorem GoodS.sui (g : GoodS ec cf F C T X W) {a : Addr} {oe : Obj} {cls : Value} {dd : Option Addr} (hz : Zc cls dd oe) (hf : ∃ vs, oe.data = .fields vs) : Sui ec cf T X a oe cls dd :=
  ⟨g.g.hN, g.g.nd, g.fn, hz, hf, g.g.bn, g.xc, g.sub, g.bsub⟩
/-- the clauses -/
def okHd (cf : Cf) (T : Tab) : List (String × List Hs) → Scope → List ExceptHandler → Bool
  | [], _, hs => hs.isEmpty
  | (c, su) :: r, sc, hs => (match hs with
    | .ExceptHandler (some (.Name x _)) none (b :: bs) _ :: hs => decide (Str.ofString c = x) && (T.lookup c).isSome && glB sc x && nmB x && okHs cf T none su sc (b :: bs) && okHd cf T r sc hs
    | _ => false)
def okHd1 (cf : Cf) (T : Tab) (i : Nat) (c : String) (su : List Hs) (sc : Scope) : List ExceptHandler → Bool
  | [.ExceptHandler (some (.Name x _)) (some n) (b :: bs) _] => decide (Str.ofString c = x) && (T.lookup c).isSome && glB sc x && nmB x && decide (cf.N[i]? = some n) && decide (sc.names.lookup n = some .local) && okHs cf T (some i) su sc (b :: bs)
  | _ => false
theorem names_of {c : String} {x : Str} (g : GoodS ec cf F C T X W) (hsc : X.env.scope = sc) (h1 : Str.ofString c = x) (h2 : (T.lookup c).isSome = true) (h3 : glB sc x = true) (h4 : nmB x = true) : Names X x (ec c) := by
  obtain ⟨l, el⟩ := Option.isSome_iff_exists.mp h2
  obtain ⟨D, e1, gm, _⟩ := g.xc c l el
  exact ⟨gl_of hsc h3, (nmB_of h4).1, .inl (by rw [← h1, gm, e1])⟩
abbrev hdl (K : PySem.W.Frag) (ec : EC) (T : Tab) (hs : List (String × List Hs)) : List (Value × (Addr → Value → Option Addr → TS)) := hs.map fun h => (ec h.1, fun a cls dd => tHs K ec T none a cls dd h.2)
theorem hd_ok (g : GoodS ec cf F C T X W) (hsc : X.env.scope = sc) : ∀ {hs : List (String × List Hs)} {es : List ExceptHandler}, okHd cf T hs sc es = true → HdsOk X es (hdl X.K ec T hs)
  | [], [], _ => .nil
  | [], _ :: _, h => by unfold okHd at h; cases h
  | _ :: _, [], h => by unfold okHd at h; cases h
  | (c, su) :: r, e :: es, h => by
    unfold okHd at h
    split at h <;> first | (cases h; done) | skip
    rename_i x p b bs p2 hs heq
    cases heq
    simp only [Bool.and_eq_true] at h
    obtain ⟨⟨⟨⟨⟨h1, h2⟩, h3⟩, h4⟩, h5⟩, h6⟩ := h
    exact .cons (names_of g hsc (of_decide_eq_true h1) h2 h3 h4) (fun a oe cls dd pn hz hf => hs_all (i := none) (g.sui hz hf) hsc h5) (hd_ok g hsc h6)
theorem seq_exc {r : Rs} {f : Env → Rs} {y : String} {q : List (String × Int)} {ρ' : Env} (h : r.seq f = .exc y q ρ') : r = .exc y q ρ' ∨ ∃ ρ1, r = .nx ρ1 ∧ f ρ1 = .exc y q ρ' := by
  cases r with
  | nx ρ1 => exact .inr ⟨ρ1, rfl, h⟩
  | bk _ => cases h
  | ct _ => cases h
  | ret _ _ => cases h
  | exc _ _ _ => exact .inl h
  | stuck => cases h
mutual
theorem hrun_calm {x : String} {p : List (String × Int)} : ∀ {c : Hs} {ρ : Env} {y : String} {q : List (String × Int)} {ρ' : Env}, hrun T x p c ρ = .exc y q ρ' → False
  | .ret e, ρ, y, q, ρ', h => by unfold hrun at h; split at h <;> first | (split at h <;> cases h; done) | cases h
  | .ifs c a b, ρ, y, q, ρ', h => by
    unfold hrun at h
    split at h
    · exact hruns_calm h
    · exact hruns_calm h
    · cases h
  | .set i e, ρ, y, q, ρ', h => by
    unfold hrun at h
    split at h
    · split at h
      · cases h
      · unfold setR at h; split at h <;> cases h
    · cases h
  | .pass, ρ, y, q, ρ', h => by unfold hrun at h; cases h
  | .brk, ρ, y, q, ρ', h => by unfold hrun at h; cases h
  | .cont, ρ, y, q, ρ', h => by unfold hrun at h; cases h
theorem hruns_calm {x : String} {p : List (String × Int)} : ∀ {cs : List Hs} {ρ : Env} {y : String} {q : List (String × Int)} {ρ' : Env}, hruns T x p cs ρ = .exc y q ρ' → False
  | [], ρ, y, q, ρ', h => by unfold hruns at h; cases h
  | c :: cs, ρ, y, q, ρ', h => by
    unfold hruns at h
    rcases seq_exc h with h | ⟨ρ1, _, h⟩
    · exact hrun_calm h
    · exact hruns_calm h
end
/-- what the clauses do -/
theorem many_ok (g : GoodS ec cf F C T X W) {x : String} {p : List (String × Int)} {cls : Value} {dd : Option Addr} (ix : IsExc ec x p cls dd H) (r : Rel X.K B Z O σ H ρ) : ∀ {hs : List (String × List Hs)}, (∀ h ∈ hs, (T.lookup h.1).isSome = true) →
    post X.K ec W B Z En (handle T none x p ρ hs) → wMany X.K W En (hdl X.K ec T hs) cls dd σ H
  | [], _, h => by
    unfold handle at h
    exact (show ∀ σ' H' O' cls dd, Rel X.K B Z O' σ' H' ρ → IsExc ec x p cls dd H' → W cls dd σ' H' from h) σ H O cls dd r ix
  | (c, su) :: hs, hk, h => by
    unfold handle at h
    obtain ⟨l, el⟩ := Option.isSome_iff_exists.mp (hk (c, su) (by simp))
    split at h
    · rename_i e
      refine ⟨true, by rw [ix.1]; exact (g.sub x c true l e el).1, fun _ a na => ?_, fun z => by cases z⟩
      refine ⟨ρ, B, Z, O, x, p, r, ix, (fun j z => by cases z), ?_⟩
      have h : post X.K ec W B Z En (if (true : Bool) = true then (hruns T x p su ρ).wipe none else .stuck) := h
      rw [if_pos rfl] at h
      cases q : hruns T x p su ρ with
      | nx ρ' => rw [q] at h; exact fun σ' H' O' rel _ _ => h σ' H' O' rel
      | bk ρ' => rw [q] at h; exact fun σ' H' O' rel _ _ => h σ' H' O' rel
      | ct ρ' => rw [q] at h; exact fun σ' H' O' rel _ _ => h σ' H' O' rel
      | ret k d => rw [q] at h; exact fun v H' _ s w => h v H' s w
      | exc y q' ρ' => exact (hruns_calm q).elim
      | stuck => rw [q] at h; exact h
    · rename_i e
      exact ⟨false, by rw [ix.1]; exact (g.sub x c false l e el).1, (fun z => by cases z), fun _ => many_ok g ix r (fun h m => hk h (by simp [m])) h⟩
    · exact h.elim
theorem s_try {b : List Cm} {hs : List (String × List Hs)} {body : List Stmt} {e0 : ExceptHandler} {es : List ExceptHandler} (g : GoodS ec cf F C T X W) (hsc : X.env.scope = sc) (hh : okHd cf T hs sc (e0 :: es) = true) (hk : ∀ h ∈ hs, (T.lookup h.1).isSome = true)
    (hb : ∀ (W' : WX) (pn : List (Addr × Obj)) (xe : Value → Shared → Prop), GoodS ec cf F C T (X.tr pn xe) W' → PSs (X.tr pn xe) body (tSs X.K ec W' F C T b)) : PS X (.Try body (e0 :: es) [] [] pos) (tS X.K ec W F C T (.try none b hs)) := by
  refine PS.imp (ps_try_many (tb := fun W' => tSs X.K ec W' F C T b) g.stk g.frm g.g.tk (fun W' pn xe tk hp => hb W' pn xe (g.tr tk hp)) (hd_ok g hsc hh)) fun En σ H ⟨ρ, B, Z, O, r, h⟩ => ?_
  unfold run1 at h
  refine ⟨ρ, B, Z, O, r, ?_⟩
  cases e : runs F C T b ρ with
  | nx ρ' => rw [e] at h; exact h
  | bk ρ' => rw [e] at h; exact h
  | ct ρ' => rw [e] at h; exact h
  | ret k d => rw [e] at h; exact h
  | exc x p ρ' => rw [e] at h; exact fun σ' H' O' cls dd rel ix => many_ok g ix rel hk h
  | stuck => rw [e] at h; exact h
theorem s_try1 {i : Nat} {c : String} {su : List Hs} {b : List Cm} {body : List Stmt} {es : List ExceptHandler} (g : GoodS ec cf F C T X W) (hsc : X.env.scope = sc) (hh : okHd1 cf T i c su sc es = true)
    (hb : ∀ (W' : WX) (pn : List (Addr × Obj)) (xe : Value → Shared → Prop), GoodS ec cf F C T (X.tr pn xe) W' → PSs (X.tr pn xe) body (tSs X.K ec W' F C T b)) : PS X (.Try body es [] [] pos) (tS X.K ec W F C T (.try (some i) b [(c, su)])) := by
  unfold okHd1 at hh
  split at hh <;> first | (cases hh; done) | skip
  rename_i x px n b0 bs p2
  simp only [Bool.and_eq_true] at hh
  obtain ⟨⟨⟨⟨⟨⟨h1, h2⟩, h3⟩, h4⟩, h5⟩, h6⟩, h7⟩ := hh
  have h5 := of_decide_eq_true h5
  have h6 := of_decide_eq_true h6
  obtain ⟨l, el⟩ := Option.isSome_iff_exists.mp h2
  have hi : X.N[i]? = some n := by rw [g.g.hN]; exact h5
  refine PS.imp (ps_try_as (i := i) (tb := fun W' => tSs X.K ec W' F C T b) g.stk g.frm g.g.nd hi (by show X.env.scope.names.lookup n = _; rw [hsc]; exact h6) (names_of g hsc (of_decide_eq_true h1) h2 h3 h4) g.g.tk (fun W' pn xe tk hp => hb W' pn xe (g.tr tk hp))
    (fun a oe cls dd pn hz hf => hs_all (i := some i) (g.sui hz hf) hsc h7)) fun En σ H ⟨ρ, B, Z, O, r, h⟩ => ?_
  unfold run1 at h
  refine ⟨ρ, B, Z, O, r, ?_⟩
  cases e : runs F C T b ρ with
  | nx ρ' => rw [e] at h; exact h
  | bk ρ' => rw [e] at h; exact h
  | ct ρ' => rw [e] at h; exact h
  | ret k d => rw [e] at h; exact h
  | stuck => rw [e] at h; exact h
  | exc x p ρ' =>
    rw [e] at h
    intro σ1 H1 O1 cls dd rel ix
    have h : post X.K ec W B Z En (handle T (some i) x p ρ' [(c, su)]) := h
    clear e
    unfold handle at h
    split at h
    · rename_i e1
      split at h
      case isFalse => exact h.elim
      rename_i hl
      have hl : i < ρ'.length := of_decide_eq_true hl
      refine ⟨true, by rw [ix.1]; exact (g.sub x c true l e1 el).1, fun _ a na => ?_, fun z => by cases z⟩
      have rel' := rel.drop (i := i) (o := some (.ref a))
      refine ⟨ρ'.set i none, B, Z, _, x, p, rel', ix, fun j z => ?_, ?_⟩
      · cases z
        exact List.getElem?_set_self (by rw [rel.len]; exact hl)
      · have h : post X.K ec W B Z En ((hruns T x p su (ρ'.set i none)).wipe (some i)) := h
        cases q : hruns T x p su (ρ'.set i none) with
        | nx ρ2 => rw [q] at h; exact fun σ' H' O' rel _ _ => h _ H' _ (rel.drop (i := i) (o := none))
        | bk ρ2 => rw [q] at h; exact fun σ' H' O' rel _ _ => h _ H' _ (rel.drop (i := i) (o := none))
        | ct ρ2 => rw [q] at h; exact fun σ' H' O' rel _ _ => h _ H' _ (rel.drop (i := i) (o := none))
        | ret k d => rw [q] at h; exact fun v H' _ s w => h v H' s w
        | exc y q' ρ' => exact (hruns_calm q).elim
        | stuck => rw [q] at h; exact h
    · rename_i e1
      refine ⟨false, by rw [ix.1]; exact (g.sub x c false l e1 el).1, (fun z => by cases z), fun _ => ?_⟩
      unfold handle at h
      exact (show ∀ σ' H' O' cls dd, Rel X.K B Z O' σ' H' ρ' → IsExc ec x p cls dd H' → W cls dd σ' H' from h) σ1 H1 O1 cls dd rel ix
    · exact h.elim
/-- clauses that all bear a name, the same one -/
def okHdN (cf : Cf) (T : Tab) (i : Nat) : List (String × List Hs) → Scope → List ExceptHandler → Bool
  | [], _, hs => hs.isEmpty
  | (c, su) :: r, sc, hs => (match hs with
    | .ExceptHandler (some (.Name x _)) (some n) (b :: bs) _ :: hs => decide (Str.ofString c = x) && (T.lookup c).isSome && glB sc x && nmB x && decide (cf.N[i]? = some n) && decide (sc.names.lookup n = some .local) && okHs cf T (some i) su sc (b :: bs) && okHdN cf T i r sc hs
    | _ => false)
abbrev hdlN (K : PySem.W.Frag) (ec : EC) (T : Tab) (i : Nat) (hs : List (String × List Hs)) : List (Value × Suit) := hs.map fun h => (ec h.1, fun a cls dd => tHs K ec T (some i) a cls dd h.2)
theorem hdN_ok (g : GoodS ec cf F C T X W) (hsc : X.env.scope = sc) {i : Nat} : ∀ {hs : List (String × List Hs)} {es : List ExceptHandler}, okHdN cf T i hs sc es = true → IsCl X i es (hdlN X.K ec T i hs) ∧ ∀ h ∈ hs, (T.lookup h.1).isSome = true
  | [], [], _ => ⟨trivial, fun _ m => by cases m⟩
  | [], _ :: _, h => by unfold okHdN at h; cases h
  | _ :: _, [], h => by unfold okHdN at h; cases h
  | (c, su) :: r, e :: es, h => by
    unfold okHdN at h
    split at h <;> first | (cases h; done) | skip
    rename_i x p n b bs p2 hs heq
    cases heq
    simp only [Bool.and_eq_true] at h
    obtain ⟨⟨⟨⟨⟨⟨⟨h1, h2⟩, h3⟩, h4⟩, h5⟩, h6⟩, h7⟩, h8⟩ := h
    obtain ⟨k1, k2⟩ := hdN_ok g hsc h8
    refine ⟨⟨⟨x, n, b, bs, p, p2, rfl, names_of g hsc (of_decide_eq_true h1) h2 h3 h4, by rw [g.g.hN]; exact of_decide_eq_true h5, by show X.env.scope.names.lookup n = _; rw [hsc]; exact of_decide_eq_true h6, fun a oe cls dd pn hz hf => hs_all (i := some i) (g.sui hz hf) hsc h7⟩, k1⟩, fun y m => ?_⟩
    rcases List.mem_cons.mp m with e | m
    · rw [e]; exact h2
    · exact k2 y m
theorem manyN_ok (g : GoodS ec cf F C T X W) {i : Nat} {x : String} {p : List (String × Int)} {cls : Value} {dd : Option Addr} (ix : IsExc ec x p cls dd H) (r : Rel X.K B Z O σ H ρ) : ∀ {hs : List (String × List Hs)}, (∀ h ∈ hs, (T.lookup h.1).isSome = true) →
    post X.K ec W B Z En (handle T (some i) x p ρ hs) → wNm X.K i W En (hdlN X.K ec T i hs) cls dd σ H
  | [], _, h => by
    unfold handle at h
    exact (show ∀ σ' H' O' cls dd, Rel X.K B Z O' σ' H' ρ → IsExc ec x p cls dd H' → W cls dd σ' H' from h) σ H O cls dd r ix
  | (c, su) :: hs, hk, h => by
    unfold handle at h
    obtain ⟨l, el⟩ := Option.isSome_iff_exists.mp (hk (c, su) (by simp))
    split at h
    · rename_i e
      split at h
      case isFalse => exact h.elim
      rename_i hl
      have hl : i < ρ.length := of_decide_eq_true hl
      refine ⟨true, by rw [ix.1]; exact (g.sub x c true l e el).1, ?_⟩
      rw [if_pos rfl]
      intro a na
      have r' := r.drop (i := i) (o := some (.ref a))
      refine ⟨ρ.set i none, B, Z, _, x, p, r', ix, fun j z => ?_, ?_⟩
      · cases z
        exact List.getElem?_set_self (by rw [r.len]; exact hl)
      · have h : post X.K ec W B Z En ((hruns T x p su (ρ.set i none)).wipe (some i)) := h
        cases q : hruns T x p su (ρ.set i none) with
        | nx ρ2 => rw [q] at h; exact fun σ' H' O' rel _ _ => h _ H' _ (rel.drop (i := i) (o := none))
        | bk ρ2 => rw [q] at h; exact fun σ' H' O' rel _ _ => h _ H' _ (rel.drop (i := i) (o := none))
        | ct ρ2 => rw [q] at h; exact fun σ' H' O' rel _ _ => h _ H' _ (rel.drop (i := i) (o := none))
        | ret k d => rw [q] at h; exact fun v H' _ s w => h v H' s w
        | exc y q' ρ' => exact (hruns_calm q).elim
        | stuck => rw [q] at h; exact h
    · rename_i e
      refine ⟨false, by rw [ix.1]; exact (g.sub x c false l e el).1, ?_⟩
      rw [if_neg Bool.false_ne_true]
      exact manyN_ok g ix r (fun h m => hk h (by simp [m])) h
    · exact h.elim
theorem s_tryN {i : Nat} {b : List Cm} {hs : List (String × List Hs)} {body : List Stmt} {e0 : ExceptHandler} {es : List ExceptHandler} (g : GoodS ec cf F C T X W) (hsc : X.env.scope = sc) (hh : okHdN cf T i hs sc (e0 :: es) = true)
    (hb : ∀ (W' : WX) (pn : List (Addr × Obj)) (xe : Value → Shared → Prop), GoodS ec cf F C T (X.tr pn xe) W' → PSs (X.tr pn xe) body (tSs X.K ec W' F C T b)) : PS X (.Try body (e0 :: es) [] [] pos) (tS X.K ec W F C T (.try (some i) b hs)) := by
  obtain ⟨k1, k2⟩ := hdN_ok g hsc hh
  refine PS.imp (ps_named (tb := fun W' => tSs X.K ec W' F C T b) g.stk g.frm g.g.nd g.g.tk k1 (fun W' pn xe tk hp => hb W' pn xe (g.tr tk hp))) fun En σ H ⟨ρ, B, Z, O, r, h⟩ => ?_
  unfold run1 at h
  refine ⟨ρ, B, Z, O, r, ?_⟩
  cases e : runs F C T b ρ with
  | nx ρ' => rw [e] at h; exact h
  | bk ρ' => rw [e] at h; exact h
  | ct ρ' => rw [e] at h; exact h
  | ret k d => rw [e] at h; exact h
  | exc x p ρ' => rw [e] at h; exact fun σ' H' O' cls dd rel ix => manyN_ok g ix rel k2 h
  | stuck => rw [e] at h; exact h
end
end Px

/-! Px22: a code that is that of a def is sound. -/
namespace Px
open PySem PySem.Spec L2
def isStr (e : Expr) (s : String) : Bool := false
/-- a, b = x, y: stored from the right -/
def parB (sc : Scope) (x y : Str) (px py : Pos) (ea eb : Expr) : Bool :=
  decide (sc.names.lookup x = some .local) && decide (sc.names.lookup y = some .local) && (px.line == py.line) && !(x == y) && noStar ea && noStar eb && !(foldedForSure 8 ea && foldedForSure 8 eb) && !(constantsAlone 8 ea && constantsAlone 8 eb)
mutual
def okS (cf : Cf) (T : Tab) : Cm → Scope → Stmt → Bool
  | .pass, _, st => (match st with
    | .Pass _ => true
    | _ => false)
  | .brk, _, st => (match st with
    | .Break _ => true
    | _ => false)
  | .cont, _, st => (match st with
    | .Continue _ => true
    | _ => false)
  | .set i c, sc, st => (match st with
    | .Assign [.Name x px] e _ => nmI cf sc i x && okE cf c sc e && setB sc x px e
    | _ => false)
  | .mov i j, sc, st => (match st with
    | .Assign [.Name x _] (.Name y _) _ => nmI cf sc i x && vrI cf sc j y
    | _ => false)
  | .unp p c, sc, st => (match st with
    | .Assign [.Tuple es k tp] e _ => okP cf none sc p (.Tuple es k tp) && okE cf c sc e && notTup e
    | _ => false)
  | .par i j a b, sc, st => (match st with
    | .Assign [.Tuple [.Name x px, .Name y py] _ _] (.Tuple [ea, eb] _ _) _ => nmI cf sc i x && nmI cf sc j y && parB sc x y px py ea eb && okE cf a sc ea && okE cf b sc eb
    | _ => false)
  | .aug i o c, sc, st => (match st with
    | .AugAssign (.Name x _) op e _ => decide (o = op) && (decide (o = .Add) || decide (o = .Sub)) && nmI cf sc i x && okE cf c sc e
    | _ => false)
  | .app i c, sc, st => (match st with
    | .Expr (.Call (.Attribute (.Name x _) nm apos) [e] [] cpos) _ => decide (nm = "append") && vrI cf sc i x && okE cf c sc e && noStar e && (apos.endLine == cpos.line)
    | _ => false)
  | .ext i c, sc, st => (match st with
    | .Expr (.Call (.Attribute (.Name x _) nm apos) [e] [] cpos) _ => decide (nm = "extend") && vrI cf sc i x && okE cf c sc e && noStar e && (apos.endLine == cpos.line)
    | _ => false)
  | .pop i, sc, st => (match st with
    | .Expr (.Call (.Attribute (.Name x _) nm apos) [] [] cpos) _ => decide (nm = "pop") && vrI cf sc i x && (apos.endLine == cpos.line)
    | _ => false)
  | .popS t i, sc, st => (match st with
    | .Assign [.Name y _] (.Call (.Attribute (.Name x _) nm apos) [] [] cpos) _ => decide (nm = "pop") && vrI cf sc i x && nmI cf sc t y && (apos.endLine == cpos.line)
    | _ => false)
  | .popI t i c, sc, st => (match st with
    | .Assign [.Name y _] (.Call (.Attribute (.Name x _) nm apos) [e] [] cpos) _ => decide (nm = "pop") && vrI cf sc i x && nmI cf sc t y && okE cf c sc e && noStar e && (apos.endLine == cpos.line)
    | _ => false)
  | .rev i, sc, st => (match st with
    | .Expr (.Call (.Attribute (.Name x _) nm apos) [] [] cpos) _ => decide (nm = "reverse") && vrI cf sc i x && (apos.endLine == cpos.line)
    | _ => false)
  | .ins _ _ _, _, _ => false
  | .put i cx c, sc, st => (match st with
    | .Assign [.Subscript (.Name x _) ex _] e _ => vrI cf sc i x && okE cf cx sc ex && okE cf c sc e && plainIx ex
    | _ => false)
  | .augAt i cx o c, sc, st => (match st with
    | .AugAssign (.Subscript (.Name x _) ex _) o' e _ => decide (o' = o) && (decide (o = .Add) || decide (o = .Sub)) && vrI cf sc i x && okE cf cx sc ex && okE cf c sc e && plainIx ex
    | _ => false)
  | .exp c, sc, st => (match st with
    | .Expr e _ => okE cf c sc e && !(isComp e)
    | _ => false)
  | .ifs c a b, sc, st => (match st with
    | .If t p q _ => okT cf c sc t && okSs cf T a sc p && okSs cf T b sc q
    | _ => false)
  | .whl _ c b, sc, st => (match st with
    | .While t p [] _ => okT cf c sc t && okSs cf T b sc p
    | _ => false)
  | .for p it b els, sc, st => (match st with
    | .For tg iter body orelse _ => okP cf none sc p tg && okI cf it sc tg iter && notSet iter && okSs cf T b sc body && okSs cf T els sc orelse
    | _ => false)
  | .ret c, sc, st => (match st with
    | .Return (some e) _ => okE cf c sc e
    | _ => false)
  | .retn, _, st => (match st with
    | .Return none _ => true
    | _ => false)
  | .retv i, sc, st => (match st with
    | .Return (some (.Name x _)) _ => vrI cf sc i x
    | _ => false)
  | .raise x, sc, st => (match st with
    | .Raise (some (.Call (.Name nm _) [.Constant (.str _) _ _] [] _)) none _ => decide (Str.ofString x = nm) && cf.rs.contains x && glB sc nm && nmB nm
    | _ => false)
  | .try n b hs, sc, st => (match st with
    | .Try body es [] [] _ => okSs cf T b sc body && (match n with
      | none => !es.isEmpty && okHd cf T hs sc es && hs.all (fun h => (T.lookup h.1).isSome)
      | some i => (match hs with
        | [(c, su)] => okHd1 cf T i c su sc es
        | hs => !es.isEmpty && okHdN cf T i hs sc es))
    | _ => false)
  | .frz _, _, _ => false
def okSs (cf : Cf) (T : Tab) : List Cm → Scope → List Stmt → Bool
  | [], _, sts => sts.isEmpty
  | c :: cs, sc, sts => (match c with
    | .frz _ => okSs cf T cs sc sts
    | _ => (match sts with
      | st :: sts => okS cf T c sc st && okSs cf T cs sc sts
      | [] => false))
end
section
variable {ec : EC} {W : WX} {F : List Fn} {C : List D} {T : Tab} {cf : Cf} {X : Cx} {sc : Scope} {pos : Pos}
theorem s_frz {i : Nat} {cs : List Cm} {sts : List Stmt} (h : PSs X sts (tSs X.K ec W F C T cs)) : PSs X sts (tSs X.K ec W F C T (.frz i :: cs)) := by
  refine PSs.imp h fun En σ H ⟨ρ, B, Z, O, r, h⟩ => ?_
  unfold runs at h
  unfold run1 at h
  split at h
  · rename_i k d e
    split at h
    · have hi : i < ρ.length := (List.getElem?_eq_some_iff.mp e).1
      rw [seq_set hi] at h
      obtain ⟨O', r'⟩ := r.freeze e
      exact ⟨_, B, Z, O', r', h⟩
    · exact ⟨ρ, B, Z, O, r, h⟩
  · exact h.elim
theorem star_any {e e' : Expr} (h : noStar e = true) (h' : noStar e' = true) : ([e, e'].any fun | .Starred .. => true | _ => false) = false := by
  rw [List.any_cons, List.any_cons, List.any_nil]
  cases e <;> first | (cases h; done) | (cases e' <;> first | rfl | cases h')
theorem par_of {x y : Str} {px py pt pt2 : Pos} {kt k2 : Nat} {ea eb : Expr} (hk : X.env.scope.kind = .function) (hsc : X.env.scope = sc) (h : parB sc x y px py ea eb = true) : swappedStores [.Tuple [.Name x px, .Name y py] kt pt] (.Tuple [ea, eb] k2 pt2) X.env = pure (some [x, y]) := by
  unfold parB at h
  simp only [Bool.and_eq_true, Bool.not_eq_true', decide_eq_true_eq] at h
  obtain ⟨⟨⟨⟨⟨⟨⟨h1, h2⟩, h3⟩, h4⟩, h5⟩, h6⟩, h7⟩, h8⟩ := h
  have hb : X.env.blockKind = .function := by unfold PySem.Env.blockKind; rw [hk]; rfl
  have k1 : X.env.kindOf x = some .local := by show X.env.scope.names.lookup x = _; rw [hsc]; exact h1
  have k2 : X.env.kindOf y = some .local := by show X.env.scope.names.lookup y = _; rw [hsc]; exact h2
  have hd : ([x, y].eraseDups.length != 2) = false := by
    have e : (y == x) = false := by rw [Bool.beq_comm]; exact h4
    simp [List.eraseDups_cons, e]
  have h3' : (py.line == px.line) = true := by rw [Bool.beq_comm]; exact h3
  have f1 : ([ea, eb].all (foldedForSure 8)) = false := by
    rw [List.all_cons, List.all_cons, List.all_nil, Bool.and_true]; exact h7
  have f2 : ([ea, eb].all (constantsAlone 8)) = false := by
    rw [List.all_cons, List.all_cons, List.all_nil, Bool.and_true]; exact h8
  have h3' : py.line = px.line := by simpa using h3'
  have hn1 : X.env.kindOf x == some .local := by rw [k1]; rfl
  unfold swappedStores
  simp only [List.length_cons, List.length_nil, hb, star_any h5 h6, f1, f2, List.filterMap_cons, List.filterMap_nil, k1, k2, h3', List.head?_cons, Option.map_some, Option.getD_some, Expr.pos, hd]
  refine (if_neg (by decide)).trans ((if_neg fun h => Bool.false_ne_true ((star_any h5 h6).symm.trans h)).trans ?_)
  have e1 : (some NameKind.local == some NameKind.local && px.line == px.line) = true := by simp
  simp only [e1, if_true]
  refine (if_neg ?_).trans ((if_neg Bool.false_ne_true).trans ((if_neg Bool.false_ne_true).trans rfl))
  show ¬ (([x, y].length != 2 || [x, y].eraseDups.length != 2) = true)
  rw [hd]
  exact Bool.false_ne_true
def isFrz : Cm → Bool
  | .frz _ => true
  | _ => false
theorem okSs_cons {c : Cm} {cs : List Cm} {sts : List Stmt} (h : okSs cf T (c :: cs) sc sts = true) : (∃ i, c = .frz i ∧ okSs cf T cs sc sts = true) ∨ ∃ st r, sts = st :: r ∧ okS cf T c sc st = true ∧ okSs cf T cs sc r = true := by
  unfold okSs at h
  split at h
  · exact .inl ⟨_, rfl, h⟩
  · split at h
    · rw [Bool.and_eq_true] at h
      exact .inr ⟨_, _, rfl, h.1, h.2⟩
    · cases h
mutual
theorem st_ok : ∀ {c : Cm} {X : Cx} {W : WX} {st : Stmt}, GoodS ec cf F C T X W → X.env.scope = sc → okS cf T c sc st = true → PS X st (tS X.K ec W F C T c)
  | .pass, X, W, st, g, hsc, h => by
    unfold okS at h
    split at h <;> first | (cases h; done) | skip
    exact s_pass
  | .brk, X, W, st, g, hsc, h => by
    unfold okS at h
    split at h <;> first | (cases h; done) | skip
    exact s_brk
  | .cont, X, W, st, g, hsc, h => by
    unfold okS at h
    split at h <;> first | (cases h; done) | skip
    exact s_cont
  | .set i c, X, W, st, g, hsc, h => by
    unfold okS at h
    split at h <;> first | (cases h; done) | skip
    simp only [Bool.and_eq_true] at h
    exact s_set g hsc h.1.1 h.1.2 h.2
  | .mov i j, X, W, st, g, hsc, h => by
    unfold okS at h
    split at h <;> first | (cases h; done) | skip
    rw [Bool.and_eq_true] at h
    exact s_mov g hsc h.1 h.2
  | .unp p c, X, W, st, g, hsc, h => by
    unfold okS at h
    split at h <;> first | (cases h; done) | skip
    simp only [Bool.and_eq_true] at h
    exact s_unp g hsc h.1.1 h.1.2 h.2
  | .par i j a b, X, W, st, g, hsc, h => by
    unfold okS at h
    split at h <;> first | (cases h; done) | skip
    simp only [Bool.and_eq_true] at h
    obtain ⟨⟨⟨⟨h1, h2⟩, h3⟩, h4⟩, h5⟩ := h
    have hw := fun kt pt k2 pt2 => par_of (X := X) (kt := kt) (pt := pt) (k2 := k2) (pt2 := pt2) g.kind hsc h3
    unfold parB at h3
    simp only [Bool.and_eq_true, decide_eq_true_eq] at h3
    exact s_par g hsc h1 h2 h3.1.1.1.1.1.1.1 h3.1.1.1.1.1.1.2 h3.1.1.1.2 h3.1.1.2 h4 h5 (hw _ _ _ _)
  | .aug i o c, X, W, st, g, hsc, h => by
    unfold okS at h
    split at h <;> first | (cases h; done) | skip
    simp only [Bool.and_eq_true, Bool.or_eq_true, decide_eq_true_eq] at h
    obtain ⟨⟨⟨h1, h2⟩, h3⟩, h4⟩ := h
    subst h1
    exact s_aug g hsc h3 h4 h2
  | .app i c, X, W, st, g, hsc, h => by
    unfold okS at h
    split at h <;> first | (cases h; done) | skip
    simp only [Bool.and_eq_true] at h
    obtain ⟨⟨⟨⟨h1, h2⟩, h3⟩, h4⟩, h5⟩ := h
    have h1 := of_decide_eq_true h1
    subst h1
    exact s_app g hsc h2 h3 h4 h5
  | .ext i c, X, W, st, g, hsc, h => by
    unfold okS at h
    split at h <;> first | (cases h; done) | skip
    simp only [Bool.and_eq_true] at h
    obtain ⟨⟨⟨⟨h1, h2⟩, h3⟩, h4⟩, h5⟩ := h
    have h1 := of_decide_eq_true h1
    subst h1
    exact s_ext g hsc h2 h3 h4 h5
  | .pop i, X, W, st, g, hsc, h => by
    unfold okS at h
    split at h <;> first | (cases h; done) | skip
    simp only [Bool.and_eq_true] at h
    obtain ⟨⟨h1, h2⟩, h3⟩ := h
    have h1 := of_decide_eq_true h1
    subst h1
    exact s_pop g hsc h2 h3
  | .popS t i, X, W, st, g, hsc, h => by
    unfold okS at h
    split at h <;> first | (cases h; done) | skip
    simp only [Bool.and_eq_true] at h
    obtain ⟨⟨⟨h1, h2⟩, h3⟩, h4⟩ := h
    have h1 := of_decide_eq_true h1
    subst h1
    exact s_popS g hsc h2 h3 h4
  | .popI t i c, X, W, st, g, hsc, h => by
    unfold okS at h
    split at h <;> first | (cases h; done) | skip
    simp only [Bool.and_eq_true] at h
    obtain ⟨⟨⟨⟨⟨h1, h2⟩, h3⟩, h4⟩, h5⟩, h6⟩ := h
    have h1 := of_decide_eq_true h1
    subst h1
    exact s_popI g hsc h2 h3 h4 h5 h6
  | .rev i, X, W, st, g, hsc, h => by
    unfold okS at h
    split at h <;> first | (cases h; done) | skip
    simp only [Bool.and_eq_true] at h
    obtain ⟨⟨h1, h2⟩, h3⟩ := h
    have h1 := of_decide_eq_true h1
    subst h1
    exact s_rev g hsc h2 h3
  | .ins _ _ _, X, W, st, g, hsc, h => by unfold okS at h; cases h
  | .put i cx c, X, W, st, g, hsc, h => by
    unfold okS at h
    split at h <;> first | (cases h; done) | skip
    simp only [Bool.and_eq_true] at h
    obtain ⟨⟨⟨h1, h2⟩, h3⟩, h4⟩ := h
    exact s_put g hsc h1 h2 h3 h4
  | .augAt i cx o c, X, W, st, g, hsc, h => by
    unfold okS at h
    split at h <;> first | (cases h; done) | skip
    simp only [Bool.and_eq_true, Bool.or_eq_true] at h
    obtain ⟨⟨⟨⟨⟨h1, h2⟩, h3⟩, h4⟩, h5⟩, h6⟩ := h
    rw [of_decide_eq_true h1]
    exact s_augAt g hsc h3 h4 h5 (h2.imp of_decide_eq_true of_decide_eq_true) h6
  | .exp c, X, W, st, g, hsc, h => by
    unfold okS at h
    split at h <;> first | (cases h; done) | skip
    simp only [Bool.and_eq_true, Bool.not_eq_true'] at h
    exact s_exp g hsc h.1 h.2
  | .ifs c a b, X, W, st, g, hsc, h => by
    unfold okS at h
    split at h <;> first | (cases h; done) | skip
    simp only [Bool.and_eq_true] at h
    exact s_ifs g hsc h.1.1 (sts_ok g hsc h.1.2) (sts_ok g hsc h.2)
  | .whl n c b, X, W, st, g, hsc, h => by
    unfold okS at h
    split at h <;> first | (cases h; done) | skip
    rw [Bool.and_eq_true] at h
    exact s_whl g hsc h.1 (sts_ok g hsc h.2)
  | .for p it b els, X, W, st, g, hsc, h => by
    unfold okS at h
    split at h <;> first | (cases h; done) | skip
    simp only [Bool.and_eq_true] at h
    obtain ⟨⟨⟨⟨h1, h2⟩, h3⟩, h4⟩, h5⟩ := h
    exact s_for g hsc h1 h2 h3 (sts_ok g hsc h4) (sts_ok g hsc h5)
  | .ret c, X, W, st, g, hsc, h => by
    unfold okS at h
    split at h <;> first | (cases h; done) | skip
    exact s_ret g hsc h
  | .retn, X, W, st, g, hsc, h => by
    unfold okS at h
    split at h <;> first | (cases h; done) | skip
    exact s_retn
  | .retv i, X, W, st, g, hsc, h => by
    unfold okS at h
    split at h <;> first | (cases h; done) | skip
    exact s_retv g hsc h
  | .raise x, X, W, st, g, hsc, h => by
    unfold okS at h
    split at h <;> first | (cases h; done) | skip
    simp only [Bool.and_eq_true] at h
    obtain ⟨⟨⟨h1, h2⟩, h3⟩, h4⟩ := h
    exact s_raise g hsc (of_decide_eq_true h1) h2 h3 h4
  | .try n b hs, X, W, st, g, hsc, h => by
    unfold okS at h
    split at h <;> first | (cases h; done) | skip
    rw [Bool.and_eq_true] at h
    obtain ⟨h1, h2⟩ := h
    have hb : ∀ (W' : WX) (pn : List (Addr × Obj)) (xe : Value → Shared → Prop), GoodS ec cf F C T (X.tr pn xe) W' → PSs (X.tr pn xe) _ (tSs X.K ec W' F C T b) := fun W' pn xe g' => sts_ok g' hsc h1
    split at h2
    · simp only [Bool.and_eq_true] at h2
      obtain ⟨⟨h2, h3⟩, h4⟩ := h2
      rename_i es _ _
      cases es with
      | nil => cases h2
      | cons e0 es => exact s_try g hsc h3 (fun x m => List.all_eq_true.mp h4 x m) hb
    · split at h2
      · exact s_try1 g hsc h2 hb
      · rw [Bool.and_eq_true] at h2
        obtain ⟨h2, h3⟩ := h2
        rename_i es _ _ _ _ _
        cases es with
        | nil => cases h2
        | cons e0 es => exact s_tryN g hsc h3 hb
  | .frz _, X, W, st, g, hsc, h => by unfold okS at h; cases h
theorem sts_ok : ∀ {cs : List Cm} {X : Cx} {W : WX} {sts : List Stmt}, GoodS ec cf F C T X W → X.env.scope = sc → okSs cf T cs sc sts = true → PSs X sts (tSs X.K ec W F C T cs)
  | [], X, W, [], g, hsc, h => s_nil
  | [], X, W, _ :: _, g, hsc, h => by unfold okSs at h; cases h
  | c :: cs, X, W, sts, g, hsc, h => by
    rcases okSs_cons h with ⟨i, e, h⟩ | ⟨st, r, e, h1, h2⟩
    · subst e; exact s_frz (sts_ok g hsc h)
    · subst e; exact s_cons (st_ok g hsc h1) (sts_ok g hsc h2)
end
end
end Px

/-! Px23: a def. -/
namespace Px
open PySem PySem.Spec L2
section
variable {K : PySem.W.Frag} {ec : EC} {H H' : Hp} {Z : AS} {B : Hp}
def env0 (np n : Nat) (ds : List D) : Env := ds.map (fun d => some ((kd 0 d).1.getD 0, d)) ++ List.replicate (n - np) none
theorem rel0 {N : List Str} {vs : List V} {ds : List D} (hZ : ∀ x, Z x → IsM H x) (r : RepRs K (cut H Z) ds vs) : Rel K H Z (fun _ _ => False) (L2.start N vs) H (env0 ds.length N.length ds) := by
  have hl := r.length
  refine ⟨?_, hZ, fun i j x h => h.elim, fun i x h => h.elim, Same.refl _, fun i k d e => ?_, fun i h x z => z⟩
  · unfold L2.start env0
    simp [hl]
  · unfold env0 at e
    have hi : i < ds.length := by
      by_cases hi : i < ds.length
      · exact hi
      · rw [List.getElem?_append_right (by simpa using hi), List.getElem?_replicate] at e
        split at e <;> cases e
    rw [List.getElem?_append_left (by simpa using hi), List.getElem?_map] at e
    cases q : ds[i]? with
    | none => rw [q] at e; cases e
    | some d' =>
      rw [q] at e
      cases e
      obtain ⟨v, ev, rv⟩ := r.get q
      refine ⟨v, ?_, ?_⟩
      · unfold L2.start
        rw [List.getElem?_append_left (by simp [hl]; exact hi), List.getElem?_map, ev]; rfl
      · have w0 : Own K H (ZO Z fun _ _ => False) 0 d v (fun _ => False) := ⟨fun _ z => z, rv.mono (cut_set fun x z => z.elim id fun ⟨_, z⟩ => z.elim)⟩
        unfold kd
        split
        · exact w0
        · rename_i hd
          exact (Own.flat (by simpa using hd)).mpr w0
end
section
variable {P : Program} {w : World} {K : PySem.W.Frag} {mg : Str → Option Value} {base : Heap} {ec : EC}
/-- what the world of a def gives -/
structure Amb (K : PySem.W.Frag) (mg : Str → Option Value) (ec : EC) (T : Tab) (rs bx : List String) : Prop where
  xc : ∀ (x : String) l, T.lookup x = some l → XcOk K mg ec x
  rm : ∀ x : String, rs.contains x = true → (T.lookup x).isSome = true ∧ XcMk K ec x
  sub : ∀ (x c : String) b l, isA T x c = some b → T.lookup c = some l → PySem.W.exmOne K (ec x) (ec c) = some b ∧ PySem.W.kitOne K (ec x) (ec c) = some b
  bsub : ∀ (x c : String) b, isA T x c = some b → bx.contains c = true → PySem.W.kitOne K (ec x) (.type c) = some b ∧ bootBuiltins (Str.ofString c) = some (.type c) ∧ mg (Str.ofString c) = none
theorem def_ok {x qual : Str} {st : Stmt} {f : Addr} {fd : FuncData} {ps : List Str} {k : Nat} {cf : Cf} {T : Tab} {code : List Cm} {m : Fn} (Fu : Fun K x qual st f fd) (S : FnScope cf.N ps (defScope st)) (A : Amb K mg ec T cf.rs cf.bx)
    (hbn : ∀ n ∈ cf.bn, mg (Str.ofString n) = none) (cs : List (Cal P w K mg base ec)) (cons : List (Con1 K mg)) (hfs : cf.fs = cs.map fun c => (c.name, c.n)) (hgc : cf.gc = cons.map (·.name)) (hk : ∀ c ∈ cs, c.k ≤ k)
    (hm : m = runFd (cs.map (·.m)) (cons.map (·.d)) T ps.length cf.N.length code) (ok : okSs cf T code (defScope st) (defBody st) = true) : FnG P w K mg base (k + 1) f fd ps (spD K ec ps.length m) := by
  refine fng_of Fu S (fun vs H Q E h => h.1) fun cdv AA outer s H vs Q E hg hr h => ?_
  refine ⟨tSs K ec (fun cls d _ H => E cls d H) (cs.map (·.m)) (cons.map (·.d)) T code, ?_, ?_⟩
  · refine sts_ok (sc := defScope st) (cf := cf) ⟨⟨rfl, S.nd, rfl, ?_, ?_, ?_, ?_, ?_, ?_⟩, fun _ => rfl, S.kind, ?_, rfl, rfl, A.xc, A.rm, A.sub, A.bsub⟩ rfl ok
    · have := hr.un; show (AA.deeper (PyProof.Rows.envOfC qual (defScope st) s.heap.objs.size f cdv)).units + 65 < _; omega
    · exact fun n hn => hbn n (by simpa using hn)
    · intro j y n e
      rw [hfs, List.getElem?_map] at e
      cases q : cs[j]? with
      | none => rw [q] at e; cases e
      | some c =>
        rw [q] at e
        cases e
        exact ⟨c, rfl, rfl, by rw [List.getElem?_map, q]; rfl, hr.mono (hk c (List.mem_of_getElem? q))⟩
    · intro j y e
      rw [hgc, List.getElem?_map] at e
      cases q : cons[j]? with
      | none => rw [q] at e; cases e
      | some c =>
        rw [q] at e
        cases e
        exact ⟨c, rfl, by rw [List.getElem?_map, q]; rfl⟩
    · exact hg
    · exact takes_of rfl rfl rfl rfl
    · exact passes_of rfl
  · obtain ⟨hl, ds, Z, hZ, rep, h⟩ := h
    have hd : ds.length = ps.length := by rw [← rep.length, hl]
    have r := rel0 (N := cf.N) hZ rep
    rw [hd] at r
    refine ⟨_, H, Z, _, r, ?_⟩
    subst hm
    unfold runFd at h
    rw [if_pos hd] at h
    have e0 : env0 ps.length cf.N.length ds = ds.map (fun d => some ((kd 0 d).1.getD 0, d)) ++ List.replicate (cf.N.length - ps.length) none := rfl
    rw [← e0] at h
    cases q : runs (cs.map (·.m)) (cons.map (·.d)) T code (env0 ps.length cf.N.length ds) with
    | nx ρ' => rw [q] at h; exact fun σ' H' O' rel => h .non H' rel.base ⟨fun _ => False, fun _ z => z.elim, (Own.flat rfl).mpr ⟨fun _ z => z, by unfold RepR; rfl⟩⟩
    | bk ρ' => rw [q] at h; exact h.elim
    | ct ρ' => rw [q] at h; exact h.elim
    | ret k d => rw [q] at h; exact fun v H' s w => h v H' s w
    | exc x p ρ' => rw [q] at h; exact fun σ' H' O' cls dd rel ix => h cls dd H' rel.base ix
    | stuck => rw [q] at h; exact h
end
end Px

/-! Px24: to put a law's defs together. -/
namespace Px
open PySem PySem.Spec L2
def AllL {α : Type _} (p : α → Prop) : List α → Prop
  | [] => True
  | a :: l => p a ∧ AllL p l
theorem AllL.all {α : Type _} {p : α → Prop} : ∀ {l : List α}, AllL p l → ∀ a ∈ l, p a
  | [], _, _, m => by cases m
  | a :: l, h, b, m => by
    rcases List.mem_cons.mp m with e | m
    · exact e ▸ h.1
    · exact AllL.all h.2 b m
abbrev ecL (L : List (String × Addr)) : EC := fun x => match L.lookup x with
  | some a => .ref a
  | none => .none
/-- what the written part says of an own error class at D -/
structure XF (K : PySem.W.Frag) (mg : Str → Option Value) (x : String) (D : Addr) : Prop where
  g : mg (Str.ofString x) = some (.ref D)
  kp : PySem.W.keepIn K (.ref D) = true
  sb : PySem.W.subIn K (.ref D) (.type "BaseException") = some true
  ty : PySem.W.typeIn K (.ref D) = some (.type "type")
  ga : PySem.W.findIn K (.ref D) "__getattribute__" = some (some (.builtin "BaseException.__getattribute__"))
  gt : PySem.W.findIn K (.ref D) "__getattr__" = some none
  hd : PySem.W.hasDictIn K D = true
  ca : PySem.W.findIn K (.ref D) "__class__" = some (some (.builtin "object.__class__"))
  mo : PySem.W.mroIn K D (.type "object") = some true
section
variable {K : PySem.W.Frag} {mg : Str → Option Value} {T : Tab} {L : List (String × Addr)} {rs bx : List String}
theorem lookup_mem {α : Type} {x : String} {l : α} : ∀ {T : List (String × α)}, T.lookup x = some l → (x, l) ∈ T
  | [], h => by simp at h
  | (y, a) :: T, h => by
    by_cases e : x = y
    · subst e
      simp only [List.lookup_cons, beq_self_eq_true, Option.some.injEq] at h
      subst h; simp
    · have : (x == y) = false := by simpa using e
      simp only [List.lookup_cons, this] at h
      exact List.mem_cons_of_mem _ (lookup_mem h)
theorem lookup_of {α β : Type} {x : String} : ∀ {T : List (String × α)} {L : List (String × β)}, T.map (·.1) = L.map (·.1) → (T.lookup x).isSome = true → ∃ a, L.lookup x = some a
  | [], _, _, h => by simp at h
  | (y, a) :: T, [], e, _ => by simp at e
  | (y, a) :: T, (z, b) :: L, e, h => by
    simp only [List.map_cons, List.cons.injEq] at e
    obtain ⟨e1, e2⟩ := e
    subst e1
    by_cases q : x = y
    · subst q; exact ⟨b, by simp [List.lookup_cons]⟩
    · have : (x == y) = false := by simpa using q
      simp only [List.lookup_cons, this] at h ⊢
      exact lookup_of e2 h
theorem kit_of {D : Addr} {c : Addr} {b : Bool} (h1 : PySem.W.hasDictIn K c = true) (h2 : PySem.W.typeIn K (.ref c) = some (.type "type")) (h : PySem.W.subIn K (.ref D) (.ref c) = some b) (he : D = c → b = true) : PySem.W.kitOne K (.ref D) (.ref c) = some b := by
  unfold PySem.W.kitOne
  by_cases e : D = c
  · rw [if_pos (by rw [e]; exact beq_self_eq_true _), he e]
  · rw [if_neg (by simpa using e)]
    unfold PySem.W.kitCls
    have hc : ∃ cd, PySem.W.clsIn K c = some cd := by
      unfold PySem.W.hasDictIn at h1
      cases q : PySem.W.clsIn K c with
      | some cd => exact ⟨cd, rfl⟩
      | none => rw [q] at h1; cases h1
    obtain ⟨cd, hc⟩ := hc
    simp only [hc, h2, Option.isSome_some, beq_self_eq_true, Bool.and_self, if_true]
    exact h
theorem kit_bi {D : Addr} {t : String} {b : Bool} (h1 : PySem.W.kitMeta t = true) (h : PySem.W.subIn K (.ref D) (.type t) = some b) : PySem.W.kitOne K (.ref D) (.type t) = some b := by
  unfold PySem.W.kitOne
  have : (Value.ref D == Value.type t) = false := by simp
  rw [this, if_neg Bool.false_ne_true]
  unfold PySem.W.kitCls
  simp only [h1, if_true]
  exact h
theorem amb_mk (hn : PySem.W.specialIn K (.builtin "object.__class__") "__get__" = some (some (.builtin "getset_descriptor.__get__"))) (ht : PySem.W.takesIn K (.builtin "object.__class__") = some true) (hT : T.map (·.1) = L.map (·.1)) (hx : AllL (fun p => XF K mg p.1 p.2) L)
    (hs : AllL (fun p => AllL (fun c => ∃ b, PySem.W.subIn K (.ref p.2) (.ref c.2) = some b ∧ isA T p.1 c.1 = some b ∧ (p.2 = c.2 → b = true)) L) L)
    (hb : AllL (fun t => PySem.W.kitMeta t = true ∧ bootBuiltins (Str.ofString t) = some (.type t) ∧ mg (Str.ofString t) = none ∧ AllL (fun p => ∃ b, PySem.W.subIn K (.ref p.2) (.type t) = some b ∧ isA T p.1 t = some b) L) bx)
    (hr : AllL (fun x => (T.lookup x).isSome = true ∧ ∃ D, L.lookup x = some D ∧ PySem.W.excIn K D chainVE "ValueError.__new__" = true) rs) : Amb K mg (ecL L) T rs bx := by
  have lk : ∀ {x : String} {l : List String}, T.lookup x = some l → ∃ a, L.lookup x = some a := fun h => lookup_of hT (by rw [h]; rfl)
  have ecx : ∀ {x : String} {a : Addr}, L.lookup x = some a → ecL L x = .ref a := fun h => by unfold ecL; rw [h]
  refine ⟨fun x l h => ?_, fun x h => ?_, fun x c b l h h2 => ?_, fun x c b h h2 => ?_⟩
  · obtain ⟨a, ha⟩ := lk h
    have f := hx.all _ (lookup_mem ha)
    exact ⟨a, ecx ha, f.g, f.kp, f.sb, f.ty, f.ga, f.gt, f.sb, f.hd, f.ca, hn, ht, f.mo⟩
  · obtain ⟨h1, D, h2, h3⟩ := hr.all x (by simpa using h)
    exact ⟨h1, D, ecx h2, h3⟩
  · obtain ⟨l', hl⟩ := isA_known h
    obtain ⟨a, ha⟩ := lk hl
    obtain ⟨c', hc⟩ := lk h2
    obtain ⟨b', e1, e2, e3⟩ := (hs.all _ (lookup_mem ha)).all _ (lookup_mem hc)
    have e2 : isA T x c = some b' := e2
    rw [h] at e2
    cases e2
    have f := hx.all _ (lookup_mem hc)
    rw [ecx ha, ecx hc]
    exact ⟨PySem.W.exm_ref f.sb f.hd f.ty e1, kit_of f.hd f.ty e1 e3⟩
  · obtain ⟨l', hl⟩ := isA_known h
    obtain ⟨a, ha⟩ := lk hl
    obtain ⟨k1, k2, k3, k4⟩ := hb.all c (by simpa using h2)
    obtain ⟨b', e1, e2⟩ := k4.all _ (lookup_mem ha)
    have e2 : isA T x c = some b' := e2
    rw [h] at e2
    cases e2
    rw [ecx ha]
    exact ⟨kit_bi k1 e1, k2, k3⟩
end
section
variable {P : Program} {w : World} {K : PySem.W.Frag} {mg : Str → Option Value} {base : Heap} {ec : EC}
theorem def_mk {x qual : Str} {st : Stmt} {f : Addr} {fd : FuncData} {ps : List Str} {k : Nat} {cf : Cf} {T : Tab} {code : List Cm} {m : Fn} (Fu : Fun K x qual st f fd) (S : FnScope cf.N ps (defScope st)) {rs bx : List String} (A : Amb K mg ec T rs bx)
    (hrs : AllL (fun x => rs.contains x = true) cf.rs) (hbx : AllL (fun x => bx.contains x = true) cf.bx)
    (hbn : AllL (fun n => mg (Str.ofString n) = none) cf.bn) (cs : List (Cal P w K mg base ec)) (cons : List (Con1 K mg)) (hfs : cf.fs = cs.map fun c => (c.name, c.n)) (hgc : cf.gc = cons.map (·.name)) (hk : AllL (fun c => c.k ≤ k) cs)
    (hm : m = runFd (cs.map (·.m)) (cons.map (·.d)) T ps.length cf.N.length code) (ok : okSs cf T code (defScope st) (defBody st) = true) : FnG P w K mg base (k + 1) f fd ps (spD K ec ps.length m) :=
  def_ok Fu S ⟨A.xc, fun x h => A.rm x (hrs.all x (by simpa using h)), A.sub, fun x c b h h2 => A.bsub x c b h (hbx.all c (by simpa using h2))⟩ hbn.all cs cons hfs hgc hk.all hm ok
/-- the law's own promise -/
def spLaw (K : PySem.W.Frag) : Sp := fun vs H Q _ => ∃ (a : Addr) (ns : List Int), vs = [.ref a] ∧ SqL K H a (ns.map V.int) ∧ ns.length ≤ 63 ∧ ∀ H', Q (.bl true) H'
theorem reps_ints (H : Hp) : ∀ ns : List Int, RepRs K H (ns.map D.int) (ns.map V.int)
  | [] => RepRs.nil
  | n :: ns => RepRs.cons (by unfold RepR; rfl) (reps_ints H ns)
theorem law_imp {m : Fn} (math : ∀ ns : List Int, ns.length ≤ 63 → ∃ k, m [.lst (ns.map D.int)] = .ok (k, .bl true)) (vs : List V) (H : Hp) (Q : VK) (E : XK) (h : spLaw K vs H Q E) : spD K ec 1 m vs H Q E := by
  obtain ⟨a, ns, e, hS, hl, q⟩ := h
  subst e
  obtain ⟨k, hm⟩ := math ns hl
  refine ⟨rfl, [.lst (ns.map D.int)], fun _ => False, fun _ z => z.elim, ?_, ?_⟩
  · rw [cut_false]
    exact RepRs.cons (by unfold RepR; exact ⟨a, _, rfl, hS, reps_ints H ns⟩) RepRs.nil
  · rw [hm]
    intro v H' _ ⟨O, _, w⟩
    rw [w.rep.bl]
    exact q H'
/-- a constant: an int, a text -/
def conI {name : String} (i : Int) {t : Tok} (g : mg (Str.ofString name) = some (.int i t)) : Con1 K mg := ⟨name, .int i, .int i, .int i t, g, ⟨t, rfl⟩, fun _ => by unfold RepR; rfl⟩
def conS {name : String} (s : List Nat) {x : Str} {t : Tok} (g : mg (Str.ofString name) = some (.str x t)) (e : x = mkS s) : Con1 K mg := ⟨name, .str s, .str (mkS s), .str x t, g, ⟨t, by rw [e]⟩, fun _ => by unfold RepR; rfl⟩
theorem cx_none {H : Hp} {s s' : Shared} {e : Value} (h : L2.CX P w [] H s (fun _ _ _ => False) e s') : False := by
  obtain ⟨_, _, _, _, _, _, _, _, _, _, _, _, z⟩ := h
  exact z.elim
end
end Px

/-! Px25: to compute with codes. -/
namespace Px
open PySem PySem.Spec L2
section
variable {F : List Fn} {C : List D} {T : Tab} {ρ : Env} {α β : Type}
@[simp] theorem liftR_ok (a : α) (f : α → Rs) : liftR (.ok a) ρ f = f a := rfl
@[simp] theorem liftR_exc (x : String) (p : List (String × Int)) (f : α → Rs) : liftR (.exc x p) ρ f = .exc x p ρ := rfl
@[simp] theorem liftR_stuck (f : α → Rs) : liftR .stuck ρ f = .stuck := rfl
@[simp] theorem seq_nx (f : Env → Rs) : (Rs.nx ρ).seq f = f ρ := rfl
@[simp] theorem seq_ret (k : Nat) (d : D) (f : Env → Rs) : (Rs.ret k d).seq f = .ret k d := rfl
@[simp] theorem seq_bk (f : Env → Rs) : (Rs.bk ρ).seq f = .bk ρ := rfl
@[simp] theorem seq_ct (f : Env → Rs) : (Rs.ct ρ).seq f = .ct ρ := rfl
@[simp] theorem seq_exc' (x : String) (p : List (String × Int)) (f : Env → Rs) : (Rs.exc x p ρ).seq f = .exc x p ρ := rfl
@[simp] theorem needV_some (k : Nat) (d : D) : needV (some k, d) = .ok (k, d) := rfl
@[simp] theorem cont_non : D.cont .non = false := rfl
@[simp] theorem cont_bl (b : Bool) : D.cont (.bl b) = false := rfl
@[simp] theorem cont_int (b : Int) : D.cont (.int b) = false := rfl
@[simp] theorem cont_str (b : List Nat) : D.cont (.str b) = false := rfl
@[simp] theorem cont_tup (b : List D) : D.cont (.tup b) = false := rfl
@[simp] theorem cont_lst (b : List D) : D.cont (.lst b) = true := rfl
@[simp] theorem add_i (k l : Option Nat) (a b : Int) : binD .Add (k, .int a) (l, .int b) = .ok (at9 (.int (a + b))) := rfl
@[simp] theorem sub_i (k l : Option Nat) (a b : Int) : binD .Sub (k, .int a) (l, .int b) = .ok (at9 (.int (a - b))) := rfl
@[simp] theorem mul_i (k l : Option Nat) (a b : Int) : binD .Mult (k, .int a) (l, .int b) = if mulOk a b then .ok (at9 (.int (a * b))) else .stuck := rfl
@[simp] theorem fdiv_i (k l : Option Nat) (a b : Int) : binD .FloorDiv (k, .int a) (l, .int b) = if b ≠ 0 ∧ b.natAbs < 1073741824 then .ok (at9 (.int (a.fdiv b))) else .stuck := rfl
@[simp] theorem mod_i (k l : Option Nat) (a b : Int) : binD .Mod (k, .int a) (l, .int b) = if b ≠ 0 then .ok (at9 (.int (a.fmod b))) else .stuck := rfl
@[simp] theorem and_i (k l : Option Nat) (a b : Int) : binD .BitAnd (k, .int a) (l, .int b) = .ok (at9 (.int (Builtin.bitAnd a b))) := rfl
@[simp] theorem add_s (k l : Option Nat) (a b : List Nat) : binD .Add (k, .str a) (l, .str b) = if a.length + b.length ≤ line then .ok (at9 (.str (a ++ b))) else .stuck := rfl
@[simp] theorem mul_s (k l : Option Nat) (a : List Nat) (n : Int) : binD .Mult (k, .str a) (l, .int n) = if -9223372036854775808 ≤ n ∧ n < 9223372036854775808 ∧ a.length * n.toNat ≤ line then .ok (at9 (.str (repL n a))) else .stuck := rfl
@[simp] theorem neg_i (k : Option Nat) (a : Int) : unD .USub (k, .int a) = .ok (at9 (.int (-a))) := rfl
@[simp] theorem eq_i (k l : Option Nat) (a b : Int) : cmpD .Eq (k, .int a) (l, .int b) = .ok (decide (a = b)) := rfl
@[simp] theorem eq_s (k l : Option Nat) (a b : List Nat) : cmpD .Eq (k, .str a) (l, .str b) = .ok (decide (a = b)) := rfl
@[simp] theorem eq_b (k l : Option Nat) (a b : Bool) : cmpD .Eq (k, .bl a) (l, .bl b) = .ok (a == b) := rfl
@[simp] theorem ne_i (k l : Option Nat) (a b : Int) : cmpD .NotEq (k, .int a) (l, .int b) = .ok (!decide (a = b)) := rfl
@[simp] theorem ne_s (k l : Option Nat) (a b : List Nat) : cmpD .NotEq (k, .str a) (l, .str b) = .ok (!decide (a = b)) := rfl
@[simp] theorem ne_b (k l : Option Nat) (a b : Bool) : cmpD .NotEq (k, .bl a) (l, .bl b) = .ok (!(a == b)) := rfl
@[simp] theorem lt_i (k l : Option Nat) (a b : Int) : cmpD .Lt (k, .int a) (l, .int b) = .ok (decide (a < b)) := rfl
@[simp] theorem le_i (k l : Option Nat) (a b : Int) : cmpD .LtE (k, .int a) (l, .int b) = .ok (decide (a ≤ b)) := rfl
@[simp] theorem gt_i (k l : Option Nat) (a b : Int) : cmpD .Gt (k, .int a) (l, .int b) = .ok (decide (b < a)) := rfl
@[simp] theorem ge_i (k l : Option Nat) (a b : Int) : cmpD .GtE (k, .int a) (l, .int b) = .ok (decide (b ≤ a)) := rfl
@[simp] theorem in_s (k l : Option Nat) (a b : List Nat) : cmpD .In (k, .str a) (l, .str b) = .ok (inStr a b) := rfl
@[simp] theorem nin_s (k l : Option Nat) (a b : List Nat) : cmpD .NotIn (k, .str a) (l, .str b) = .ok (!inStr a b) := rfl
@[simp] theorem tru_b (k : Option Nat) (b : Bool) : truD (k, .bl b) = .ok b := rfl
@[simp] theorem tru_l (k : Option Nat) (b : List D) : truD (k, .lst b) = .ok (!b.isEmpty) := rfl
@[simp] theorem len_s (k : Option Nat) (s : List Nat) : biD .len [(k, .str s)] = if s.length ≤ line then .ok (at9 (.int s.length)) else .stuck := rfl
@[simp] theorem len_l (k : Option Nat) (s : List D) : biD .len [(k, .lst s)] = .ok (at9 (.int s.length)) := rfl
@[simp] theorem len_t (k : Option Nat) (s : List D) : biD .len [(k, .tup s)] = .ok (at9 (.int s.length)) := rfl
@[simp] theorem int_i (k : Option Nat) (s : Int) : biD .int [(k, .int s)] = .ok (at9 (.int s)) := rfl
@[simp] theorem repr_b (k : Option Nat) (b : Bool) : biD .repr [(k, .bl b)] = .ok (at9 (.str (if b then [84, 114, 117, 101] else [70, 97, 108, 115, 101]))) := rfl
theorem callD_of {f : Fn} {ks : List Kd} {d : D} {k : Nat} (h : f (ks.map (·.2)) = .ok (k, d)) (hc : d.cont = false) (hp : ks.any (fun x => x.1.isNone) = true → pureD d = true) : callD f ks = .ok (at9 d) := by
  unfold callD
  rw [h, R.bind_ok]
  have hk : kd k d = at9 d := by unfold kd; rw [hc]; rfl
  cases hb : ks.any (fun x => x.1.isNone) with
  | false => simp [hk]
  | true =>
    have : ownAll k d = true := by
      have hp := hp hb
      cases k with
      | zero => unfold ownAll; exact hp
      | succ k => cases d <;> first | (cases hc; done) | (unfold ownAll; exact hp)
    simp [this, hk]
theorem callD_exc {f : Fn} {ks : List Kd} {x : String} {p : List (String × Int)} (h : f (ks.map (·.2)) = .exc x p) : callD f ks = .exc x p := by
  unfold callD; rw [h]; rfl
/-- a call with nothing borrowed -/
theorem callD_own {f : Fn} {ks : List Kd} {d : D} {k : Nat} (h : f (ks.map (·.2)) = .ok (k, d)) (hb : ks.any (fun x => x.1.isNone) = false) : callD f ks = .ok (kd k d) := by
  unfold callD
  rw [h, R.bind_ok, hb]; rfl
theorem callD_ok {f : Fn} {ks : List Kd} {ds : List D} {d : D} {k : Nat} (h : f ds = .ok (k, d)) (hks : ks.map (·.2) = ds) (hb : ks.any (fun x => x.1.isNone) = false) : callD f ks = .ok (kd k d) := by
  subst hks; exact callD_own h hb
theorem callD_at {f : Fn} {ks : List Kd} {ds : List D} {d : D} {k : Nat} (h : f ds = .ok (k, d)) (hks : ks.map (·.2) = ds) (hc : d.cont = false) (hp : ks.any (fun x => x.1.isNone) = true → pureD d = true) : callD f ks = .ok (at9 d) := by
  subst hks; exact callD_of h hc hp
/-! ### loops -/
/-- how a turn may end -/
inductive Stp (Q : Rs → Prop) (J : Env → Prop) : Rs → Prop
  | nx {ρ : Env} (h : J ρ) : Stp Q J (.nx ρ)
  | ct {ρ : Env} (h : J ρ) : Stp Q J (.ct ρ)
  | bk {ρ : Env} (h : Q (.nx ρ)) : Stp Q J (.bk ρ)
  | ret {k : Nat} {d : D} (h : Q (.ret k d)) : Stp Q J (.ret k d)
  | exc {x : String} {p : List (String × Int)} {ρ : Env} (h : Q (.exc x p ρ)) : Stp Q J (.exc x p ρ)
theorem Stp.to {Q : Rs → Prop} {J : Env → Prop} {r r' : Rs} (h : Stp Q J r') (e : r = r') : Stp Q J r := e ▸ h
theorem loopF_rule {p : Pat} {body els : Env → Rs} (Q : Rs → Prop) (I : List D → Env → Prop)
    (step : ∀ d ds ρ, I (d :: ds) ρ → ∃ ρ1, bindP p d ρ = .ok ρ1 ∧ Stp Q (I ds) (body ρ1)) (fin : ∀ ρ, I [] ρ → Q (els ρ)) :
    ∀ (xs : List D) (ρ : Env), I xs ρ → Q (loopF p body els xs ρ)
  | [], ρ, h => fin ρ h
  | d :: ds, ρ, h => by
    obtain ⟨ρ1, e, s⟩ := step d ds ρ h
    unfold loopF
    rw [e]
    show Q (match body ρ1 with | .nx ρ' => loopF p body els ds ρ' | .ct ρ' => loopF p body els ds ρ' | .bk ρ' => .nx ρ' | r => r)
    generalize body ρ1 = r at s
    cases s with
    | nx h => exact loopF_rule Q I step fin ds _ h
    | ct h => exact loopF_rule Q I step fin ds _ h
    | bk h => exact h
    | ret h => exact h
    | exc h => exact h
theorem loopW_rule {c : Env → R Bool} {body : Env → Rs} (Q : Rs → Prop) (I : Nat → Env → Prop)
    (step : ∀ n ρ, I n ρ → (c ρ = .ok true ∧ Stp Q (fun ρ' => ∃ m, m < n ∧ I m ρ') (body ρ)) ∨ (c ρ = .ok false ∧ Q (.nx ρ))) :
    ∀ (f n : Nat) (ρ : Env), n < f → I n ρ → Q (loopW c body f ρ)
  | 0, n, ρ, hf, h => by omega
  | f + 1, n, ρ, hf, h => by
    unfold loopW
    rcases step n ρ h with ⟨e, s⟩ | ⟨e, s⟩
    · rw [e, liftR_ok, if_pos rfl]
      generalize body ρ = r at s
      cases s with
      | nx h => obtain ⟨m, hm, s⟩ := h; exact loopW_rule Q I step f m _ (by omega) s
      | ct h => obtain ⟨m, hm, s⟩ := h; exact loopW_rule Q I step f m _ (by omega) s
      | bk h => exact h
      | ret h => exact h
      | exc h => exact h
    · rw [e, liftR_ok, if_neg Bool.false_ne_true]; exact s
theorem compR_map {f : D → R (Option (Nat × D))} {g : D → Nat × D} : ∀ {xs : List D}, (∀ d ∈ xs, f d = .ok (some (g d))) → compR f xs = .ok (xs.map g)
  | [], _ => rfl
  | a :: r, h => by
    unfold compR
    rw [h a (by simp), compR_map (fun d m => h d (by simp [m]))]; rfl
theorem compR_filter {f : D → R (Option (Nat × D))} {g : D → Option (Nat × D)} : ∀ {xs : List D}, (∀ d ∈ xs, f d = .ok (g d)) → compR f xs = .ok (xs.filterMap g)
  | [], _ => rfl
  | a :: r, h => by
    unfold compR
    rw [h a (by simp), compR_filter (fun d m => h d (by simp [m]))]
    cases q : g a with
    | none => simp [q]
    | some b => simp [q]
def fin : Rs → R (Nat × D)
  | .ret k d => .ok (k, d)
  | .nx _ => .ok (9, .non)
  | .exc x p _ => .exc x p
  | _ => .stuck
@[simp] theorem fin_ret (k : Nat) (d : D) : fin (.ret k d) = .ok (k, d) := rfl
@[simp] theorem fin_nx : fin (.nx ρ) = .ok (9, .non) := rfl
@[simp] theorem fin_exc (x : String) (p : List (String × Int)) : fin (.exc x p ρ) = .exc x p := rfl
theorem run_of {np n : Nat} {code : List Cm} {ds : List D} (h : ds.length = np) : runFd F C T np n code ds = fin (runs F C T code (env0 np n ds)) := by
  unfold runFd
  rw [if_pos h]
  show (match runs F C T code (env0 np n ds) with | .ret k d => R.ok (k, d) | .nx _ => .ok (9, .non) | .exc x p _ => .exc x p | _ => .stuck) = _
  cases runs F C T code (env0 np n ds) <;> rfl
theorem env0_of (np n : Nat) (ds : List D) : env0 np n ds = ds.map (fun d => some ((kd 0 d).1.getD 0, d)) ++ List.replicate (n - np) none := rfl
@[simp] theorem kd_int (k : Nat) (i : Int) : kd k (.int i) = (some 9, .int i) := rfl
@[simp] theorem kd_str (k : Nat) (i : List Nat) : kd k (.str i) = (some 9, .str i) := rfl
@[simp] theorem kd_bl (k : Nat) (i : Bool) : kd k (.bl i) = (some 9, .bl i) := rfl
@[simp] theorem kd_non (k : Nat) : kd k .non = (some 9, .non) := rfl
@[simp] theorem kd_tup (k : Nat) (i : List D) : kd k (.tup i) = (some 9, .tup i) := rfl
@[simp] theorem kd_lst (k : Nat) (i : List D) : kd k (.lst i) = (some k, .lst i) := rfl
@[simp] theorem bind_nm (i : Nat) (d : D) : bindP (.nm i) d ρ = if i < ρ.length then .ok (ρ.set i (some ((kd 0 d).1.getD 0, d))) else .stuck := by unfold bindP; rfl
@[simp] theorem items_str (b : Bool) (k : Option Nat) (s : List Nat) : itemsD b (k, .str s) = .ok (s.map fun c => .str [c]) := rfl
theorem runs_cons (c : Cm) (cs : List Cm) (ρ : Env) : runs F C T (c :: cs) ρ = (run1 F C T c ρ).seq (runs F C T cs) := by simp only [runs]
theorem runs_nil (ρ : Env) : runs F C T [] ρ = .nx ρ := by simp only [runs]
theorem run1_for (p : Pat) (it : Ix) (b els : List Cm) (ρ : Env) : run1 F C T (.for p it b els) ρ = liftR (evI F C false it ρ) ρ fun xs => loopF p (runs F C T b) (runs F C T els) xs ρ := by simp only [run1]
theorem run1_whl (n : Nat) (c : Tx) (b : List Cm) (ρ : Env) : run1 F C T (.whl n c b) ρ = loopW (tst F C c) (runs F C T b) n ρ := by simp only [run1]
theorem run1_set (i : Nat) (e : Ex) (ρ : Env) : run1 F C T (.set i e) ρ = liftR (ev F C e ρ) ρ fun k => liftR (needV k) ρ fun v => setR i v.1 v.2 ρ := by simp only [run1]
theorem run1_ifs (c : Tx) (a b : List Cm) (ρ : Env) : run1 F C T (.ifs c a b) ρ = liftR (tst F C c ρ) ρ fun t => if t then runs F C T a ρ else runs F C T b ρ := by simp only [run1]
theorem run1_ret (e : Ex) (ρ : Env) : run1 F C T (.ret e) ρ = liftR (ev F C e ρ) ρ fun k => liftR (needV k) ρ fun v => .ret v.1 v.2 := by simp only [run1]
theorem run1_retv {i k : Nat} {d : D} {ρ : Env} (h : ρ[i]? = some (some (k, d))) : run1 F C T (.retv i) ρ = .ret k d := by simp only [run1, h]
theorem run1_brk (ρ : Env) : run1 F C T .brk ρ = .bk ρ := by simp only [run1]
theorem evI_rng1 (b : Bool) (a : Ex) (ρ : Env) (n : Int) (k : Option Nat) (h : ev F C a ρ = .ok (k, .int n)) (hb : inBig n = true) : evI F C b (.rng1 a) ρ = .ok (rng1 0 n) := by
  simp only [evI, h, R.bind_ok, hb, if_true]
theorem rng1_int {n : Int} {d : D} (h : d ∈ rng1 0 n) : ∃ i : Nat, d = .int (i : Int) ∧ (i : Int) < n := by
  unfold rng1 at h
  obtain ⟨i, hi, e⟩ := List.mem_map.mp h
  refine ⟨i, by rw [← e, Int.zero_add], ?_⟩
  have := List.mem_range.mp hi
  omega
theorem rng1_len (n : Int) : (rng1 0 n).length = n.toNat := by unfold rng1; simp
end
end Px

/-! Px26: how the law's def is entered, below a stack without guards. -/
namespace Px
open PySem PySem.Spec PyProof.Rows L2
section
variable {P : Program} {w : World} {K : PySem.W.Frag} {mg mb : Str → Option Value} {k : Nat} {fa a : Addr} {fd : FuncData} {x : Str} {s : Shared} {vs : List Value} {ns : List Int}
abbrev listO (vs : List Value) : Obj := { cls := .type "list", data := .seq vs.toArray }
abbrev AfterLaw (s : Shared) (r : Result) (s' : Shared) : Prop := r = .ok (.ret (.bool true)) ∧ OldK s.heap s'.heap ∧ s'.os = s.os ∧ AllBare s'.gens
/-- H knows of nothing but the script -/
structure Scr (K : PySem.W.Frag) (a : Addr) (vs : List Value) (ns : List Int) (H : Hp) : Prop where
  at_ : ∀ b u, H b = some u → b = a ∧ u = .frz (listO vs) (.lst (ns.map V.int)) ∧ K.lookup a = none
  seq : SqL K H a (ns.map V.int)
theorem enter_law {H : Hp} (S : Scr K a vs ns H) (KX : K.In s.heap) (glob : s.heap.Ns mainGlobals mg) (blt : s.heap.Ns builtinsNs mb) (boot : ∀ x : Str, x ≠ "__name__" → mb x = bootBuiltins x) (lim : s.heap.NoLimit) (noG : s.gens = #[])
    (obj : s.heap.get? a = some (listO vs)) (hi : IntsAre vs ns) (h63 : ns.length ≤ 63) (room : Room k callerA)
    (F : ∀ base : Heap, K.In base → base.Ns mainGlobals mg → FnG P w K mg base k fa fd [x] (spLaw K)) (bd : ∀ (t : Shared) (u : Value), BindsTo t fd ⟨[u], []⟩ [(x, u)]) : codeAny (model P w) callerA (.call (.ref fa) ⟨[.ref a], []⟩) (AfterLaw s) s := by
  have freeK : ∀ b o, K.lookup b = some o → H b = none := by
    intro b o e
    cases q : H b with
    | none => rfl
    | some u => obtain ⟨eb, _, z⟩ := S.at_ b u q; rw [eb, z] at e; cases e
  have freeD : ∀ b o es ep, s.heap.get? b = some o → o.data = .dict es ep → H b = none := by
    intro b o es ep e d
    cases q : H b with
    | none => rfl
    | some u =>
      obtain ⟨eb, _⟩ := S.at_ b u q
      rw [eb, obj] at e
      cases e; cases d
  have nsB : ∀ b m, s.heap.Ns b m → (hidT s.heap H).Ns b m := by
    rintro b m ⟨o, es, ep, e, d, r⟩
    exact ⟨o, es, ep, hidT_get e (freeD b o es ep e d), d, r⟩
  have inB : K.In (hidT s.heap H) := fun b o e => hidT_get (KX b o e) (freeK b o e)
  have lenV := hi.length
  have hok : HOk P w H s.heap := by
    intro b u q
    obtain ⟨eb, eu, _⟩ := S.at_ b u q
    subst eb; subst eu
    refine ⟨obj, ?_, vs, _, vals_ints hi, obj⟩
    rw [List.length_map]
    exact Nat.le_trans h63 (by decide)
  have env : Env0 P w K mg (hidT s.heap H) callerA [] s H := by
    refine ⟨rfl, ⟨inB, nsB _ _ glob, ⟨mb, nsB _ _ blt, boot⟩, ?_⟩, fun b o e => of_hidT e, Nat.le_of_eq (hidT_size _ _), trivial, ?_, hok, .of_eq noG⟩
    · obtain ⟨m, h1, h2⟩ := lim
      exact ⟨m, nsB _ _ h1, h2⟩
    · intro b z
      cases z
  have pre : spLaw K [.ref a] H (fun v _ => v = .bl true) (fun _ _ _ => False) := ⟨a, ns, rfl, S.seq, h63, fun _ => rfl⟩
  refine codeAny_mono ((F _ inB (nsB _ _ glob)).run callerA [] s H [.ref a] [.ref a] _ _ rfl room env (bd s _) (.cons rfl .nil) pre) ?_
  intro r s' done
  match r, done with
  | .error e, d => exact (cx_none d).elim
  | .ok (.ret u), ⟨v, H', os, bare, un, hok', ru, q⟩ =>
    have q : v = .bl true := q
    rw [q] at ru
    have ru : u = Value.bool true := ru
    subst ru
    refine ⟨rfl, OldK.of_keep ?_, os, bare⟩
    intro b o e
    cases q : H b with
    | none => exact un.keep b o e q (fun z => by cases z) (by simp)
    | some u =>
      obtain ⟨_, eu, _⟩ := S.at_ b u q
      rw [eu] at q
      have h1 := (hok b _ q).1
      have h2 := (hok' b _ (un.frzs b _ _ q)).1
      rw [h1] at e
      rw [h2]; exact e
theorem scr_new (hK : K.lookup a = none) : Scr K a vs ns (fun b => if b = a then some (.frz (listO vs) (.lst (ns.map V.int))) else none) := by
  refine ⟨fun b u e => ?_, .inl (.inr ⟨listO vs, if_pos rfl⟩)⟩
  split at e <;> cases e
  exact ⟨by assumption, rfl, hK⟩
theorem call_lawG (KX : K.In s.heap) (glob : s.heap.Ns mainGlobals mg) (blt : s.heap.Ns builtinsNs mb) (boot : ∀ x : Str, x ≠ "__name__" → mb x = bootBuiltins x) (lim : s.heap.NoLimit) (noG : s.gens = #[])
    (obj : s.heap.get? a = some (listO vs)) (hi : IntsAre vs ns) (h63 : ns.length ≤ 63) (room : Room k callerA)
    (F : ∀ base : Heap, K.In base → base.Ns mainGlobals mg → FnG P w K mg base k fa fd [x] (spLaw K)) (bd : ∀ (t : Shared) (u : Value), BindsTo t fd ⟨[u], []⟩ [(x, u)]) : codeAny (model P w) callerA (.call (.ref fa) ⟨[.ref a], []⟩) (AfterLaw s) s := by
  cases hk : K.lookup a with
  | none => exact enter_law (scr_new hk) KX glob blt boot lim noG obj hi h63 room F bd
  | some o =>
    have e := KX a o hk
    rw [obj] at e
    cases e
    have hz : vs.toArray.size ≤ sizeLine := by
      rw [List.size_toArray, hi.length]
      exact Nat.le_trans h63 (by decide)
    refine enter_law (H := fun _ => none) ⟨fun b u e => (by cases e), .inr ⟨_, vs.toArray, _, hk, rfl, rfl, rfl, hz, ?_⟩⟩ KX glob blt boot lim noG obj hi h63 room F bd
    simpa using vals_ints hi
end
/-- the goal that the head leaves -/
theorem walkG {l : PySem.W.OpenLaw} {k : Nat} {q : Program} {loose : List Str} {XP : (Str → Option Value) → Heap → Prop} {YP : World → Heap → Prop} {d : DefRec} {K : Params → PySem.W.Frag} {x : Str}
    (h63 : l.most = some 63) (noDef : d.params.defaults = []) (room : Room k callerA) (hY : ∀ (w : World) (h : Heap), YP w h → (K w.params).In h)
    (F : ∀ (w : World) (mg : Str → Option Value) (fa : Addr) (h : Heap), (K w.params).In h → h.Ns mainGlobals mg → mg d.name = some (.ref fa) →
      ∃ fd : FuncData, (∀ (t : Shared) (u : Value), BindsTo t fd ⟨[u], []⟩ [(x, u)]) ∧ ∀ base : Heap, (K w.params).In base → base.Ns mainGlobals mg → FnG l.prog w (K w.params) mg base k fa fd [x] (spLaw (K w.params))) :
    PySem.W.WalkO q loose XP YP l.row.toRowW d [] (fun f vs => PySem.call f vs) := by
  refine Att.attach_call h63 noDef ?_
  intro w s0 s mg mb fa o pm cd doc a vs ns G Y ho hd hcd hmg obj hints hlen hg
  obtain ⟨fd, bd, hF⟩ := F w mg fa s.heap (hY w _ Y) G.T.g hmg
  exact call_lawG (hY w _ Y) G.T.g G.T.b G.T.builtins G.T.nolimit hg obj hints hlen room hF bd
end Px

/-! Px27: what repr tells is short enough. -/
namespace Px
open PySem PySem.Spec L2
def rpT : D → List Nat
  | .bl b => if b then [84, 114, 117, 101] else [70, 97, 108, 115, 101]
  | d => rpS d
def rpOk : D → Prop
  | .bl _ => True
  | d => rOk d = true
theorem repr_any (k : Option Nat) {d : D} (h : rpOk d) : biD .repr [(k, d)] = .ok (at9 (.str (rpT d))) := by
  cases d with
  | bl b => rfl
  | non => show (if rOk .non = true then R.ok (at9 (.str (rpS .non))) else .stuck) = _; rw [if_pos (show rOk _ = true from h)]; rfl
  | int i => show (if rOk (.int i) = true then R.ok (at9 (.str (rpS (.int i)))) else .stuck) = _; rw [if_pos (show rOk _ = true from h)]; rfl
  | str s => show (if rOk (.str s) = true then R.ok (at9 (.str (rpS (.str s)))) else .stuck) = _; rw [if_pos (show rOk _ = true from h)]; rfl
  | lst s => show (if rOk (.lst s) = true then R.ok (at9 (.str (rpS (.lst s)))) else .stuck) = _; rw [if_pos (show rOk _ = true from h)]; rfl
  | tup s => show (if rOk (.tup s) = true then R.ok (at9 (.str (rpS (.tup s)))) else .stuck) = _; rw [if_pos (show rOk _ = true from h)]; rfl
  | dct s t => show (if rOk (.dct s t) = true then R.ok (at9 (.str (rpS (.dct s t)))) else .stuck) = _; rw [if_pos (show rOk _ = true from h)]; rfl
theorem rpOk_bl (b : Bool) : rpOk (.bl b) := trivial
theorem rpOk_non : rpOk .non := by show rOk .non = true; decide +kernel
theorem rpS_len (d : D) : (rpS d).length = d.py.shown.length := by unfold rpS; exact Array.length_toList
theorem rOk_of {d : D} (h1 : shp d = true) (h2 : d.py.showable = true) (h3 : d.py.shown.length ≤ line) : rOk d = true := by
  unfold rOk
  rw [h1, h2, rpS_len, decide_eq_true h3]; rfl
theorem rpOk_int {i : Int} (h : i.natAbs.log2 < 1920) : rpOk (.int i) := by
  refine rOk_of rfl (decide_eq_true h) ?_
  have := int_text_fits h
  rw [line_eq] at this
  exact this
theorem small_log {i : Int} (h : i.natAbs < 2 ^ 1900) : i.natAbs.log2 < 1920 := by
  by_cases h0 : i.natAbs = 0
  · rw [h0]; decide
  · exact Nat.lt_trans ((Nat.log2_lt h0).mpr h) (by decide)
/-- a text of plain signs -/
def Pl (n : Nat) (t : List Nat) : Prop := t.length ≤ n ∧ ∀ c ∈ t, c < 128
theorem pl_repr {n : Nat} {t : List Nat} (h : Pl n t) : (reprText (mkS t)).length ≤ 10 * n + 2 := by
  have e : (reprText (mkS t)).length ≤ 10 * (mkS t).length + 2 := StrLaws.reprText_len (mkS t) fun c m => Nat.lt_trans (h.2 c (by simpa [mkS] using m)) (by decide)
  rw [show (mkS t).length = t.length from mkS_len t] at e
  have q : t.length ≤ n := h.1
  generalize (reprText (mkS t)).length = z at e ⊢
  omega
theorem pl_ok {n : Nat} {t : List Nat} (h : Pl n t) : PyData.strOk (mkS t) = true := by
  show (mkS t).cps.all (· < 0x110000) = true
  rw [← Array.all_toList]
  exact List.all_eq_true.mpr fun c m => decide_eq_true (Nat.lt_trans (h.2 c (by simpa [mkS] using m)) (by decide))
theorem shp_str {n : Nat} {t : List Nat} (h : Pl n t) : shp (.str t) = true := by
  show (PyData.strOk (mkS t) && decide ((PyData.str (mkS t)).depth ≤ 64)) = true
  rw [pl_ok h]; rfl
theorem rpOk_str {t : List Nat} (h : Pl 100000 t) : rpOk (.str t) := by
  refine rOk_of (shp_str h) rfl ?_
  have := pl_repr h
  unfold line
  exact Nat.le_trans this (by decide)
theorem strs_py {n : Nat} {ts : List (List Nat)} (h : ∀ t ∈ ts, Pl n t) : PyData.canLayAll0 (D.pys (ts.map D.str)) = true ∧ PyData.depthAll (D.pys (ts.map D.str)) ≤ 1 ∧ PyData.showableAll (D.pys (ts.map D.str)) = true ∧ PyData.shownAll (D.pys (ts.map D.str)) = ts.map fun t => reprText (mkS t) := by
  induction ts with
  | nil => exact ⟨rfl, by decide, rfl, rfl⟩
  | cons t ts ih =>
    obtain ⟨a, b, c, d⟩ := ih fun t m => h t (by simp [m])
    refine ⟨?_, ?_, ?_, ?_⟩
    · show (PyData.strOk (mkS t) && PyData.canLayAll0 (D.pys (ts.map D.str))) = true
      rw [a, pl_ok (h t (by simp))]; rfl
    · simp only [List.map_cons, D.pys, D.py, PyData.depthAll, PyData.depth]
      omega
    · show (PyData.showable (.str (mkS t)) && PyData.showableAll (D.pys (ts.map D.str))) = true
      rw [c]; rfl
    · show reprText (mkS t) :: PyData.shownAll (D.pys (ts.map D.str)) = _
      rw [d]; rfl
theorem rpOk_strs {ts : List (List Nat)} (h : ∀ t ∈ ts, Pl 1000 t) (hl : ts.length ≤ 1001) : rpOk (.lst (ts.map D.str)) := by
  obtain ⟨a, b, c, d⟩ := strs_py h
  refine rOk_of ?_ c ?_
  · show (PyData.canLayAll0 (D.pys (ts.map D.str)) && decide ((PyData.list (D.pys (ts.map D.str))).depth ≤ 64)) = true
    have e : (PyData.list (D.pys (ts.map D.str))).depth ≤ 64 := by
      show PyData.depthAll (D.pys (ts.map D.str)) + 1 ≤ 64
      omega
    rw [a, decide_eq_true e]; rfl
  · show (listText (PyData.shownAll (D.pys (ts.map D.str)))).length ≤ line
    rw [d]
    have e := listText_len_le (ts.map fun t => reprText (mkS t))
    rw [List.map_map, List.length_map] at e
    have s : ∀ us : List (List Nat), (∀ t ∈ us, Pl 1000 t) → (us.map ((fun x : Str => x.length) ∘ fun t => reprText (mkS t))).sum ≤ us.length * 10002 := by
      intro us
      induction us with
      | nil => intro _; simp
      | cons u us ih =>
        intro hu
        have := pl_repr (hu u (by simp))
        have := ih fun t m => hu t (by simp [m])
        simp only [List.map_cons, List.sum_cons, List.length_cons, Function.comp_apply] at *
        omega
    have := s ts h
    have : ts.length * 10002 ≤ 1001 * 10002 := Nat.mul_le_mul_right _ hl
    unfold line
    simp only [Function.comp_def] at *
    omega
end Px

namespace Q
open PySem PySem.Spec PyProof.Rows L2 Px
open PySem (Expr Stmt)
def tT : Tab := [("CayleyError", ["CayleyError", "ValueError", "Exception"]), ("NotWord", ["NotWord", "CayleyError", "ValueError", "Exception"]), ("NotPresentation", ["NotPresentation", "CayleyError", "ValueError", "Exception"]), ("NotWeights", ["NotWeights", "CayleyError", "ValueError", "Exception"]), ("BadNumber", ["BadNumber", "CayleyError", "ValueError", "Exception"])]
def c_check_generators : List Cm := [.ifs (.not (.chain .LtE .LtE (.lit (.int 1)) (.var 0) (.glob 0))) [.raise "BadNumber"] []]
def f_check_generators : Cf := ⟨["g"], ["MOST_GENERATORS_letters"], [], [], ["BadNumber"], []⟩
def m_check_generators : Fn := runFd [] [.int 3] tT 1 1 c_check_generators
def c_letters_of : List Cm := [.exp (.call 0 [.var 0]),
  .ret (.sl (.glob 0) (.no) (.yes (.bin .Mult (.lit (.int 2)) (.var 0))))]
def f_letters_of : Cf := ⟨["g"], ["LETTERS"], [], [("check_generators", 1)], [], []⟩
def m_letters_of : Fn := runFd [m_check_generators] [.str [97, 65, 98, 66, 99, 67]] tT 1 1 c_letters_of
def c_rank_of : List Cm := [.ifs (.or (.cmp .NotEq (.bi .len [.var 0]) (.lit (.int 1))) (.cmp .NotIn (.var 0) (.glob 0))) [.raise "NotWord"] [],
  .ret (.me .sindex (.glob 0) [.var 0])]
def f_rank_of : Cf := ⟨["letter"], ["LETTERS"], ["len"], [], ["NotWord"], []⟩
def m_rank_of : Fn := runFd [] [.str [97, 65, 98, 66, 99, 67]] tT 1 1 c_rank_of
def c__is_over : List Cm := [.for (.nm 2) (.val (.var 1)) [.ifs (.cmp .NotIn (.var 2) (.var 0)) [.ret (.lit (.bl false))] []] [],
  .ret (.lit (.bl true))]
def f__is_over : Cf := ⟨["letters", "text", "char"], [], [], [], [], []⟩
def m__is_over : Fn := runFd [] [] tT 2 3 c__is_over
def c_is_word : List Cm := [.ret (.call 0 [.call 1 [.var 0], .var 1])]
def f_is_word : Cf := ⟨["g", "text"], [], [], [("_is_over", 2), ("letters_of", 1)], [], []⟩
def m_is_word : Fn := runFd [m__is_over, m_letters_of] [] tT 2 2 c_is_word
def c_check_word : List Cm := [.ifs (.or (.not (.val (.call 0 [.var 0, .var 1]))) (.cmp .Gt (.bi .len [.var 1]) (.glob 0))) [.raise "NotWord"] []]
def f_check_word : Cf := ⟨["g", "text"], ["MOST_LETTERS"], ["len"], [("is_word", 2)], ["NotWord"], []⟩
def m_check_word : Fn := runFd [m_is_word] [.int 60] tT 2 2 c_check_word
def c_is_presentation : List Cm := [.unp (.tp [.nm 1, .nm 2]) (.var 0),
  .ifs (.or (.not (.chain .LtE .LtE (.lit (.int 1)) (.var 1) (.glob 0))) (.cmp .Gt (.bi .len [.var 2]) (.glob 1))) [.ret (.lit (.bl false))] [],
  .frz 2,
  .for (.nm 3) (.val (.var 2)) [.ifs (.or (.not (.chain .LtE .LtE (.lit (.int 1)) (.bi .len [.var 3]) (.glob 2))) (.not (.val (.call 0 [.var 1, .var 3])))) [.ret (.lit (.bl false))] []] [],
  .ret (.lit (.bl true))]
def f_is_presentation : Cf := ⟨["value", "gens", "relators", "word"], ["MOST_GENERATORS_presentations", "MOST_RELATORS", "LONGEST_RELATOR"], ["len"], [("is_word", 2)], [], []⟩
def m_is_presentation : Fn := runFd [m_is_word] [.int 3, .int 8, .int 20] tT 1 4 c_is_presentation
def c_check_presentation : List Cm := [.ifs (.not (.val (.call 0 [.var 0]))) [.raise "NotPresentation"] []]
def f_check_presentation : Cf := ⟨["presentation"], [], [], [("is_presentation", 1)], ["NotPresentation"], []⟩
def m_check_presentation : Fn := runFd [m_is_presentation] [] tT 1 1 c_check_presentation
def c_counted : List Cm := [.set 2 (.bin .Mult (.list [.lit (.int 0)]) (.var 0)),
  .for (.nm 3) (.val (.var 1)) [.set 4 (.call 0 [.var 3]), .augAt 2 (.bin .FloorDiv (.var 4) (.lit (.int 2))) .Add (.bin .Sub (.lit (.int 1)) (.bin .Mult (.lit (.int 2)) (.bin .BitAnd (.var 4) (.lit (.int 1)))))] [],
  .retv 2]
def f_counted : Cf := ⟨["g", "word", "sums", "letter", "rank"], [], [], [("rank_of", 1)], [], []⟩
def m_counted : Fn := runFd [m_rank_of] [] tT 2 5 c_counted
def c_check_weights : List Cm := [.unp (.tp [.nm 1, .nm 2]) (.var 0),
  .ifs (.or (.cmp .Lt (.var 1) (.lit (.int 0))) (.or (.cmp .Eq (.var 1) (.lit (.int 1))) (.not (.chain .LtE .LtE (.lit (.int 1)) (.bi .len [.var 2]) (.lit (.int 3)))))) [.raise "NotWeights"] []]
def f_check_weights : Cf := ⟨["weights", "modulus", "numbers"], [], ["len"], [], ["NotWeights"], []⟩
def m_check_weights : Fn := runFd [] [] tT 1 3 c_check_weights
def c_weighed : List Cm := [.unp (.tp [.nm 2, .nm 3]) (.var 0),
  .set 4 (.bi .sum [.comp (.tp [.nm 5, .nm 6]) (.zip (.var 3) (.call 0 [.bi .len [.var 3], .var 1])) [] (.bin .Mult (.var 5) (.var 6))]),
  .ifs (.cmp .Eq (.var 2) (.lit (.int 0))) [.retv 4] [],
  .ret (.bin .Sub (.var 4) (.bin .Mult (.bin .FloorDiv (.var 4) (.var 2)) (.var 2)))]
def f_weighed : Cf := ⟨["weights", "word", "modulus", "numbers", "total", "number", "count"], [], ["sum", "len", "zip"], [("counted", 2)], [], []⟩
def m_weighed : Fn := runFd [m_counted] [] tT 2 7 c_weighed
def c_weight_of : List Cm := [.exp (.call 0 [.var 0]),
  .exp (.call 1 [.bi .len [.idx (.var 0) (.lit (.int 1))], .var 1]),
  .ret (.call 2 [.var 0, .var 1])]
def f_weight_of : Cf := ⟨["weights", "word"], [], ["len"], [("check_weights", 1), ("check_word", 2), ("weighed", 2)], [], []⟩
def m_weight_of : Fn := runFd [m_check_weights, m_check_word, m_weighed] [] tT 2 2 c_weight_of
def c_fits : List Cm := [.exp (.call 0 [.var 0]),
  .exp (.call 1 [.var 1]),
  .ifs (.cmp .NotEq (.bi .len [.idx (.var 1) (.lit (.int 1))]) (.idx (.var 0) (.lit (.int 0)))) [.raise "NotWeights"] [],
  .for (.nm 2) (.val (.idx (.var 0) (.lit (.int 1)))) [.ifs (.cmp .NotEq (.call 2 [.var 1, .var 2]) (.lit (.int 0))) [.ret (.lit (.bl false))] []] [],
  .ret (.lit (.bl true))]
def f_fits : Cf := ⟨["presentation", "weights", "relator"], [], ["len"], [("check_presentation", 1), ("check_weights", 1), ("weighed", 2)], ["NotWeights"], []⟩
def m_fits : Fn := runFd [m_check_presentation, m_check_weights, m_weighed] [] tT 2 3 c_fits
def c__law_cell : List Cm := [.ifs (.cmp .Lt (.var 1) (.bi .len [.var 0])) [.ret (.idx (.var 0) (.var 1))] [],
  .ret (.lit (.int 0))]
def f__law_cell : Cf := ⟨["_law_script", "_law_k"], [], ["len"], [], [], []⟩
def m__law_cell : Fn := runFd [] [] tT 2 2 c__law_cell
def c__law_values : List Cm := [.set 3 (.list []),
  .set 4 (.var 0),
  .for (.nm 5) (.rng1 (.var 1)) [.ifs (.cmp .GtE (.var 4) (.bin .Pow (.lit (.int 10)) (.lit (.int 12)))) [.app 3 (.bin .Mod (.bi .int [.var 4]) (.var 2)), .set 4 (.bin .FloorDiv (.var 4) (.var 2))] [.set 6 (.bin .Mod (.bin .Add (.bin .Add (.bin .Mult (.bin .Mod (.bi .int [.var 0]) (.lit (.int 2147483647))) (.lit (.int 48271))) (.bin .Mult (.var 5) (.lit (.int 69621)))) (.lit (.int 7))) (.lit (.int 2147483647))), .app 3 (.bin .Mod (.bin .Mod (.bin .Mult (.var 6) (.lit (.int 16807))) (.lit (.int 2147483647))) (.var 2))]] [],
  .retv 3]
def f__law_values : Cf := ⟨["_law_cell_here", "_law_count", "_law_size", "_law_values_here", "_law_rest", "_law_k", "_law_mixed"], [], ["range", "int"], [], [], []⟩
def m__law_values : Fn := runFd [] [] tT 3 7 c__law_values
def c__law_word : List Cm := [.set 3 (.call 0 [.var 0, .bin .Add (.var 2) (.lit (.int 1)), .lit (.int 997)]),
  .ret (.me .join (.lit (.str [])) [.comp (.nm 4) (.val (.sl (.var 3) (.yes (.lit (.int 1))) (.yes (.bin .Add (.lit (.int 1)) (.bin .Mod (.idx (.var 3) (.lit (.int 0))) (.bin .Add (.var 2) (.lit (.int 1)))))))) [] (.idx (.lit (.str [97, 65, 98, 66, 99, 67])) (.bin .Mod (.var 4) (.bin .Mult (.lit (.int 2)) (.var 1))))])]
def f__law_word : Cf := ⟨["_law_cell_here", "_law_g", "_law_most", "_law_values_here", "_law_value"], [], [], [("_law_values", 3)], [], []⟩
def m__law_word : Fn := runFd [m__law_values] [] tT 3 5 c__law_word
def c__law_inverse : List Cm := [.ret (.me .join (.lit (.str [])) [.comp (.nm 1) (.val (.rev (.var 0))) [] (.idx (.lit (.str [65, 97, 66, 98, 67, 99])) (.me .sindex (.lit (.str [97, 65, 98, 66, 99, 67])) [.var 1]))])]
def f__law_inverse : Cf := ⟨["_law_word_here", "_law_letter"], [], [], [], [], []⟩
def m__law_inverse : Fn := runFd [] [] tT 1 2 c__law_inverse
def c__law_presentation : List Cm := [.set 3 (.call 0 [.var 0, .lit (.int 40), .lit (.int 997)]),
  .set 4 (.list []),
  .for (.nm 5) (.rng1 (.bin .Mod (.var 1) (.lit (.int 5)))) [.set 6 (.sl (.var 3) (.yes (.bin .Add (.bin .Mult (.lit (.int 8)) (.var 5)) (.lit (.int 1)))) (.yes (.bin .Add (.bin .Add (.bin .Mult (.lit (.int 8)) (.var 5)) (.lit (.int 2))) (.bin .Mod (.idx (.var 3) (.bin .Mult (.lit (.int 8)) (.var 5))) (.lit (.int 6)))))), .app 4 (.me .join (.lit (.str [])) [.comp (.nm 7) (.val (.var 6)) [] (.idx (.lit (.str [97, 65, 98, 66, 99, 67])) (.bin .Mod (.var 7) (.bin .Mult (.lit (.int 2)) (.var 2))))])] [],
  .ret (.tup [.var 2, .bi .tuple [.var 4]])]
def f__law_presentation : Cf := ⟨["_law_cell_here", "_law_second", "_law_g", "_law_values_here", "_law_relators", "_law_k", "_law_letters", "_law_value"], [], ["range", "tuple"], [("_law_values", 3)], [], []⟩
def m__law_presentation : Fn := runFd [m__law_values] [] tT 3 8 c__law_presentation
def c__law_moved : List Cm := [.set 4 (.call 0 [.var 3, .lit (.int 19), .lit (.int 997)]),
  .for (.nm 5) (.rng1 (.bin .Mod (.idx (.var 4) (.lit (.int 0))) (.lit (.int 7)))) [.set 6 (.bin .Mod (.idx (.var 4) (.bin .Add (.bin .Mult (.lit (.int 3)) (.var 5)) (.lit (.int 1)))) (.lit (.int 4))), .set 7 (.bin .Mod (.idx (.var 4) (.bin .Add (.bin .Mult (.lit (.int 3)) (.var 5)) (.lit (.int 2)))) (.bin .Add (.bi .len [.var 0]) (.lit (.int 1)))), .set 8 (.idx (.lit (.str [97, 65, 98, 66, 99, 67])) (.bin .Mod (.idx (.var 4) (.bin .Add (.bin .Mult (.lit (.int 3)) (.var 5)) (.lit (.int 3)))) (.bin .Mult (.lit (.int 2)) (.var 2)))), .set 9 (.bin .Add (.var 8) (.call 1 [.var 8])), .ifs (.and (.cmp .Gt (.var 6) (.lit (.int 0))) (.cmp .Gt (.bi .len [.idx (.var 1) (.lit (.int 1))]) (.lit (.int 0)))) [.set 9 (.idx (.idx (.var 1) (.lit (.int 1))) (.bin .Mod (.idx (.var 4) (.bin .Add (.bin .Mult (.lit (.int 3)) (.var 5)) (.lit (.int 3)))) (.bi .len [.idx (.var 1) (.lit (.int 1))]))), .ifs (.cmp .Eq (.var 6) (.lit (.int 1))) [.set 9 (.call 1 [.var 9])] []] [], .ifs (.cmp .LtE (.bin .Add (.bi .len [.var 0]) (.bi .len [.var 9])) (.lit (.int 56))) [.set 0 (.bin .Add (.bin .Add (.sl (.var 0) (.no) (.yes (.var 7))) (.var 9)) (.sl (.var 0) (.yes (.var 7)) (.no)))] []] [],
  .retv 0]
def f__law_moved : Cf := ⟨["_law_word_here", "_law_presentation_here", "_law_g", "_law_cell_here", "_law_values_here", "_law_k", "_law_kind", "_law_at", "_law_letter", "_law_piece"], [], ["range", "len"], [("_law_values", 3), ("_law_inverse", 1)], [], []⟩
def m__law_moved : Fn := runFd [m__law_values, m__law_inverse] [] tT 4 10 c__law_moved
def c__law_sums : List Cm := [.ret (.comp (.nm 2) (.rng1 (.var 0)) [] (.bin .Sub (.me .count (.var 1) [.idx (.lit (.str [97, 98, 99])) (.var 2)]) (.me .count (.var 1) [.idx (.lit (.str [97, 65, 98, 66, 99, 67])) (.bin .Add (.bin .Mult (.lit (.int 2)) (.var 2)) (.lit (.int 1)))])))]
def f__law_sums : Cf := ⟨["_law_g", "_law_word_here", "_law_k"], [], ["range"], [], [], []⟩
def m__law_sums : Fn := runFd [] [] tT 2 3 c__law_sums
def c__law_told : List Cm := [.try none [.ret (.call 0 [.var 0, .var 1])] [("NotPresentation", [.ret (.lit (.str [112, 114, 101, 115, 101, 110, 116, 97, 116, 105, 111, 110]))]), ("NotWeights", [.ret (.lit (.str [119, 101, 105, 103, 104, 116, 115]))])]]
def f__law_told : Cf := ⟨["_law_presentation_here", "_law_weights"], [], [], [("fits", 2)], [], []⟩
def m__law_told : Fn := runFd [m_fits] [] tT 2 2 c__law_told
def c__law_holds : List Cm := [.for (.nm 2) (.val (.idx (.var 0) (.lit (.int 1)))) [.set 3 (.call 0 [.idx (.var 0) (.lit (.int 0)), .var 2]), .set 4 (.bi .sum [.comp (.nm 5) (.rng1 (.idx (.var 0) (.lit (.int 0)))) [] (.bin .Mult (.idx (.idx (.var 1) (.lit (.int 1))) (.var 5)) (.idx (.var 3) (.var 5)))]), .ifs (.or (.and (.cmp .Eq (.idx (.var 1) (.lit (.int 0))) (.lit (.int 0))) (.cmp .NotEq (.var 4) (.lit (.int 0)))) (.and (.cmp .Gt (.idx (.var 1) (.lit (.int 0))) (.lit (.int 0))) (.cmp .NotEq (.bin .Mod (.bi .int [.var 4]) (.idx (.var 1) (.lit (.int 0)))) (.lit (.int 0))))) [.ret (.lit (.bl false))] []] [],
  .ret (.lit (.bl true))]
def f__law_holds : Cf := ⟨["_law_presentation_here", "_law_weights", "_law_relator", "_law_sums_here", "_law_total", "_law_k"], [], ["sum", "range", "int"], [("_law_sums", 2)], [], []⟩
def m__law_holds : Fn := runFd [m__law_sums] [] tT 2 6 c__law_holds
def c_law : List Cm := [.set 1 (.bin .Add (.lit (.int 1)) (.bin .Mod (.call 0 [.var 0, .lit (.int 0)]) (.lit (.int 3)))),
  .set 2 (.call 1 [.call 0 [.var 0, .lit (.int 1)], .call 0 [.var 0, .lit (.int 2)], .var 1]),
  .set 3 (.bin .Mod (.call 0 [.var 0, .lit (.int 3)]) (.lit (.int 7))),
  .ifs (.cmp .Eq (.var 3) (.lit (.int 1))) [.set 3 (.lit (.int 7))] [],
  .set 4 (.bi .tuple [.comp (.nm 5) (.val (.call 2 [.call 0 [.var 0, .lit (.int 4)], .var 1, .lit (.int 7)])) [] (.bin .Sub (.var 5) (.lit (.int 3)))]),
  .ifs (.cmp .Eq (.bin .Mod (.bin .FloorDiv (.call 0 [.var 0, .lit (.int 3)]) (.lit (.int 7))) (.lit (.int 3))) (.lit (.int 0))) [.set 4 (.bi .tuple [.comp (.nm 6) (.val (.var 4)) [] (.bin .Sub (.lit (.int 0)) (.bin .Mult (.var 6) (.bi .int [.cmp .Gt (.var 6) (.lit (.int 1))])))])] [],
  .set 7 (.tup [.var 3, .var 4]),
  .set 8 (.call 3 [.var 2, .var 7]),
  .ifs (.cmp .NotEq (.bi .repr [.call 4 [.var 2, .var 7]]) (.bi .repr [.var 8])) [.ret (.lit (.bl false))] [],
  .set 9 (.call 5 [.call 0 [.var 0, .lit (.int 5)], .var 1, .lit (.int 8)]),
  .set 10 (.call 6 [.var 9, .var 2, .var 1, .call 0 [.var 0, .lit (.int 6)]]),
  .ifs (.and (.val (.var 8)) (.cmp .NotEq (.call 7 [.var 7, .var 9]) (.call 7 [.var 7, .var 10]))) [.ret (.lit (.bl false))] [],
  .set 11 (.idx (.list [.tup [.lit (.int 1), .var 4], .tup [.lit (.int 0), .bin .Add (.var 4) (.tup [.lit (.int 1)])], .tup [.lit (.int 2), .sl (.var 4) (.yes (.lit (.int 1))) (.no)], .tup [.un .USub (.lit (.int 3)), .var 4]]) (.bin .Mod (.call 0 [.var 0, .lit (.int 7)]) (.lit (.int 4)))),
  .ifs (.or (.cmp .NotEq (.call 4 [.tup [.var 1, .tup [.lit (.str [])]], .var 11]) (.lit (.str [112, 114, 101, 115, 101, 110, 116, 97, 116, 105, 111, 110]))) (.cmp .NotEq (.call 4 [.tup [.lit (.int 0), .tup []], .var 11]) (.lit (.str [112, 114, 101, 115, 101, 110, 116, 97, 116, 105, 111, 110])))) [.ret (.lit (.bl false))] [],
  .ret (.cmp .Eq (.call 4 [.var 2, .var 11]) (.lit (.str [119, 101, 105, 103, 104, 116, 115])))]
def f_law : Cf := ⟨["_law_script", "_law_g", "_law_presentation_here", "_law_modulus", "_law_numbers", "_law_value", "_law_number", "_law_weights", "_law_holds_here", "_law_one", "_law_other", "_law_wrong"], [], ["tuple", "int", "repr"], [("_law_cell", 2), ("_law_presentation", 3), ("_law_values", 3), ("_law_holds", 2), ("_law_told", 2), ("_law_word", 3), ("_law_moved", 4), ("weight_of", 2)], [], []⟩
def m_law : Fn := runFd [m__law_cell, m__law_presentation, m__law_values, m__law_holds, m__law_told, m__law_word, m__law_moved, m_weight_of] [] tT 1 12 c_law
end Q

namespace Q
open PySem PySem.Spec L2 Px
abbrev L6 : List Nat := [97, 65, 98, 66, 99, 67]
def lB (c : Nat) : Bool := decide (c ∈ L6)
theorem is_over6 (t : List Nat) : m__is_over [.str L6, .str t] = .ok (9, .bl (t.all lB)) := by
  unfold m__is_over
  rw [run_of (by rfl)]
  unfold c__is_over
  simp only [runs, run1, evI, ev, env0_of]
  simp only [List.map_cons, List.map_nil, kd_str, Option.getD_some, Nat.reduceSub, List.replicate, List.cons_append, List.nil_append, List.getElem?_cons_succ, List.getElem?_cons_zero, cont_str, items_str, R.bind_ok, liftR_ok, Bool.false_eq_true, if_false]
  refine loopF_rule (fun r => fin (r.seq fun ρ => (Rs.ret 9 (D.bl true)).seq fun ρ => .nx ρ) = .ok (9, .bl (t.all lB))) (fun ds ρ => ∃ (u : List Nat) (x : Option (Nat × D)), ds = u.map (fun c => .str [c]) ∧ ρ = [some (9, .str L6), some (9, .str t), x] ∧ t.all lB = u.all lB) ?_ ?_ _ _ ⟨t, none, rfl, rfl, rfl⟩
  · rintro d ds ρ ⟨u, x, e1, e2, e3⟩
    cases u with
    | nil => cases e1
    | cons c u =>
      simp only [List.map_cons, List.cons.injEq] at e1
      obtain ⟨e1, e4⟩ := e1
      subst e1; subst e4; subst e2
      refine ⟨_, by simp; rfl, ?_⟩
      have hc : inStr [c] L6 = lB c := inStr_one L6 c
      cases h : lB c with
      | true => exact (Stp.nx ⟨u, some (9, .str [c]), rfl, rfl, by rw [e3, List.all_cons, h]; rfl⟩).to (by simp [runs, run1, ev, tst, hc, h])
      | false => exact (Stp.ret (by rw [e3, List.all_cons, h]; rfl)).to (by simp [runs, run1, ev, tst, hc, h])
  · rintro ρ ⟨u, x, e1, e2, e3⟩
    cases u with
    | nil => rw [e3]; rfl
    | cons c u => cases e1
theorem letters3 : m_letters_of [.int 3] = .ok (9, .str L6) := by rfl
theorem is_word3 (t : List Nat) : m_is_word [.int 3, .str t] = .ok (9, .bl (t.all lB)) := by
  unfold m_is_word
  rw [run_of (by rfl)]
  unfold c_is_word
  have h1 : callD m_letters_of [(some 9, .int 3)] = .ok (at9 (.str L6)) := callD_of letters3 rfl (fun _ => rfl)
  have h2 : callD m__is_over [(some 9, .str L6), (some 9, .str t)] = .ok (at9 (.bl (t.all lB))) := callD_of (is_over6 t) rfl (fun _ => rfl)
  simp only [runs, run1, evs, ev, env0_of]
  simp [h1, h2]
theorem check_word3 (t : List Nat) (hl : t.length ≤ line) : m_check_word [.int 3, .str t] = if (t.all lB && decide (t.length ≤ 60)) = true then .ok (9, .non) else .exc "NotWord" [] := by
  unfold m_check_word
  rw [run_of (by rfl)]
  unfold c_check_word
  have h1 : callD m_is_word [(some 9, .int 3), (some 9, .str t)] = .ok (at9 (.bl (t.all lB))) := callD_of (is_word3 t) rfl (fun _ => rfl)
  simp only [runs, run1, evs, ev, tst, env0_of]
  cases ht : t.all lB with
  | false => simp [h1, ht]
  | true =>
    by_cases h : t.length ≤ 60
    · have : ¬ (60 < (t.length : Int)) := by omega
      simp [h1, ht, hl, h, this]
    · have : (60 < (t.length : Int)) := by omega
      simp [h1, ht, hl, h, this]
/-! join of single characters -/
abbrev chs (s : List Nat) : List D := s.map fun c => .str [c]
theorem strsOf_chs : ∀ s : List Nat, strsOf (chs s) = some (s.map fun c => [c])
  | [] => rfl
  | c :: s => by
    show (strsOf (chs s)).map ([c] :: ·) = _
    rw [strsOf_chs s]; rfl
theorem joinL_chs : ∀ s : List Nat, joinL [] (s.map fun c => [c]) = s
  | [] => rfl
  | [c] => rfl
  | c :: d :: s => by
    show [c] ++ [] ++ joinL [] ((d :: s).map fun c => [c]) = _
    rw [joinL_chs (d :: s)]; rfl
theorem sum_chs : ∀ s : List Nat, ((s.map fun c => [c]).map (·.length)).sum = s.length
  | [] => rfl
  | c :: s => by
    simp only [List.map_cons, List.sum_cons, List.length_cons, sum_chs s]
    simp; omega
theorem join_chs (s : List Nat) (k : Option Nat) (h : s.length ≤ line) : meD .join (some 9, .str []) [(k, .lst (chs s))] = .ok (at9 (.str s)) := by
  unfold meD
  simp only [strsOf_chs, sum_chs, joinL_chs, List.length_nil, Nat.mul_zero, Nat.add_zero, h, if_true]
theorem listV_chs (s : List Nat) (h : s.length ≤ line) : ∃ k, listV (s.map fun c => ((9 : Nat), D.str [c])) = .ok (some k, .lst (chs s)) := by
  unfold listV
  rw [if_pos (by simpa using h)]
  refine ⟨dmin ((s.map fun c => ((9 : Nat), D.str [c])).map (·.1)) + 1, ?_⟩
  simp [newL, chs, Function.comp_def]
theorem rev_s (k : Option Nat) (s : List Nat) (h : s.length ≤ line) : revD (k, .str s) = .ok (at9 (.str s.reverse)) := by
  show (if s.length ≤ line then R.ok (at9 (.str s.reverse)) else .stuck) = _
  rw [if_pos h]
theorem noExc_ok' {α : Type} (a : α) : noExc (R.ok a) = .ok a := rfl
end Q

namespace Q
open PySem PySem.Spec L2 Px
def iv : Nat → Nat
  | 97 => 65 | 65 => 97 | 98 => 66 | 66 => 98 | 99 => 67 | 67 => 99 | c => c
theorem l6 {c : Nat} (h : lB c = true) : c = 97 ∨ c = 65 ∨ c = 98 ∨ c = 66 ∨ c = 99 ∨ c = 67 := by simpa [lB] using h
def rk : Nat → Int
  | 97 => 0 | 65 => 1 | 98 => 2 | 66 => 3 | 99 => 4 | 67 => 5 | _ => 0
theorem rank_ok {c : Nat} (h : lB c = true) : m_rank_of [.str [c]] = .ok (9, .int (rk c)) := by
  unfold m_rank_of
  rw [run_of (by rfl)]
  unfold c_rank_of
  have hi : inStr [c] [97, 65, 98, 66, 99, 67] = true := by rw [inStr_one]; exact h
  have hm : meD .sindex (some 9, .str [97, 65, 98, 66, 99, 67]) [(some 9, .str [c])] = .ok (at9 (.int (rk c))) := by
    rcases l6 h with e | e | e | e | e | e <;> subst e <;> rfl
  simp only [runs, run1, evs, ev, tst, env0_of]
  simp [hi, hm, meOk, line]
theorem iv_in {c : Nat} (h : lB c = true) : lB (iv c) = true := by
  rcases l6 h with e | e | e | e | e | e <;> subst e <;> decide
theorem iv_iv {c : Nat} (h : lB c = true) : iv (iv c) = c := by
  rcases l6 h with e | e | e | e | e | e <;> subst e <;> rfl
theorem iv_ne {c : Nat} (h : lB c = true) : iv c ≠ c := by
  rcases l6 h with e | e | e | e | e | e <;> subst e <;> decide
end Q

namespace Q
open PySem PySem.Spec L2 Px
def stp (st : List Nat) (c : Nat) : List Nat := match st.getLast? with
  | some x => if x = iv c then st.dropLast else st ++ [c]
  | none => [c]
def red (t : List Nat) : List Nat := t.foldl stp []
theorem stp_nil (c : Nat) : stp [] c = [c] := rfl
theorem stp_snoc (s : List Nat) (x c : Nat) : stp (s ++ [x]) c = if x = iv c then s else s ++ [x] ++ [c] := by
  unfold stp; simp
end Q

namespace Q
open PySem PySem.Spec L2 Px
/-! free reduction -/
def Rd (l : List Nat) : Prop := ∀ a x y b, l = a ++ [x, y] ++ b → x ≠ iv y
theorem rd_nil : Rd [] := fun a x y b e => by simp at e
theorem rd_init {s : List Nat} {x : Nat} (h : Rd (s ++ [x])) : Rd s := fun a y z b e => h a y z (b ++ [x]) (by rw [e]; simp)
theorem rd_snoc {s : List Nat} {x c : Nat} (h : Rd (s ++ [x])) (hx : x ≠ iv c) : Rd (s ++ [x] ++ [c]) := fun a y z b e => by
  rcases List.eq_nil_or_concat b with eb | ⟨b', w, eb⟩
  · subst eb
    have e : (s ++ [x]) ++ [c] = (a ++ [y]) ++ [z] := by rw [e]; simp
    obtain ⟨e1, e2⟩ := List.append_inj' e rfl
    obtain ⟨_, e3⟩ := List.append_inj' e1 rfl
    cases e2; cases e3
    exact hx
  · rw [List.concat_eq_append] at eb
    subst eb
    have e : (s ++ [x]) ++ [c] = (a ++ [y, z] ++ b') ++ [w] := by rw [e]; simp
    obtain ⟨e1, _⟩ := List.append_inj' e rfl
    exact h a y z b' e1
theorem rd_one (c : Nat) : Rd [c] := fun a x y b e => by
  have := congrArg List.length e
  simp at this
  omega
theorem rd_stp {st : List Nat} (h : Rd st) (c : Nat) : Rd (stp st c) := by
  rcases List.eq_nil_or_concat st with e | ⟨s, x, e⟩
  · subst e; exact rd_one c
  · rw [List.concat_eq_append] at e
    subst e
    rw [stp_snoc]
    split
    · exact rd_init h
    · rename_i hx; exact rd_snoc h hx
theorem rd_fold : ∀ {t st : List Nat}, Rd st → Rd (t.foldl stp st)
  | [], _, h => h
  | c :: t, _, h => rd_fold (t := t) (rd_stp h c)
theorem rd_red (t : List Nat) : Rd (red t) := rd_fold rd_nil
theorem stp_back {st : List Nat} (h : Rd st) {c : Nat} (hc : lB c = true) : stp (stp st c) (iv c) = st := by
  rcases List.eq_nil_or_concat st with e | ⟨s, x, e⟩
  · subst e
    rw [stp_nil]
    have := stp_snoc [] c (iv c)
    rw [List.nil_append] at this
    rw [this, if_pos (iv_iv hc).symm]
  · rw [List.concat_eq_append] at e
    subst e
    rw [stp_snoc]
    split
    · rename_i hx
      rcases List.eq_nil_or_concat s with e | ⟨s', y, e⟩
      · subst e; rw [stp_nil, hx]; rfl
      · rw [List.concat_eq_append] at e
        subst e
        have hy : y ≠ iv x := h s' y x [] (by simp)
        rw [stp_snoc, if_neg (by rw [← hx]; exact hy), hx]
    · rw [stp_snoc, if_pos (iv_iv hc).symm]
theorem cut_mid {st : List Nat} (h : Rd st) {c : Nat} (hc : lB c = true) (u v : List Nat) : (u ++ [c, iv c] ++ v).foldl stp st = (u ++ v).foldl stp st := by
  rw [List.foldl_append, List.foldl_append, List.foldl_append]
  have := stp_back (rd_fold (t := u) h) hc
  show v.foldl stp (stp (stp (u.foldl stp st) c) (iv c)) = _
  rw [this]
theorem fold_rd : ∀ {t st : List Nat}, Rd (st ++ t) → t.foldl stp st = st ++ t
  | [], st, _ => by simp
  | c :: t, st, h => by
    have e : stp st c = st ++ [c] := by
      rcases List.eq_nil_or_concat st with e | ⟨s, x, e⟩
      · subst e; rfl
      · rw [List.concat_eq_append] at e
        subst e
        rw [stp_snoc, if_neg (h s x c t (by simp))]
    show t.foldl stp (stp st c) = _
    rw [e, fold_rd (t := t) (st := st ++ [c]) (by simpa using h)]
    simp
theorem red_id {t : List Nat} (h : Rd t) : red t = t := by
  have := fold_rd (t := t) (st := []) (by simpa using h)
  simpa [red] using this
theorem red_red (t : List Nat) : red (red t) = red t := red_id (rd_red t)
abbrev inv (t : List Nat) : List Nat := t.reverse.map iv
theorem inv_all {t : List Nat} (h : t.all lB = true) : (inv t).all lB = true := by
  rw [List.all_eq_true] at h ⊢
  intro c hc
  obtain ⟨d, hd, e⟩ := List.mem_map.mp hc
  subst e
  exact iv_in (h d (by simpa using hd))
theorem inv_inv {t : List Nat} (h : t.all lB = true) : inv (inv t) = t := by
  unfold inv
  rw [← List.map_reverse, List.reverse_reverse, List.map_map]
  rw [List.all_eq_true] at h
  conv => rhs; rw [← List.map_id t]
  exact List.map_congr_left fun c hc => iv_iv (h c hc)
theorem red_inv {t : List Nat} (h : t.all lB = true) : red (t ++ inv t) = [] := by
  have go : ∀ (n : Nat) (t : List Nat), t.length = n → t.all lB = true → red (t ++ inv t) = [] := by
    intro n
    induction n with
    | zero => intro t hl _; rw [List.eq_nil_of_length_eq_zero hl]; rfl
    | succ n ih =>
      intro t hl h
      rcases List.eq_nil_or_concat t with e | ⟨s, x, e⟩
      · subst e; rfl
      · rw [List.concat_eq_append] at e
        subst e
        simp only [List.all_append, Bool.and_eq_true, List.all_cons, List.all_nil, Bool.and_true] at h
        have e : (s ++ [x]) ++ inv (s ++ [x]) = s ++ [x, iv x] ++ inv s := by unfold inv; simp
        rw [e]
        have := cut_mid rd_nil h.2 s (inv s)
        unfold red
        rw [this]
        exact ih s (by simpa using hl) h.1
  exact go t.length t rfl h
theorem red_all {t : List Nat} (h : t.all lB = true) : (red t).all lB = true := by
  have go : ∀ (u st : List Nat), u.all lB = true → st.all lB = true → (u.foldl stp st).all lB = true := by
    intro u
    induction u with
    | nil => intro st _ h; exact h
    | cons c u ih =>
      intro st hu hs
      simp only [List.all_cons, Bool.and_eq_true] at hu
      refine ih _ hu.2 ?_
      rcases List.eq_nil_or_concat st with e | ⟨s, x, e⟩
      · subst e; rw [stp_nil]; simp [hu.1]
      · rw [List.concat_eq_append] at e
        subst e
        rw [stp_snoc]
        simp only [List.all_append, Bool.and_eq_true] at hs
        split
        · exact hs.1
        · simp only [List.all_append, Bool.and_eq_true]; exact ⟨hs, by simp [hu.1]⟩
  exact go t [] h rfl
theorem red_len (t : List Nat) : (red t).length ≤ t.length := by
  have : ∀ (u st : List Nat), (u.foldl stp st).length ≤ st.length + u.length := by
    intro u
    induction u with
    | nil => intro st; simp
    | cons c u ih =>
      intro st
      refine Nat.le_trans (ih _) ?_
      have : (stp st c).length ≤ st.length + 1 := by
        rcases List.eq_nil_or_concat st with e | ⟨s, x, e⟩
        · subst e; simp [stp_nil]
        · rw [List.concat_eq_append] at e
          subst e
          rw [stp_snoc]
          split <;> simp
          omega
      simp only [List.length_cons]; omega
  exact Nat.le_trans (this t []) (by simp)
end Q

namespace Q
open PySem PySem.Spec L2 Px
abbrev iL (ns : List Int) : List D := ns.map D.int
theorem cell_ok (ns : List Int) (k : Nat) : ∃ c, m__law_cell [.lst (iL ns), .int (k : Int)] = .ok (9, .int c) := by
  unfold m__law_cell
  rw [run_of (by rfl)]
  unfold c__law_cell
  simp only [runs, run1, evs, ev, tst, env0_of]
  by_cases h : k < ns.length
  · have h1 : idxD (some 0, .lst (iL ns)) (some 9, .int (k : Int)) = .ok (at9 (.int (ns.getD k 0))) := by
      show (match atI (iL ns) (k : Int) with | some d => _ | none => _) = _
      rw [atI_nat (j := k) (v := .int (ns.getD k 0)) (by simp [iL, List.getElem?_map, h])]
      rfl
    exact ⟨ns.getD k 0, by simp [h, h1]⟩
  · exact ⟨0, by simp [h]⟩
/-- numbers that are drawn -/
def Drw (n : Nat) (z : Int) (vs : List Int) : Prop := vs.length = n ∧ ∀ v ∈ vs, 0 ≤ v ∧ v < z
theorem setR_of {i k : Nat} {d : D} {ρ : Px.Env} (h : i < ρ.length) : setR i k d ρ = .nx (ρ.set i (some (k, d))) := by unfold setR; rw [if_pos h]
def vB : List Cm := [.ifs (.cmp .GtE (.var 4) (.bin .Pow (.lit (.int 10)) (.lit (.int 12)))) [.app 3 (.bin .Mod (.bi .int [.var 4]) (.var 2)), .set 4 (.bin .FloorDiv (.var 4) (.var 2))] [.set 6 (.bin .Mod (.bin .Add (.bin .Add (.bin .Mult (.bin .Mod (.bi .int [.var 0]) (.lit (.int 2147483647))) (.lit (.int 48271))) (.bin .Mult (.var 5) (.lit (.int 69621)))) (.lit (.int 7))) (.lit (.int 2147483647))), .app 3 (.bin .Mod (.bin .Mod (.bin .Mult (.var 6) (.lit (.int 16807))) (.lit (.int 2147483647))) (.var 2))]]
theorem values_step (c n z rest i : Int) (vs : List Int) (c' : Option (Nat × D)) (hz : 0 < z) (hz2 : z < 1000000) (hl : vs.length < line) :
    ∃ v r2 c2, 0 ≤ v ∧ v < z ∧ runs [] [] tT vB [some (9, .int c), some (9, .int n), some (9, .int z), some (9, .lst (iL vs)), some (9, .int rest), some (9, .int i), c'] = .nx [some (9, .int c), some (9, .int n), some (9, .int z), some (9, .lst (iL (vs ++ [v]))), some (9, .int r2), some (9, .int i), c2] := by
  have hz0 : z ≠ 0 := by omega
  have hz3 : z.natAbs < 1073741824 := by omega
  have m1 : ∀ a : Int, mulOk a 48271 = true := fun a => by simp [mulOk]
  have m2 : ∀ a : Int, mulOk a 69621 = true := fun a => by simp [mulOk]
  have m3 : ∀ a : Int, mulOk a 16807 = true := fun a => by simp [mulOk]
  have hp : binD .Pow (at9 (.int 10)) (at9 (.int 12)) = .ok (at9 (.int 1000000000000)) := by rfl
  have fm : ∀ a : Int, 0 ≤ a.fmod z ∧ a.fmod z < z := fun a => ⟨Int.fmod_nonneg_of_pos a hz, Int.fmod_lt_of_pos a hz⟩
  have ea : ∀ v : Int, iL (vs ++ [v]) = iL vs ++ [.int v] := fun v => by simp [iL]
  have hl' : (iL vs).length < line := by simpa [iL] using hl
  by_cases hr : 1000000000000 ≤ rest
  · refine ⟨rest.fmod z, rest.fdiv z, c', (fm rest).1, (fm rest).2, ?_⟩
    rw [ea]
    simp [vB, runs, run1, ev, evs, tst, hp, hr, lstAt, setR, hl, hz0, hz3]
  · refine ⟨((((c.fmod 2147483647 * 48271 + i * 69621 + 7).fmod 2147483647) * 16807).fmod 2147483647).fmod z, rest, some (9, .int ((c.fmod 2147483647 * 48271 + i * 69621 + 7).fmod 2147483647)), (fm _).1, (fm _).2, ?_⟩
    rw [ea]
    simp [vB, runs, run1, ev, evs, tst, hp, hr, lstAt, setR, hl, hz0, hz3, m1, m2, m3]
theorem values_ok (c : Int) (n : Nat) (z : Int) (hz : 0 < z) (hz2 : z < 1000000) (hn : n ≤ 1000) : ∃ vs, Drw n z vs ∧ m__law_values [.int c, .int (n : Int), .int z] = .ok (9, .lst (iL vs)) := by
  have hb : inBig (n : Int) = true := by unfold inBig big; simp; omega
  have e0 : env0 3 7 [.int c, .int (n : Int), .int z] = [some (9, .int c), some (9, .int (n : Int)), some (9, .int z), none, none, none, none] := rfl
  have e1 : runs [] [] tT c__law_values (env0 3 7 [.int c, .int (n : Int), .int z]) = (loopF (.nm 5) (runs [] [] tT vB) (runs [] [] tT []) (rng1 0 (n : Int)) [some (9, .int c), some (9, .int (n : Int)), some (9, .int z), some (9, .lst (iL [])), some (9, .int c), none, none]).seq (runs [] [] tT [.retv 3]) := by
    rw [e0]
    unfold c__law_values
    rw [runs_cons, run1_set, show ev [] [] (.list []) _ = R.ok (some 9, D.lst []) from rfl, liftR_ok, needV_some, liftR_ok, setR_of (by simp), seq_nx]
    rw [runs_cons, run1_set, show ev [] [] (.var 0) _ = R.ok (some 9, D.int c) from rfl, liftR_ok, needV_some, liftR_ok, setR_of (by simp), seq_nx]
    rw [runs_cons, run1_for, evI_rng1 (n := (n : Int)) (k := some 9) _ _ _ (by rfl) hb, liftR_ok]
    rfl
  have key : ∃ vs, Drw n z vs ∧ ∃ a b c', loopF (.nm 5) (runs [] [] tT vB) (runs [] [] tT []) (rng1 0 (n : Int)) [some (9, .int c), some (9, .int (n : Int)), some (9, .int z), some (9, .lst (iL [])), some (9, .int c), none, none] = .nx [some (9, .int c), some (9, .int (n : Int)), some (9, .int z), some (9, .lst (iL vs)), a, b, c'] := by
    refine loopF_rule (fun r => ∃ vs, Drw n z vs ∧ ∃ a b c', r = .nx [some (9, .int c), some (9, .int (n : Int)), some (9, .int z), some (9, .lst (iL vs)), a, b, c']) (fun ds ρ => ∃ (vs : List Int) (rest : Int) (b c' : Option (Nat × D)), (∀ v ∈ vs, 0 ≤ v ∧ v < z) ∧ vs.length + ds.length = n ∧ (∀ d ∈ ds, ∃ i : Int, d = .int i) ∧ ρ = [some (9, .int c), some (9, .int (n : Int)), some (9, .int z), some (9, .lst (iL vs)), some (9, .int rest), b, c']) ?_ ?_ _ _ ⟨[], c, none, none, by simp, by rw [rng1_len]; simp, fun d hd => let ⟨i, e, _⟩ := rng1_int hd; ⟨_, e⟩, rfl⟩
    · rintro d ds ρ ⟨vs, rest, b, c', h1, h2, h3, h4⟩
      obtain ⟨i, ei⟩ := h3 d (by simp)
      subst ei; subst h4
      have hl : vs.length < line := by simp at h2; unfold line; omega
      obtain ⟨v, r2, c2, v1, v2, hv⟩ := values_step c n z rest i vs c' hz hz2 hl
      refine ⟨_, by rw [bind_nm, if_pos (by simp)], ?_⟩
      refine (Stp.nx ⟨vs ++ [v], r2, some (9, .int i), c2, ?_, by simp at h2 ⊢; omega, fun d m => h3 d (by simp [m]), rfl⟩).to hv
      intro u hu
      rcases List.mem_append.mp hu with hu | hu
      · exact h1 u hu
      · rw [List.mem_singleton.mp hu]; exact ⟨v1, v2⟩
    · rintro ρ ⟨vs, rest, b, c', h1, h2, h3, h4⟩
      subst h4
      rw [runs_nil]
      exact ⟨vs, ⟨by simpa using h2, h1⟩, some (9, .int rest), b, c', rfl⟩
  obtain ⟨vs, hd, a, b, c', e⟩ := key
  refine ⟨vs, hd, ?_⟩
  unfold m__law_values
  rw [run_of (by rfl), e1, e, seq_nx, runs_cons, run1_retv (k := 9) (d := .lst (iL vs)) (by rfl)]
  rfl
end Q

namespace Q
open PySem PySem.Spec L2 Px TL
section
variable {F : List Fn} {C : List D} {ρ : Px.Env}
theorem dmin9 {α : Type} (f : α → D) : ∀ xs : List α, dmin ((xs.map fun x => ((9 : Nat), f x)).map (·.1)) = 8
  | [] => rfl
  | x :: xs => by show min 9 (dmin ((xs.map fun x => ((9 : Nat), f x)).map (·.1))) = 8; rw [dmin9 f xs]; rfl
theorem listV9 {α : Type} (f : α → D) (xs : List α) (h : xs.length ≤ line) : listV (xs.map fun x => ((9 : Nat), f x)) = .ok (some 9, .lst (xs.map f)) := by
  unfold listV
  rw [if_pos (by simpa using h), dmin9]
  unfold newL
  rw [List.map_map]; rfl
/-- a comprehension over one name -/
theorem ev_comp9 {i : Nat} {it : Ix} {e : Ex} {xs : List D} {f : D → D} (hit : evI F C true it ρ = .ok xs) (hi : i < ρ.length) (hl : xs.length ≤ line) (hx : ∀ d ∈ xs, ev F C e (ρ.set i (some ((kd 0 d).1.getD 0, d))) = .ok (at9 (f d))) :
    ev F C (.comp (.nm i) it [] e) ρ = .ok (some 9, .lst (xs.map f)) := by
  rw [ev, hit, R.bind_ok, compR_map (g := fun d => (9, f d)) (fun d hd => ?_)]
  · rw [noExc_ok', R.bind_ok, listV9 f xs hl]
  · have h1 : wipeE ρ (Pat.nm i).slots = ρ.set i none := rfl
    rw [h1, bind_nm, if_pos (by simpa using hi), R.bind_ok]
    rw [List.set_set, hx d hd]
    simp [tsts]
theorem blsOf_map {α : Type} (p : α → Bool) : ∀ xs : List α, blsOf (xs.map fun x => D.bl (p x)) = some (xs.map p)
  | [] => rfl
  | x :: xs => by
    show (blsOf (xs.map fun x => D.bl (p x))).map (p x :: ·) = _
    rw [blsOf_map p xs]; rfl
theorem all_bls {α : Type} (k : Option Nat) (p : α → Bool) (xs : List α) : biD .all [(k, .lst (xs.map fun x => D.bl (p x)))] = .ok (at9 (.bl (xs.all p))) := by
  show (match blsOf (xs.map fun x => D.bl (p x)) with | some bs => R.ok (at9 (.bl (bs.all id))) | none => .stuck) = _
  rw [blsOf_map]
  simp [List.all_map]
/-- all([.. for c in text]) -/
theorem ev_all {i : Nat} {it : Ix} {e : Ex} {t : List Nat} {p : Nat → Bool} (hit : evI F C true it ρ = .ok (t.map fun c => D.str [c])) (hi : i < ρ.length) (hl : t.length ≤ line) (hx : ∀ c ∈ t, ev F C e (ρ.set i (some (9, .str [c]))) = .ok (at9 (.bl (p c)))) :
    ev F C (.bi .all [.comp (.nm i) it [] e]) ρ = .ok (at9 (.bl (t.all p))) := by
  have h1 := ev_comp9 (f := fun d => match d with | .str [c] => .bl (p c) | d => d) hit hi (by simpa using hl) (fun d hd => by
    obtain ⟨c, hc, e⟩ := List.mem_map.mp hd
    subst e
    exact hx c hc)
  rw [List.map_map] at h1
  rw [ev, evs, h1, R.bind_ok, evs, R.bind_ok]
  exact all_bls (some 9) p t
end
/-! a text is cut -/
def sps (t : List Nat) : List (List Nat) := spl [32] 0 [] t
theorem spl_facts (S : List Nat) : ∀ (l : List Nat) (k : Nat) (acc : List Nat), (spl S k acc l).length ≤ l.length + 1 ∧ ∀ w ∈ spl S k acc l, w.length ≤ acc.length + l.length ∧ ∀ c ∈ w, c ∈ acc ∨ c ∈ l
  | [], k, acc => by
    rw [spl_nil]
    exact ⟨by simp, fun w hw => by rw [List.mem_singleton.mp hw]; exact ⟨by simp, fun c hc => .inl hc⟩⟩
  | c :: r, 0, acc => by
    by_cases h : pre S (c :: r) = true
    · rw [spl_hit h]
      obtain ⟨a, b⟩ := spl_facts S r (S.length - 1) []
      refine ⟨by simp only [List.length_cons]; omega, fun w hw => ?_⟩
      rcases List.mem_cons.mp hw with e | hw
      · rw [e]; exact ⟨by simp, fun c hc => .inl hc⟩
      · obtain ⟨h1, h2⟩ := b w hw
        refine ⟨by simp only [List.length_cons, List.length_nil] at *; omega, fun c hc => ?_⟩
        rcases h2 c hc with z | z
        · cases z
        · exact .inr (by simp [z])
    · rw [spl_miss (by simpa using h)]
      obtain ⟨a, b⟩ := spl_facts S r 0 (acc ++ [c])
      refine ⟨by simp only [List.length_cons]; omega, fun w hw => ?_⟩
      obtain ⟨h1, h2⟩ := b w hw
      refine ⟨by simp only [List.length_cons, List.length_nil, List.length_append] at *; omega, fun d hd => ?_⟩
      rcases h2 d hd with z | z
      · rcases List.mem_append.mp z with z | z
        · exact .inl z
        · exact .inr (by rw [List.mem_singleton.mp z]; simp)
      · exact .inr (by simp [z])
  | c :: r, k + 1, acc => by
    show (spl S k acc r).length ≤ _ ∧ _
    obtain ⟨a, b⟩ := spl_facts S r k acc
    refine ⟨by simp only [List.length_cons]; omega, fun w hw => ?_⟩
    obtain ⟨h1, h2⟩ := b w hw
    exact ⟨by simp only [List.length_cons]; omega, fun d hd => (h2 d hd).imp id fun z => by simp [z]⟩
theorem splS_32 (t : List Nat) : splS t [32] = (sps t).map D.str := by
  unfold splS sps
  have e := split_spl (mkS t) (mkS [32]) (by decide) (kind_ok (by decide +kernel))
  have e2 : tl (mkS [32]) = [32] := rfl
  have e3 : tl (mkS t) = t := by simp [tl, mkS]
  rw [e2, e3] at e
  rw [← e, List.map_map]; rfl
theorem sps_pl {n : Nat} {t : List Nat} (h : Pl n t) : (sps t).length ≤ n + 1 ∧ ∀ w ∈ sps t, Pl n w := by
  obtain ⟨a, b⟩ := spl_facts [32] t 0 []
  have h1 := h.1
  refine ⟨by unfold sps; omega, fun w hw => ⟨?_, fun c hc => ?_⟩⟩
  · have := (b w hw).1; simp at this; omega
  · rcases (b w hw).2 c hc with z | z
    · cases z
    · exact h.2 c z
end Q

namespace Q
open PySem PySem.Spec L2 Px
theorem sidx {c : Nat} (h : lB c = true) : meD .sindex (some 9, .str [97, 65, 98, 66, 99, 67]) [(some 9, .str [c])] = .ok (at9 (.int (rk c))) := by
  rcases l6 h with e | e | e | e | e | e <;> subst e <;> rfl
theorem aidx {c : Nat} (h : lB c = true) : idxD (some 9, .str [65, 97, 66, 98, 67, 99]) (some 9, .int (rk c)) = .ok (at9 (.str [iv c])) := by
  rcases l6 h with e | e | e | e | e | e <;> subst e <;> rfl
theorem linv_ok (t : List Nat) (hl : t.length ≤ line) (ht : t.all lB = true) : m__law_inverse [.str t] = .ok (9, .str (inv t)) := by
  unfold m__law_inverse
  rw [run_of (by rfl)]
  unfold c__law_inverse
  obtain ⟨k, hk⟩ := listV_chs (t.reverse.map iv) (by simpa using hl)
  simp only [runs, run1, evs, ev, evI, env0_of]
  simp only [List.map_cons, List.map_nil, kd_str, Option.getD_some, Nat.reduceSub, List.replicate, List.cons_append, List.nil_append, List.getElem?_cons_succ, List.getElem?_cons_zero, cont_str, R.bind_ok, liftR_ok, Bool.false_eq_true, if_false, rev_s _ _ hl, items_str]
  rw [compR_map (g := fun d => match d with | .str [c] => (9, .str [iv c]) | _ => (9, d)) (fun d hd => ?_)]
  · rw [List.map_map]
    have e : List.map ((fun d => match d with | D.str [c] => ((9 : Nat), D.str [iv c]) | _ => (9, d)) ∘ fun c => D.str [c]) t.reverse = (t.reverse.map iv).map fun c => ((9 : Nat), D.str [c]) := by
      rw [List.map_map]; rfl
    rw [e, noExc_ok', R.bind_ok, hk]
    simp only [R.bind_ok, meOk, if_true, join_chs (t.reverse.map iv) _ (by simpa using hl), liftR_ok, needV_some, seq_ret, fin_ret]
  · obtain ⟨c, hc, e⟩ := List.mem_map.mp hd
    subst e
    have hc : lB c = true := List.all_eq_true.mp ht c (by simpa using hc)
    simp [Pat.slots, wipeE, tsts, sidx hc, aidx hc, meOk]
end Q

namespace Q
open PySem PySem.Spec L2 Px
theorem lett {k : Int} (h0 : 0 ≤ k) (h1 : k < 6) : ∃ c, lB c = true ∧ idxD (some 9, .str [97, 65, 98, 66, 99, 67]) (some 9, .int k) = .ok (at9 (.str [c])) := by
  have : k = 0 ∨ k = 1 ∨ k = 2 ∨ k = 3 ∨ k = 4 ∨ k = 5 := by omega
  rcases this with e | e | e | e | e | e <;> subst e
  · exact ⟨97, by decide, rfl⟩
  · exact ⟨65, by decide, rfl⟩
  · exact ⟨98, by decide, rfl⟩
  · exact ⟨66, by decide, rfl⟩
  · exact ⟨99, by decide, rfl⟩
  · exact ⟨67, by decide, rfl⟩
theorem comp_chs {f : D → R (Option (Nat × D))} : ∀ {us : List Int}, (∀ u ∈ us, ∃ c, lB c = true ∧ f (.int u) = .ok (some (9, .str [c]))) → ∃ t : List Nat, t.all lB = true ∧ t.length = us.length ∧ compR f (iL us) = .ok (t.map fun c => ((9 : Nat), D.str [c]))
  | [], _ => ⟨[], rfl, rfl, rfl⟩
  | u :: us, h => by
    obtain ⟨c, hc, e⟩ := h u (by simp)
    obtain ⟨t, h1, h2, h3⟩ := comp_chs (us := us) fun v m => h v (by simp [m])
    refine ⟨c :: t, by simp [hc]; simpa using h1, by simp [h2], ?_⟩
    show compR f (.int u :: iL us) = _
    unfold compR
    rw [e, R.bind_ok, h3]; rfl
theorem cutL_map {α β : Type} (f : α → β) (xs : List α) (lo hi : Option Int) : cutL (xs.map f) lo hi = (cutL xs lo hi).map f := by
  unfold cutL; simp [List.map_take, List.map_drop]
theorem cutL_mem {α : Type} {xs : List α} {lo hi : Option Int} {a : α} (h : a ∈ cutL xs lo hi) : a ∈ xs := List.mem_of_mem_drop (List.mem_of_mem_take h)
theorem iL_cont (vs : List Int) : (iL vs).any D.cont = false := by
  induction vs with
  | nil => rfl
  | cons v vs ih => show (false || (iL vs).any D.cont) = false; rw [ih]; rfl
theorem idx_iL (k : Option Nat) {vs : List Int} {j : Nat} {v : Int} (h : vs[j]? = some v) : idxD (k, .lst (iL vs)) (some 9, .int (j : Int)) = .ok (at9 (.int v)) := by
  show (match atI (iL vs) (j : Int) with | some d => _ | none => _) = _
  rw [atI_nat (j := j) (v := .int v) (by simp [iL, List.getElem?_map, h])]
  rfl
theorem sl_iL (k : Option Nat) (vs : List Int) (lo hi : Option Int) : slD (k, .lst (iL vs)) lo hi = .ok (some 9, .lst (iL (cutL vs lo hi))) := by
  show (do let c ← chd k (iL vs); R.ok (newL c (cutL (iL vs) lo hi))) = _
  rw [ch8 (iL_cont vs), R.bind_ok, cutL_map]; rfl
theorem items_iL (k : Nat) (vs : List Int) : itemsD true (some k, .lst (iL vs)) = .ok (iL vs) := by
  show (if ((some k).isNone && !true) = true then R.stuck else do let _ ← chd (some k) (iL vs); R.ok (iL vs)) = _
  rw [ch8 (iL_cont vs)]; rfl
theorem hev1 (f : Fn) (c g most : Int) (L : List D) (h1 : callD f [at9 (.int c), at9 (.int (most + 1)), at9 (.int 997)] = .ok (kd 9 (.lst L))) : ev [f] [] (.call 0 [.var 0, .bin .Add (.var 2) (.lit (.int 1)), .lit (.int 997)]) [some (9, .int c), some (9, .int g), some (9, .int most), none, none] = .ok (some 9, .lst L) := by
  simp only [ev, evs, List.getElem?_cons_succ, List.getElem?_cons_zero, cont_int, Bool.false_eq_true, if_false, R.bind_ok, add_i, h1, kd_lst]
theorem word_ok (c : Int) (g most : Nat) (hg1 : 1 ≤ g) (hg3 : g ≤ 3) (hm : most ≤ 60) : ∃ t : List Nat, t.all lB = true ∧ t.length ≤ most ∧ m__law_word [.int c, .int (g : Int), .int (most : Int)] = .ok (9, .str t) := by
  obtain ⟨vs, ⟨dl, dv⟩, hv⟩ := values_ok c (most + 1) 997 (by omega) (by omega) (by omega)
  rw [show ((most + 1 : Nat) : Int) = (most : Int) + 1 from by omega] at hv
  cases vs with
  | nil => simp at dl
  | cons v0 vr =>
  have h0 := dv v0 (by simp)
  have hm1 : ((most : Int) + 1) ≠ 0 := by omega
  have hfm := Int.fmod_lt_of_pos v0 (b := (most : Int) + 1) (by omega)
  have hfm0 := Int.fmod_nonneg_of_pos v0 (b := (most : Int) + 1) (by omega)
  have h1 : callD m__law_values [at9 (.int c), at9 (.int ((most : Int) + 1)), at9 (.int 997)] = .ok (kd 9 (.lst (iL (v0 :: vr)))) := callD_ok hv (by simp only [List.map_cons, List.map_nil]) (by simp only [List.any_cons, List.any_nil, Option.isNone_some, Bool.or_false])
  generalize hus : cutL (v0 :: vr) (some 1) (some (1 + v0.fmod ((most : Int) + 1))) = us
  have hlen : us.length ≤ most := by
    rw [← hus]
    unfold cutL HT.sIx
    simp only [List.length_take, List.length_drop]
    have e1 : ¬ (1 : Int) < 0 := by decide
    have e2 : ¬ (1 + v0.fmod ((most : Int) + 1)) < 0 := by omega
    rw [if_neg e1, if_neg e2]
    simp only [List.length_cons] at dl ⊢
    omega
  have hmem : ∀ u ∈ us, 0 ≤ u := fun u hu => by rw [← hus] at hu; exact (dv u (cutL_mem hu)).1
  have hg0 : (2 * (g : Int)) ≠ 0 := by omega
  have hmul : mulOk 2 (g : Int) = true := by simp [mulOk]
  obtain ⟨t, t1, t2, t3⟩ := comp_chs (us := us) (f := fun d => do
      let ρ' ← bindP (.nm 4) d (wipeE [some (9, .int c), some (9, .int (g : Int)), some (9, .int (most : Int)), some (9, .lst (iL (v0 :: vr))), none] (Pat.nm 4).slots)
      let r ← tsts [m__law_values] [] [] ρ'
      if r then do let k ← ev [m__law_values] [] (.idx (.lit (.str [97, 65, 98, 66, 99, 67])) (.bin .Mod (.var 4) (.bin .Mult (.lit (.int 2)) (.var 1)))) ρ'; let k ← needV k; R.ok (some k) else R.ok none) (fun u hu => by
    have q0 := Int.fmod_nonneg_of_pos u (b := 2 * (g : Int)) (by omega)
    have q1 := Int.fmod_lt_of_pos u (b := 2 * (g : Int)) (by omega)
    obtain ⟨ch, c1, c2⟩ := lett q0 (by omega)
    refine ⟨ch, c1, ?_⟩
    simp [Pat.slots, wipeE, tsts, ev, hmul, hg0, c2])
  refine ⟨t, t1, by omega, ?_⟩
  obtain ⟨k, hk⟩ := listV_chs t (by unfold line; omega)
  have hj := fun k => join_chs t k (by unfold line; omega)
  unfold m__law_word
  rw [run_of (by rfl)]
  rw [show env0 3 5 [.int c, .int (g : Int), .int (most : Int)] = [some (9, .int c), some (9, .int (g : Int)), some (9, .int (most : Int)), none, none] from rfl]
  unfold c__law_word
  rw [runs_cons, run1_set]
  have hev : ev [m__law_values] [] (.call 0 [.var 0, .bin .Add (.var 2) (.lit (.int 1)), .lit (.int 997)]) [some (9, .int c), some (9, .int (g : Int)), some (9, .int (most : Int)), none, none] = .ok (some 9, .lst (iL (v0 :: vr))) := hev1 _ c g most _ h1
  rw [hev, liftR_ok, needV_some, liftR_ok, setR_of (by simp), seq_nx, runs_cons, run1_ret]
  simp only [List.set_cons_succ, List.set_cons_zero]
  have hI : evI [m__law_values] [] true (.val (.sl (.var 3) (.yes (.lit (.int 1))) (.yes (.bin .Add (.lit (.int 1)) (.bin .Mod (.idx (.var 3) (.lit (.int 0))) (.bin .Add (.var 2) (.lit (.int 1)))))))) [some (9, .int c), some (9, .int (g : Int)), some (9, .int (most : Int)), some (9, .lst (iL (v0 :: vr))), none] = .ok (iL us) := by
    have i0 : idxD (none, .lst (iL (v0 :: vr))) (at9 (.int 0)) = .ok (at9 (.int v0)) := idx_iL none (j := 0) (vs := v0 :: vr) rfl
    simp only [evI, ev, evO, List.getElem?_cons_succ, List.getElem?_cons_zero, cont_lst, cont_int, R.bind_ok, if_true]
    simp only [show ((9 : Nat) = 0) = False from by simp, if_false, i0, R.bind_ok, add_i, mod_i, Bool.false_eq_true, ne_eq, hm1, not_false_eq_true, if_true, sl_iL, hus, items_iL]
  have hc : ev [m__law_values] [] (.comp (.nm 4) (.val (.sl (.var 3) (.yes (.lit (.int 1))) (.yes (.bin .Add (.lit (.int 1)) (.bin .Mod (.idx (.var 3) (.lit (.int 0))) (.bin .Add (.var 2) (.lit (.int 1)))))))) [] (.idx (.lit (.str [97, 65, 98, 66, 99, 67])) (.bin .Mod (.var 4) (.bin .Mult (.lit (.int 2)) (.var 1))))) [some (9, .int c), some (9, .int (g : Int)), some (9, .int (most : Int)), some (9, .lst (iL (v0 :: vr))), none] = .ok (some k, .lst (chs t)) := by
    rw [ev, hI, R.bind_ok, t3, noExc_ok', R.bind_ok, hk]
  rw [ev, show ev [m__law_values] [] (.lit (.str [])) _ = R.ok (at9 (.str [])) from by rw [ev], R.bind_ok]
  simp only [meOk, if_true, evs, hc, R.bind_ok, hj, liftR_ok, needV_some, seq_ret, fin_ret]
end Q

namespace Q
open PySem PySem.Spec L2 Px
/-! to step through a body -/
section
variable {F : List Fn} {C : List D} {T : Tab} {ρ : Px.Env} {rest : List Cm} {R : R (Nat × D)}
theorem fSet {i k : Nat} {e : Ex} {d : D} (h : ev F C e ρ = .ok (some k, d)) (hi : i < ρ.length) (hr : fin (runs F C T rest (ρ.set i (some (k, d)))) = R) : fin (runs F C T (.set i e :: rest) ρ) = R := by
  rw [runs_cons, run1_set, h, liftR_ok, needV_some, liftR_ok]
  show fin (Rs.seq (setR i k d ρ) _) = R
  unfold setR
  rw [if_pos hi, seq_nx]; exact hr
theorem fExp {e : Ex} {kd : Kd} (h : ev F C e ρ = .ok kd) (hr : fin (runs F C T rest ρ) = R) : fin (runs F C T (.exp e :: rest) ρ) = R := by
  rw [runs_cons]; simp only [run1]; rw [h, liftR_ok, seq_nx]; exact hr
theorem fExpX {e : Ex} {x : String} {p : List (String × Int)} (h : ev F C e ρ = .exc x p) : fin (runs F C T (.exp e :: rest) ρ) = .exc x p := by
  rw [runs_cons]; simp only [run1]; rw [h]; rfl
theorem fNo {c : Tx} {a : List Cm} (h : tst F C c ρ = .ok false) (hr : fin (runs F C T rest ρ) = R) : fin (runs F C T (.ifs c a [] :: rest) ρ) = R := by
  rw [runs_cons, run1_ifs, h, liftR_ok, if_neg Bool.false_ne_true, runs_nil, seq_nx]; exact hr
theorem fIfR {c : Tx} {e : Ex} {b : List Cm} {d : D} {k : Nat} (h : tst F C c ρ = .ok true) (hr : ev F C e ρ = .ok (some k, d)) : fin (runs F C T (.ifs c [.ret e] b :: rest) ρ) = .ok (k, d) := by
  rw [runs_cons, run1_ifs, h, liftR_ok, if_pos rfl, runs_cons, run1_ret, hr]; rfl
theorem fRet {e : Ex} {k : Nat} {d : D} (h : ev F C e ρ = .ok (some k, d)) : fin (runs F C T (.ret e :: rest) ρ) = .ok (k, d) := by
  rw [runs_cons, run1_ret, h]; rfl
theorem fRetX {e : Ex} {x : String} {p : List (String × Int)} (h : ev F C e ρ = .exc x p) : fin (runs F C T (.ret e :: rest) ρ) = .exc x p := by
  rw [runs_cons, run1_ret, h]; rfl
theorem fRetv {i k : Nat} {d : D} (h : ρ[i]? = some (some (k, d))) : fin (runs F C T (.retv i :: rest) ρ) = .ok (k, d) := by
  rw [runs_cons, run1_retv h]; rfl
theorem fRaise {x : String} {c : Tx} {b : List Cm} (h : tst F C c ρ = .ok true) : fin (runs F C T (.ifs c [.raise x] b :: rest) ρ) = .exc x [] := by
  rw [runs_cons, run1_ifs, h, liftR_ok, if_pos rfl]; simp only [runs, run1]; rfl
theorem fRaise' {x : String} : fin (runs F C T (.raise x :: rest) ρ) = .exc x [] := by
  simp only [runs, run1]; rfl
theorem fIf {c : Tx} {a b : List Cm} {t : Bool} {ρ' : Px.Env} (h : tst F C c ρ = .ok t) (h1 : (if t then runs F C T a ρ else runs F C T b ρ) = .nx ρ') (hr : fin (runs F C T rest ρ') = R) : fin (runs F C T (.ifs c a b :: rest) ρ) = R := by
  rw [runs_cons, run1_ifs, h, liftR_ok, h1, seq_nx]; exact hr
end
end Q

namespace Q
open PySem PySem.Spec L2 Px
/-! the sums of a word -/
def gn : Nat → Nat
  | 97 => 0 | 65 => 0 | 98 => 1 | 66 => 1 | _ => 2
def sg : Nat → Int
  | 97 => 1 | 98 => 1 | 99 => 1 | _ => -1
def dl (k c : Nat) : Int := if gn c = k then sg c else 0
def sm (k : Nat) (t : List Nat) : Int := (t.map (dl k)).sum
def lG (g c : Nat) : Bool := lB c && decide (gn c < g)
def cnts (g : Nat) (t : List Nat) : List Int := (List.range g).map fun k => sm k t
theorem sm_nil (k : Nat) : sm k [] = 0 := rfl
theorem sm_app (k : Nat) (a b : List Nat) : sm k (a ++ b) = sm k a + sm k b := by unfold sm; simp
theorem sm_one (k c : Nat) : sm k [c] = dl k c := by unfold sm; simp
theorem dl_iv {c : Nat} (h : lB c = true) (k : Nat) : dl k (iv c) = - dl k c := by
  rcases l6 h with e | e | e | e | e | e <;> subst e <;> simp [dl, gn, sg, iv] <;> split <;> rfl
theorem sm_fold (k : Nat) : ∀ (t st : List Nat), t.all lB = true → sm k (t.foldl stp st) = sm k st + sm k t
  | [], st, _ => by simp [sm_nil]
  | c :: t, st, h => by
    simp only [List.all_cons, Bool.and_eq_true] at h
    have i := sm_fold k t (stp st c) h.2
    rw [List.foldl_cons, i]
    have e : sm k (stp st c) = sm k st + dl k c := by
      rcases List.eq_nil_or_concat st with e | ⟨s, x, e⟩
      · subst e; rw [stp_nil, sm_one, sm_nil, Int.zero_add]
      · rw [List.concat_eq_append] at e
        subst e
        rw [stp_snoc]
        split
        · rename_i hx
          rw [sm_app, sm_one, hx, dl_iv h.1]; omega
        · rw [sm_app, sm_one]
    have e2 : sm k (c :: t) = dl k c + sm k t := by unfold sm; simp
    rw [e, e2]; omega
theorem sm_red (k : Nat) {t : List Nat} (h : t.all lB = true) : sm k (red t) = sm k t := by
  unfold red; rw [sm_fold k t [] h, sm_nil, Int.zero_add]
theorem cnts_red (g : Nat) {t : List Nat} (h : t.all lB = true) : cnts g (red t) = cnts g t := by
  unfold cnts; exact List.map_congr_left fun k _ => sm_red k h
theorem red_mem {t : List Nat} : ∀ c ∈ red t, c ∈ t := by
  have go : ∀ (t st : List Nat), ∀ c ∈ t.foldl stp st, c ∈ st ∨ c ∈ t := by
    intro t
    induction t with
    | nil => intro st c h; exact .inl h
    | cons d t ih =>
      intro st c h
      rcases ih _ c h with z | z
      · rcases List.eq_nil_or_concat st with e | ⟨s, x, e⟩
        · subst e
          rw [stp_nil] at z
          exact .inr (by rw [List.mem_singleton.mp z]; simp)
        · rw [List.concat_eq_append] at e
          subst e
          rw [stp_snoc] at z
          split at z
          · exact .inl (by simp [z])
          · rcases List.mem_append.mp z with z | z
            · exact .inl z
            · exact .inr (by rw [List.mem_singleton.mp z]; simp)
      · exact .inr (by simp [z])
  intro c h
  exact (go t [] c h).resolve_left (by simp)
theorem lG_lB {g : Nat} {t : List Nat} (h : t.all (lG g) = true) : t.all lB = true := by
  rw [List.all_eq_true] at h ⊢
  exact fun c m => (Bool.and_eq_true_iff.mp (h c m)).1
theorem lG_red {g : Nat} {t : List Nat} (h : t.all (lG g) = true) : (red t).all (lG g) = true := by
  rw [List.all_eq_true] at h ⊢
  exact fun c m => h c (red_mem c m)
theorem lG_app {g : Nat} {a b : List Nat} (ha : a.all (lG g) = true) (hb : b.all (lG g) = true) : (a ++ b).all (lG g) = true := by rw [List.all_append, ha, hb]; rfl
theorem sm_abs (k : Nat) : ∀ t : List Nat, (sm k t).natAbs ≤ t.length
  | [] => by simp [sm_nil]
  | c :: t => by
    have e2 : sm k (c :: t) = dl k c + sm k t := by unfold sm; simp
    have h1 := sm_abs k t
    have h2 : (dl k c).natAbs ≤ 1 := by
      unfold dl sg
      split
      · split <;> decide
      · decide
    rw [e2, List.length_cons]; omega
theorem g123 {g : Nat} (h1 : 1 ≤ g) (h3 : g ≤ 3) : g = 1 ∨ g = 2 ∨ g = 3 := by omega
/-- the letters of g generators -/
def Lg (g : Nat) : List Nat := L6.take (2 * g)
theorem lg_lG {g : Nat} (h1 : 1 ≤ g) (h3 : g ≤ 3) (c : Nat) : decide (c ∈ Lg g) = lG g c := by
  have key : ∀ c, lB c = false → lG g c = false ∧ ¬ c ∈ Lg g := fun c h => ⟨by unfold lG; rw [h]; rfl, fun m => by
    have : c ∈ L6 := List.mem_of_mem_take m
    unfold lB at h
    rw [decide_eq_true this] at h; cases h⟩
  cases hb : lB c with
  | false => rw [(key c hb).1, decide_eq_false (key c hb).2]
  | true => rcases g123 h1 h3 with e | e | e <;> subst e <;> rcases l6 hb with e | e | e | e | e | e <;> subst e <;> decide
end Q

namespace Q
open PySem PySem.Spec L2 Px
theorem over_S (S t : List Nat) : m__is_over [.str S, .str t] = .ok (9, .bl (t.all fun c => decide (c ∈ S))) := by
  unfold m__is_over
  rw [run_of (by rfl)]
  unfold c__is_over
  simp only [runs, run1, evI, ev, env0_of]
  simp only [List.map_cons, List.map_nil, kd_str, Option.getD_some, Nat.reduceSub, List.replicate, List.cons_append, List.nil_append, List.getElem?_cons_succ, List.getElem?_cons_zero, cont_str, items_str, R.bind_ok, liftR_ok, Bool.false_eq_true, if_false]
  refine loopF_rule (fun r => fin (r.seq fun ρ => (Rs.ret 9 (D.bl true)).seq fun ρ => .nx ρ) = .ok (9, .bl (t.all fun c => decide (c ∈ S)))) (fun ds ρ => ∃ (u : List Nat) (x : Option (Nat × D)), ds = u.map (fun c => .str [c]) ∧ ρ = [some (9, .str S), some (9, .str t), x] ∧ (t.all fun c => decide (c ∈ S)) = u.all fun c => decide (c ∈ S)) ?_ ?_ _ _ ⟨t, none, rfl, rfl, rfl⟩
  · rintro d ds ρ ⟨u, x, e1, e2, e3⟩
    cases u with
    | nil => cases e1
    | cons c u =>
      simp only [List.map_cons, List.cons.injEq] at e1
      obtain ⟨e1, e4⟩ := e1
      subst e1; subst e4; subst e2
      refine ⟨_, by simp; rfl, ?_⟩
      have hc : inStr [c] S = decide (c ∈ S) := inStr_one S c
      cases h : decide (c ∈ S) with
      | true => exact (Stp.nx ⟨u, some (9, .str [c]), rfl, rfl, by rw [e3, List.all_cons, h]; rfl⟩).to (by simp [runs, run1, ev, tst, hc, h])
      | false => exact (Stp.ret (by rw [e3, List.all_cons, h]; rfl)).to (by simp [runs, run1, ev, tst, hc, h])
  · rintro ρ ⟨u, x, e1, e2, e3⟩
    cases u with
    | nil => rw [e3]; rfl
    | cons c u => cases e1
theorem checkg_ok {g : Nat} (h1 : 1 ≤ g) (h3 : g ≤ 3) : m_check_generators [.int (g : Int)] = .ok (9, .non) := by
  rcases g123 h1 h3 with e | e | e <;> subst e <;> rfl
theorem checkg_0 : m_check_generators [.int 0] = .exc "BadNumber" [] := rfl
theorem checkg_4 : m_check_generators [.int 4] = .exc "BadNumber" [] := rfl
theorem letters_g {g : Nat} (h1 : 1 ≤ g) (h3 : g ≤ 3) : m_letters_of [.int (g : Int)] = .ok (9, .str (Lg g)) := by
  rcases g123 h1 h3 with e | e | e <;> subst e <;> rfl
theorem isword_g {g : Nat} (h1 : 1 ≤ g) (h3 : g ≤ 3) (t : List Nat) : m_is_word [.int (g : Int), .str t] = .ok (9, .bl (t.all (lG g))) := by
  unfold m_is_word
  rw [run_of (by rfl)]
  unfold c_is_word
  have k1 : callD m_letters_of [(some 9, .int (g : Int))] = .ok (at9 (.str (Lg g))) := callD_of (letters_g h1 h3) rfl (fun _ => rfl)
  have k2 : callD m__is_over [(some 9, .str (Lg g)), (some 9, .str t)] = .ok (at9 (.bl (t.all (lG g)))) := callD_of ((over_S (Lg g) t).trans (by rw [show (fun c => decide (c ∈ Lg g)) = lG g from funext fun c => lg_lG h1 h3 c])) rfl (fun _ => rfl)
  simp only [runs, run1, evs, ev, env0_of]
  simp [k1, k2]
def gG (g : Nat) (t : List Nat) : Bool := t.all (lG g) && decide (t.length ≤ 60)
theorem checkw_g {g : Nat} (h1 : 1 ≤ g) (h3 : g ≤ 3) (t : List Nat) (hl : t.length ≤ line) : m_check_word [.int (g : Int), .str t] = if gG g t = true then .ok (9, .non) else .exc "NotWord" [] := by
  unfold m_check_word
  rw [run_of (by rfl)]
  unfold c_check_word
  have k1 : callD m_is_word [(some 9, .int (g : Int)), (some 9, .str t)] = .ok (at9 (.bl (t.all (lG g)))) := callD_of (isword_g h1 h3 t) rfl (fun _ => rfl)
  simp only [runs, run1, evs, ev, tst, env0_of]
  unfold gG
  cases ht : t.all (lG g) with
  | false => simp [k1, ht]
  | true =>
    by_cases h : t.length ≤ 60
    · have : ¬ (60 < (t.length : Int)) := by omega
      simp [k1, ht, hl, h, this]
    · have : (60 < (t.length : Int)) := by omega
      simp [k1, ht, hl, h, this]
theorem cgc {g : Nat} (h1 : 1 ≤ g) (h3 : g ≤ 3) : callD m_check_generators [(some 9, .int (g : Int))] = .ok (at9 .non) := callD_of (checkg_ok h1 h3) rfl (fun _ => rfl)
theorem cwc {g : Nat} (h1 : 1 ≤ g) (h3 : g ≤ 3) {t : List Nat} (h : gG g t = true) : callD m_check_word [(some 9, .int (g : Int)), (some 9, .str t)] = .ok (at9 .non) := callD_of ((checkw_g h1 h3 t (by
  have := of_decide_eq_true (Bool.and_eq_true_iff.mp h).2
  unfold line; omega)).trans (if_pos h)) rfl (fun _ => rfl)
theorem cwx {g : Nat} (h1 : 1 ≤ g) (h3 : g ≤ 3) {t : List Nat} (hl : t.length ≤ line) (h : gG g t = false) : callD m_check_word [(some 9, .int (g : Int)), (some 9, .str t)] = .exc "NotWord" [] := callD_exc ((checkw_g h1 h3 t hl).trans (if_neg (by rw [h]; exact Bool.false_ne_true)))
/-! counted -/
def cB : List Cm := [.set 4 (.call 0 [.var 3]), .augAt 2 (.bin .FloorDiv (.var 4) (.lit (.int 2))) .Add (.bin .Sub (.lit (.int 1)) (.bin .Mult (.lit (.int 2)) (.bin .BitAnd (.var 4) (.lit (.int 1)))))]
theorem counted_step {g c : Nat} (h1 : 1 ≤ g) (h3 : g ≤ 3) (hc : lG g c = true) (pre : List Nat) (G W x : Option (Nat × D)) :
    runs [m_rank_of] [] tT cB [G, W, some (9, .lst (iL (cnts g pre))), some (9, .str [c]), x] = .nx [G, W, some (9, .lst (iL (cnts g (pre ++ [c])))), some (9, .str [c]), some (9, .int (rk c))] := by
  have hb := (Bool.and_eq_true_iff.mp hc).1
  have hg := of_decide_eq_true (Bool.and_eq_true_iff.mp hc).2
  have k1 : callD m_rank_of [(some 9, .str [c])] = .ok (at9 (.int (rk c))) := callD_of (rank_ok hb) rfl (fun _ => rfl)
  unfold cB
  rw [runs_cons, run1_set, show ev [m_rank_of] [] (.call 0 [.var 3]) _ = R.ok (at9 (.int (rk c))) from by simp [ev, evs, k1], liftR_ok, needV_some, liftR_ok, setR_of (by simp), seq_nx]
  simp only [List.set_cons_succ, List.set_cons_zero]
  have e1 : ev [m_rank_of] [] (.bin .FloorDiv (.var 4) (.lit (.int 2))) [G, W, some (9, .lst (iL (cnts g pre))), some (9, .str [c]), some (9, .int (rk c))] = .ok (at9 (.int (gn c : Int))) := by
    simp [ev]
    rcases l6 hb with e | e | e | e | e | e <;> subst e <;> rfl
  have e2 : ev [m_rank_of] [] (.bin .Sub (.lit (.int 1)) (.bin .Mult (.lit (.int 2)) (.bin .BitAnd (.var 4) (.lit (.int 1))))) [G, W, some (9, .lst (iL (cnts g pre))), some (9, .str [c]), some (9, .int (rk c))] = .ok (at9 (.int (sg c))) := by
    rcases l6 hb with e | e | e | e | e | e <;> subst e <;> rfl
  have e3 : (iL (cnts g pre))[gn c]? = some (.int (sm (gn c) pre)) := by
    unfold iL cnts
    rw [List.getElem?_map, List.getElem?_map, List.getElem?_range hg]; rfl
  have e4 : (iL (cnts g pre)).set (gn c) (.int (sm (gn c) pre + sg c)) = iL (cnts g (pre ++ [c])) := by
    refine List.ext_getElem? fun j => ?_
    unfold iL cnts
    rw [List.getElem?_set]
    simp only [List.length_map, List.length_range, List.getElem?_map]
    by_cases hj : j < g
    · rw [List.getElem?_range hj]
      by_cases he : gn c = j
      · subst he
        simp [hg, sm_app, sm_one, dl]
      · simp [he, sm_app, sm_one, dl]
    · have : (List.range g)[j]? = none := List.getElem?_eq_none (by simp; omega)
      rw [this]
      by_cases he : gn c = j
      · omega
      · simp [he]
  have : run1 [m_rank_of] [] tT (.augAt 2 (.bin .FloorDiv (.var 4) (.lit (.int 2))) .Add (.bin .Sub (.lit (.int 1)) (.bin .Mult (.lit (.int 2)) (.bin .BitAnd (.var 4) (.lit (.int 1)))))) [G, W, some (9, .lst (iL (cnts g pre))), some (9, .str [c]), some (9, .int (rk c))] = .nx [G, W, some (9, .lst (iL (cnts g (pre ++ [c])))), some (9, .str [c]), some (9, .int (rk c))] := by
    simp only [run1, lstAt, List.getElem?_cons_succ, List.getElem?_cons_zero, e1, liftR_ok]
    rw [if_pos (by omega)]
    simp only [Int.toNat_natCast, e3, e2, liftR_ok, if_true, e4]
    simp [setR]
  rw [runs_cons, this, seq_nx, runs_nil]
theorem counted_ok {g : Nat} (h1 : 1 ≤ g) (h3 : g ≤ 3) {t : List Nat} (ht : t.all (lG g) = true) : m_counted [.int (g : Int), .str t] = .ok (9, .lst (iL (cnts g t))) := by
  unfold m_counted
  rw [run_of (by rfl), show env0 2 5 [.int (g : Int), .str t] = [some (9, .int (g : Int)), some (9, .str t), none, none, none] from rfl]
  unfold c_counted
  have e0 : ev [m_rank_of] [] (.bin .Mult (.list [.lit (.int 0)]) (.var 0)) [some (9, .int (g : Int)), some (9, .str t), none, none, none] = .ok (some 9, .lst (iL (cnts g []))) := by
    rcases g123 h1 h3 with e | e | e <;> subst e <;> rfl
  refine fSet e0 (by simp) ?_
  simp only [List.set_cons_succ, List.set_cons_zero]
  rw [runs_cons, run1_for, show evI [m_rank_of] [] false (.val (.var 1)) _ = R.ok (chs t) from by simp [evI, ev], liftR_ok]
  have key : ∃ x y, loopF (.nm 3) (runs [m_rank_of] [] tT cB) (runs [m_rank_of] [] tT []) (chs t) [some (9, .int (g : Int)), some (9, .str t), some (9, .lst (iL (cnts g []))), none, none] = .nx [some (9, .int (g : Int)), some (9, .str t), some (9, .lst (iL (cnts g t))), x, y] := by
    refine loopF_rule (fun r => ∃ x y, r = .nx [some (9, .int (g : Int)), some (9, .str t), some (9, .lst (iL (cnts g t))), x, y]) (fun ds ρ => ∃ (pre u : List Nat) (x y : Option (Nat × D)), ds = chs u ∧ t = pre ++ u ∧ u.all (lG g) = true ∧ ρ = [some (9, .int (g : Int)), some (9, .str t), some (9, .lst (iL (cnts g pre))), x, y]) ?_ ?_ _ _ ⟨[], t, none, none, rfl, rfl, ht, rfl⟩
    · rintro d ds ρ ⟨pre, u, x, y, q1, q2, q3, q4⟩
      cases u with
      | nil => cases q1
      | cons c u =>
        simp only [chs, List.map_cons, List.cons.injEq] at q1
        obtain ⟨q1, q5⟩ := q1
        subst q1; subst q5; subst q4
        simp only [List.all_cons, Bool.and_eq_true] at q3
        refine ⟨_, by rw [bind_nm, if_pos (by simp)], ?_⟩
        simp only [List.set_cons_succ, List.set_cons_zero, kd_str, Option.getD_some]
        exact (Stp.nx ⟨pre ++ [c], u, some (9, .str [c]), some (9, .int (rk c)), rfl, by rw [q2]; simp, q3.2, rfl⟩).to (counted_step h1 h3 q3.1 pre _ _ y)
    · rintro ρ ⟨pre, u, x, y, q1, q2, q3, q4⟩
      cases u with
      | cons c u => cases q1
      | nil =>
        rw [List.append_nil] at q2
        subst q2; subst q4
        rw [runs_nil]
        exact ⟨x, y, rfl⟩
  obtain ⟨x, y, key⟩ := key
  rw [show [Cm.set 4 (.call 0 [.var 3]), .augAt 2 (.bin .FloorDiv (.var 4) (.lit (.int 2))) .Add (.bin .Sub (.lit (.int 1)) (.bin .Mult (.lit (.int 2)) (.bin .BitAnd (.var 4) (.lit (.int 1)))))] = cB from rfl, key, seq_nx]
  exact fRetv rfl
theorem ccc {g : Nat} (h1 : 1 ≤ g) (h3 : g ≤ 3) {t : List Nat} (ht : t.all (lG g) = true) : callD m_counted [(some 9, .int (g : Int)), (some 9, .str t)] = .ok (some 9, .lst (iL (cnts g t))) := callD_ok (counted_ok h1 h3 ht) rfl rfl
end Q

namespace Q
open PySem PySem.Spec L2 Px
/-! weights -/
theorem b_tp (ps : List Pat) (ds : List D) (ρ : Px.Env) : bindP (.tp ps) (.tup ds) ρ = bindPs ps ds ρ := by rw [bindP]
theorem b_cons (p : Pat) (ps : List Pat) (d : D) (ds : List D) (ρ : Px.Env) : bindPs (p :: ps) (d :: ds) ρ = (bindP p d ρ >>= fun ρ' => bindPs ps ds ρ') := by rw [bindPs]
theorem b_nil (ρ : Px.Env) : bindPs [] [] ρ = .ok ρ := by rw [bindPs]
theorem zip_mul : ∀ ns cs : List Int, ((ns.zip cs).map fun p => D.int (p.1 * p.2)) = iL (List.zipWith (· * ·) ns cs)
  | [], _ => by simp
  | _ :: _, [] => by simp
  | n :: ns, c :: cs => by
    show D.int (n * c) :: ((ns.zip cs).map fun p => D.int (p.1 * p.2)) = _
    rw [zip_mul ns cs]; rfl
abbrev wtD (m : Int) (ns : List Int) : D := .tup [.int m, .tup (iL ns)]
def WOk (m : Int) (ns : List Int) : Prop := 0 ≤ m ∧ m ≠ 1 ∧ 1 ≤ ns.length ∧ ns.length ≤ 3
theorem wchk_ok {m : Int} {ns : List Int} (h : WOk m ns) : m_check_weights [wtD m ns] = .ok (9, .non) := by
  unfold m_check_weights
  rw [run_of (by rfl), show env0 1 3 [wtD m ns] = [some (9, wtD m ns), none, none] from rfl]
  unfold c_check_weights
  obtain ⟨h1, h2, h3, h4⟩ := h
  have a1 : ¬ m < 0 := by omega
  have a2 : (1 : Int) ≤ (ns.length : Int) := by omega
  have a3 : (ns.length : Int) ≤ 3 := by omega
  simp [runs, run1, ev, evs, tst, b_tp, b_cons, b_nil, a1, h2, a2, a3]
theorem wchk_bad {m : Int} {ns : List Int} (h : m < 0 ∨ m = 1 ∨ ns.length = 0 ∨ 3 < ns.length) : m_check_weights [wtD m ns] = .exc "NotWeights" [] := by
  unfold m_check_weights
  rw [run_of (by rfl), show env0 1 3 [wtD m ns] = [some (9, wtD m ns), none, none] from rfl]
  unfold c_check_weights
  by_cases a1 : m < 0
  · simp [runs, run1, ev, evs, tst, b_tp, b_cons, b_nil, a1]
  · by_cases a2 : m = 1
    · simp [runs, run1, ev, evs, tst, b_tp, b_cons, b_nil, a2]
    · have h := (h.resolve_left a1).resolve_left a2
      by_cases a3 : (1 : Int) ≤ (ns.length : Int)
      · have a4 : ¬ (ns.length : Int) ≤ 3 := by omega
        simp [runs, run1, ev, evs, tst, b_tp, b_cons, b_nil, a1, a2, a3, a4]
      · simp [runs, run1, ev, evs, tst, b_tp, b_cons, b_nil, a1, a2, a3]
def dot (ns cs : List Int) : Int := (List.zipWith (· * ·) ns cs).sum
/-- the weight of sums -/
def wtR (m : Int) (ns cs : List Int) : Int := if m = 0 then dot ns cs else (dot ns cs).fmod m
theorem zipL_iL : ∀ ns cs : List Int, zipL (iL ns) (iL cs) = (ns.zip cs).map fun p => D.tup [.int p.1, .int p.2]
  | [], _ => by simp [zipL]
  | _ :: _, [] => by simp [zipL]
  | n :: ns, c :: cs => by
    show .tup [.int n, .int c] :: zipL (iL ns) (iL cs) = _
    rw [zipL_iL ns cs]; rfl
theorem intsOf_iL : ∀ zs : List Int, intsOf (iL zs) = some zs
  | [] => rfl
  | z :: zs => by show (intsOf (iL zs)).map (z :: ·) = _; rw [intsOf_iL zs]; rfl
theorem sum_iL (k : Option Nat) (zs : List Int) : biD .sum [(k, .lst (iL zs))] = .ok (at9 (.int zs.sum)) := by
  show (match intsOf (iL zs) with | some ns => R.ok (at9 (.int ns.sum)) | none => .stuck) = _
  rw [intsOf_iL]
theorem weighed_gen {fc : Fn} {m : Int} {ns cs : List Int} {t : List Nat} (hc : callD fc [(some 9, .int (ns.length : Int)), (some 9, .str t)] = .ok (some 9, .lst (iL cs))) (hl : ns.length ≤ 1000) (hm : m.natAbs < 1073741824) (hb : ∀ c ∈ cs, c.natAbs < 18446744073709551616) :
    runFd [fc] [] tT 2 7 c_weighed [wtD m ns, .str t] = .ok (9, .int (wtR m ns cs)) := by
  rw [run_of (by rfl), show env0 2 7 [wtD m ns, .str t] = [some (9, wtD m ns), some (9, .str t), none, none, none, none, none] from rfl]
  unfold c_weighed
  rw [runs_cons, show run1 [fc] [] tT (.unp (.tp [.nm 2, .nm 3]) (.var 0)) [some (9, wtD m ns), some (9, .str t), none, none, none, none, none] = .nx [some (9, wtD m ns), some (9, .str t), some (9, .int m), some (9, .tup (iL ns)), none, none, none] from by simp [run1, ev, b_tp, b_cons, b_nil], seq_nx]
  have hz : evI [fc] [] true (.zip (.var 3) (.call 0 [.bi .len [.var 3], .var 1])) [some (9, wtD m ns), some (9, .str t), some (9, .int m), some (9, .tup (iL ns)), none, none, none] = .ok ((ns.zip cs).map fun p => D.tup [.int p.1, .int p.2]) := by
    have e1 : ev [fc] [] (.call 0 [.bi .len [.var 3], .var 1]) [some (9, wtD m ns), some (9, .str t), some (9, .int m), some (9, .tup (iL ns)), none, none, none] = .ok (some 9, .lst (iL cs)) := by
      simp [ev, evs, hc]
    rw [evI, show ev [fc] [] (.var 3) _ = R.ok (some 9, .tup (iL ns)) from by simp [ev], R.bind_ok, e1, R.bind_ok]
    show (do let ys ← itemsD true (some 9, .lst (iL cs)); R.ok (zipL (iL ns) ys)) = _
    rw [items_iL, R.bind_ok, zipL_iL]
  have hs : ev [fc] [] (.bi .sum [.comp (.tp [.nm 5, .nm 6]) (.zip (.var 3) (.call 0 [.bi .len [.var 3], .var 1])) [] (.bin .Mult (.var 5) (.var 6))]) [some (9, wtD m ns), some (9, .str t), some (9, .int m), some (9, .tup (iL ns)), none, none, none] = .ok (at9 (.int (dot ns cs))) := by
    have ec : ev [fc] [] (.comp (.tp [.nm 5, .nm 6]) (.zip (.var 3) (.call 0 [.bi .len [.var 3], .var 1])) [] (.bin .Mult (.var 5) (.var 6))) [some (9, wtD m ns), some (9, .str t), some (9, .int m), some (9, .tup (iL ns)), none, none, none] = .ok (some 9, .lst (iL (List.zipWith (· * ·) ns cs))) := by
      rw [ev, hz, R.bind_ok, compR_map (g := fun d => (9, match d with | .tup [.int a, .int b] => .int (a * b) | d => d)) (fun d hd => ?_)]
      · rw [noExc_ok', R.bind_ok]
        have := listV9 (fun d : D => match d with | .tup [.int a, .int b] => D.int (a * b) | d => d) ((ns.zip cs).map fun p => D.tup [.int p.1, .int p.2]) (by simp; unfold line; omega)
        rw [this, List.map_map]
        rw [← zip_mul]; rfl
      · obtain ⟨⟨a, b⟩, hp, e⟩ := List.mem_map.mp hd
        subst e
        have hb' := hb b (List.of_mem_zip hp).2
        have mo : mulOk a b = true := by simp [mulOk, hb']
        simp [Pat.slots, slotsL, wipeE, b_tp, b_cons, b_nil, tsts, ev, mo]
    rw [ev, evs, ec, R.bind_ok, evs, R.bind_ok]
    exact sum_iL (some 9) _
  refine fSet hs (by simp) ?_
  simp only [List.set_cons_succ, List.set_cons_zero]
  unfold wtR
  generalize dot ns cs = tot
  by_cases h0 : m = 0
  · rw [if_pos h0]
    simp [runs, run1, tst, ev, h0]
  · rw [if_neg h0]
    have mo : mulOk (tot.fdiv m) m = true := by
      have : m.natAbs < 18446744073709551616 := by omega
      simp [mulOk, this]
    have fe : tot - tot.fdiv m * m = tot.fmod m := by rw [Int.fmod_def, Int.mul_comm]
    simp [runs, run1, tst, ev, h0, hm, mo, fe]
theorem cnts_len (g : Nat) (t : List Nat) : (cnts g t).length = g := by unfold cnts; simp
theorem cnts_small {g : Nat} {t : List Nat} (hl : t.length ≤ 1000000) : ∀ c ∈ cnts g t, c.natAbs ≤ 1000000 := fun c hc => by
  obtain ⟨k, _, e⟩ := List.mem_map.mp hc
  have := sm_abs k t
  rw [← e]; omega
section
variable {fk fw fe : Fn} {m : Int} {ns : List Int} {t : List Nat}
theorem weight_gen {z : Int} (k1 : callD fk [(some 9, wtD m ns)] = .ok (at9 .non)) (k2 : callD fw [(some 9, .int (ns.length : Int)), (some 9, .str t)] = .ok (at9 .non)) (k3 : callD fe [(some 9, wtD m ns), (some 9, .str t)] = .ok (at9 (.int z))) : runFd [fk, fw, fe] [] tT 2 2 c_weight_of [wtD m ns, .str t] = .ok (9, .int z) := by
  have hi : idxD (some 9, wtD m ns) (some 9, .int 1) = .ok (at9 (.tup (iL ns))) := rfl
  rw [run_of (by rfl), show env0 2 2 [wtD m ns, .str t] = [some (9, wtD m ns), some (9, .str t)] from rfl]
  unfold c_weight_of
  simp only [runs, run1, evs, ev]
  simp [k1, k2, k3, hi]
theorem weight_w (k1 : callD fk [(some 9, wtD m ns)] = .ok (at9 .non)) (k2 : callD fw [(some 9, .int (ns.length : Int)), (some 9, .str t)] = .exc "NotWord" []) : runFd [fk, fw, fe] [] tT 2 2 c_weight_of [wtD m ns, .str t] = .exc "NotWord" [] := by
  have hi : idxD (some 9, wtD m ns) (some 9, .int 1) = .ok (at9 (.tup (iL ns))) := rfl
  rw [run_of (by rfl), show env0 2 2 [wtD m ns, .str t] = [some (9, wtD m ns), some (9, .str t)] from rfl]
  unfold c_weight_of
  simp only [runs, run1, evs, ev]
  simp [k1, k2, hi]
theorem weight_k (k1 : callD fk [(some 9, wtD m ns)] = .exc "NotWeights" []) : runFd [fk, fw, fe] [] tT 2 2 c_weight_of [wtD m ns, .str t] = .exc "NotWeights" [] := by
  rw [run_of (by rfl), show env0 2 2 [wtD m ns, .str t] = [some (9, wtD m ns), some (9, .str t)] from rfl]
  unfold c_weight_of
  simp only [runs, run1, evs, ev]
  simp [k1]
end
theorem ckw {m : Int} {ns : List Int} (h : WOk m ns) : callD m_check_weights [(some 9, wtD m ns)] = .ok (at9 .non) := callD_of (wchk_ok h) rfl (fun _ => rfl)
theorem weighed_ok {m : Int} {ns : List Int} {t : List Nat} (h : WOk m ns) (hm : m.natAbs < 1073741824) (ht : t.all (lG ns.length) = true) (hl : t.length ≤ 1000000) : m_weighed [wtD m ns, .str t] = .ok (9, .int (wtR m ns (cnts ns.length t))) :=
  weighed_gen (ccc h.2.2.1 h.2.2.2 ht) (by have := h.2.2.2; omega) hm (fun c hc => by have := cnts_small hl c hc; omega)
theorem weight_ok {m : Int} {ns : List Int} {t : List Nat} (h : WOk m ns) (hm : m.natAbs < 1073741824) (ht : gG ns.length t = true) : m_weight_of [wtD m ns, .str t] = .ok (9, .int (wtR m ns (cnts ns.length t))) :=
  weight_gen (ckw h) (cwc h.2.2.1 h.2.2.2 ht) (callD_of (weighed_ok h hm (Bool.and_eq_true_iff.mp ht).1 (by
    have := of_decide_eq_true (Bool.and_eq_true_iff.mp ht).2
    omega)) rfl (fun _ => rfl))
theorem weight_word {m : Int} {ns : List Int} {t : List Nat} (h : WOk m ns) (hl : t.length ≤ line) (ht : gG ns.length t = false) : m_weight_of [wtD m ns, .str t] = .exc "NotWord" [] :=
  weight_w (ckw h) (cwx h.2.2.1 h.2.2.2 hl ht)
theorem weight_bad {m : Int} {ns : List Int} {t : List Nat} (h : m < 0 ∨ m = 1 ∨ ns.length = 0 ∨ 3 < ns.length) : m_weight_of [wtD m ns, .str t] = .exc "NotWeights" [] :=
  weight_k (callD_exc (wchk_bad h))
end Q

namespace Q
open PySem PySem.Spec L2 Px
theorem count_c (t : List Nat) (c : Nat) : Txt.count (mkS t) (mkS [c]) = PyProof.Rows.cnt c t := by
  have e := PyProof.Rows.count_is (mkS t) c
  have e2 : (mkS t).cps.toList = t := by simp [mkS]
  rw [e2] at e
  exact e
theorem cnt_sm (k : Nat) (hk : k < 3) : ∀ t : List Nat, t.all lB = true → PyProof.Rows.cnt (97 + k) t - PyProof.Rows.cnt (65 + k) t = sm k t
  | [], _ => rfl
  | c :: t, h => by
    simp only [List.all_cons, Bool.and_eq_true] at h
    have i := cnt_sm k hk t h.2
    have e2 : sm k (c :: t) = dl k c + sm k t := by unfold sm; simp
    rw [e2, ← i, PyProof.Rows.cnt_cons, PyProof.Rows.cnt_cons]
    have d : (if c = 97 + k then (1 : Int) else 0) - (if c = 65 + k then (1 : Int) else 0) = dl k c := by
      have : k = 0 ∨ k = 1 ∨ k = 2 := by omega
      rcases this with e | e | e <;> subst e <;> rcases l6 h.1 with e | e | e | e | e | e <;> subst e <;> rfl
    omega
theorem rng_cnts (g : Nat) (f : Nat → Int) : (rng1 0 (g : Int)).map (fun d => match d with | .int i => D.int (f i.toNat) | d => d) = iL ((List.range g).map f) := by
  unfold rng1 iL
  rw [List.map_map, List.map_map, show ((g : Int) - 0).toNat = g by omega]
  refine List.map_congr_left fun i _ => ?_
  simp
theorem lsums_ok {g : Nat} (h1 : 1 ≤ g) (h3 : g ≤ 3) {t : List Nat} (ht : t.all lB = true) : m__law_sums [.int (g : Int), .str t] = .ok (9, .lst (iL (cnts g t))) := by
  unfold m__law_sums
  rw [run_of (by rfl), show env0 2 3 [.int (g : Int), .str t] = [some (9, .int (g : Int)), some (9, .str t), none] from rfl]
  unfold c__law_sums
  refine fRet ?_
  have := ev_comp9 (F := []) (C := []) (ρ := [some (9, .int (g : Int)), some (9, .str t), none]) (i := 2) (it := .rng1 (.var 0)) (e := .bin .Sub (.me .count (.var 1) [.idx (.lit (.str [97, 98, 99])) (.var 2)]) (.me .count (.var 1) [.idx (.lit (.str [97, 65, 98, 66, 99, 67])) (.bin .Add (.bin .Mult (.lit (.int 2)) (.var 2)) (.lit (.int 1)))])) (f := fun d => match d with | .int i => D.int (sm i.toNat t) | d => d)
    (evI_rng1 (n := (g : Int)) (k := some 9) _ _ _ (by simp [ev]) (by unfold inBig big; simp; omega)) (by simp) (by rw [rng1_len]; unfold line; omega) (fun d hd => by
      obtain ⟨k, e, hk⟩ := rng1_int hd
      subst e
      have hk3 : k < 3 := by omega
      have q := cnt_sm k hk3 t ht
      have c1 : ∀ c : Nat, meD .count (some 9, .str t) [(some 9, .str [c])] = .ok (at9 (.int (PyProof.Rows.cnt c t))) := fun c => by
        show R.ok (at9 (.int (Txt.count (mkS t) (mkS [c])))) = _
        rw [count_c]
      have : k = 0 ∨ k = 1 ∨ k = 2 := by omega
      rcases this with e | e | e <;> subst e
      · have i1 : idxD (some 9, .str [97, 98, 99]) (some 9, .int 0) = .ok (at9 (.str [97])) := rfl
        have i2 : idxD (some 9, .str [97, 65, 98, 66, 99, 67]) (some 9, .int 1) = .ok (at9 (.str [65])) := rfl
        simp [ev, evs, meOk, mulOk, i1, i2, c1]
        exact q
      · have i1 : idxD (some 9, .str [97, 98, 99]) (some 9, .int 1) = .ok (at9 (.str [98])) := rfl
        have i2 : idxD (some 9, .str [97, 65, 98, 66, 99, 67]) (some 9, .int 3) = .ok (at9 (.str [66])) := rfl
        simp [ev, evs, meOk, mulOk, i1, i2, c1]
        exact q
      · have i1 : idxD (some 9, .str [97, 98, 99]) (some 9, .int 2) = .ok (at9 (.str [99])) := rfl
        have i2 : idxD (some 9, .str [97, 65, 98, 66, 99, 67]) (some 9, .int 5) = .ok (at9 (.str [67])) := rfl
        simp [ev, evs, meOk, mulOk, i1, i2, c1]
        exact q)
  rw [this, rng_cnts g fun k => sm k t]
  rfl
theorem dot_get : ∀ ns cs : List Int, ns.length = cs.length → ((List.range cs.length).map fun i => ns.getD i 0 * cs.getD i 0).sum = dot ns cs
  | [], [], _ => rfl
  | n :: ns, c :: cs, h => by
    rw [List.length_cons, List.range_succ_eq_map, List.map_cons, List.map_map, List.sum_cons]
    have i := dot_get ns cs (by simpa using h)
    have e : (List.map ((fun i => (n :: ns).getD i 0 * (c :: cs).getD i 0) ∘ Nat.succ) (List.range cs.length)) = (List.range cs.length).map fun i => ns.getD i 0 * cs.getD i 0 := List.map_congr_left fun i _ => by simp
    rw [e, i]
    simp [dot]
theorem idx_tup (k : Option Nat) {vs : List Int} {j : Nat} {v : Int} (h : vs[j]? = some v) : idxD (k, .tup (iL vs)) (some 9, .int (j : Int)) = .ok (at9 (.int v)) := by
  show (match atI (iL vs) (j : Int) with | some d => _ | none => _) = _
  rw [atI_nat (j := j) (v := .int v) (by simp [iL, List.getElem?_map, h])]; rfl
end Q

namespace Q
open PySem PySem.Spec L2 Px TL
section
variable {F : List Fn} {C : List D} {ρ : Px.Env}
theorem items_iLn (vs : List Int) : itemsD true (none, .lst (iL vs)) = .ok (iL vs) := by
  show (if ((none : Option Nat).isNone && !true) = true then R.stuck else do let _ ← chd none (iL vs); R.ok (iL vs)) = _
  rw [ch8 (iL_cont vs)]; rfl
/-- "".join([.. for v in numbers]) -/
theorem ev_join {i : Nat} {it : Ix} {e : Ex} {vs : List Int} {P : Nat → Prop} (hit : evI F C true it ρ = .ok (iL vs)) (hi : i < ρ.length) (hl : vs.length ≤ line) (hx : ∀ v ∈ vs, ∃ c, P c ∧ ev F C e (ρ.set i (some (9, .int v))) = .ok (at9 (.str [c]))) :
    ∃ t : List Nat, t.length = vs.length ∧ (∀ c ∈ t, P c) ∧ ev F C (.me .join (.lit (.str [])) [.comp (.nm i) it [] e]) ρ = .ok (at9 (.str t)) := by
  have h : ∀ v : Int, ∃ c : Nat, v ∈ vs → P c ∧ ev F C e (ρ.set i (some (9, .int v))) = .ok (at9 (.str [c])) := fun v => by
    by_cases m : v ∈ vs
    · obtain ⟨c, h⟩ := hx v m; exact ⟨c, fun _ => h⟩
    · exact ⟨0, fun z => absurd z m⟩
  obtain ⟨g, hg⟩ := Classical.axiomOfChoice h
  refine ⟨vs.map g, by simp, fun c hc => ?_, ?_⟩
  · obtain ⟨v, hv, e⟩ := List.mem_map.mp hc
    rw [← e]; exact (hg v hv).1
  · have h1 := ev_comp9 (f := fun d => match d with | .int v => .str [g v] | d => d) hit hi (by simpa [iL] using hl) (fun d hd => by
      obtain ⟨v, hv, e⟩ := List.mem_map.mp hd
      subst e
      exact (hg v hv).2)
    rw [iL, List.map_map] at h1
    have h2 := join_chs (vs.map g) (some 9) (by simpa using hl)
    rw [chs, List.map_map] at h2
    rw [ev, show ev F C (.lit (.str [])) ρ = R.ok (at9 (.str [])) from by rw [ev], R.bind_ok]
    simp only [meOk, if_true, evs, h1, R.bind_ok]
    exact h2
/-- [w for w in words if ..] -/
theorem ev_filt {i : Nat} {it : Ix} {cond : Tx} {ws : List (List Nat)} {p : List Nat → Bool} (hit : evI F C true it ρ = .ok (ws.map D.str)) (hi : i < ρ.length) (hl : ws.length ≤ line) (hx : ∀ w ∈ ws, tst F C cond (ρ.set i (some (9, .str w))) = .ok (p w)) :
    ev F C (.comp (.nm i) it [cond] (.var i)) ρ = .ok (some 9, .lst ((ws.filter p).map D.str)) := by
  rw [ev, hit, R.bind_ok, compR_filter (g := fun d => match d with | .str w => if p w = true then some (9, .str w) else none | _ => none) (fun d hd => ?_)]
  · rw [noExc_ok', R.bind_ok]
    have e : (ws.map D.str).filterMap (fun d => match d with | .str w => if p w = true then some ((9 : Nat), D.str w) else none | _ => none) = (ws.filter p).map fun w => ((9 : Nat), D.str w) := by
      clear hit hl hx
      induction ws with
      | nil => rfl
      | cons w ws ih =>
        rw [List.map_cons, List.filterMap_cons, List.filter_cons]
        by_cases h : p w = true
        · simp only [h, if_true]; rw [ih]; rfl
        · simp only [h]; exact ih
    rw [e]
    exact listV9 D.str (ws.filter p) (Nat.le_trans (List.length_filter_le _ _) hl)
  · obtain ⟨w, hw, e⟩ := List.mem_map.mp hd
    subst e
    have h1 : wipeE ρ (Pat.nm i).slots = ρ.set i none := rfl
    rw [h1, bind_nm, if_pos (by simpa using hi), R.bind_ok]
    rw [List.set_set, kd_str]
    simp only [Option.getD_some, tsts, hx w hw, R.bind_ok]
    cases p w with
    | true => simp [tsts, ev, hi]
    | false => simp
theorem strsOf_map : ∀ ws : List (List Nat), strsOf (ws.map D.str) = some ws
  | [] => rfl
  | w :: ws => by show (strsOf (ws.map D.str)).map (w :: ·) = _; rw [strsOf_map ws]; rfl
theorem joinL_facts (s : List Nat) : ∀ ws : List (List Nat), (Px.joinL s ws).length ≤ (ws.map (·.length)).sum + ws.length * s.length ∧ ∀ c ∈ Px.joinL s ws, c ∈ s ∨ ∃ w ∈ ws, c ∈ w
  | [] => ⟨by simp [Px.joinL], fun c h => by simp [Px.joinL] at h⟩
  | [w] => ⟨by simp [Px.joinL], fun c h => .inr ⟨w, by simp, by simpa [Px.joinL] using h⟩⟩
  | w :: v :: ws => by
    obtain ⟨a, b⟩ := joinL_facts s (v :: ws)
    have e : Px.joinL s (w :: v :: ws) = w ++ s ++ Px.joinL s (v :: ws) := rfl
    rw [e]
    refine ⟨?_, fun c hc => ?_⟩
    · simp only [List.length_append, List.map_cons, List.sum_cons, List.length_cons] at a ⊢
      have : (ws.length + 1 + 1) * s.length = (ws.length + 1) * s.length + s.length := by rw [Nat.add_mul, Nat.one_mul]
      omega
    · rcases List.mem_append.mp hc with hc | hc
      · rcases List.mem_append.mp hc with hc | hc
        · exact .inr ⟨w, by simp, hc⟩
        · exact .inl hc
      · exact (b c hc).imp id fun ⟨u, m, hu⟩ => ⟨u, by simp [List.mem_cons.mp m], hu⟩
theorem sum_le {n : Nat} : ∀ ws : List (List Nat), (∀ w ∈ ws, w.length ≤ n) → (ws.map (·.length)).sum ≤ ws.length * n
  | [], _ => by simp
  | w :: ws, h => by
    have h1 := h w (by simp)
    have h2 := sum_le ws fun v m => h v (by simp [m])
    simp only [List.map_cons, List.sum_cons, List.length_cons, Nat.add_mul, Nat.one_mul]
    omega
theorem strs_cont (ws : List (List Nat)) : (ws.map D.str).any D.cont = false := by
  rw [List.any_map]; exact List.any_eq_false.mpr fun y _ => by simp
theorem ev_split {i k : Nat} {t : List Nat} (h : ρ[i]? = some (some (k, .str t))) (hl : t.length + 2 ≤ line) : ev F C (.me .split (.var i) [.lit (.str [32])]) ρ = .ok (some 9, .lst ((sps t).map D.str)) := by
  rw [← splS_32]
  simp only [ev, evs, h, cont_str, Bool.false_eq_true, if_false, R.bind_ok, meOk, if_true]
  show (if _ then _ else _) = _
  rw [if_pos ⟨rfl, hl⟩]; rfl
end
theorem kd_eta (k : Nat) (d : D) : kd k d = ((kd k d).1, d) := by unfold kd; split <;> rfl
end Q

namespace Q
open PySem PySem.Spec L2 Px
theorem ints_py {zs : List Int} (h : ∀ z ∈ zs, z.natAbs < 10 ^ 40) : PyData.canLayAll0 (D.pys (iL zs)) = true ∧ PyData.depthAll (D.pys (iL zs)) = 0 ∧ PyData.showableAll (D.pys (iL zs)) = true ∧ ((PyData.shownAll (D.pys (iL zs))).map (·.length)).sum ≤ zs.length * 50 ∧ (PyData.shownAll (D.pys (iL zs))).length = zs.length := by
  induction zs with
  | nil => exact ⟨rfl, rfl, rfl, by decide, rfl⟩
  | cons z zs ih =>
    obtain ⟨a, b, c, d, e⟩ := ih fun y m => h y (by simp [m])
    have hz := h z (by simp)
    have lg : z.natAbs.log2 < 1920 := small_log (Nat.lt_trans hz (by decide))
    have tl : (Str.ofString (toString z)).length ≤ 50 := by
      have q := int_text_length_le10 (k := 40) (by decide) hz
      rw [ofString_length]
      omega
    refine ⟨?_, ?_, ?_, ?_, ?_⟩
    · show (true && PyData.canLayAll0 (D.pys (iL zs))) = true
      rw [a]; rfl
    · show max 0 (PyData.depthAll (D.pys (iL zs))) = 0
      rw [b]; rfl
    · show (decide (z.natAbs.log2 < 1920) && PyData.showableAll (D.pys (iL zs))) = true
      rw [c, decide_eq_true lg]; rfl
    · show (Str.ofString (toString z)).length + ((PyData.shownAll (D.pys (iL zs))).map (·.length)).sum ≤ (zs.length + 1) * 50
      omega
    · show (PyData.shownAll (D.pys (iL zs))).length + 1 = zs.length + 1
      rw [e]
theorem shp_ints {zs : List Int} (h : ∀ z ∈ zs, z.natAbs < 10 ^ 40) : shp (.lst (iL zs)) = true := by
  obtain ⟨a, b, _⟩ := ints_py h
  show (PyData.canLayAll0 (D.pys (iL zs)) && decide (PyData.depthAll (D.pys (iL zs)) + 1 ≤ 64)) = true
  rw [a, b]; rfl
theorem rpOk_ints {zs : List Int} (h : ∀ z ∈ zs, z.natAbs < 10 ^ 40) (hl : zs.length ≤ 1000) : rpOk (.lst (iL zs)) := by
  obtain ⟨a, b, c, d, e⟩ := ints_py h
  refine rOk_of (shp_ints h) c ?_
  show (listText (PyData.shownAll (D.pys (iL zs)))).length ≤ line
  have q := listText_len_le (PyData.shownAll (D.pys (iL zs)))
  rw [e] at q
  unfold line
  have : zs.length * 50 ≤ 1000 * 50 := Nat.mul_le_mul_right _ hl
  omega
theorem eqv_ints (zs : List Int) : PyData.eqvAll (D.pys (iL zs)) (D.pys (iL zs)) = true := by
  induction zs with
  | nil => rfl
  | cons z zs ih =>
    show (z == z && PyData.eqvAll (D.pys (iL zs)) (D.pys (iL zs))) = true
    rw [ih]; simp
theorem ne_ints (k l : Option Nat) {zs : List Int} (h : ∀ z ∈ zs, z.natAbs < 10 ^ 40) : cmpD .NotEq (k, .lst (iL zs)) (l, .lst (iL zs)) = .ok false := by
  show (if (shp (.lst (iL zs)) && shp (.lst (iL zs))) = true then R.ok (!eqD (.lst (iL zs)) (.lst (iL zs))) else .stuck) = _
  rw [shp_ints h]
  show R.ok (!PyData.eqvAll (D.pys (iL zs)) (D.pys (iL zs))) = _
  rw [eqv_ints]; rfl
/-- every item passes -/
theorem loop_pass {i : Nat} {body els : Px.Env → Rs} : ∀ {xs : List D} {ρ : Px.Env}, i < ρ.length → (∀ d ∈ xs, body (ρ.set i (some ((kd 0 d).1.getD 0, d))) = .nx (ρ.set i (some ((kd 0 d).1.getD 0, d)))) → ∃ x, loopF (.nm i) body els xs ρ = els (ρ.set i x)
  | [], ρ, hi, _ => ⟨ρ[i], by unfold loopF; rw [List.set_getElem_self]⟩
  | d :: ds, ρ, hi, h => by
    obtain ⟨x, e⟩ := loop_pass (i := i) (body := body) (els := els) (xs := ds) (ρ := ρ.set i (some ((kd 0 d).1.getD 0, d))) (by simpa using hi) fun d' m => by
      rw [List.set_set]
      exact h d' (by simp [m])
    refine ⟨x, ?_⟩
    unfold loopF
    rw [bind_nm, if_pos hi]
    simp only [h d (by simp)]
    rw [e, List.set_set]
section
variable {F : List Fn} {C : List D} {T : Tab} {ρ : Px.Env} {rest : List Cm} {r : Rs}
theorem nSet {i k : Nat} {e : Ex} {d : D} (h : ev F C e ρ = .ok (some k, d)) (hi : i < ρ.length) (hr : runs F C T rest (ρ.set i (some (k, d))) = r) : runs F C T (.set i e :: rest) ρ = r := by
  rw [runs_cons, run1_set, h, liftR_ok, needV_some, liftR_ok]
  show Rs.seq (setR i k d ρ) _ = r
  unfold setR
  rw [if_pos hi, seq_nx]; exact hr
theorem nNo {c : Tx} {a : List Cm} (h : tst F C c ρ = .ok false) (hr : runs F C T rest ρ = r) : runs F C T (.ifs c a [] :: rest) ρ = r := by
  rw [runs_cons, run1_ifs, h, liftR_ok, if_neg Bool.false_ne_true, runs_nil, seq_nx]; exact hr
end
end Q

namespace Q
open PySem PySem.Spec L2 Px
theorem lettg {g : Nat} {k : Int} (h1 : 1 ≤ g) (h3 : g ≤ 3) (h0 : 0 ≤ k) (hk : k < 2 * (g : Int)) : ∃ c, lG g c = true ∧ idxD (some 9, .str [97, 65, 98, 66, 99, 67]) (some 9, .int k) = .ok (at9 (.str [c])) := by
  have h6 : k = 0 ∨ k = 1 ∨ k = 2 ∨ k = 3 ∨ k = 4 ∨ k = 5 := by omega
  have q : ∀ c : Nat, lB c = true → (gn c : Int) < g → lG g c = true := fun c hb hg => by
    unfold lG
    rw [hb, decide_eq_true (by omega)]; rfl
  rcases h6 with e | e | e | e | e | e <;> subst e
  · exact ⟨97, q 97 (by decide) (by show (0 : Int) < g; omega), rfl⟩
  · exact ⟨65, q 65 (by decide) (by show (0 : Int) < g; omega), rfl⟩
  · exact ⟨98, q 98 (by decide) (by show (1 : Int) < g; omega), rfl⟩
  · exact ⟨66, q 66 (by decide) (by show (1 : Int) < g; omega), rfl⟩
  · exact ⟨99, q 99 (by decide) (by show (2 : Int) < g; omega), rfl⟩
  · exact ⟨67, q 67 (by decide) (by show (2 : Int) < g; omega), rfl⟩
theorem word_gen {f : Fn} (hf : ∀ (c : Int) (n : Nat), n ≤ 1000 → ∃ vs, Drw n 997 vs ∧ f [.int c, .int (n : Int), .int 997] = .ok (9, .lst (iL vs))) (c : Int) (g most : Nat) (hg1 : 1 ≤ g) (hg3 : g ≤ 3) (hm : most ≤ 60) :
    ∃ t : List Nat, t.all (lG g) = true ∧ t.length ≤ most ∧ runFd [f] [] tT 3 5 c__law_word [.int c, .int (g : Int), .int (most : Int)] = .ok (9, .str t) := by
  obtain ⟨vs, ⟨dl, dv⟩, hv⟩ := hf c (most + 1) (by omega)
  rw [show ((most + 1 : Nat) : Int) = (most : Int) + 1 from by omega] at hv
  cases vs with
  | nil => simp at dl
  | cons v0 vr =>
  have h0 := dv v0 (by simp)
  have hm1 : ((most : Int) + 1) ≠ 0 := by omega
  have hfm := Int.fmod_lt_of_pos v0 (b := (most : Int) + 1) (by omega)
  have hfm0 := Int.fmod_nonneg_of_pos v0 (b := (most : Int) + 1) (by omega)
  have h1 : callD f [(some 9, .int c), (some 9, .int ((most : Int) + 1)), (some 9, .int 997)] = .ok (some 9, .lst (iL (v0 :: vr))) := callD_ok hv rfl rfl
  generalize hus : cutL (v0 :: vr) (some 1) (some (1 + v0.fmod ((most : Int) + 1))) = us
  have hlen : us.length ≤ most := by
    rw [← hus]
    unfold cutL HT.sIx
    simp only [List.length_take, List.length_drop]
    have e1 : ¬ (1 : Int) < 0 := by decide
    have e2 : ¬ (1 + v0.fmod ((most : Int) + 1)) < 0 := by omega
    rw [if_neg e1, if_neg e2]
    simp only [List.length_cons] at dl ⊢
    omega
  have hg0 : (2 * (g : Int)) ≠ 0 := by omega
  have hmul : mulOk 2 (g : Int) = true := by simp [mulOk]
  rw [run_of (by rfl), show env0 3 5 [.int c, .int (g : Int), .int (most : Int)] = [some (9, .int c), some (9, .int (g : Int)), some (9, .int (most : Int)), none, none] from rfl]
  unfold c__law_word
  have e1 : ev [f] [] (.call 0 [.var 0, .bin .Add (.var 2) (.lit (.int 1)), .lit (.int 997)]) [some (9, .int c), some (9, .int (g : Int)), some (9, .int (most : Int)), none, none] = .ok (some 9, .lst (iL (v0 :: vr))) := by simp [ev, evs, h1]
  have hI : evI [f] [] true (.val (.sl (.var 3) (.yes (.lit (.int 1))) (.yes (.bin .Add (.lit (.int 1)) (.bin .Mod (.idx (.var 3) (.lit (.int 0))) (.bin .Add (.var 2) (.lit (.int 1)))))))) [some (9, .int c), some (9, .int (g : Int)), some (9, .int (most : Int)), some (9, .lst (iL (v0 :: vr))), none] = .ok (iL us) := by
    have i0 : idxD (none, .lst (iL (v0 :: vr))) (at9 (.int 0)) = .ok (at9 (.int v0)) := idx_iL none (j := 0) (vs := v0 :: vr) rfl
    simp only [evI, ev, evO, List.getElem?_cons_succ, List.getElem?_cons_zero, cont_lst, cont_int, R.bind_ok, if_true]
    simp only [show ((9 : Nat) = 0) = False from by simp, if_false, i0, R.bind_ok, add_i, mod_i, Bool.false_eq_true, ne_eq, hm1, not_false_eq_true, if_true, sl_iL, hus, items_iL]
  obtain ⟨t, t1, t2, t3⟩ := ev_join (F := [f]) (C := []) (ρ := [some (9, .int c), some (9, .int (g : Int)), some (9, .int (most : Int)), some (9, .lst (iL (v0 :: vr))), none]) (i := 4) (e := .idx (.lit (.str [97, 65, 98, 66, 99, 67])) (.bin .Mod (.var 4) (.bin .Mult (.lit (.int 2)) (.var 1)))) (P := fun c => lG g c = true) hI (by simp) (by unfold line; omega) (fun v hv => by
    have q0 := Int.fmod_nonneg_of_pos v (b := 2 * (g : Int)) (by omega)
    have q1 := Int.fmod_lt_of_pos v (b := 2 * (g : Int)) (by omega)
    obtain ⟨ch, c1, c2⟩ := lettg hg1 hg3 q0 q1
    exact ⟨ch, c1, by simp [ev, hmul, hg0, c2]⟩)
  refine ⟨t, List.all_eq_true.mpr t2, by omega, ?_⟩
  refine fSet e1 (by simp) ?_
  simp only [List.set_cons_succ, List.set_cons_zero]
  exact fRet t3
theorem wordg_ok (c : Int) (g most : Nat) (hg1 : 1 ≤ g) (hg3 : g ≤ 3) (hm : most ≤ 60) : ∃ t : List Nat, t.all (lG g) = true ∧ t.length ≤ most ∧ m__law_word [.int c, .int (g : Int), .int (most : Int)] = .ok (9, .str t) :=
  word_gen (fun c n h => values_ok c n 997 (by decide) (by decide) h) c g most hg1 hg3 hm
end Q

namespace Q
open PySem PySem.Spec L2 Px
/-! presentations -/
abbrev prD (g : Int) (rs : List (List Nat)) : D := .tup [.int g, .tup (rs.map D.str)]
def POk (g : Nat) (rs : List (List Nat)) : Prop := 1 ≤ g ∧ g ≤ 3 ∧ rs.length ≤ 8 ∧ ∀ r ∈ rs, 1 ≤ r.length ∧ r.length ≤ 20 ∧ r.all (lG g) = true
def pB : List Cm := [.ifs (.or (.not (.chain .LtE .LtE (.lit (.int 1)) (.bi .len [.var 3]) (.glob 2))) (.not (.val (.call 0 [.var 1, .var 3])))) [.ret (.lit (.bl false))] []]
theorem pres_gen {fw : Fn} {g : Nat} {rs : List (List Nat)} (h : POk g rs) (hw : ∀ t : List Nat, callD fw [(some 9, .int (g : Int)), (some 9, .str t)] = .ok (at9 (.bl (t.all (lG g))))) : runFd [fw] [.int 3, .int 8, .int 20] tT 1 4 c_is_presentation [prD g rs] = .ok (9, .bl true) := by
  obtain ⟨h1, h2, h3, h4⟩ := h
  rw [run_of (by rfl), show env0 1 4 [prD g rs] = [some (9, prD g rs), none, none, none] from rfl]
  unfold c_is_presentation
  rw [runs_cons, show run1 [fw] [.int 3, .int 8, .int 20] tT (.unp (.tp [.nm 1, .nm 2]) (.var 0)) [some (9, prD g rs), none, none, none] = .nx [some (9, prD g rs), some (9, .int (g : Int)), some (9, .tup (rs.map D.str)), none] from by simp [run1, ev, b_tp, b_cons, b_nil], seq_nx]
  have a1 : (1 : Int) ≤ (g : Int) := by omega
  have a2 : (g : Int) ≤ 3 := by omega
  have a3 : ¬ 8 < (rs.length : Int) := by omega
  refine fNo (by simp [tst, ev, evs, a1, a2, a3]) ?_
  rw [runs_cons, show run1 [fw] [.int 3, .int 8, .int 20] tT (.frz 2) [some (9, prD g rs), some (9, .int (g : Int)), some (9, .tup (rs.map D.str)), none] = .nx [some (9, prD g rs), some (9, .int (g : Int)), some (9, .tup (rs.map D.str)), none] from by simp [run1], seq_nx]
  rw [runs_cons, run1_for, show evI [fw] [.int 3, .int 8, .int 20] false (.val (.var 2)) _ = R.ok (rs.map D.str) from by simp [evI, ev]; rfl, liftR_ok]
  obtain ⟨x, e⟩ := loop_pass (i := 3) (body := runs [fw] [.int 3, .int 8, .int 20] tT pB) (els := runs [fw] [.int 3, .int 8, .int 20] tT []) (xs := rs.map D.str) (ρ := [some (9, prD g rs), some (9, .int (g : Int)), some (9, .tup (rs.map D.str)), none]) (by simp) (fun d hd => by
    obtain ⟨r, hr, e⟩ := List.mem_map.mp hd
    subst e
    obtain ⟨k1, k2, k3⟩ := h4 r hr
    have q1 : (1 : Int) ≤ (r.length : Int) := by omega
    have q2 : (r.length : Int) ≤ 20 := by omega
    have q3 : r.length ≤ line := by unfold line; omega
    simp only [List.set_cons_succ, List.set_cons_zero, kd_str, Option.getD_some]
    simp [pB, runs, run1, tst, ev, evs, q1, q2, q3, hw r, k3])
  rw [show [Cm.ifs (.or (.not (.chain .LtE .LtE (.lit (.int 1)) (.bi .len [.var 3]) (.glob 2))) (.not (.val (.call 0 [.var 1, .var 3])))) [.ret (.lit (.bl false))] []] = pB from rfl, e, runs_nil, seq_nx]
  exact fRet (by simp [ev])
theorem pres_ok {g : Nat} {rs : List (List Nat)} (h : POk g rs) : m_is_presentation [prD g rs] = .ok (9, .bl true) :=
  pres_gen h fun t => callD_of (isword_g h.1 h.2.1 t) rfl (fun _ => rfl)
theorem pres_empty {fw : Fn} {g : Nat} (h1 : 1 ≤ g) (h3 : g ≤ 3) : runFd [fw] [.int 3, .int 8, .int 20] tT 1 4 c_is_presentation [prD g [[]]] = .ok (9, .bl false) := by
  rw [run_of (by rfl), show env0 1 4 [prD g [[]]] = [some (9, prD g [[]]), none, none, none] from rfl]
  unfold c_is_presentation
  rw [runs_cons, show run1 [fw] [.int 3, .int 8, .int 20] tT (.unp (.tp [.nm 1, .nm 2]) (.var 0)) [some (9, prD g [[]]), none, none, none] = .nx [some (9, prD g [[]]), some (9, .int (g : Int)), some (9, .tup [.str []]), none] from by simp [run1, ev, b_tp, b_cons, b_nil], seq_nx]
  have a1 : (1 : Int) ≤ (g : Int) := by omega
  have a2 : (g : Int) ≤ 3 := by omega
  refine fNo (by simp [tst, ev, evs, a1, a2]) ?_
  rw [runs_cons, show run1 [fw] [.int 3, .int 8, .int 20] tT (.frz 2) [some (9, prD g [[]]), some (9, .int (g : Int)), some (9, .tup [.str []]), none] = .nx [some (9, prD g [[]]), some (9, .int (g : Int)), some (9, .tup [.str []]), none] from by simp [run1], seq_nx]
  rw [runs_cons, run1_for, show evI [fw] [.int 3, .int 8, .int 20] false (.val (.var 2)) _ = R.ok [.str []] from by simp [evI, ev]; rfl, liftR_ok]
  unfold loopF
  rw [bind_nm, if_pos (by simp)]
  simp only [List.set_cons_succ, List.set_cons_zero, kd_str, Option.getD_some]
  simp [runs, run1, tst, ev, evs]
theorem pres_0 {fw : Fn} : runFd [fw] [.int 3, .int 8, .int 20] tT 1 4 c_is_presentation [prD 0 []] = .ok (9, .bl false) := by
  rw [run_of (by rfl), show env0 1 4 [prD 0 []] = [some (9, prD 0 []), none, none, none] from rfl]
  unfold c_is_presentation
  rw [runs_cons, show run1 [fw] [.int 3, .int 8, .int 20] tT (.unp (.tp [.nm 1, .nm 2]) (.var 0)) [some (9, prD 0 []), none, none, none] = .nx [some (9, prD 0 []), some (9, .int 0), some (9, .tup []), none] from by simp [run1, ev, b_tp, b_cons, b_nil], seq_nx]
  simp [runs, run1, tst, ev, evs]
theorem checkp_gen {f : Fn} {d : D} {b : Bool} (hd : d.cont = false) (h : f [d] = .ok (9, .bl b)) : runFd [f] [] tT 1 1 c_check_presentation [d] = if b = true then .ok (9, .non) else .exc "NotPresentation" [] := by
  have e0 : env0 1 1 [d] = [some (9, d)] := by
    rw [env0_of]
    unfold kd
    simp [hd]
  rw [run_of (by rfl), e0]
  unfold c_check_presentation
  have k1 : callD f [(some 9, d)] = .ok (at9 (.bl b)) := callD_of h rfl (fun _ => rfl)
  cases b <;> simp [runs, run1, tst, ev, evs, hd, k1]
theorem ckp_ok {g : Nat} {rs : List (List Nat)} (h : POk g rs) : callD m_check_presentation [(some 9, prD g rs)] = .ok (at9 .non) := callD_of (checkp_gen (b := true) rfl (pres_ok h)) rfl (fun _ => rfl)
theorem ckp_empty {g : Nat} (h1 : 1 ≤ g) (h3 : g ≤ 3) : callD m_check_presentation [(some 9, prD g [[]])] = .exc "NotPresentation" [] := callD_exc (checkp_gen (b := false) rfl (pres_empty h1 h3))
theorem ckp_0 : callD m_check_presentation [(some 9, prD 0 [])] = .exc "NotPresentation" [] := callD_exc (checkp_gen (b := false) rfl pres_0)
/-! fits -/
def FitB (m : Int) (ws : List Int) (rs : List (List Nat)) : Bool := rs.all fun r => decide (wtR m ws (cnts ws.length r) = 0)
theorem fits_gen {fp fk fe : Fn} {m : Int} {ws : List Int} {rs : List (List Nat)} (k1 : callD fp [(some 9, prD (ws.length : Int) rs)] = .ok (at9 .non)) (k2 : callD fk [(some 9, wtD m ws)] = .ok (at9 .non))
    (k3 : ∀ r ∈ rs, callD fe [(some 9, wtD m ws), (some 9, .str r)] = .ok (at9 (.int (wtR m ws (cnts ws.length r))))) : runFd [fp, fk, fe] [] tT 2 3 c_fits [prD (ws.length : Int) rs, wtD m ws] = .ok (9, .bl (FitB m ws rs)) := by
  rw [run_of (by rfl), show env0 2 3 [prD (ws.length : Int) rs, wtD m ws] = [some (9, prD (ws.length : Int) rs), some (9, wtD m ws), none] from rfl]
  unfold c_fits
  have i1 : idxD (some 9, wtD m ws) (some 9, .int 1) = .ok (at9 (.tup (iL ws))) := rfl
  have i0 : idxD (some 9, prD (ws.length : Int) rs) (some 9, .int 0) = .ok (at9 (.int (ws.length : Int))) := rfl
  have i2 : idxD (some 9, prD (ws.length : Int) rs) (some 9, .int 1) = .ok (at9 (.tup (rs.map D.str))) := rfl
  refine fExp (by simp [ev, evs, k1]; rfl) (fExp (by simp [ev, evs, k2]; rfl) (fNo (by simp [tst, ev, evs, i1, i0]) ?_))
  rw [runs_cons, run1_for, show evI [fp, fk, fe] [] false (.val (.idx (.var 0) (.lit (.int 1)))) _ = R.ok (rs.map D.str) from by simp [evI, ev, i2]; rfl, liftR_ok]
  refine loopF_rule (fun r => fin (r.seq (runs [fp, fk, fe] [] tT [.ret (.lit (.bl true))])) = .ok (9, .bl (FitB m ws rs))) (fun ds ρ => ∃ (us : List (List Nat)) (x : Option (Nat × D)), ds = us.map D.str ∧ (∀ r ∈ us, r ∈ rs) ∧ ρ = [some (9, prD (ws.length : Int) rs), some (9, wtD m ws), x] ∧ FitB m ws rs = FitB m ws us) ?_ ?_ _ _ ⟨rs, none, rfl, fun _ h => h, rfl, rfl⟩
  · rintro d ds ρ ⟨us, x, e1, e2, e3, e4⟩
    cases us with
    | nil => cases e1
    | cons r us =>
      simp only [List.map_cons, List.cons.injEq] at e1
      obtain ⟨e1, e5⟩ := e1
      subst e1; subst e5; subst e3
      refine ⟨_, by rw [bind_nm, if_pos (by simp)], ?_⟩
      simp only [List.set_cons_succ, List.set_cons_zero, kd_str, Option.getD_some]
      have hr := k3 r (e2 r (by simp))
      by_cases h : wtR m ws (cnts ws.length r) = 0
      · refine (Stp.nx ⟨us, some (9, .str r), rfl, fun v mv => e2 v (by simp [mv]), rfl, by rw [e4]; unfold FitB; rw [List.all_cons, decide_eq_true h]; rfl⟩).to ?_
        simp [runs, run1, tst, ev, evs, hr, h]
      · refine (Stp.ret (by rw [e4]; unfold FitB; rw [List.all_cons, decide_eq_false h]; rfl)).to ?_
        simp [runs, run1, tst, ev, evs, hr, h]
  · rintro ρ ⟨us, x, e1, e2, e3, e4⟩
    cases us with
    | cons r us => cases e1
    | nil =>
      subst e3
      rw [e4, runs_nil, seq_nx]
      exact fRet (by simp [ev]; rfl)
section
variable {fp fk fe : Fn} {p w : D}
theorem fits_p (hp : p.cont = false) (hw : w.cont = false) (k1 : callD fp [(some 9, p)] = .exc "NotPresentation" []) : runFd [fp, fk, fe] [] tT 2 3 c_fits [p, w] = .exc "NotPresentation" [] := by
  have e0 : env0 2 3 [p, w] = [some (9, p), some (9, w), none] := by
    rw [env0_of]
    unfold kd
    simp [hp, hw]
  rw [run_of (by rfl), e0]
  unfold c_fits
  simp [runs, run1, ev, evs, k1, hp]
theorem fits_w {g : Nat} {rs : List (List Nat)} {m : Int} {ws : List Int} (k1 : callD fp [(some 9, prD g rs)] = .ok (at9 .non)) (k2 : callD fk [(some 9, wtD m ws)] = .exc "NotWeights" [] ∨ (callD fk [(some 9, wtD m ws)] = .ok (at9 .non) ∧ ws.length ≠ g)) : runFd [fp, fk, fe] [] tT 2 3 c_fits [prD g rs, wtD m ws] = .exc "NotWeights" [] := by
  rw [run_of (by rfl), show env0 2 3 [prD g rs, wtD m ws] = [some (9, prD g rs), some (9, wtD m ws), none] from rfl]
  unfold c_fits
  have i1 : idxD (some 9, wtD m ws) (some 9, .int 1) = .ok (at9 (.tup (iL ws))) := rfl
  have i0 : idxD (some 9, prD g rs) (some 9, .int 0) = .ok (at9 (.int (g : Int))) := rfl
  rcases k2 with k2 | ⟨k2, k3⟩
  · simp [runs, run1, tst, ev, evs, k1, k2]
  · have ne : decide ((ws.length : Int) = (g : Int)) = false := decide_eq_false (by omega)
    have et : tst [fp, fk, fe] [] (.cmp .NotEq (.bi .len [.idx (.var 1) (.lit (.int 1))]) (.idx (.var 0) (.lit (.int 0)))) [some (9, prD g rs), some (9, wtD m ws), none] = .ok true := by
      simp only [tst, ev, evs, List.getElem?_cons_succ, List.getElem?_cons_zero, cont_tup, Bool.false_eq_true, if_false, R.bind_ok, i1, i0, len_t, List.length_map, ne_i, ne, Bool.not_false]
    exact fExp (by simp [ev, evs, k1]; rfl) (fExp (by simp [ev, evs, k2]; rfl) (fRaise et))
end
abbrev presS : List Nat := [112, 114, 101, 115, 101, 110, 116, 97, 116, 105, 111, 110]
abbrev wtsS : List Nat := [119, 101, 105, 103, 104, 116, 115]
theorem isA_pp : isA tT "NotPresentation" "NotPresentation" = some true := by decide +kernel
theorem isA_kp : isA tT "NotWeights" "NotPresentation" = some false := by decide +kernel
theorem isA_kk : isA tT "NotWeights" "NotWeights" = some true := by decide +kernel
section
variable {f : Fn} {p w : D}
theorem toldf_ok {b : Bool} (hp : p.cont = false) (hw : w.cont = false) (h : f [p, w] = .ok (9, .bl b)) : runFd [f] [] tT 2 2 c__law_told [p, w] = .ok (9, .bl b) := by
  have e0 : env0 2 2 [p, w] = [some (9, p), some (9, w)] := by
    rw [env0_of]; unfold kd; simp [hp, hw]
  have k1 : callD f [(some 9, p), (some 9, w)] = .ok (at9 (.bl b)) := callD_of h rfl (fun _ => rfl)
  rw [run_of (by rfl), e0]
  unfold c__law_told
  simp [runs, run1, evs, ev, hp, hw, k1]
theorem toldf_x {x : String} {s : List Nat} (hp : p.cont = false) (hw : w.cont = false) (h : f [p, w] = .exc x []) (hx : (x = "NotPresentation" ∧ s = presS) ∨ (x = "NotWeights" ∧ s = wtsS)) : runFd [f] [] tT 2 2 c__law_told [p, w] = .ok (9, .str s) := by
  have e0 : env0 2 2 [p, w] = [some (9, p), some (9, w)] := by
    rw [env0_of]; unfold kd; simp [hp, hw]
  have k1 : callD f [(some 9, p), (some 9, w)] = .exc x [] := callD_exc h
  rw [run_of (by rfl), e0]
  unfold c__law_told
  rcases hx with ⟨e, e'⟩ | ⟨e, e'⟩ <;> subst e <;> subst e'
  · simp [runs, run1, evs, ev, hp, hw, k1, handle, isA_pp, lenOk, hruns, hrun, hev, Rs.wipe]
  · simp [runs, run1, evs, ev, hp, hw, k1, handle, isA_kp, isA_kk, lenOk, hruns, hrun, hev, Rs.wipe]
end
theorem fits_ok {m : Int} {ws : List Int} {rs : List (List Nat)} (hW : WOk m ws) (hm : m.natAbs < 1073741824) (hP : POk ws.length rs) : m_fits [prD (ws.length : Int) rs, wtD m ws] = .ok (9, .bl (FitB m ws rs)) :=
  fits_gen (ckp_ok hP) (ckw hW) fun r hr => callD_of (weighed_ok hW hm (hP.2.2.2 r hr).2.2 (by have := (hP.2.2.2 r hr).2.1; omega)) rfl (fun _ => rfl)
end Q

namespace Q
open PySem PySem.Spec L2 Px
/-! the law's own look at it -/
theorem fit_dot {m : Int} (hm : 0 ≤ m) (ws cs : List Int) : ((decide (m = 0) && !decide (dot ws cs = 0)) || (decide (0 < m) && !decide ((dot ws cs).fmod m = 0))) = !decide (wtR m ws cs = 0) := by
  unfold wtR
  by_cases h : m = 0
  · subst h; simp
  · have : 0 < m := by omega
    simp [h, this]
theorem holds_gen {f : Fn} {m : Int} {ws : List Int} {rs : List (List Nat)} (hg : ws.length ≤ 1000) (hm0 : 0 ≤ m) (hs : ∀ r ∈ rs, callD f [(some 9, .int (ws.length : Int)), (some 9, .str r)] = .ok (some 9, .lst (iL (cnts ws.length r)))) (hl : ∀ r ∈ rs, r.length ≤ 1000) :
    runFd [f] [] tT 2 6 c__law_holds [prD (ws.length : Int) rs, wtD m ws] = .ok (9, .bl (FitB m ws rs)) := by
  rw [run_of (by rfl), show env0 2 6 [prD (ws.length : Int) rs, wtD m ws] = [some (9, prD (ws.length : Int) rs), some (9, wtD m ws), none, none, none, none] from rfl]
  unfold c__law_holds
  have i1 : idxD (some 9, wtD m ws) (some 9, .int 1) = .ok (at9 (.tup (iL ws))) := rfl
  have im : idxD (some 9, wtD m ws) (some 9, .int 0) = .ok (at9 (.int m)) := rfl
  have i0 : idxD (some 9, prD (ws.length : Int) rs) (some 9, .int 0) = .ok (at9 (.int (ws.length : Int))) := rfl
  have i2 : idxD (some 9, prD (ws.length : Int) rs) (some 9, .int 1) = .ok (at9 (.tup (rs.map D.str))) := rfl
  rw [runs_cons, run1_for, show evI [f] [] false (.val (.idx (.var 0) (.lit (.int 1)))) _ = R.ok (rs.map D.str) from by simp [evI, ev, i2]; rfl, liftR_ok]
  refine loopF_rule (fun r => fin (r.seq (runs [f] [] tT [.ret (.lit (.bl true))])) = .ok (9, .bl (FitB m ws rs))) (fun ds ρ => ∃ (us : List (List Nat)) (x y z : Option (Nat × D)), ds = us.map D.str ∧ (∀ r ∈ us, r ∈ rs) ∧ ρ = [some (9, prD (ws.length : Int) rs), some (9, wtD m ws), x, y, z, none] ∧ FitB m ws rs = FitB m ws us) ?_ ?_ _ _ ⟨rs, none, none, none, rfl, fun _ h => h, rfl, rfl⟩
  · rintro d ds ρ ⟨us, x, y, z, e1, e2, e3, e4⟩
    cases us with
    | nil => cases e1
    | cons r us =>
      simp only [List.map_cons, List.cons.injEq] at e1
      obtain ⟨e1, e5⟩ := e1
      subst e1; subst e5; subst e3
      refine ⟨_, by rw [bind_nm, if_pos (by simp)], ?_⟩
      simp only [List.set_cons_succ, List.set_cons_zero, kd_str, Option.getD_some]
      have hr := hs r (e2 r (by simp))
      have hrl := hl r (e2 r (by simp))
      have hc := ev_comp9 (F := [f]) (C := []) (ρ := [some (9, prD (ws.length : Int) rs), some (9, wtD m ws), some (9, .str r), some (9, .lst (iL (cnts ws.length r))), z, none]) (i := 5) (it := .rng1 (.idx (.var 0) (.lit (.int 0)))) (e := .bin .Mult (.idx (.idx (.var 1) (.lit (.int 1))) (.var 5)) (.idx (.var 3) (.var 5))) (f := fun d => match d with | .int i => D.int (ws.getD i.toNat 0 * (cnts ws.length r).getD i.toNat 0) | d => d)
        (evI_rng1 (n := (ws.length : Int)) (k := some 9) _ _ _ (by simp [ev, i0]) (by unfold inBig big; simp; omega)) (by simp) (by rw [rng1_len]; unfold line; omega) (fun d hd => by
          obtain ⟨k, e, hk⟩ := rng1_int hd
          subst e
          have hk' : k < ws.length := by omega
          have hc : (cnts ws.length r)[k]? = some ((cnts ws.length r).getD k 0) := by simp [List.getD, cnts_len, hk']
          have hn : ws[k]? = some (ws.getD k 0) := by simp [List.getD, hk']
          have mo : mulOk (ws.getD k 0) ((cnts ws.length r).getD k 0) = true := by
            have := cnts_small (g := ws.length) (t := r) (by omega) _ (List.mem_of_getElem? hc)
            unfold mulOk
            rw [decide_eq_true (show ((cnts ws.length r).getD k 0).natAbs < 18446744073709551616 by omega), Bool.or_true]
          have j1 := idx_tup (some 9) hn
          have j2 := idx_iL none hc
          show _ = R.ok (at9 (D.int (ws.getD (k : Int).toNat 0 * (cnts ws.length r).getD (k : Int).toNat 0)))
          rw [Int.toNat_natCast]
          generalize ws.getD k 0 = a at j1 mo ⊢
          generalize (cnts ws.length r).getD k 0 = b at j2 mo ⊢
          simp [ev, i1, j1, j2, mo])
      have hc := hc.trans (congrArg (fun l => (R.ok ((some 9 : Option Nat), D.lst l) : R Kd)) (rng_cnts ws.length fun i => ws.getD i 0 * (cnts ws.length r).getD i 0))
      have hsum : ev [f] [] (.bi .sum [.comp (.nm 5) (.rng1 (.idx (.var 0) (.lit (.int 0)))) [] (.bin .Mult (.idx (.idx (.var 1) (.lit (.int 1))) (.var 5)) (.idx (.var 3) (.var 5)))]) [some (9, prD (ws.length : Int) rs), some (9, wtD m ws), some (9, .str r), some (9, .lst (iL (cnts ws.length r))), z, none] = .ok (at9 (.int (dot ws (cnts ws.length r)))) := by
        rw [ev, evs, hc, R.bind_ok, evs, R.bind_ok]
        refine (sum_iL (some 9) _).trans ?_
        have q := dot_get ws (cnts ws.length r) (cnts_len _ _).symm
        rw [cnts_len] at q
        rw [q]
      have ht : tst [f] [] (.or (.and (.cmp .Eq (.idx (.var 1) (.lit (.int 0))) (.lit (.int 0))) (.cmp .NotEq (.var 4) (.lit (.int 0)))) (.and (.cmp .Gt (.idx (.var 1) (.lit (.int 0))) (.lit (.int 0))) (.cmp .NotEq (.bin .Mod (.bi .int [.var 4]) (.idx (.var 1) (.lit (.int 0)))) (.lit (.int 0))))) [some (9, prD (ws.length : Int) rs), some (9, wtD m ws), some (9, .str r), some (9, .lst (iL (cnts ws.length r))), some (9, .int (dot ws (cnts ws.length r))), none] = .ok (!decide (wtR m ws (cnts ws.length r) = 0)) := by
        rw [← fit_dot hm0 ws (cnts ws.length r)]
        generalize dot ws (cnts ws.length r) = tot
        by_cases h : m = 0
        · subst h
          have im' : idxD (some 9, wtD 0 ws) (some 9, .int 0) = .ok (at9 (.int 0)) := rfl
          by_cases h2 : tot = 0 <;> simp [tst, ev, evs, im', h2]
        · by_cases h2 : 0 < m <;> simp [tst, ev, evs, im, h, h2]
      have body : ∀ r' : Rs, runs [f] [] tT [.ifs (.or (.and (.cmp .Eq (.idx (.var 1) (.lit (.int 0))) (.lit (.int 0))) (.cmp .NotEq (.var 4) (.lit (.int 0)))) (.and (.cmp .Gt (.idx (.var 1) (.lit (.int 0))) (.lit (.int 0))) (.cmp .NotEq (.bin .Mod (.bi .int [.var 4]) (.idx (.var 1) (.lit (.int 0)))) (.lit (.int 0))))) [.ret (.lit (.bl false))] []] [some (9, prD (ws.length : Int) rs), some (9, wtD m ws), some (9, .str r), some (9, .lst (iL (cnts ws.length r))), some (9, .int (dot ws (cnts ws.length r))), none] = r' → runs [f] [] tT [.set 3 (.call 0 [.idx (.var 0) (.lit (.int 0)), .var 2]), .set 4 (.bi .sum [.comp (.nm 5) (.rng1 (.idx (.var 0) (.lit (.int 0)))) [] (.bin .Mult (.idx (.idx (.var 1) (.lit (.int 1))) (.var 5)) (.idx (.var 3) (.var 5)))]), .ifs (.or (.and (.cmp .Eq (.idx (.var 1) (.lit (.int 0))) (.lit (.int 0))) (.cmp .NotEq (.var 4) (.lit (.int 0)))) (.and (.cmp .Gt (.idx (.var 1) (.lit (.int 0))) (.lit (.int 0))) (.cmp .NotEq (.bin .Mod (.bi .int [.var 4]) (.idx (.var 1) (.lit (.int 0)))) (.lit (.int 0))))) [.ret (.lit (.bl false))] []] [some (9, prD (ws.length : Int) rs), some (9, wtD m ws), some (9, .str r), y, z, none] = r' := fun r' h => by
        refine nSet (k := 9) (d := .lst (iL (cnts ws.length r))) (by simp [ev, evs, i0, hr]) (by simp) ?_
        simp only [List.set_cons_succ, List.set_cons_zero]
        refine nSet hsum (by simp) ?_
        simp only [List.set_cons_succ, List.set_cons_zero]
        exact h
      by_cases h : wtR m ws (cnts ws.length r) = 0
      · refine (Stp.nx ⟨us, some (9, .str r), some (9, .lst (iL (cnts ws.length r))), some (9, .int (dot ws (cnts ws.length r))), rfl, fun v mv => e2 v (by simp [mv]), rfl, by rw [e4]; unfold FitB; rw [List.all_cons, decide_eq_true h]; rfl⟩).to (body _ ?_)
        rw [decide_eq_true h] at ht
        exact nNo ht (runs_nil _)
      · refine (Stp.ret (by rw [e4]; unfold FitB; rw [List.all_cons, decide_eq_false h]; rfl)).to (body _ ?_)
        rw [decide_eq_false h] at ht
        rw [runs_cons, run1_ifs, ht, liftR_ok]
        simp [runs, run1, ev]
  · rintro ρ ⟨us, x, y, z, e1, e2, e3, e4⟩
    cases us with
    | cons r us => cases e1
    | nil =>
      subst e3
      rw [e4, runs_nil, seq_nx]
      exact fRet (by simp [ev]; rfl)
theorem holds_ok {m : Int} {ws : List Int} {rs : List (List Nat)} (hm0 : 0 ≤ m) (hP : POk ws.length rs) : m__law_holds [prD (ws.length : Int) rs, wtD m ws] = .ok (9, .bl (FitB m ws rs)) :=
  holds_gen (by have := hP.2.1; omega) hm0 (fun r hr => callD_ok (lsums_ok hP.1 hP.2.1 (lG_lB (hP.2.2.2 r hr).2.2)) rfl rfl) (fun r hr => by have := (hP.2.2.2 r hr).2.1; omega)
end Q

namespace Q
open PySem PySem.Spec L2 Px
/-! a drawn presentation -/
theorem cut_len {α : Type} (xs : List α) {a b : Nat} (h1 : a ≤ b) (h2 : b ≤ xs.length) : (cutL xs (some (a : Int)) (some (b : Int))).length = b - a := by
  unfold cutL
  rw [HT.sIx_nat, HT.sIx_nat, Nat.min_eq_left (show a ≤ xs.length by omega), Nat.min_eq_left h2, List.length_take, List.length_drop]
  omega
def lpB : List Cm := [.set 6 (.sl (.var 3) (.yes (.bin .Add (.bin .Mult (.lit (.int 8)) (.var 5)) (.lit (.int 1)))) (.yes (.bin .Add (.bin .Add (.bin .Mult (.lit (.int 8)) (.var 5)) (.lit (.int 2))) (.bin .Mod (.idx (.var 3) (.bin .Mult (.lit (.int 8)) (.var 5))) (.lit (.int 6)))))), .app 4 (.me .join (.lit (.str [])) [.comp (.nm 7) (.val (.var 6)) [] (.idx (.lit (.str [97, 65, 98, 66, 99, 67])) (.bin .Mod (.var 7) (.bin .Mult (.lit (.int 2)) (.var 2))))])]
theorem lpres_gen {f : Fn} (hf : ∀ (c : Int), ∃ vs, Drw 40 997 vs ∧ f [.int c, .int 40, .int 997] = .ok (9, .lst (iL vs))) (c s : Int) {g : Nat} (g1 : 1 ≤ g) (g3 : g ≤ 3) :
    ∃ rs : List (List Nat), (rs.length ≤ 4 ∧ ∀ r ∈ rs, 1 ≤ r.length ∧ r.length ≤ 6 ∧ r.all (lG g) = true) ∧ runFd [f] [] tT 3 8 c__law_presentation [.int c, .int s, .int (g : Int)] = .ok (9, prD (g : Int) rs) := by
  obtain ⟨vs, ⟨dl, dv⟩, hv⟩ := hf c
  have k1 : callD f [(some 9, .int c), (some 9, .int 40), (some 9, .int 997)] = .ok (some 9, .lst (iL vs)) := callD_ok hv rfl rfl
  rw [run_of (by rfl), show env0 3 8 [.int c, .int s, .int (g : Int)] = [some (9, .int c), some (9, .int s), some (9, .int (g : Int)), none, none, none, none, none] from rfl]
  unfold c__law_presentation
  have hg0 : (2 * (g : Int)) ≠ 0 := by omega
  have hmul : mulOk 2 (g : Int) = true := by simp [mulOk]
  have p0 := Int.fmod_nonneg_of_pos s (b := 5) (by decide)
  have p1 := Int.fmod_lt_of_pos s (b := 5) (by decide)
  obtain ⟨n, hn⟩ := Int.eq_ofNat_of_zero_le p0
  have e1 : runs [f] [] tT [.set 3 (.call 0 [.var 0, .lit (.int 40), .lit (.int 997)]), .set 4 (.list []), .for (.nm 5) (.rng1 (.bin .Mod (.var 1) (.lit (.int 5)))) lpB [], .ret (.tup [.var 2, .bi .tuple [.var 4]])] [some (9, .int c), some (9, .int s), some (9, .int (g : Int)), none, none, none, none, none] = (loopF (.nm 5) (runs [f] [] tT lpB) (runs [f] [] tT []) (rng1 0 (n : Int)) [some (9, .int c), some (9, .int s), some (9, .int (g : Int)), some (9, .lst (iL vs)), some (9, .lst []), none, none, none]).seq (runs [f] [] tT [.ret (.tup [.var 2, .bi .tuple [.var 4]])]) := by
    refine nSet (k := 9) (d := .lst (iL vs)) (by simp [ev, evs, k1]) (by simp) ?_
    simp only [List.set_cons_succ, List.set_cons_zero]
    refine nSet (k := 9) (d := .lst []) (by simp [ev, evs]; rfl) (by simp) ?_
    simp only [List.set_cons_succ, List.set_cons_zero]
    rw [runs_cons, run1_for, evI_rng1 (n := (n : Int)) (k := some 9) _ _ _ (by simp [ev, hn]) (by unfold inBig big; simp; omega), liftR_ok]
  have key : ∃ rs : List (List Nat), (rs.length ≤ 4 ∧ ∀ r ∈ rs, 1 ≤ r.length ∧ r.length ≤ 6 ∧ r.all (lG g) = true) ∧ ∃ x y z, loopF (.nm 5) (runs [f] [] tT lpB) (runs [f] [] tT []) (rng1 0 (n : Int)) [some (9, .int c), some (9, .int s), some (9, .int (g : Int)), some (9, .lst (iL vs)), some (9, .lst []), none, none, none] = .nx [some (9, .int c), some (9, .int s), some (9, .int (g : Int)), some (9, .lst (iL vs)), some (9, .lst (rs.map D.str)), x, y, z] := by
    have hr : rng1 0 (n : Int) = (List.range n).map fun (i : Nat) => D.int (i : Int) := by unfold rng1; simp
    rw [hr]
    refine loopF_rule (fun r => ∃ rs : List (List Nat), (rs.length ≤ 4 ∧ ∀ r ∈ rs, 1 ≤ r.length ∧ r.length ≤ 6 ∧ r.all (lG g) = true) ∧ ∃ x y z, r = .nx [some (9, .int c), some (9, .int s), some (9, .int (g : Int)), some (9, .lst (iL vs)), some (9, .lst (rs.map D.str)), x, y, z])
      (fun ds ρ => ∃ (j : Nat) (rs : List (List Nat)) (x y z : Option (Nat × D)), ds = ((List.range n).drop j).map (fun (i : Nat) => D.int (i : Int)) ∧ rs.length = j ∧ j ≤ n ∧ (∀ r ∈ rs, 1 ≤ r.length ∧ r.length ≤ 6 ∧ r.all (lG g) = true) ∧ ρ = [some (9, .int c), some (9, .int s), some (9, .int (g : Int)), some (9, .lst (iL vs)), some (9, .lst (rs.map D.str)), x, y, z]) ?_ ?_ _ _ ⟨0, [], none, none, none, by rw [List.drop_zero], rfl, Nat.zero_le _, (fun r m => by cases m), rfl⟩
    · rintro d ds ρ ⟨j, rs, x, y, z, h2, h3, h4, h5, h6⟩
      subst h6
      have hj : j < n := by
        by_cases hj : j < n
        · exact hj
        · rw [List.drop_of_length_le (by rw [List.length_range]; omega)] at h2; cases h2
      rw [List.drop_eq_getElem_cons (by rw [List.length_range]; exact hj), List.map_cons] at h2
      simp only [List.cons.injEq, List.getElem_range] at h2
      obtain ⟨h2, h7⟩ := h2
      subst h2
      refine ⟨_, by rw [bind_nm, if_pos (by simp)], ?_⟩
      simp only [List.set_cons_succ, List.set_cons_zero, kd_int, Option.getD_some]
      have j4 : j < 4 := by omega
      have hlt : 8 * j < vs.length := by omega
      have m8 : mulOk 8 (j : Int) = true := by simp [mulOk]
      have q0 := Int.fmod_nonneg_of_pos vs[8 * j] (b := 6) (by decide)
      have q1 := Int.fmod_lt_of_pos vs[8 * j] (b := 6) (by decide)
      obtain ⟨w, hw⟩ := Int.eq_ofNat_of_zero_le q0
      have ix := idx_iL none (vs := vs) (j := 8 * j) (v := vs[8 * j]) (List.getElem?_eq_getElem hlt)
      rw [show ((8 * j : Nat) : Int) = 8 * (j : Int) from by omega] at ix
      have cl := cut_len vs (a := 8 * j + 1) (b := 8 * j + 2 + w) (by omega) (by omega)
      have e6 : ev [f] [] (.sl (.var 3) (.yes (.bin .Add (.bin .Mult (.lit (.int 8)) (.var 5)) (.lit (.int 1)))) (.yes (.bin .Add (.bin .Add (.bin .Mult (.lit (.int 8)) (.var 5)) (.lit (.int 2))) (.bin .Mod (.idx (.var 3) (.bin .Mult (.lit (.int 8)) (.var 5))) (.lit (.int 6)))))) [some (9, .int c), some (9, .int s), some (9, .int (g : Int)), some (9, .lst (iL vs)), some (9, .lst (rs.map D.str)), some (9, .int (j : Int)), y, z] = .ok (some 9, .lst (iL (cutL vs (some ((8 * j + 1 : Nat) : Int)) (some ((8 * j + 2 + w : Nat) : Int))))) := by
        rw [show ((8 * j + 1 : Nat) : Int) = 8 * (j : Int) + 1 from by omega, show ((8 * j + 2 + w : Nat) : Int) = 8 * (j : Int) + 2 + (w : Int) from by omega, ← hw]
        simp [ev, evO, m8, ix, sl_iL]
      generalize cutL vs (some ((8 * j + 1 : Nat) : Int)) (some ((8 * j + 2 + w : Nat) : Int)) = us at e6 cl
      obtain ⟨t, t1, t2, t3⟩ := ev_join (F := [f]) (C := []) (ρ := [some (9, .int c), some (9, .int s), some (9, .int (g : Int)), some (9, .lst (iL vs)), some (9, .lst (rs.map D.str)), some (9, .int (j : Int)), some (9, .lst (iL us)), z]) (i := 7) (it := .val (.var 6)) (e := .idx (.lit (.str [97, 65, 98, 66, 99, 67])) (.bin .Mod (.var 7) (.bin .Mult (.lit (.int 2)) (.var 2)))) (vs := us) (P := fun c => lG g c = true)
        (by simp [evI, ev, items_iLn]) (by simp) (by rw [cl]; unfold line; omega) (fun v hv => by
          have q0 := Int.fmod_nonneg_of_pos v (b := 2 * (g : Int)) (by omega)
          have q1 := Int.fmod_lt_of_pos v (b := 2 * (g : Int)) (by omega)
          obtain ⟨ch, c1, c2⟩ := lettg g1 g3 q0 q1
          exact ⟨ch, c1, by simp [ev, hmul, hg0, c2]⟩)
      refine (Stp.nx ⟨j + 1, rs ++ [t], some (9, .int (j : Int)), some (9, .lst (iL us)), z, h7, by simp [h3], hj, fun r mr => ?_, rfl⟩).to ?_
      · unfold lpB
        refine nSet e6 (by simp) ?_
        simp only [List.set_cons_succ, List.set_cons_zero]
        have hl : (rs.map D.str).length < line := by rw [List.length_map]; unfold line; omega
        rw [runs_cons]
        simp only [run1, lstAt, List.getElem?_cons_succ, List.getElem?_cons_zero, t3, liftR_ok, needV_some]
        rw [if_pos hl]
        simp [setR, runs]
      · rcases List.mem_append.mp mr with mr | mr
        · exact h5 r mr
        · rw [List.mem_singleton.mp mr]
          exact ⟨by omega, by omega, List.all_eq_true.mpr t2⟩
    · rintro ρ ⟨j, rs, x, y, z, h2, h3, h4, h5, h6⟩
      subst h6
      rw [runs_nil]
      exact ⟨rs, ⟨by omega, h5⟩, x, y, z, rfl⟩
  obtain ⟨rs, hrs, x, y, z, key⟩ := key
  refine ⟨rs, hrs, ?_⟩
  rw [show [Cm.set 6 (.sl (.var 3) (.yes (.bin .Add (.bin .Mult (.lit (.int 8)) (.var 5)) (.lit (.int 1)))) (.yes (.bin .Add (.bin .Add (.bin .Mult (.lit (.int 8)) (.var 5)) (.lit (.int 2))) (.bin .Mod (.idx (.var 3) (.bin .Mult (.lit (.int 8)) (.var 5))) (.lit (.int 6)))))), .app 4 (.me .join (.lit (.str [])) [.comp (.nm 7) (.val (.var 6)) [] (.idx (.lit (.str [97, 65, 98, 66, 99, 67])) (.bin .Mod (.var 7) (.bin .Mult (.lit (.int 2)) (.var 2))))])] = lpB from rfl, e1, key, seq_nx]
  have et : biD .tuple [(none, .lst (rs.map D.str))] = .ok (at9 (.tup (rs.map D.str))) := by
    show (do let _ ← chd none (rs.map D.str); R.ok (at9 (.tup (rs.map D.str)))) = _
    rw [show chd none (rs.map D.str) = .ok 8 from by unfold chd; rw [strs_cont]; rfl]; rfl
  refine fRet ?_
  simp only [ev, evs, List.getElem?_cons_succ, List.getElem?_cons_zero, cont_int, cont_lst, Bool.false_eq_true, if_false, if_true, R.bind_ok, show ((9 : Nat) = 0) = False from by simp, et]
  rfl
theorem lpres_ok (c s : Int) {g : Nat} (g1 : 1 ≤ g) (g3 : g ≤ 3) : ∃ rs : List (List Nat), (rs.length ≤ 4 ∧ ∀ r ∈ rs, 1 ≤ r.length ∧ r.length ≤ 6 ∧ r.all (lG g) = true) ∧ m__law_presentation [.int c, .int s, .int (g : Int)] = .ok (9, prD (g : Int) rs) :=
  lpres_gen (fun c => values_ok c 40 997 (by decide) (by decide) (by decide)) c s g1 g3
end Q

namespace Q
open PySem PySem.Spec L2 Px
/-! weights of words that are put together -/
theorem dot_add : ∀ (ws : List Int) (ks : List Nat) (f h : Nat → Int), dot ws (ks.map fun k => f k + h k) = dot ws (ks.map f) + dot ws (ks.map h)
  | [], _, _, _ => by simp [dot]
  | _ :: _, [], _, _ => by simp [dot]
  | w :: ws, k :: ks, f, h => by
    have e : ∀ x xs, dot (w :: ws) (x :: xs) = w * x + dot ws xs := fun x xs => by simp [dot]
    rw [List.map_cons, List.map_cons, List.map_cons, e, e, e, dot_add ws ks f h, Int.mul_add]; omega
theorem dot_neg : ∀ (ws : List Int) (ks : List Nat) (f : Nat → Int), dot ws (ks.map fun k => - f k) = - dot ws (ks.map f)
  | [], _, _ => by simp [dot]
  | _ :: _, [], _ => by simp [dot]
  | w :: ws, k :: ks, f => by
    have e : ∀ x xs, dot (w :: ws) (x :: xs) = w * x + dot ws xs := fun x xs => by simp [dot]
    rw [List.map_cons, List.map_cons, e, e, dot_neg ws ks f, Int.mul_neg]; omega
theorem dot_app (ws : List Int) (g : Nat) (a b : List Nat) : dot ws (cnts g (a ++ b)) = dot ws (cnts g a) + dot ws (cnts g b) := by
  unfold cnts
  rw [← dot_add]
  congr 1
  exact List.map_congr_left fun k _ => sm_app k a b
theorem sm_inv (k : Nat) : ∀ t : List Nat, t.all lB = true → sm k (inv t) = - sm k t
  | [], _ => rfl
  | c :: t, h => by
    simp only [List.all_cons, Bool.and_eq_true] at h
    have e : inv (c :: t) = inv t ++ [iv c] := by unfold inv; simp
    have e2 : sm k (c :: t) = dl k c + sm k t := by unfold sm; simp
    rw [e, sm_app, sm_one, sm_inv k t h.2, dl_iv h.1, e2]; omega
theorem dot_inv (ws : List Int) (g : Nat) {t : List Nat} (h : t.all lB = true) : dot ws (cnts g (inv t)) = - dot ws (cnts g t) := by
  unfold cnts
  rw [← dot_neg]
  congr 1
  exact List.map_congr_left fun k _ => sm_inv k t h
/-- the weight is 0 -/
def Z0 (m x : Int) : Prop := if m = 0 then x = 0 else m ∣ x
theorem wt_z {m : Int} (hm : 0 ≤ m) (ws cs : List Int) : wtR m ws cs = 0 ↔ Z0 m (dot ws cs) := by
  unfold wtR Z0
  by_cases h : m = 0
  · simp [h]
  · rw [if_neg h, if_neg h, Int.fmod_eq_emod_of_nonneg _ hm]
    exact ⟨Int.dvd_of_emod_eq_zero, Int.emod_eq_zero_of_dvd⟩
theorem z_neg {m x : Int} (h : Z0 m x) : Z0 m (-x) := by
  unfold Z0 at *
  split
  · rename_i e; rw [if_pos e] at h; omega
  · rename_i e; rw [if_neg e] at h; exact (Int.dvd_neg).mpr h
theorem wt_add {m : Int} (hm : 0 ≤ m) {ws as bs cs : List Int} {p : Int} (hz : Z0 m p) (h : dot ws cs = dot ws as + p) : wtR m ws cs = wtR m ws as := by
  unfold wtR Z0 at *
  by_cases e : m = 0
  · rw [if_pos e] at hz ⊢; rw [if_pos e]; omega
  · rw [if_neg e] at hz ⊢
    rw [if_neg e, Int.fmod_eq_emod_of_nonneg _ hm, Int.fmod_eq_emod_of_nonneg _ hm, h]
    obtain ⟨q, hq⟩ := hz
    rw [hq, Int.add_mul_emod_self_left]
/-- a piece that changes no weight -/
def Pc (g : Nat) (rs : List (List Nat)) (p : List Nat) : Prop := p.all (lG g) = true ∧ ∀ (m : Int) (ws : List Int), 0 ≤ m → ws.length = g → FitB m ws rs = true → Z0 m (dot ws (cnts g p))
theorem pc_rel {g : Nat} {rs : List (List Nat)} {r : List Nat} (hr : r ∈ rs) (h : r.all (lG g) = true) : Pc g rs r := ⟨h, fun m ws hm hw hf => by
  have := List.all_eq_true.mp hf r hr
  rw [hw] at this
  exact (wt_z hm ws _).mp (of_decide_eq_true this)⟩
theorem lG_iv {g c : Nat} (h : lG g c = true) : lG g (iv c) = true := by
  have hb := (Bool.and_eq_true_iff.mp h).1
  have hg := (Bool.and_eq_true_iff.mp h).2
  unfold lG
  rw [iv_in hb, Bool.true_and]
  have : gn (iv c) = gn c := by rcases l6 hb with e | e | e | e | e | e <;> subst e <;> rfl
  rw [this]; exact hg
theorem lG_inv {g : Nat} {t : List Nat} (h : t.all (lG g) = true) : (inv t).all (lG g) = true := by
  rw [List.all_eq_true] at h ⊢
  intro c hc
  obtain ⟨d, hd, e⟩ := List.mem_map.mp hc
  subst e
  exact lG_iv (h d (by simpa using hd))
theorem pc_inv {g : Nat} {rs : List (List Nat)} {p : List Nat} (h : Pc g rs p) : Pc g rs (inv p) := ⟨lG_inv h.1, fun m ws hm hw hf => by
  rw [dot_inv ws g (lG_lB h.1)]
  exact z_neg (h.2 m ws hm hw hf)⟩
theorem pc_cut {g : Nat} {rs : List (List Nat)} {c : Nat} (h : lG g c = true) : Pc g rs [c, iv c] := by
  have hb := (Bool.and_eq_true_iff.mp h).1
  refine ⟨by simp [h, lG_iv h], fun m ws hm hw hf => ?_⟩
  have e : ([c, iv c] : List Nat) = [c] ++ inv [c] := rfl
  rw [e, dot_app, dot_inv ws g (by simp [hb])]
  have : dot ws (cnts g [c]) + -dot ws (cnts g [c]) = 0 := by omega
  rw [this]
  unfold Z0
  split
  · rfl
  · exact Int.dvd_zero m
/-- words of one weight -/
def Sw (g : Nat) (rs : List (List Nat)) (a b : List Nat) : Prop := ∀ (m : Int) (ws : List Int), 0 ≤ m → ws.length = g → FitB m ws rs = true → wtR m ws (cnts g b) = wtR m ws (cnts g a)
theorem sw_ins {g : Nat} {rs : List (List Nat)} {t p : List Nat} (h : Pc g rs p) (a : Nat) : Sw g rs t (t.take a ++ p ++ t.drop a) := fun m ws hm hw hf => by
  refine wt_add hm (as := cnts g t) (bs := []) (h.2 m ws hm hw hf) ?_
  have e : dot ws (cnts g t) = dot ws (cnts g (t.take a)) + dot ws (cnts g (t.drop a)) := by rw [← dot_app, List.take_append_drop]
  rw [dot_app, dot_app, e]; omega
end Q

namespace Q
open PySem PySem.Spec L2 Px
theorem slS_to (t : List Nat) {a : Nat} (ha : a ≤ t.length) (hl : t.length ≤ line) : slD (some 9, .str t) none (some (a : Int)) = .ok (at9 (.str (t.take a))) := by
  show (if t.length ≤ line then R.ok (at9 (.str (cutL t none (some (a : Int))))) else .stuck) = _
  rw [if_pos hl]
  unfold cutL
  rw [HT.sIx_none, HT.sIx_nat, List.drop_zero, Nat.sub_zero, Nat.min_eq_left ha]
theorem slS_from (t : List Nat) {a : Nat} (ha : a ≤ t.length) (hl : t.length ≤ line) : slD (some 9, .str t) (some (a : Int)) none = .ok (at9 (.str (t.drop a))) := by
  show (if t.length ≤ line then R.ok (at9 (.str (cutL t (some (a : Int)) none))) else .stuck) = _
  rw [if_pos hl]
  unfold cutL
  rw [HT.sIx_none, HT.sIx_nat, Nat.min_eq_left ha, List.take_of_length_le (by rw [List.length_drop]; omega)]
def mvB : List Cm := [.set 6 (.bin .Mod (.idx (.var 4) (.bin .Add (.bin .Mult (.lit (.int 3)) (.var 5)) (.lit (.int 1)))) (.lit (.int 4))), .set 7 (.bin .Mod (.idx (.var 4) (.bin .Add (.bin .Mult (.lit (.int 3)) (.var 5)) (.lit (.int 2)))) (.bin .Add (.bi .len [.var 0]) (.lit (.int 1)))), .set 8 (.idx (.lit (.str [97, 65, 98, 66, 99, 67])) (.bin .Mod (.idx (.var 4) (.bin .Add (.bin .Mult (.lit (.int 3)) (.var 5)) (.lit (.int 3)))) (.bin .Mult (.lit (.int 2)) (.var 2)))), .set 9 (.bin .Add (.var 8) (.call 1 [.var 8])), .ifs (.and (.cmp .Gt (.var 6) (.lit (.int 0))) (.cmp .Gt (.bi .len [.idx (.var 1) (.lit (.int 1))]) (.lit (.int 0)))) [.set 9 (.idx (.idx (.var 1) (.lit (.int 1))) (.bin .Mod (.idx (.var 4) (.bin .Add (.bin .Mult (.lit (.int 3)) (.var 5)) (.lit (.int 3)))) (.bi .len [.idx (.var 1) (.lit (.int 1))]))), .ifs (.cmp .Eq (.var 6) (.lit (.int 1))) [.set 9 (.call 1 [.var 9])] []] [], .ifs (.cmp .LtE (.bin .Add (.bi .len [.var 0]) (.bi .len [.var 9])) (.lit (.int 56))) [.set 0 (.bin .Add (.bin .Add (.sl (.var 0) (.no) (.yes (.var 7))) (.var 9)) (.sl (.var 0) (.yes (.var 7)) (.no)))] []]
theorem nIf {F : List Fn} {C : List D} {T : Tab} {ρ ρ' : Px.Env} {rest a b : List Cm} {r : Rs} {c : Tx} {t : Bool} (h : tst F C c ρ = .ok t) (h1 : (if t = true then runs F C T a ρ else runs F C T b ρ) = .nx ρ') (hr : runs F C T rest ρ' = r) : runs F C T (.ifs c a b :: rest) ρ = r := by
  rw [runs_cons, run1_ifs, h, liftR_ok, h1, seq_nx]; exact hr
section
variable {fv fi : Fn} {g : Nat} {rs : List (List Nat)}
theorem mv_step (hi : ∀ t : List Nat, t.length ≤ line → t.all lB = true → callD fi [(some 9, .str t)] = .ok (at9 (.str (inv t)))) (g1 : 1 ≤ g) (g3 : g ≤ 3) (hr : ∀ r ∈ rs, r.length ≤ 20 ∧ r.all (lG g) = true)
    {vs : List Int} (dl : vs.length = 19) {j : Nat} (hj : j < 6) {t : List Nat} (ht : t.all (lG g) = true) (hl : t.length ≤ 56) (c x6 x7 x8 x9 : Option (Nat × D)) :
    ∃ (t' : List Nat) (y6 y7 y8 y9 : Option (Nat × D)), t'.all (lG g) = true ∧ t'.length ≤ 56 ∧ Sw g rs t t' ∧
      runs [fv, fi] [] tT mvB [some (9, .str t), some (9, prD (g : Int) rs), some (9, .int (g : Int)), c, some (9, .lst (iL vs)), some (9, .int (j : Int)), x6, x7, x8, x9] = .nx [some (9, .str t'), some (9, prD (g : Int) rs), some (9, .int (g : Int)), c, some (9, .lst (iL vs)), some (9, .int (j : Int)), y6, y7, y8, y9] := by
  have m3 : mulOk 3 (j : Int) = true := by simp [mulOk]
  have hmul : mulOk 2 (g : Int) = true := by simp [mulOk]
  have hg0 : (2 * (g : Int)) ≠ 0 := by omega
  have at_ : ∀ d : Nat, d ≤ 3 → ∃ v, vs[3 * j + d]? = some v ∧ idxD (none, .lst (iL vs)) (some 9, .int (3 * (j : Int) + (d : Int))) = .ok (at9 (.int v)) := fun d hd => by
    have h : 3 * j + d < vs.length := by omega
    refine ⟨vs[3 * j + d], List.getElem?_eq_getElem h, ?_⟩
    have := idx_iL none (vs := vs) (j := 3 * j + d) (List.getElem?_eq_getElem h)
    rw [show ((3 * j + d : Nat) : Int) = 3 * (j : Int) + (d : Int) from by omega] at this
    exact this
  obtain ⟨v1, _, i1⟩ := at_ 1 (by omega)
  obtain ⟨v2, _, i2⟩ := at_ 2 (by omega)
  obtain ⟨v3, _, i3⟩ := at_ 3 (by omega)
  simp only [Int.cast_ofNat_Int] at i1 i2 i3
  have ll : t.length ≤ line := by unfold line; omega
  have a0 := Int.fmod_nonneg_of_pos v2 (b := (t.length : Int) + 1) (by omega)
  have a1 := Int.fmod_lt_of_pos v2 (b := (t.length : Int) + 1) (by omega)
  have hne : ((t.length : Int) + 1) ≠ 0 := by omega
  obtain ⟨a, ha⟩ := Int.eq_ofNat_of_zero_le a0
  have hal : a ≤ t.length := by omega
  have q0 := Int.fmod_nonneg_of_pos v3 (b := 2 * (g : Int)) (by omega)
  have q1 := Int.fmod_lt_of_pos v3 (b := 2 * (g : Int)) (by omega)
  obtain ⟨ch, c1, c2⟩ := lettg g1 g3 q0 q1
  have hb := (Bool.and_eq_true_iff.mp c1).1
  have ci := hi [ch] (by unfold line; simp) (by simp [hb])
  have ei : inv [ch] = [iv ch] := rfl
  rw [ei] at ci
  -- the piece
  have piece : ∃ p : List Nat, Pc g rs p ∧ p.length ≤ 20 ∧ ∃ b : Bool, tst [fv, fi] [] (.and (.cmp .Gt (.var 6) (.lit (.int 0))) (.cmp .Gt (.bi .len [.idx (.var 1) (.lit (.int 1))]) (.lit (.int 0)))) [some (9, .str t), some (9, prD (g : Int) rs), some (9, .int (g : Int)), c, some (9, .lst (iL vs)), some (9, .int (j : Int)), some (9, .int (v1.fmod 4)), some (9, .int (a : Int)), some (9, .str [ch]), some (9, .str [ch, iv ch])] = .ok b ∧
      (if b = true then runs [fv, fi] [] tT [.set 9 (.idx (.idx (.var 1) (.lit (.int 1))) (.bin .Mod (.idx (.var 4) (.bin .Add (.bin .Mult (.lit (.int 3)) (.var 5)) (.lit (.int 3)))) (.bi .len [.idx (.var 1) (.lit (.int 1))]))), .ifs (.cmp .Eq (.var 6) (.lit (.int 1))) [.set 9 (.call 1 [.var 9])] []] [some (9, .str t), some (9, prD (g : Int) rs), some (9, .int (g : Int)), c, some (9, .lst (iL vs)), some (9, .int (j : Int)), some (9, .int (v1.fmod 4)), some (9, .int (a : Int)), some (9, .str [ch]), some (9, .str [ch, iv ch])] else runs [fv, fi] [] tT [] [some (9, .str t), some (9, prD (g : Int) rs), some (9, .int (g : Int)), c, some (9, .lst (iL vs)), some (9, .int (j : Int)), some (9, .int (v1.fmod 4)), some (9, .int (a : Int)), some (9, .str [ch]), some (9, .str [ch, iv ch])]) = .nx [some (9, .str t), some (9, prD (g : Int) rs), some (9, .int (g : Int)), c, some (9, .lst (iL vs)), some (9, .int (j : Int)), some (9, .int (v1.fmod 4)), some (9, .int (a : Int)), some (9, .str [ch]), some (9, .str p)] := by
    have ip : idxD (some 9, prD (g : Int) rs) (some 9, .int 1) = .ok (at9 (.tup (rs.map D.str))) := rfl
    by_cases hk : 0 < v1.fmod 4
    · by_cases hn : 0 < (rs.length : Int)
      · have r0 := Int.fmod_nonneg_of_pos v3 hn
        have r1 := Int.fmod_lt_of_pos v3 hn
        obtain ⟨i, hi'⟩ := Int.eq_ofNat_of_zero_le r0
        have hil : i < rs.length := by omega
        have hr' := hr rs[i] (List.getElem_mem hil)
        have pr := pc_rel (List.getElem_mem hil) hr'.2
        have ir : idxD (some 9, .tup (rs.map D.str)) (some 9, .int (i : Int)) = .ok (at9 (.str rs[i])) := by
          show (match atI (rs.map D.str) (i : Int) with | some d => _ | none => _) = _
          rw [atI_nat (j := i) (v := .str rs[i]) (by simp [List.getElem?_map, hil])]; rfl
        have hn0 : ¬ (rs.length : Int) = 0 := by omega
        have e9 : ev [fv, fi] [] (.idx (.idx (.var 1) (.lit (.int 1))) (.bin .Mod (.idx (.var 4) (.bin .Add (.bin .Mult (.lit (.int 3)) (.var 5)) (.lit (.int 3)))) (.bi .len [.idx (.var 1) (.lit (.int 1))]))) [some (9, .str t), some (9, prD (g : Int) rs), some (9, .int (g : Int)), c, some (9, .lst (iL vs)), some (9, .int (j : Int)), some (9, .int (v1.fmod 4)), some (9, .int (a : Int)), some (9, .str [ch]), some (9, .str [ch, iv ch])] = .ok (at9 (.str rs[i])) := by
          simp only [ev, evs, List.getElem?_cons_succ, List.getElem?_cons_zero, cont_tup, cont_lst, cont_int, if_true, show ((9 : Nat) = 0) = False from by simp, Bool.false_eq_true, if_false, R.bind_ok, ip, mul_i, m3, add_i, i3, len_t, List.length_map, mod_i, ne_eq, hn0, not_false_eq_true, hi', ir]
        have tt : tst [fv, fi] [] (.and (.cmp .Gt (.var 6) (.lit (.int 0))) (.cmp .Gt (.bi .len [.idx (.var 1) (.lit (.int 1))]) (.lit (.int 0)))) [some (9, .str t), some (9, prD (g : Int) rs), some (9, .int (g : Int)), c, some (9, .lst (iL vs)), some (9, .int (j : Int)), some (9, .int (v1.fmod 4)), some (9, .int (a : Int)), some (9, .str [ch]), some (9, .str [ch, iv ch])] = .ok true := by
          simp only [tst, ev, evs, List.getElem?_cons_succ, List.getElem?_cons_zero, cont_tup, cont_int, Bool.false_eq_true, if_false, if_true, R.bind_ok, gt_i, hk, decide_true, ip, len_t, List.length_map, hn]
        by_cases h1 : v1.fmod 4 = 1
        · have ciR := hi rs[i] (by unfold line; omega) (lG_lB hr'.2)
          refine ⟨inv rs[i], pc_inv pr, by simp; exact hr'.1, true, tt, ?_⟩
          rw [if_pos rfl]
          refine nSet e9 (by simp) ?_
          simp only [List.set_cons_succ, List.set_cons_zero]
          refine nIf (t := true) (by simp [tst, ev, h1]) ?_ (runs_nil _)
          rw [if_pos rfl]
          refine nSet (k := 9) (d := .str (inv rs[i])) (by simp only [ev, evs, List.getElem?_cons_succ, List.getElem?_cons_zero, cont_str, Bool.false_eq_true, if_false, R.bind_ok, ciR]) (by simp) (runs_nil _)
        · refine ⟨rs[i], pr, hr'.1, true, tt, ?_⟩
          rw [if_pos rfl]
          refine nSet e9 (by simp) ?_
          simp only [List.set_cons_succ, List.set_cons_zero]
          exact nNo (by simp [tst, ev, h1]) (runs_nil _)
      · refine ⟨[ch, iv ch], pc_cut c1, by simp, false, ?_, by simp [runs]⟩
        have : decide (0 < (rs.length : Int)) = false := decide_eq_false hn
        simp only [tst, ev, evs, List.getElem?_cons_succ, List.getElem?_cons_zero, cont_tup, cont_int, Bool.false_eq_true, if_false, if_true, R.bind_ok, gt_i, hk, decide_true, ip, len_t, List.length_map, this]
    · refine ⟨[ch, iv ch], pc_cut c1, by simp, false, ?_, by simp [runs]⟩
      simp [tst, ev, hk]
  obtain ⟨p, hp, hpl, b, tb, eb⟩ := piece
  have pl : p.length ≤ line := by unfold line; omega
  have pre : ∀ r : Rs, runs [fv, fi] [] tT [.ifs (.cmp .LtE (.bin .Add (.bi .len [.var 0]) (.bi .len [.var 9])) (.lit (.int 56))) [.set 0 (.bin .Add (.bin .Add (.sl (.var 0) (.no) (.yes (.var 7))) (.var 9)) (.sl (.var 0) (.yes (.var 7)) (.no)))] []] [some (9, .str t), some (9, prD (g : Int) rs), some (9, .int (g : Int)), c, some (9, .lst (iL vs)), some (9, .int (j : Int)), some (9, .int (v1.fmod 4)), some (9, .int (a : Int)), some (9, .str [ch]), some (9, .str p)] = r → runs [fv, fi] [] tT mvB [some (9, .str t), some (9, prD (g : Int) rs), some (9, .int (g : Int)), c, some (9, .lst (iL vs)), some (9, .int (j : Int)), x6, x7, x8, x9] = r := fun r h => by
    unfold mvB
    refine nSet (k := 9) (d := .int (v1.fmod 4)) (by simp [ev, m3, i1]) (by simp) ?_
    simp only [List.set_cons_succ, List.set_cons_zero]
    refine nSet (k := 9) (d := .int (a : Int)) (by simp [ev, evs, m3, i2, ll, hne, ha]) (by simp) ?_
    simp only [List.set_cons_succ, List.set_cons_zero]
    refine nSet (k := 9) (d := .str [ch]) (by simp [ev, m3, i3, hmul, hg0, c2]) (by simp) ?_
    simp only [List.set_cons_succ, List.set_cons_zero]
    refine nSet (k := 9) (d := .str [ch, iv ch]) (by simp [ev, evs, ci, line]) (by simp) ?_
    simp only [List.set_cons_succ, List.set_cons_zero]
    exact nIf tb eb h
  by_cases h56 : (t.length : Int) + (p.length : Int) ≤ 56
  · have s1 := slS_to t hal ll
    have s2 := slS_from t hal ll
    have l1 : (t.take a).length + p.length ≤ line := by rw [List.length_take]; unfold line; omega
    have l2 : (t.take a ++ p).length + (t.drop a).length ≤ line := by rw [List.length_append, List.length_take, List.length_drop]; unfold line; omega
    refine ⟨t.take a ++ p ++ t.drop a, some (9, .int (v1.fmod 4)), some (9, .int (a : Int)), some (9, .str [ch]), some (9, .str p), ?_, ?_, sw_ins hp a, pre _ ?_⟩
    · have ht' := List.all_eq_true.mp ht
      rw [List.all_append, List.all_append, hp.1, Bool.and_true]
      rw [show (t.take a).all (lG g) = true from List.all_eq_true.mpr fun c m => ht' c (List.mem_of_mem_take m), show (t.drop a).all (lG g) = true from List.all_eq_true.mpr fun c m => ht' c (List.mem_of_mem_drop m)]; rfl
    · rw [List.length_append, List.length_append, List.length_take, List.length_drop]; omega
    · refine nIf (t := true) (by simp [tst, ev, evs, ll, pl, h56]) ?_ (runs_nil _)
      rw [if_pos rfl]
      have e0 : ev [fv, fi] [] (.bin .Add (.bin .Add (.sl (.var 0) (.no) (.yes (.var 7))) (.var 9)) (.sl (.var 0) (.yes (.var 7)) (.no))) [some (9, .str t), some (9, prD (g : Int) rs), some (9, .int (g : Int)), c, some (9, .lst (iL vs)), some (9, .int (j : Int)), some (9, .int (v1.fmod 4)), some (9, .int (a : Int)), some (9, .str [ch]), some (9, .str p)] = .ok (at9 (.str (t.take a ++ p ++ t.drop a))) := by
        simp only [ev, evO, List.getElem?_cons_succ, List.getElem?_cons_zero, cont_str, cont_int, Bool.false_eq_true, if_false, R.bind_ok, s1, s2, add_s, l1, l2, if_true]
      exact nSet e0 (by simp) (runs_nil _)
  · refine ⟨t, some (9, .int (v1.fmod 4)), some (9, .int (a : Int)), some (9, .str [ch]), some (9, .str p), ht, hl, fun m ws h1 h2 h3 => rfl, pre _ ?_⟩
    exact nNo (by simp [tst, ev, evs, ll, pl, h56]) (runs_nil _)
theorem moved_gen (hv : ∀ c : Int, ∃ vs, Drw 19 997 vs ∧ fv [.int c, .int 19, .int 997] = .ok (9, .lst (iL vs))) (hi : ∀ t : List Nat, t.length ≤ line → t.all lB = true → callD fi [(some 9, .str t)] = .ok (at9 (.str (inv t)))) (g1 : 1 ≤ g) (g3 : g ≤ 3) (hr : ∀ r ∈ rs, r.length ≤ 20 ∧ r.all (lG g) = true)
    {t : List Nat} (ht : t.all (lG g) = true) (hl : t.length ≤ 56) (c : Int) : ∃ t' : List Nat, t'.all (lG g) = true ∧ t'.length ≤ 56 ∧ Sw g rs t t' ∧ runFd [fv, fi] [] tT 4 10 c__law_moved [.str t, prD (g : Int) rs, .int (g : Int), .int c] = .ok (9, .str t') := by
  obtain ⟨vs, ⟨dl, dv⟩, hvs⟩ := hv c
  have k1 : callD fv [(some 9, .int c), (some 9, .int 19), (some 9, .int 997)] = .ok (some 9, .lst (iL vs)) := callD_ok hvs rfl rfl
  rw [run_of (by rfl), show env0 4 10 [.str t, prD (g : Int) rs, .int (g : Int), .int c] = [some (9, .str t), some (9, prD (g : Int) rs), some (9, .int (g : Int)), some (9, .int c), none, none, none, none, none, none] from rfl]
  have h0 : 0 < vs.length := by omega
  have i0 := idx_iL none (vs := vs) (j := 0) (v := vs[0]) (List.getElem?_eq_getElem h0)
  simp only [Int.cast_ofNat_Int] at i0
  have p0 := Int.fmod_nonneg_of_pos vs[0] (b := 7) (by decide)
  have p1 := Int.fmod_lt_of_pos vs[0] (b := 7) (by decide)
  obtain ⟨n, hn⟩ := Int.eq_ofNat_of_zero_le p0
  have e1 : runs [fv, fi] [] tT c__law_moved [some (9, .str t), some (9, prD (g : Int) rs), some (9, .int (g : Int)), some (9, .int c), none, none, none, none, none, none] = (loopF (.nm 5) (runs [fv, fi] [] tT mvB) (runs [fv, fi] [] tT []) (rng1 0 (n : Int)) [some (9, .str t), some (9, prD (g : Int) rs), some (9, .int (g : Int)), some (9, .int c), some (9, .lst (iL vs)), none, none, none, none, none]).seq (runs [fv, fi] [] tT [.retv 0]) := by
    unfold c__law_moved
    refine nSet (k := 9) (d := .lst (iL vs)) (by simp [ev, evs, k1]) (by simp) ?_
    simp only [List.set_cons_succ, List.set_cons_zero]
    rw [runs_cons, run1_for, evI_rng1 (n := (n : Int)) (k := some 9) _ _ _ (by simp [ev, i0, hn]) (by unfold inBig big; simp; omega), liftR_ok]
    rfl
  have key : ∃ t' : List Nat, t'.all (lG g) = true ∧ t'.length ≤ 56 ∧ Sw g rs t t' ∧ ∃ ρ', loopF (.nm 5) (runs [fv, fi] [] tT mvB) (runs [fv, fi] [] tT []) (rng1 0 (n : Int)) [some (9, .str t), some (9, prD (g : Int) rs), some (9, .int (g : Int)), some (9, .int c), some (9, .lst (iL vs)), none, none, none, none, none] = .nx (some (9, .str t') :: ρ') := by
    refine loopF_rule (fun r => ∃ t' : List Nat, t'.all (lG g) = true ∧ t'.length ≤ 56 ∧ Sw g rs t t' ∧ ∃ ρ', r = .nx (some (9, .str t') :: ρ'))
      (fun ds ρ => ∃ (u : List Nat) (x5 x6 x7 x8 x9 : Option (Nat × D)), (∀ d ∈ ds, ∃ j : Nat, d = .int (j : Int) ∧ j < 6) ∧ u.all (lG g) = true ∧ u.length ≤ 56 ∧ Sw g rs t u ∧ ρ = [some (9, .str u), some (9, prD (g : Int) rs), some (9, .int (g : Int)), some (9, .int c), some (9, .lst (iL vs)), x5, x6, x7, x8, x9]) ?_ ?_ _ _
      ⟨t, none, none, none, none, none, fun d hd => let ⟨j, e, h⟩ := rng1_int hd; ⟨j, e, by omega⟩, ht, hl, fun m ws h1 h2 h3 => rfl, rfl⟩
    · rintro d ds ρ ⟨u, x5, x6, x7, x8, x9, h1, h2, h3, h4, h5⟩
      subst h5
      obtain ⟨j, e, hj⟩ := h1 d (by simp)
      subst e
      refine ⟨_, by rw [bind_nm, if_pos (by simp)], ?_⟩
      simp only [List.set_cons_succ, List.set_cons_zero, kd_int, Option.getD_some]
      obtain ⟨u', y6, y7, y8, y9, q1, q2, q3, q4⟩ := mv_step (fv := fv) hi g1 g3 hr dl hj h2 h3 (some (9, .int c)) x6 x7 x8 x9
      exact (Stp.nx ⟨u', some (9, .int (j : Int)), y6, y7, y8, y9, fun d m => h1 d (by simp [m]), q1, q2, fun m ws a1 a2 a3 => (q3 m ws a1 a2 a3).trans (h4 m ws a1 a2 a3), rfl⟩).to q4
    · rintro ρ ⟨u, x5, x6, x7, x8, x9, h1, h2, h3, h4, h5⟩
      subst h5
      rw [runs_nil]
      exact ⟨u, h2, h3, h4, _, rfl⟩
  obtain ⟨t', q1, q2, q3, ρ', key⟩ := key
  refine ⟨t', q1, q2, q3, ?_⟩
  rw [e1, key, seq_nx]
  exact fRetv rfl
end
theorem moved_ok {g : Nat} {rs : List (List Nat)} (g1 : 1 ≤ g) (g3 : g ≤ 3) (hr : ∀ r ∈ rs, r.length ≤ 20 ∧ r.all (lG g) = true) {t : List Nat} (ht : t.all (lG g) = true) (hl : t.length ≤ 56) (c : Int) : ∃ t' : List Nat, t'.all (lG g) = true ∧ t'.length ≤ 56 ∧ Sw g rs t t' ∧ m__law_moved [.str t, prD (g : Int) rs, .int (g : Int), .int c] = .ok (9, .str t') :=
  moved_gen (fun c => values_ok c 19 997 (by decide) (by decide) (by decide)) (fun t h1 h2 => callD_of (linv_ok t h1 h2) rfl (fun _ => rfl)) g1 g3 hr ht hl c
end Q

namespace Q
open PySem PySem.Spec L2 Px
/-- weights that a presentation of g generators does not take -/
def Wr (g : Nat) (m : Int) (ws : List Int) : Prop := (m < 0 ∨ m = 1 ∨ ws.length = 0 ∨ 3 < ws.length) ∨ (WOk m ws ∧ ws.length ≠ g)
section
variable {fc fpr fv fh ft fw fm fwo : Fn} {ns : List Int} {cl : Nat → Int}
theorem law_gen (hc : ∀ k : Nat, fc [.lst (iL ns), .int (k : Int)] = .ok (9, .int (cl k)))
  (hpr : ∀ (c s : Int) (g : Nat), 1 ≤ g → g ≤ 3 → ∃ rs : List (List Nat), (rs.length ≤ 4 ∧ ∀ r ∈ rs, 1 ≤ r.length ∧ r.length ≤ 6 ∧ r.all (lG g) = true) ∧ fpr [.int c, .int s, .int (g : Int)] = .ok (9, prD (g : Int) rs))
  (hv : ∀ (c : Int) (n : Nat), n ≤ 1000 → ∃ vs, Drw n 7 vs ∧ fv [.int c, .int (n : Int), .int 7] = .ok (9, .lst (iL vs)))
  (hh : ∀ (m : Int) (ws : List Int) (rs : List (List Nat)), 0 ≤ m → POk ws.length rs → fh [prD (ws.length : Int) rs, wtD m ws] = .ok (9, .bl (FitB m ws rs)))
  (ht : ∀ (m : Int) (ws : List Int) (rs : List (List Nat)), WOk m ws → m.natAbs < 1073741824 → POk ws.length rs → ft [prD (ws.length : Int) rs, wtD m ws] = .ok (9, .bl (FitB m ws rs)))
  (hte : ∀ (g : Nat) (m : Int) (ws : List Int), 1 ≤ g → g ≤ 3 → ft [prD (g : Int) [[]], wtD m ws] = .ok (9, .str presS))
  (ht0 : ∀ (m : Int) (ws : List Int), ft [prD 0 [], wtD m ws] = .ok (9, .str presS))
  (htw : ∀ (g : Nat) (rs : List (List Nat)) (m : Int) (ws : List Int), POk g rs → Wr g m ws → ft [prD (g : Int) rs, wtD m ws] = .ok (9, .str wtsS))
  (hw : ∀ (c : Int) (g : Nat), 1 ≤ g → g ≤ 3 → ∃ t : List Nat, t.all (lG g) = true ∧ t.length ≤ 8 ∧ fw [.int c, .int (g : Int), .int 8] = .ok (9, .str t))
  (hm : ∀ (g : Nat) (rs : List (List Nat)) (t : List Nat) (c : Int), 1 ≤ g → g ≤ 3 → (∀ r ∈ rs, r.length ≤ 20 ∧ r.all (lG g) = true) → t.all (lG g) = true → t.length ≤ 56 → ∃ t' : List Nat, t'.all (lG g) = true ∧ t'.length ≤ 56 ∧ Sw g rs t t' ∧ fm [.str t, prD (g : Int) rs, .int (g : Int), .int c] = .ok (9, .str t'))
  (hwo : ∀ (m : Int) (ws : List Int) (t : List Nat), WOk m ws → m.natAbs < 1073741824 → gG ws.length t = true → fwo [wtD m ws, .str t] = .ok (9, .int (wtR m ws (cnts ws.length t)))) :
    runFd [fc, fpr, fv, fh, ft, fw, fm, fwo] [] tT 1 12 c_law [.lst (iL ns)] = .ok (9, .bl true) := by
  rw [run_of (by rfl), show env0 1 12 [.lst (iL ns)] = [some (0, .lst (iL ns)), none, none, none, none, none, none, none, none, none, none, none] from rfl]
  have cc : ∀ k : Nat, callD fc [(some 0, .lst (iL ns)), (some 9, .int (k : Int))] = .ok (at9 (.int (cl k))) := fun k => callD_at (hc k) rfl rfl (fun _ => rfl)
  have c0 := cc 0
  have c1 := cc 1
  have c2 := cc 2
  have c3 := cc 3
  have c4 := cc 4
  have c5 := cc 5
  have c6 := cc 6
  have c7 := cc 7
  simp only [Int.cast_ofNat_Int] at c0 c1 c2 c3 c4 c5 c6 c7
  have cv : ∀ (c : Int) (n : Nat), n ≤ 1000 → ∃ vs, Drw n 7 vs ∧ callD fv [(some 9, .int c), (some 9, .int (n : Int)), (some 9, .int 7)] = .ok (some 9, .lst (iL vs)) := fun c n h => by
    obtain ⟨vs, h1, h2⟩ := hv c n h
    exact ⟨vs, h1, callD_ok h2 rfl rfl⟩
  have ch := fun (m : Int) (ws : List Int) rs h1 h2 => callD_at (ks := [(some 9, prD (ws.length : Int) rs), (some 9, wtD m ws)]) (hh m ws rs h1 h2) rfl rfl (fun _ => rfl)
  have ct := fun (m : Int) (ws : List Int) rs h1 h2 h3 => callD_at (ks := [(some 9, prD (ws.length : Int) rs), (some 9, wtD m ws)]) (ht m ws rs h1 h2 h3) rfl rfl (fun _ => rfl)
  have cte := fun (g : Nat) (m : Int) (ws : List Int) h1 h2 => callD_at (ks := [(some 9, prD (g : Int) [[]]), (some 9, wtD m ws)]) (hte g m ws h1 h2) rfl rfl (fun _ => rfl)
  have ct0 := fun (m : Int) (ws : List Int) => callD_at (ks := [(some 9, prD 0 []), (some 9, wtD m ws)]) (ht0 m ws) rfl rfl (fun _ => rfl)
  have ctw := fun (g : Nat) rs (m : Int) (ws : List Int) h1 h2 => callD_at (ks := [(some 9, prD (g : Int) rs), (some 9, wtD m ws)]) (htw g rs m ws h1 h2) rfl rfl (fun _ => rfl)
  have cwo := fun (m : Int) (ws : List Int) t h1 h2 h3 => callD_at (ks := [(some 9, wtD m ws), (some 9, .str t)]) (hwo m ws t h1 h2 h3) rfl rfl (fun _ => rfl)
  clear hc hv hh ht hte ht0 htw hwo cc
  generalize hF : ([fc, fpr, fv, fh, ft, fw, fm, fwo] : List Fn) = F
  have f0 : F[0]? = some fc := by rw [← hF]; rfl
  have f1 : F[1]? = some fpr := by rw [← hF]; rfl
  have f2 : F[2]? = some fv := by rw [← hF]; rfl
  have f3 : F[3]? = some fh := by rw [← hF]; rfl
  have f4 : F[4]? = some ft := by rw [← hF]; rfl
  have f5 : F[5]? = some fw := by rw [← hF]; rfl
  have f6 : F[6]? = some fm := by rw [← hF]; rfl
  have f7 : F[7]? = some fwo := by rw [← hF]; rfl
  clear hF
  unfold c_law
  have q0 := Int.fmod_nonneg_of_pos (cl 0) (b := 3) (by decide)
  have q1 := Int.fmod_lt_of_pos (cl 0) (b := 3) (by decide)
  obtain ⟨g, hg⟩ := Int.eq_ofNat_of_zero_le (show 0 ≤ 1 + (cl 0).fmod 3 by omega)
  have g1 : 1 ≤ g := by omega
  have g3 : g ≤ 3 := by omega
  refine fSet (k := 9) (d := .int (g : Int)) (by simp [ev, evs, f0, c0, hg]) (by simp) ?_
  simp only [List.set_cons_succ, List.set_cons_zero]
  obtain ⟨rs, ⟨rl, rr⟩, hrs⟩ := hpr (cl 1) (cl 2) g g1 g3
  have crs : callD fpr [(some 9, .int (cl 1)), (some 9, .int (cl 2)), (some 9, .int (g : Int))] = .ok (at9 (prD (g : Int) rs)) := callD_at hrs rfl rfl (fun z => by cases z)
  refine fSet (k := 9) (d := prD (g : Int) rs) (by simp [ev, evs, f0, f1, c1, c2, crs]) (by simp) ?_
  simp only [List.set_cons_succ, List.set_cons_zero]
  -- the modulus
  have p0 := Int.fmod_nonneg_of_pos (cl 3) (b := 7) (by decide)
  have p1 := Int.fmod_lt_of_pos (cl 3) (b := 7) (by decide)
  refine fSet (k := 9) (d := .int ((cl 3).fmod 7)) (by simp [ev, evs, f0, c3]) (by simp) ?_
  simp only [List.set_cons_succ, List.set_cons_zero]
  obtain ⟨m, hm0, hm1, hm2, em⟩ : ∃ m : Int, 0 ≤ m ∧ m ≠ 1 ∧ m.natAbs < 1073741824 ∧ (if decide ((cl 3).fmod 7 = 1) = true then runs F [] tT [.set 3 (.lit (.int 7))] [some (0, .lst (iL ns)), some (9, .int (g : Int)), some (9, prD (g : Int) rs), some (9, .int ((cl 3).fmod 7)), none, none, none, none, none, none, none, none] else runs F [] tT [] [some (0, .lst (iL ns)), some (9, .int (g : Int)), some (9, prD (g : Int) rs), some (9, .int ((cl 3).fmod 7)), none, none, none, none, none, none, none, none]) = .nx [some (0, .lst (iL ns)), some (9, .int (g : Int)), some (9, prD (g : Int) rs), some (9, .int m), none, none, none, none, none, none, none, none] := by
    by_cases h : (cl 3).fmod 7 = 1
    · exact ⟨7, by omega, by omega, by omega, by simp [h, runs, run1, ev, setR]⟩
    · exact ⟨(cl 3).fmod 7, by omega, h, by omega, by simp [h, runs]⟩
  refine fIf (t := decide ((cl 3).fmod 7 = 1)) (by simp [tst, ev]) em ?_
  -- the numbers
  obtain ⟨vs, ⟨dl, dv⟩, hvs⟩ := cv (cl 4) g (by omega)
  have map_i : ∀ (zs : List Int) (f : Int → Int), (iL zs).map (fun d => match d with | .int v => D.int (f v) | d => d) = iL (zs.map f) := fun zs f => by unfold iL; rw [List.map_map, List.map_map]; rfl
  have tup_i : ∀ zs : List Int, biD .tuple [(some 9, .lst (iL zs))] = .ok (at9 (.tup (iL zs))) := fun zs => by
    show (do let _ ← chd (some 9) (iL zs); R.ok (at9 (.tup (iL zs)))) = _
    rw [ch8 (iL_cont zs)]; rfl
  have n1 := ev_comp9 (F := F) (C := []) (ρ := [some (0, .lst (iL ns)), some (9, .int (g : Int)), some (9, prD (g : Int) rs), some (9, .int m), none, none, none, none, none, none, none, none]) (i := 5) (it := .val (.call 2 [.call 0 [.var 0, .lit (.int 4)], .var 1, .lit (.int 7)])) (e := .bin .Sub (.var 5) (.lit (.int 3))) (xs := iL vs) (f := fun d => match d with | .int v => D.int (v - 3) | d => d)
    (by
      rw [evI, show ev F [] (.call 2 [.call 0 [.var 0, .lit (.int 4)], .var 1, .lit (.int 7)]) _ = R.ok (some 9, .lst (iL vs)) from by simp [ev, evs, f0, f2, c4, hvs], R.bind_ok, items_iL]) (by simp) (by simp [iL, dl]; unfold line; omega) (fun d hd => by
      obtain ⟨v, hv, e⟩ := List.mem_map.mp hd
      subst e
      simp [ev])
  rw [map_i vs fun v => v - 3] at n1
  have n2 : ev F [] (.bi .tuple [.comp (.nm 5) (.val (.call 2 [.call 0 [.var 0, .lit (.int 4)], .var 1, .lit (.int 7)])) [] (.bin .Sub (.var 5) (.lit (.int 3)))]) [some (0, .lst (iL ns)), some (9, .int (g : Int)), some (9, prD (g : Int) rs), some (9, .int m), none, none, none, none, none, none, none, none] = .ok (at9 (.tup (iL (vs.map fun v => v - 3)))) := by
    rw [ev, evs, n1, R.bind_ok, evs, R.bind_ok]
    exact tup_i _
  refine fSet n2 (by simp) ?_
  simp only [List.set_cons_succ, List.set_cons_zero]
  have len3 : (vs.map (fun v => v - 3)).length = g := by rw [List.length_map, dl]
  generalize vs.map (fun v => v - 3) = us at len3
  obtain ⟨ws, wl, e3⟩ : ∃ ws : List Int, ws.length = g ∧ (if decide (((cl 3).fdiv 7).fmod 3 = 0) = true then runs F [] tT [.set 4 (.bi .tuple [.comp (.nm 6) (.val (.var 4)) [] (.bin .Sub (.lit (.int 0)) (.bin .Mult (.var 6) (.bi .int [.cmp .Gt (.var 6) (.lit (.int 1))])))])] [some (0, .lst (iL ns)), some (9, .int (g : Int)), some (9, prD (g : Int) rs), some (9, .int m), some (9, .tup (iL us)), none, none, none, none, none, none, none] else runs F [] tT [] [some (0, .lst (iL ns)), some (9, .int (g : Int)), some (9, prD (g : Int) rs), some (9, .int m), some (9, .tup (iL us)), none, none, none, none, none, none, none]) = .nx [some (0, .lst (iL ns)), some (9, .int (g : Int)), some (9, prD (g : Int) rs), some (9, .int m), some (9, .tup (iL ws)), none, none, none, none, none, none, none] := by
    by_cases h : ((cl 3).fdiv 7).fmod 3 = 0
    · have e1 := ev_comp9 (F := F) (C := []) (ρ := [some (0, .lst (iL ns)), some (9, .int (g : Int)), some (9, prD (g : Int) rs), some (9, .int m), some (9, .tup (iL us)), none, none, none, none, none, none, none]) (i := 6) (it := .val (.var 4)) (e := .bin .Sub (.lit (.int 0)) (.bin .Mult (.var 6) (.bi .int [.cmp .Gt (.var 6) (.lit (.int 1))]))) (xs := iL us) (f := fun d => match d with | .int v => D.int (0 - v * (if decide (1 < v) = true then 1 else 0)) | d => d)
        (by simp [evI, ev]; rfl) (by simp) (by simp [iL, len3]; unfold line; omega) (fun d hd => by
          obtain ⟨v, hv, e⟩ := List.mem_map.mp hd
          subst e
          have ib : ∀ b : Bool, biD .int [(some 9, .bl b)] = .ok (at9 (.int (if b = true then 1 else 0))) := fun b => rfl
          have mo : ∀ b : Bool, mulOk v (if b = true then 1 else 0) = true := fun b => by cases b <;> simp [mulOk]
          simp only [ev, evs, List.set_cons_succ, List.set_cons_zero, List.getElem?_cons_succ, List.getElem?_cons_zero, kd_int, Option.getD_some, cont_int, Bool.false_eq_true, if_false, R.bind_ok, gt_i, ib, mul_i, mo, if_true, sub_i])
      have e1 := e1.trans (congrArg (fun l => (R.ok ((some 9 : Option Nat), D.lst l) : R Kd)) (map_i us fun v => 0 - v * (if decide (1 < v) = true then 1 else 0)))
      refine ⟨us.map fun v => 0 - v * (if decide (1 < v) = true then 1 else 0), by simp [len3], ?_⟩
      have e2 : ev F [] (.bi .tuple [.comp (.nm 6) (.val (.var 4)) [] (.bin .Sub (.lit (.int 0)) (.bin .Mult (.var 6) (.bi .int [.cmp .Gt (.var 6) (.lit (.int 1))])))]) [some (0, .lst (iL ns)), some (9, .int (g : Int)), some (9, prD (g : Int) rs), some (9, .int m), some (9, .tup (iL us)), none, none, none, none, none, none, none] = .ok (at9 (.tup (iL (us.map fun v => 0 - v * (if decide (1 < v) = true then 1 else 0))))) := by
        rw [ev, evs, e1, R.bind_ok, evs, R.bind_ok]
        exact tup_i _
      rw [if_pos (by simpa using h)]
      exact nSet e2 (by simp) (runs_nil _)
    · exact ⟨us, len3, by simp [h, runs]⟩
  refine fIf (t := decide (((cl 3).fdiv 7).fmod 3 = 0)) (by simp [tst, ev, evs, f0, c3]) e3 ?_
  subst wl
  have hW : WOk m ws := ⟨hm0, hm1, g1, g3⟩
  have hP : POk ws.length rs := ⟨g1, g3, by omega, fun r hr => ⟨(rr r hr).1, by have := (rr r hr).2.1; omega, (rr r hr).2.2⟩⟩
  have eW : ev F [] (.tup [.var 3, .var 4]) [some (0, .lst (iL ns)), some (9, .int (ws.length : Int)), some (9, prD (ws.length : Int) rs), some (9, .int m), some (9, .tup (iL ws)), none, none, none, none, none, none, none] = .ok (at9 (wtD m ws)) := by
    simp only [ev, evs, List.getElem?_cons_succ, List.getElem?_cons_zero, cont_int, cont_tup, Bool.false_eq_true, if_false, R.bind_ok]
    rfl
  refine fSet eW (by simp) ?_
  simp only [List.set_cons_succ, List.set_cons_zero]
  refine fSet (k := 9) (d := .bl (FitB m ws rs)) (by simp [ev, evs, f3, ch m ws rs hm0 hP]) (by simp) ?_
  simp only [List.set_cons_succ, List.set_cons_zero]
  refine fNo ?_ ?_
  · simp [tst, ev, evs, f4, ct m ws rs hW hm2 hP]
  -- the words
  obtain ⟨t0, a0, l0, w0⟩ := hw (cl 5) ws.length g1 g3
  have cw0 : callD fw [(some 9, .int (cl 5)), (some 9, .int (ws.length : Int)), (some 9, .int 8)] = .ok (at9 (.str t0)) := callD_at w0 rfl rfl (fun _ => rfl)
  refine fSet (k := 9) (d := .str t0) (by simp [ev, evs, f0, f5, c5, cw0]) (by simp) ?_
  simp only [List.set_cons_succ, List.set_cons_zero]
  obtain ⟨t1, a1, l1, sw, w1⟩ := hm ws.length rs t0 (cl 6) g1 g3 (fun r hr => ⟨(hP.2.2.2 r hr).2.1, (hP.2.2.2 r hr).2.2⟩) a0 (by omega)
  have cw1 : callD fm [(some 9, .str t0), (some 9, prD (ws.length : Int) rs), (some 9, .int (ws.length : Int)), (some 9, .int (cl 6))] = .ok (at9 (.str t1)) := callD_at w1 rfl rfl (fun _ => rfl)
  refine fSet (k := 9) (d := .str t1) (by simp [ev, evs, f0, f6, c6, cw1]) (by simp) ?_
  simp only [List.set_cons_succ, List.set_cons_zero]
  have gg : ∀ t : List Nat, t.all (lG ws.length) = true → t.length ≤ 60 → gG ws.length t = true := fun t h1 h2 => by unfold gG; rw [h1, decide_eq_true h2]; rfl
  refine fNo ?_ ?_
  · cases hf : FitB m ws rs with
    | false => simp [tst, ev]
    | true =>
      have s := sw m ws hm0 rfl hf
      simp [tst, ev, evs, f7, cwo m ws t0 hW hm2 (gg t0 a0 (by omega)), cwo m ws t1 hW hm2 (gg t1 a1 (by omega)), s]
  -- wrong weights
  obtain ⟨mw, ww, hwr, e11⟩ : ∃ (mw : Int) (ww : List Int), Wr ws.length mw ww ∧ ev F [] (.idx (.list [.tup [.lit (.int 1), .var 4], .tup [.lit (.int 0), .bin .Add (.var 4) (.tup [.lit (.int 1)])], .tup [.lit (.int 2), .sl (.var 4) (.yes (.lit (.int 1))) (.no)], .tup [.un .USub (.lit (.int 3)), .var 4]]) (.bin .Mod (.call 0 [.var 0, .lit (.int 7)]) (.lit (.int 4)))) [some (0, .lst (iL ns)), some (9, .int (ws.length : Int)), some (9, prD (ws.length : Int) rs), some (9, .int m), some (9, .tup (iL ws)), none, none, some (9, wtD m ws), some (9, .bl (FitB m ws rs)), some (9, .str t0), some (9, .str t1), none] = .ok (at9 (wtD mw ww)) := by
    have r0 := Int.fmod_nonneg_of_pos (cl 7) (b := 4) (by decide)
    have r1 := Int.fmod_lt_of_pos (cl 7) (b := 4) (by decide)
    obtain ⟨j, hj⟩ := Int.eq_ofNat_of_zero_le r0
    have x1 : ev F [] (.tup [.lit (.int 1), .var 4]) [some (0, .lst (iL ns)), some (9, .int (ws.length : Int)), some (9, prD (ws.length : Int) rs), some (9, .int m), some (9, .tup (iL ws)), none, none, some (9, wtD m ws), some (9, .bl (FitB m ws rs)), some (9, .str t0), some (9, .str t1), none] = .ok (at9 (wtD 1 ws)) := by
      simp only [ev, evs, List.getElem?_cons_succ, List.getElem?_cons_zero, cont_tup, Bool.false_eq_true, if_false, R.bind_ok]; rfl
    have x2 : ev F [] (.tup [.lit (.int 0), .bin .Add (.var 4) (.tup [.lit (.int 1)])]) [some (0, .lst (iL ns)), some (9, .int (ws.length : Int)), some (9, prD (ws.length : Int) rs), some (9, .int m), some (9, .tup (iL ws)), none, none, some (9, wtD m ws), some (9, .bl (FitB m ws rs)), some (9, .str t0), some (9, .str t1), none] = .ok (at9 (wtD 0 (ws ++ [1]))) := by
      have ba : binD .Add (some 9, .tup (iL ws)) (some 9, .tup [.int 1]) = .ok (at9 (.tup (iL (ws ++ [1])))) := by
        show (if (iL ws).length + 1 ≤ line then R.ok (at9 (.tup (iL ws ++ [.int 1]))) else .stuck) = _
        rw [if_pos (by simp [iL]; unfold line; omega)]
        simp [iL]
      have t1' : ev F [] (.tup [.lit (.int 1)]) [some (0, .lst (iL ns)), some (9, .int (ws.length : Int)), some (9, prD (ws.length : Int) rs), some (9, .int m), some (9, .tup (iL ws)), none, none, some (9, wtD m ws), some (9, .bl (FitB m ws rs)), some (9, .str t0), some (9, .str t1), none] = .ok (some 9, .tup [.int 1]) := by
        simp only [ev, evs, R.bind_ok]; rfl
      rw [ev, evs, ev, R.bind_ok, evs, ev, show ev F [] (.var 4) _ = R.ok (some 9, .tup (iL ws)) from by simp [ev], R.bind_ok, t1', R.bind_ok, ba, R.bind_ok, evs, R.bind_ok, R.bind_ok]
      rfl
    have x3 : ev F [] (.tup [.lit (.int 2), .sl (.var 4) (.yes (.lit (.int 1))) (.no)]) [some (0, .lst (iL ns)), some (9, .int (ws.length : Int)), some (9, prD (ws.length : Int) rs), some (9, .int m), some (9, .tup (iL ws)), none, none, some (9, wtD m ws), some (9, .bl (FitB m ws rs)), some (9, .str t0), some (9, .str t1), none] = .ok (at9 (wtD 2 (ws.drop 1))) := by
      have cw : cutL (iL ws) (some 1) none = iL (ws.drop 1) := by
        have h1 : (1 : Int) = ((1 : Nat) : Int) := rfl
        unfold cutL
        rw [h1, HT.sIx_none, HT.sIx_nat, show min 1 (iL ws).length = 1 from Nat.min_eq_left (by simp [iL]; exact g1), List.take_of_length_le (by rw [List.length_drop]; omega)]
        simp [iL, List.map_drop]
      have bs : slD (some 9, .tup (iL ws)) (some 1) none = .ok (at9 (.tup (iL (ws.drop 1)))) := by
        rw [← cw]; rfl
      rw [ev, evs, ev, R.bind_ok, evs, ev, show ev F [] (.var 4) _ = R.ok (some 9, .tup (iL ws)) from by simp [ev], R.bind_ok]
      simp only [evO, ev, R.bind_ok, bs, evs]
      rfl
    have x4 : ev F [] (.tup [.un .USub (.lit (.int 3)), .var 4]) [some (0, .lst (iL ns)), some (9, .int (ws.length : Int)), some (9, prD (ws.length : Int) rs), some (9, .int m), some (9, .tup (iL ws)), none, none, some (9, wtD m ws), some (9, .bl (FitB m ws rs)), some (9, .str t0), some (9, .str t1), none] = .ok (at9 (wtD (-3) ws)) := by
      simp only [ev, evs, List.getElem?_cons_succ, List.getElem?_cons_zero, cont_tup, Bool.false_eq_true, if_false, R.bind_ok, neg_i]; rfl
    have el : ev F [] (.list [.tup [.lit (.int 1), .var 4], .tup [.lit (.int 0), .bin .Add (.var 4) (.tup [.lit (.int 1)])], .tup [.lit (.int 2), .sl (.var 4) (.yes (.lit (.int 1))) (.no)], .tup [.un .USub (.lit (.int 3)), .var 4]]) [some (0, .lst (iL ns)), some (9, .int (ws.length : Int)), some (9, prD (ws.length : Int) rs), some (9, .int m), some (9, .tup (iL ws)), none, none, some (9, wtD m ws), some (9, .bl (FitB m ws rs)), some (9, .str t0), some (9, .str t1), none] = .ok (some 9, .lst [wtD 1 ws, wtD 0 (ws ++ [1]), wtD 2 (ws.drop 1), wtD (-3) ws]) := by
      rw [ev]
      simp only [evs, x1, x2, x3, x4, R.bind_ok]
      have e9 := listV9 (fun p : Int × List Int => wtD p.1 p.2) [(1, ws), (0, ws ++ [1]), (2, ws.drop 1), (-3, ws)] (by show 4 ≤ line; decide)
      exact e9
    have ei : ev F [] (.bin .Mod (.call 0 [.var 0, .lit (.int 7)]) (.lit (.int 4))) [some (0, .lst (iL ns)), some (9, .int (ws.length : Int)), some (9, prD (ws.length : Int) rs), some (9, .int m), some (9, .tup (iL ws)), none, none, some (9, wtD m ws), some (9, .bl (FitB m ws rs)), some (9, .str t0), some (9, .str t1), none] = .ok (at9 (.int (j : Int))) := by simp [ev, evs, f0, c7, hj]
    have hj4 : j = 0 ∨ j = 1 ∨ j = 2 ∨ j = 3 := by omega
    rcases hj4 with e | e | e | e <;> subst e
    · exact ⟨1, ws, .inl (.inr (.inl rfl)), by rw [ev, el, R.bind_ok, ei, R.bind_ok]; rfl⟩
    · refine ⟨0, ws ++ [1], ?_, by rw [ev, el, R.bind_ok, ei, R.bind_ok]; rfl⟩
      by_cases h : ws.length = 3
      · exact .inl (.inr (.inr (.inr (by simp [h]))))
      · exact .inr ⟨⟨by omega, by omega, by simp, by simp; omega⟩, by simp⟩
    · refine ⟨2, ws.drop 1, ?_, by rw [ev, el, R.bind_ok, ei, R.bind_ok]; rfl⟩
      by_cases h : ws.length = 1
      · exact .inl (.inr (.inr (.inl (by simp [h]))))
      · exact .inr ⟨⟨by omega, by omega, by simp; omega, by simp; omega⟩, by simp; omega⟩
    · exact ⟨-3, ws, .inl (.inl (by omega)), by rw [ev, el, R.bind_ok, ei, R.bind_ok]; rfl⟩
  refine fSet e11 (by simp) ?_
  simp only [List.set_cons_succ, List.set_cons_zero]
  have y1 : ev F [] (.tup [.var 1, .tup [.lit (.str [])]]) [some (0, .lst (iL ns)), some (9, .int (ws.length : Int)), some (9, prD (ws.length : Int) rs), some (9, .int m), some (9, .tup (iL ws)), none, none, some (9, wtD m ws), some (9, .bl (FitB m ws rs)), some (9, .str t0), some (9, .str t1), some (9, wtD mw ww)] = .ok (some 9, prD (ws.length : Int) [[]]) := by
    simp only [ev, evs, List.getElem?_cons_succ, List.getElem?_cons_zero, cont_int, Bool.false_eq_true, if_false, R.bind_ok]; rfl
  have y2 : ev F [] (.tup [.lit (.int 0), .tup []]) [some (0, .lst (iL ns)), some (9, .int (ws.length : Int)), some (9, prD (ws.length : Int) rs), some (9, .int m), some (9, .tup (iL ws)), none, none, some (9, wtD m ws), some (9, .bl (FitB m ws rs)), some (9, .str t0), some (9, .str t1), some (9, wtD mw ww)] = .ok (some 9, prD 0 []) := by
    simp only [ev, evs, R.bind_ok]; rfl
  have y3 : ev F [] (.call 4 [.tup [.var 1, .tup [.lit (.str [])]], .var 11]) [some (0, .lst (iL ns)), some (9, .int (ws.length : Int)), some (9, prD (ws.length : Int) rs), some (9, .int m), some (9, .tup (iL ws)), none, none, some (9, wtD m ws), some (9, .bl (FitB m ws rs)), some (9, .str t0), some (9, .str t1), some (9, wtD mw ww)] = .ok (at9 (.str presS)) := by
    rw [ev, evs, y1, R.bind_ok]
    simp only [evs, ev, List.getElem?_cons_succ, List.getElem?_cons_zero, cont_tup, Bool.false_eq_true, if_false, R.bind_ok, f4, cte ws.length mw ww g1 g3]
  have y4 : ev F [] (.call 4 [.tup [.lit (.int 0), .tup []], .var 11]) [some (0, .lst (iL ns)), some (9, .int (ws.length : Int)), some (9, prD (ws.length : Int) rs), some (9, .int m), some (9, .tup (iL ws)), none, none, some (9, wtD m ws), some (9, .bl (FitB m ws rs)), some (9, .str t0), some (9, .str t1), some (9, wtD mw ww)] = .ok (at9 (.str presS)) := by
    rw [ev, evs, y2, R.bind_ok]
    simp only [evs, ev, List.getElem?_cons_succ, List.getElem?_cons_zero, cont_tup, Bool.false_eq_true, if_false, R.bind_ok, f4, ct0 mw ww]
  refine fNo ?_ ?_
  · rw [tst, tst, y3, R.bind_ok, ev, R.bind_ok, ne_s, R.bind_ok]
    rw [show (!decide (presS = ([112, 114, 101, 115, 101, 110, 116, 97, 116, 105, 111, 110] : List Nat))) = false from by decide, if_neg Bool.false_ne_true]
    rw [tst, y4, R.bind_ok, ev, R.bind_ok, ne_s]
    rfl
  refine fRet (k := 9) ?_
  simp [ev, evs, f4, ctw ws.length rs mw ww hP hwr]
end
theorem math (ns : List Int) (_ : ns.length ≤ 63) : ∃ k, m_law [.lst (ns.map D.int)] = .ok (k, .bl true) := by
  refine ⟨9, ?_⟩
  have hc : ∀ k : Nat, m__law_cell [.lst (iL ns), .int (k : Int)] = .ok (9, .int (Classical.choose (cell_ok ns k))) := fun k => Classical.choose_spec (cell_ok ns k)
  refine law_gen hc (fun c s g h1 h3 => lpres_ok c s h1 h3) (fun c n h => values_ok c n 7 (by decide) (by decide) h) (fun m ws rs h1 h2 => holds_ok h1 h2) (fun m ws rs h1 h2 h3 => toldf_ok rfl rfl (fits_ok h1 h2 h3))
    (fun g m ws h1 h3 => toldf_x rfl rfl (fits_p rfl rfl (ckp_empty h1 h3)) (.inl ⟨rfl, rfl⟩)) (fun m ws => toldf_x rfl rfl (fits_p rfl rfl ckp_0) (.inl ⟨rfl, rfl⟩))
    (fun g rs m ws h1 h2 => toldf_x rfl rfl (fits_w (ckp_ok h1) ?_) (.inr ⟨rfl, rfl⟩)) (fun c g h1 h3 => wordg_ok c g 8 h1 h3 (by decide)) (fun g rs t c h1 h3 h4 h5 h6 => moved_ok h1 h3 h4 h5 h6 c) (fun m ws t h1 h2 h3 => weight_ok h1 h2 h3)
  rcases h2 with h2 | ⟨h2, h3⟩
  · exact .inl (callD_exc (wchk_bad h2))
  · exact .inr ⟨ckw h2, h3⟩
end Q

namespace Q
open PySem PySem.Spec PyProof.Rows L2 Px
open PySem (Expr Stmt)
def top (i : Nat) : Stmt := PySem.Challenge.pw_cayleywalk_k25_weights_that_fit.main.body.getD i (.Pass ⟨0, 0, 0, 0⟩)
theorem sc_check_generators : FnScope f_check_generators.N ["g"] (defScope (top 10)) := ⟨rfl, rfl, rfl, by decide +kernel, rfl, by decide +kernel, by decide +kernel⟩
theorem o_check_generators : okSs f_check_generators tT c_check_generators (defScope (top 10)) (defBody (top 10)) = true := by decide +kernel
theorem sc_letters_of : FnScope f_letters_of.N ["g"] (defScope (top 11)) := ⟨rfl, rfl, rfl, by decide +kernel, rfl, by decide +kernel, by decide +kernel⟩
theorem o_letters_of : okSs f_letters_of tT c_letters_of (defScope (top 11)) (defBody (top 11)) = true := by decide +kernel
theorem sc_rank_of : FnScope f_rank_of.N ["letter"] (defScope (top 12)) := ⟨rfl, rfl, rfl, by decide +kernel, rfl, by decide +kernel, by decide +kernel⟩
theorem o_rank_of : okSs f_rank_of tT c_rank_of (defScope (top 12)) (defBody (top 12)) = true := by decide +kernel
theorem sc__is_over : FnScope f__is_over.N ["letters", "text"] (defScope (top 13)) := ⟨rfl, rfl, rfl, by decide +kernel, rfl, by decide +kernel, by decide +kernel⟩
theorem o__is_over : okSs f__is_over tT c__is_over (defScope (top 13)) (defBody (top 13)) = true := by decide +kernel
theorem sc_is_word : FnScope f_is_word.N ["g", "text"] (defScope (top 14)) := ⟨rfl, rfl, rfl, by decide +kernel, rfl, by decide +kernel, by decide +kernel⟩
theorem o_is_word : okSs f_is_word tT c_is_word (defScope (top 14)) (defBody (top 14)) = true := by decide +kernel
theorem sc_check_word : FnScope f_check_word.N ["g", "text"] (defScope (top 15)) := ⟨rfl, rfl, rfl, by decide +kernel, rfl, by decide +kernel, by decide +kernel⟩
theorem o_check_word : okSs f_check_word tT c_check_word (defScope (top 15)) (defBody (top 15)) = true := by decide +kernel
theorem sc_is_presentation : FnScope f_is_presentation.N ["value"] (defScope (top 20)) := ⟨rfl, rfl, rfl, by decide +kernel, rfl, by decide +kernel, by decide +kernel⟩
theorem o_is_presentation : okSs f_is_presentation tT c_is_presentation (defScope (top 20)) (defBody (top 20)) = true := by decide +kernel
theorem sc_check_presentation : FnScope f_check_presentation.N ["presentation"] (defScope (top 21)) := ⟨rfl, rfl, rfl, by decide +kernel, rfl, by decide +kernel, by decide +kernel⟩
theorem o_check_presentation : okSs f_check_presentation tT c_check_presentation (defScope (top 21)) (defBody (top 21)) = true := by decide +kernel
theorem sc_counted : FnScope f_counted.N ["g", "word"] (defScope (top 23)) := ⟨rfl, rfl, rfl, by decide +kernel, rfl, by decide +kernel, by decide +kernel⟩
theorem o_counted : okSs f_counted tT c_counted (defScope (top 23)) (defBody (top 23)) = true := by decide +kernel
theorem sc_check_weights : FnScope f_check_weights.N ["weights"] (defScope (top 24)) := ⟨rfl, rfl, rfl, by decide +kernel, rfl, by decide +kernel, by decide +kernel⟩
theorem o_check_weights : okSs f_check_weights tT c_check_weights (defScope (top 24)) (defBody (top 24)) = true := by decide +kernel
theorem sc_weighed : FnScope f_weighed.N ["weights", "word"] (defScope (top 25)) := ⟨rfl, rfl, rfl, by decide +kernel, rfl, by decide +kernel, by decide +kernel⟩
theorem o_weighed : okSs f_weighed tT c_weighed (defScope (top 25)) (defBody (top 25)) = true := by decide +kernel
theorem sc_weight_of : FnScope f_weight_of.N ["weights", "word"] (defScope (top 26)) := ⟨rfl, rfl, rfl, by decide +kernel, rfl, by decide +kernel, by decide +kernel⟩
theorem o_weight_of : okSs f_weight_of tT c_weight_of (defScope (top 26)) (defBody (top 26)) = true := by decide +kernel
theorem sc_fits : FnScope f_fits.N ["presentation", "weights"] (defScope (top 27)) := ⟨rfl, rfl, rfl, by decide +kernel, rfl, by decide +kernel, by decide +kernel⟩
theorem o_fits : okSs f_fits tT c_fits (defScope (top 27)) (defBody (top 27)) = true := by decide +kernel
theorem sc__law_cell : FnScope f__law_cell.N ["_law_script", "_law_k"] (defScope (top 29)) := ⟨rfl, rfl, rfl, by decide +kernel, rfl, by decide +kernel, by decide +kernel⟩
theorem o__law_cell : okSs f__law_cell tT c__law_cell (defScope (top 29)) (defBody (top 29)) = true := by decide +kernel
theorem sc__law_values : FnScope f__law_values.N ["_law_cell_here", "_law_count", "_law_size"] (defScope (top 30)) := ⟨rfl, rfl, rfl, by decide +kernel, rfl, by decide +kernel, by decide +kernel⟩
theorem o__law_values : okSs f__law_values tT c__law_values (defScope (top 30)) (defBody (top 30)) = true := by decide +kernel
theorem sc__law_word : FnScope f__law_word.N ["_law_cell_here", "_law_g", "_law_most"] (defScope (top 31)) := ⟨rfl, rfl, rfl, by decide +kernel, rfl, by decide +kernel, by decide +kernel⟩
theorem o__law_word : okSs f__law_word tT c__law_word (defScope (top 31)) (defBody (top 31)) = true := by decide +kernel
theorem sc__law_inverse : FnScope f__law_inverse.N ["_law_word_here"] (defScope (top 32)) := ⟨rfl, rfl, rfl, by decide +kernel, rfl, by decide +kernel, by decide +kernel⟩
theorem o__law_inverse : okSs f__law_inverse tT c__law_inverse (defScope (top 32)) (defBody (top 32)) = true := by decide +kernel
theorem sc__law_presentation : FnScope f__law_presentation.N ["_law_cell_here", "_law_second", "_law_g"] (defScope (top 33)) := ⟨rfl, rfl, rfl, by decide +kernel, rfl, by decide +kernel, by decide +kernel⟩
theorem o__law_presentation : okSs f__law_presentation tT c__law_presentation (defScope (top 33)) (defBody (top 33)) = true := by decide +kernel
theorem sc__law_moved : FnScope f__law_moved.N ["_law_word_here", "_law_presentation_here", "_law_g", "_law_cell_here"] (defScope (top 34)) := ⟨rfl, rfl, rfl, by decide +kernel, rfl, by decide +kernel, by decide +kernel⟩
theorem o__law_moved : okSs f__law_moved tT c__law_moved (defScope (top 34)) (defBody (top 34)) = true := by decide +kernel
theorem sc__law_sums : FnScope f__law_sums.N ["_law_g", "_law_word_here"] (defScope (top 35)) := ⟨rfl, rfl, rfl, by decide +kernel, rfl, by decide +kernel, by decide +kernel⟩
theorem o__law_sums : okSs f__law_sums tT c__law_sums (defScope (top 35)) (defBody (top 35)) = true := by decide +kernel
theorem sc__law_told : FnScope f__law_told.N ["_law_presentation_here", "_law_weights"] (defScope (top 36)) := ⟨rfl, rfl, rfl, by decide +kernel, rfl, by decide +kernel, by decide +kernel⟩
theorem o__law_told : okSs f__law_told tT c__law_told (defScope (top 36)) (defBody (top 36)) = true := by decide +kernel
theorem sc__law_holds : FnScope f__law_holds.N ["_law_presentation_here", "_law_weights"] (defScope (top 37)) := ⟨rfl, rfl, rfl, by decide +kernel, rfl, by decide +kernel, by decide +kernel⟩
theorem o__law_holds : okSs f__law_holds tT c__law_holds (defScope (top 37)) (defBody (top 37)) = true := by decide +kernel
theorem sc_law : FnScope f_law.N ["_law_script"] (defScope (top 38)) := ⟨rfl, rfl, rfl, by decide +kernel, rfl, by decide +kernel, by decide +kernel⟩
theorem o_law : okSs f_law tT c_law (defScope (top 38)) (defBody (top 38)) = true := by decide +kernel
theorem all_mk {P : Program} {w : World} {K : PySem.W.Frag} {h : Heap} {mg : Str → Option Value} {fa : Addr} (X : K.In h) (G : h.Ns mainGlobals mg) (hfa : mg "law" = some (.ref fa))
    {F_check_generators : Addr} {F_letters_of : Addr} {F_rank_of : Addr} {F__is_over : Addr} {F_is_word : Addr} {F_check_word : Addr} {F_is_presentation : Addr} {F_check_presentation : Addr} {F_counted : Addr} {F_check_weights : Addr} {F_weighed : Addr} {F_weight_of : Addr} {F_fits : Addr} {F__law_cell : Addr} {F__law_values : Addr} {F__law_word : Addr} {F__law_inverse : Addr} {F__law_presentation : Addr} {F__law_moved : Addr} {F__law_sums : Addr} {F__law_told : Addr} {F__law_holds : Addr} {F_law : Addr} {D_CayleyError : Addr} {D_NotWord : Addr} {D_NotPresentation : Addr} {D_NotWeights : Addr} {D_BadNumber : Addr} {od_check_generators an_check_generators : Option Addr} {sl_check_generators : Array (Option Value)} {oc_check_generators kV_check_generators dc_check_generators pm_check_generators cd_check_generators ct_check_generators : Value} {od_letters_of an_letters_of : Option Addr} {sl_letters_of : Array (Option Value)} {oc_letters_of kV_letters_of dc_letters_of pm_letters_of cd_letters_of ct_letters_of : Value} {od_rank_of an_rank_of : Option Addr} {sl_rank_of : Array (Option Value)} {oc_rank_of kV_rank_of dc_rank_of pm_rank_of cd_rank_of ct_rank_of : Value} {od__is_over an__is_over : Option Addr} {sl__is_over : Array (Option Value)} {oc__is_over kV__is_over dc__is_over pm__is_over cd__is_over ct__is_over : Value} {od_is_word an_is_word : Option Addr} {sl_is_word : Array (Option Value)} {oc_is_word kV_is_word dc_is_word pm_is_word cd_is_word ct_is_word : Value} {od_check_word an_check_word : Option Addr} {sl_check_word : Array (Option Value)} {oc_check_word kV_check_word dc_check_word pm_check_word cd_check_word ct_check_word : Value} {od_is_presentation an_is_presentation : Option Addr} {sl_is_presentation : Array (Option Value)} {oc_is_presentation kV_is_presentation dc_is_presentation pm_is_presentation cd_is_presentation ct_is_presentation : Value} {od_check_presentation an_check_presentation : Option Addr} {sl_check_presentation : Array (Option Value)} {oc_check_presentation kV_check_presentation dc_check_presentation pm_check_presentation cd_check_presentation ct_check_presentation : Value} {od_counted an_counted : Option Addr} {sl_counted : Array (Option Value)} {oc_counted kV_counted dc_counted pm_counted cd_counted ct_counted : Value} {od_check_weights an_check_weights : Option Addr} {sl_check_weights : Array (Option Value)} {oc_check_weights kV_check_weights dc_check_weights pm_check_weights cd_check_weights ct_check_weights : Value} {od_weighed an_weighed : Option Addr} {sl_weighed : Array (Option Value)} {oc_weighed kV_weighed dc_weighed pm_weighed cd_weighed ct_weighed : Value} {od_weight_of an_weight_of : Option Addr} {sl_weight_of : Array (Option Value)} {oc_weight_of kV_weight_of dc_weight_of pm_weight_of cd_weight_of ct_weight_of : Value} {od_fits an_fits : Option Addr} {sl_fits : Array (Option Value)} {oc_fits kV_fits dc_fits pm_fits cd_fits ct_fits : Value} {od__law_cell an__law_cell : Option Addr} {sl__law_cell : Array (Option Value)} {oc__law_cell kV__law_cell dc__law_cell pm__law_cell cd__law_cell ct__law_cell : Value} {od__law_values an__law_values : Option Addr} {sl__law_values : Array (Option Value)} {oc__law_values kV__law_values dc__law_values pm__law_values cd__law_values ct__law_values : Value} {od__law_word an__law_word : Option Addr} {sl__law_word : Array (Option Value)} {oc__law_word kV__law_word dc__law_word pm__law_word cd__law_word ct__law_word : Value} {od__law_inverse an__law_inverse : Option Addr} {sl__law_inverse : Array (Option Value)} {oc__law_inverse kV__law_inverse dc__law_inverse pm__law_inverse cd__law_inverse ct__law_inverse : Value} {od__law_presentation an__law_presentation : Option Addr} {sl__law_presentation : Array (Option Value)} {oc__law_presentation kV__law_presentation dc__law_presentation pm__law_presentation cd__law_presentation ct__law_presentation : Value} {od__law_moved an__law_moved : Option Addr} {sl__law_moved : Array (Option Value)} {oc__law_moved kV__law_moved dc__law_moved pm__law_moved cd__law_moved ct__law_moved : Value} {od__law_sums an__law_sums : Option Addr} {sl__law_sums : Array (Option Value)} {oc__law_sums kV__law_sums dc__law_sums pm__law_sums cd__law_sums ct__law_sums : Value} {od__law_told an__law_told : Option Addr} {sl__law_told : Array (Option Value)} {oc__law_told kV__law_told dc__law_told pm__law_told cd__law_told ct__law_told : Value} {od__law_holds an__law_holds : Option Addr} {sl__law_holds : Array (Option Value)} {oc__law_holds kV__law_holds dc__law_holds pm__law_holds cd__law_holds ct__law_holds : Value} {od_law an_law : Option Addr} {sl_law : Array (Option Value)} {oc_law kV_law dc_law pm_law cd_law ct_law : Value} {t_MOST_GENERATORS_letters : Tok} {t_LETTERS : Tok} {t_MOST_LETTERS : Tok} {t_MOST_GENERATORS_presentations : Tok} {t_MOST_RELATORS : Tok} {t_LONGEST_RELATOR : Tok}
    (a_check_generators : PySem.W.nsIn K mainGlobals "check_generators" = some (some (.ref F_check_generators)))
    (l_check_generators : K.lookup F_check_generators = some ⟨oc_check_generators, od_check_generators, .func (PySem.W.fnOf "check_generators" "check_generators" (defArgs (top 10)) (defBody (top 10)) (defScope (top 10)) .none kV_check_generators dc_check_generators pm_check_generators an_check_generators cd_check_generators ct_check_generators), sl_check_generators⟩)
    (e_check_generators : PySem.W.codeIn K cd_check_generators "check_generators" = true)
    (k_check_generators : PySem.W.keepIn K (.ref F_check_generators) = true)
    (a_letters_of : PySem.W.nsIn K mainGlobals "letters_of" = some (some (.ref F_letters_of)))
    (l_letters_of : K.lookup F_letters_of = some ⟨oc_letters_of, od_letters_of, .func (PySem.W.fnOf "letters_of" "letters_of" (defArgs (top 11)) (defBody (top 11)) (defScope (top 11)) .none kV_letters_of dc_letters_of pm_letters_of an_letters_of cd_letters_of ct_letters_of), sl_letters_of⟩)
    (e_letters_of : PySem.W.codeIn K cd_letters_of "letters_of" = true)
    (k_letters_of : PySem.W.keepIn K (.ref F_letters_of) = true)
    (a_rank_of : PySem.W.nsIn K mainGlobals "rank_of" = some (some (.ref F_rank_of)))
    (l_rank_of : K.lookup F_rank_of = some ⟨oc_rank_of, od_rank_of, .func (PySem.W.fnOf "rank_of" "rank_of" (defArgs (top 12)) (defBody (top 12)) (defScope (top 12)) .none kV_rank_of dc_rank_of pm_rank_of an_rank_of cd_rank_of ct_rank_of), sl_rank_of⟩)
    (e_rank_of : PySem.W.codeIn K cd_rank_of "rank_of" = true)
    (k_rank_of : PySem.W.keepIn K (.ref F_rank_of) = true)
    (a__is_over : PySem.W.nsIn K mainGlobals "_is_over" = some (some (.ref F__is_over)))
    (l__is_over : K.lookup F__is_over = some ⟨oc__is_over, od__is_over, .func (PySem.W.fnOf "_is_over" "_is_over" (defArgs (top 13)) (defBody (top 13)) (defScope (top 13)) .none kV__is_over dc__is_over pm__is_over an__is_over cd__is_over ct__is_over), sl__is_over⟩)
    (e__is_over : PySem.W.codeIn K cd__is_over "_is_over" = true)
    (k__is_over : PySem.W.keepIn K (.ref F__is_over) = true)
    (a_is_word : PySem.W.nsIn K mainGlobals "is_word" = some (some (.ref F_is_word)))
    (l_is_word : K.lookup F_is_word = some ⟨oc_is_word, od_is_word, .func (PySem.W.fnOf "is_word" "is_word" (defArgs (top 14)) (defBody (top 14)) (defScope (top 14)) .none kV_is_word dc_is_word pm_is_word an_is_word cd_is_word ct_is_word), sl_is_word⟩)
    (e_is_word : PySem.W.codeIn K cd_is_word "is_word" = true)
    (k_is_word : PySem.W.keepIn K (.ref F_is_word) = true)
    (a_check_word : PySem.W.nsIn K mainGlobals "check_word" = some (some (.ref F_check_word)))
    (l_check_word : K.lookup F_check_word = some ⟨oc_check_word, od_check_word, .func (PySem.W.fnOf "check_word" "check_word" (defArgs (top 15)) (defBody (top 15)) (defScope (top 15)) .none kV_check_word dc_check_word pm_check_word an_check_word cd_check_word ct_check_word), sl_check_word⟩)
    (e_check_word : PySem.W.codeIn K cd_check_word "check_word" = true)
    (k_check_word : PySem.W.keepIn K (.ref F_check_word) = true)
    (a_is_presentation : PySem.W.nsIn K mainGlobals "is_presentation" = some (some (.ref F_is_presentation)))
    (l_is_presentation : K.lookup F_is_presentation = some ⟨oc_is_presentation, od_is_presentation, .func (PySem.W.fnOf "is_presentation" "is_presentation" (defArgs (top 20)) (defBody (top 20)) (defScope (top 20)) .none kV_is_presentation dc_is_presentation pm_is_presentation an_is_presentation cd_is_presentation ct_is_presentation), sl_is_presentation⟩)
    (e_is_presentation : PySem.W.codeIn K cd_is_presentation "is_presentation" = true)
    (k_is_presentation : PySem.W.keepIn K (.ref F_is_presentation) = true)
    (a_check_presentation : PySem.W.nsIn K mainGlobals "check_presentation" = some (some (.ref F_check_presentation)))
    (l_check_presentation : K.lookup F_check_presentation = some ⟨oc_check_presentation, od_check_presentation, .func (PySem.W.fnOf "check_presentation" "check_presentation" (defArgs (top 21)) (defBody (top 21)) (defScope (top 21)) .none kV_check_presentation dc_check_presentation pm_check_presentation an_check_presentation cd_check_presentation ct_check_presentation), sl_check_presentation⟩)
    (e_check_presentation : PySem.W.codeIn K cd_check_presentation "check_presentation" = true)
    (k_check_presentation : PySem.W.keepIn K (.ref F_check_presentation) = true)
    (a_counted : PySem.W.nsIn K mainGlobals "counted" = some (some (.ref F_counted)))
    (l_counted : K.lookup F_counted = some ⟨oc_counted, od_counted, .func (PySem.W.fnOf "counted" "counted" (defArgs (top 23)) (defBody (top 23)) (defScope (top 23)) .none kV_counted dc_counted pm_counted an_counted cd_counted ct_counted), sl_counted⟩)
    (e_counted : PySem.W.codeIn K cd_counted "counted" = true)
    (k_counted : PySem.W.keepIn K (.ref F_counted) = true)
    (a_check_weights : PySem.W.nsIn K mainGlobals "check_weights" = some (some (.ref F_check_weights)))
    (l_check_weights : K.lookup F_check_weights = some ⟨oc_check_weights, od_check_weights, .func (PySem.W.fnOf "check_weights" "check_weights" (defArgs (top 24)) (defBody (top 24)) (defScope (top 24)) .none kV_check_weights dc_check_weights pm_check_weights an_check_weights cd_check_weights ct_check_weights), sl_check_weights⟩)
    (e_check_weights : PySem.W.codeIn K cd_check_weights "check_weights" = true)
    (k_check_weights : PySem.W.keepIn K (.ref F_check_weights) = true)
    (a_weighed : PySem.W.nsIn K mainGlobals "weighed" = some (some (.ref F_weighed)))
    (l_weighed : K.lookup F_weighed = some ⟨oc_weighed, od_weighed, .func (PySem.W.fnOf "weighed" "weighed" (defArgs (top 25)) (defBody (top 25)) (defScope (top 25)) .none kV_weighed dc_weighed pm_weighed an_weighed cd_weighed ct_weighed), sl_weighed⟩)
    (e_weighed : PySem.W.codeIn K cd_weighed "weighed" = true)
    (k_weighed : PySem.W.keepIn K (.ref F_weighed) = true)
    (a_weight_of : PySem.W.nsIn K mainGlobals "weight_of" = some (some (.ref F_weight_of)))
    (l_weight_of : K.lookup F_weight_of = some ⟨oc_weight_of, od_weight_of, .func (PySem.W.fnOf "weight_of" "weight_of" (defArgs (top 26)) (defBody (top 26)) (defScope (top 26)) .none kV_weight_of dc_weight_of pm_weight_of an_weight_of cd_weight_of ct_weight_of), sl_weight_of⟩)
    (e_weight_of : PySem.W.codeIn K cd_weight_of "weight_of" = true)
    (k_weight_of : PySem.W.keepIn K (.ref F_weight_of) = true)
    (a_fits : PySem.W.nsIn K mainGlobals "fits" = some (some (.ref F_fits)))
    (l_fits : K.lookup F_fits = some ⟨oc_fits, od_fits, .func (PySem.W.fnOf "fits" "fits" (defArgs (top 27)) (defBody (top 27)) (defScope (top 27)) .none kV_fits dc_fits pm_fits an_fits cd_fits ct_fits), sl_fits⟩)
    (e_fits : PySem.W.codeIn K cd_fits "fits" = true)
    (k_fits : PySem.W.keepIn K (.ref F_fits) = true)
    (a__law_cell : PySem.W.nsIn K mainGlobals "_law_cell" = some (some (.ref F__law_cell)))
    (l__law_cell : K.lookup F__law_cell = some ⟨oc__law_cell, od__law_cell, .func (PySem.W.fnOf "_law_cell" "_law_cell" (defArgs (top 29)) (defBody (top 29)) (defScope (top 29)) .none kV__law_cell dc__law_cell pm__law_cell an__law_cell cd__law_cell ct__law_cell), sl__law_cell⟩)
    (e__law_cell : PySem.W.codeIn K cd__law_cell "_law_cell" = true)
    (k__law_cell : PySem.W.keepIn K (.ref F__law_cell) = true)
    (a__law_values : PySem.W.nsIn K mainGlobals "_law_values" = some (some (.ref F__law_values)))
    (l__law_values : K.lookup F__law_values = some ⟨oc__law_values, od__law_values, .func (PySem.W.fnOf "_law_values" "_law_values" (defArgs (top 30)) (defBody (top 30)) (defScope (top 30)) .none kV__law_values dc__law_values pm__law_values an__law_values cd__law_values ct__law_values), sl__law_values⟩)
    (e__law_values : PySem.W.codeIn K cd__law_values "_law_values" = true)
    (k__law_values : PySem.W.keepIn K (.ref F__law_values) = true)
    (a__law_word : PySem.W.nsIn K mainGlobals "_law_word" = some (some (.ref F__law_word)))
    (l__law_word : K.lookup F__law_word = some ⟨oc__law_word, od__law_word, .func (PySem.W.fnOf "_law_word" "_law_word" (defArgs (top 31)) (defBody (top 31)) (defScope (top 31)) .none kV__law_word dc__law_word pm__law_word an__law_word cd__law_word ct__law_word), sl__law_word⟩)
    (e__law_word : PySem.W.codeIn K cd__law_word "_law_word" = true)
    (k__law_word : PySem.W.keepIn K (.ref F__law_word) = true)
    (a__law_inverse : PySem.W.nsIn K mainGlobals "_law_inverse" = some (some (.ref F__law_inverse)))
    (l__law_inverse : K.lookup F__law_inverse = some ⟨oc__law_inverse, od__law_inverse, .func (PySem.W.fnOf "_law_inverse" "_law_inverse" (defArgs (top 32)) (defBody (top 32)) (defScope (top 32)) .none kV__law_inverse dc__law_inverse pm__law_inverse an__law_inverse cd__law_inverse ct__law_inverse), sl__law_inverse⟩)
    (e__law_inverse : PySem.W.codeIn K cd__law_inverse "_law_inverse" = true)
    (k__law_inverse : PySem.W.keepIn K (.ref F__law_inverse) = true)
    (a__law_presentation : PySem.W.nsIn K mainGlobals "_law_presentation" = some (some (.ref F__law_presentation)))
    (l__law_presentation : K.lookup F__law_presentation = some ⟨oc__law_presentation, od__law_presentation, .func (PySem.W.fnOf "_law_presentation" "_law_presentation" (defArgs (top 33)) (defBody (top 33)) (defScope (top 33)) .none kV__law_presentation dc__law_presentation pm__law_presentation an__law_presentation cd__law_presentation ct__law_presentation), sl__law_presentation⟩)
    (e__law_presentation : PySem.W.codeIn K cd__law_presentation "_law_presentation" = true)
    (k__law_presentation : PySem.W.keepIn K (.ref F__law_presentation) = true)
    (a__law_moved : PySem.W.nsIn K mainGlobals "_law_moved" = some (some (.ref F__law_moved)))
    (l__law_moved : K.lookup F__law_moved = some ⟨oc__law_moved, od__law_moved, .func (PySem.W.fnOf "_law_moved" "_law_moved" (defArgs (top 34)) (defBody (top 34)) (defScope (top 34)) .none kV__law_moved dc__law_moved pm__law_moved an__law_moved cd__law_moved ct__law_moved), sl__law_moved⟩)
    (e__law_moved : PySem.W.codeIn K cd__law_moved "_law_moved" = true)
    (k__law_moved : PySem.W.keepIn K (.ref F__law_moved) = true)
    (a__law_sums : PySem.W.nsIn K mainGlobals "_law_sums" = some (some (.ref F__law_sums)))
    (l__law_sums : K.lookup F__law_sums = some ⟨oc__law_sums, od__law_sums, .func (PySem.W.fnOf "_law_sums" "_law_sums" (defArgs (top 35)) (defBody (top 35)) (defScope (top 35)) .none kV__law_sums dc__law_sums pm__law_sums an__law_sums cd__law_sums ct__law_sums), sl__law_sums⟩)
    (e__law_sums : PySem.W.codeIn K cd__law_sums "_law_sums" = true)
    (k__law_sums : PySem.W.keepIn K (.ref F__law_sums) = true)
    (a__law_told : PySem.W.nsIn K mainGlobals "_law_told" = some (some (.ref F__law_told)))
    (l__law_told : K.lookup F__law_told = some ⟨oc__law_told, od__law_told, .func (PySem.W.fnOf "_law_told" "_law_told" (defArgs (top 36)) (defBody (top 36)) (defScope (top 36)) .none kV__law_told dc__law_told pm__law_told an__law_told cd__law_told ct__law_told), sl__law_told⟩)
    (e__law_told : PySem.W.codeIn K cd__law_told "_law_told" = true)
    (k__law_told : PySem.W.keepIn K (.ref F__law_told) = true)
    (a__law_holds : PySem.W.nsIn K mainGlobals "_law_holds" = some (some (.ref F__law_holds)))
    (l__law_holds : K.lookup F__law_holds = some ⟨oc__law_holds, od__law_holds, .func (PySem.W.fnOf "_law_holds" "_law_holds" (defArgs (top 37)) (defBody (top 37)) (defScope (top 37)) .none kV__law_holds dc__law_holds pm__law_holds an__law_holds cd__law_holds ct__law_holds), sl__law_holds⟩)
    (e__law_holds : PySem.W.codeIn K cd__law_holds "_law_holds" = true)
    (k__law_holds : PySem.W.keepIn K (.ref F__law_holds) = true)
    (a_law : PySem.W.nsIn K mainGlobals "law" = some (some (.ref F_law)))
    (l_law : K.lookup F_law = some ⟨oc_law, od_law, .func (PySem.W.fnOf "law" "law" (defArgs (top 38)) (defBody (top 38)) (defScope (top 38)) .none kV_law dc_law pm_law an_law cd_law ct_law), sl_law⟩)
    (e_law : PySem.W.codeIn K cd_law "law" = true)
    (k_law : PySem.W.keepIn K (.ref F_law) = true)
    (z_len : PySem.W.nsIn K mainGlobals "len" = some none)
    (z_sum : PySem.W.nsIn K mainGlobals "sum" = some none)
    (z_zip : PySem.W.nsIn K mainGlobals "zip" = some none)
    (z_range : PySem.W.nsIn K mainGlobals "range" = some none)
    (z_int : PySem.W.nsIn K mainGlobals "int" = some none)
    (z_tuple : PySem.W.nsIn K mainGlobals "tuple" = some none)
    (z_repr : PySem.W.nsIn K mainGlobals "repr" = some none)
    (g_MOST_GENERATORS_letters : PySem.W.nsIn K mainGlobals "MOST_GENERATORS_letters" = some (some (.int (3) t_MOST_GENERATORS_letters)))
    (g_LETTERS : PySem.W.nsIn K mainGlobals "LETTERS" = some (some (.str "aAbBcC" t_LETTERS)))
    (g_MOST_LETTERS : PySem.W.nsIn K mainGlobals "MOST_LETTERS" = some (some (.int (60) t_MOST_LETTERS)))
    (g_MOST_GENERATORS_presentations : PySem.W.nsIn K mainGlobals "MOST_GENERATORS_presentations" = some (some (.int (3) t_MOST_GENERATORS_presentations)))
    (g_MOST_RELATORS : PySem.W.nsIn K mainGlobals "MOST_RELATORS" = some (some (.int (8) t_MOST_RELATORS)))
    (g_LONGEST_RELATOR : PySem.W.nsIn K mainGlobals "LONGEST_RELATOR" = some (some (.int (20) t_LONGEST_RELATOR)))
    (xg_CayleyError : PySem.W.nsIn K mainGlobals "CayleyError" = some (some (.ref D_CayleyError)))
    (xg_NotWord : PySem.W.nsIn K mainGlobals "NotWord" = some (some (.ref D_NotWord)))
    (xg_NotPresentation : PySem.W.nsIn K mainGlobals "NotPresentation" = some (some (.ref D_NotPresentation)))
    (xg_NotWeights : PySem.W.nsIn K mainGlobals "NotWeights" = some (some (.ref D_NotWeights)))
    (xg_BadNumber : PySem.W.nsIn K mainGlobals "BadNumber" = some (some (.ref D_BadNumber)))
    (xk_CayleyError : PySem.W.keepIn K (.ref D_CayleyError) = true)
    (xb_CayleyError : PySem.W.subIn K (.ref D_CayleyError) (.type "BaseException") = some true)
    (xt_CayleyError : PySem.W.typeIn K (.ref D_CayleyError) = some (.type "type"))
    (xa_CayleyError : PySem.W.findIn K (.ref D_CayleyError) "__getattribute__" = some (some (.builtin "BaseException.__getattribute__")))
    (xn_CayleyError : PySem.W.findIn K (.ref D_CayleyError) "__getattr__" = some none)
    (xd_CayleyError : PySem.W.hasDictIn K D_CayleyError = true)
    (xc_CayleyError : PySem.W.findIn K (.ref D_CayleyError) "__class__" = some (some (.builtin "object.__class__")))
    (xm_CayleyError : PySem.W.mroIn K D_CayleyError (.type "object") = some true)
    (s_CayleyError_CayleyError : PySem.W.subIn K (.ref D_CayleyError) (.ref D_CayleyError) = some true)
    (s_CayleyError_NotWord : PySem.W.subIn K (.ref D_CayleyError) (.ref D_NotWord) = some false)
    (s_CayleyError_NotPresentation : PySem.W.subIn K (.ref D_CayleyError) (.ref D_NotPresentation) = some false)
    (s_CayleyError_NotWeights : PySem.W.subIn K (.ref D_CayleyError) (.ref D_NotWeights) = some false)
    (s_CayleyError_BadNumber : PySem.W.subIn K (.ref D_CayleyError) (.ref D_BadNumber) = some false)
    (xk_NotWord : PySem.W.keepIn K (.ref D_NotWord) = true)
    (xb_NotWord : PySem.W.subIn K (.ref D_NotWord) (.type "BaseException") = some true)
    (xt_NotWord : PySem.W.typeIn K (.ref D_NotWord) = some (.type "type"))
    (xa_NotWord : PySem.W.findIn K (.ref D_NotWord) "__getattribute__" = some (some (.builtin "BaseException.__getattribute__")))
    (xn_NotWord : PySem.W.findIn K (.ref D_NotWord) "__getattr__" = some none)
    (xd_NotWord : PySem.W.hasDictIn K D_NotWord = true)
    (xc_NotWord : PySem.W.findIn K (.ref D_NotWord) "__class__" = some (some (.builtin "object.__class__")))
    (xm_NotWord : PySem.W.mroIn K D_NotWord (.type "object") = some true)
    (xr_NotWord : PySem.W.excIn K D_NotWord chainVE "ValueError.__new__" = true)
    (s_NotWord_CayleyError : PySem.W.subIn K (.ref D_NotWord) (.ref D_CayleyError) = some true)
    (s_NotWord_NotWord : PySem.W.subIn K (.ref D_NotWord) (.ref D_NotWord) = some true)
    (s_NotWord_NotPresentation : PySem.W.subIn K (.ref D_NotWord) (.ref D_NotPresentation) = some false)
    (s_NotWord_NotWeights : PySem.W.subIn K (.ref D_NotWord) (.ref D_NotWeights) = some false)
    (s_NotWord_BadNumber : PySem.W.subIn K (.ref D_NotWord) (.ref D_BadNumber) = some false)
    (xk_NotPresentation : PySem.W.keepIn K (.ref D_NotPresentation) = true)
    (xb_NotPresentation : PySem.W.subIn K (.ref D_NotPresentation) (.type "BaseException") = some true)
    (xt_NotPresentation : PySem.W.typeIn K (.ref D_NotPresentation) = some (.type "type"))
    (xa_NotPresentation : PySem.W.findIn K (.ref D_NotPresentation) "__getattribute__" = some (some (.builtin "BaseException.__getattribute__")))
    (xn_NotPresentation : PySem.W.findIn K (.ref D_NotPresentation) "__getattr__" = some none)
    (xd_NotPresentation : PySem.W.hasDictIn K D_NotPresentation = true)
    (xc_NotPresentation : PySem.W.findIn K (.ref D_NotPresentation) "__class__" = some (some (.builtin "object.__class__")))
    (xm_NotPresentation : PySem.W.mroIn K D_NotPresentation (.type "object") = some true)
    (xr_NotPresentation : PySem.W.excIn K D_NotPresentation chainVE "ValueError.__new__" = true)
    (s_NotPresentation_CayleyError : PySem.W.subIn K (.ref D_NotPresentation) (.ref D_CayleyError) = some true)
    (s_NotPresentation_NotWord : PySem.W.subIn K (.ref D_NotPresentation) (.ref D_NotWord) = some false)
    (s_NotPresentation_NotPresentation : PySem.W.subIn K (.ref D_NotPresentation) (.ref D_NotPresentation) = some true)
    (s_NotPresentation_NotWeights : PySem.W.subIn K (.ref D_NotPresentation) (.ref D_NotWeights) = some false)
    (s_NotPresentation_BadNumber : PySem.W.subIn K (.ref D_NotPresentation) (.ref D_BadNumber) = some false)
    (xk_NotWeights : PySem.W.keepIn K (.ref D_NotWeights) = true)
    (xb_NotWeights : PySem.W.subIn K (.ref D_NotWeights) (.type "BaseException") = some true)
    (xt_NotWeights : PySem.W.typeIn K (.ref D_NotWeights) = some (.type "type"))
    (xa_NotWeights : PySem.W.findIn K (.ref D_NotWeights) "__getattribute__" = some (some (.builtin "BaseException.__getattribute__")))
    (xn_NotWeights : PySem.W.findIn K (.ref D_NotWeights) "__getattr__" = some none)
    (xd_NotWeights : PySem.W.hasDictIn K D_NotWeights = true)
    (xc_NotWeights : PySem.W.findIn K (.ref D_NotWeights) "__class__" = some (some (.builtin "object.__class__")))
    (xm_NotWeights : PySem.W.mroIn K D_NotWeights (.type "object") = some true)
    (xr_NotWeights : PySem.W.excIn K D_NotWeights chainVE "ValueError.__new__" = true)
    (s_NotWeights_CayleyError : PySem.W.subIn K (.ref D_NotWeights) (.ref D_CayleyError) = some true)
    (s_NotWeights_NotWord : PySem.W.subIn K (.ref D_NotWeights) (.ref D_NotWord) = some false)
    (s_NotWeights_NotPresentation : PySem.W.subIn K (.ref D_NotWeights) (.ref D_NotPresentation) = some false)
    (s_NotWeights_NotWeights : PySem.W.subIn K (.ref D_NotWeights) (.ref D_NotWeights) = some true)
    (s_NotWeights_BadNumber : PySem.W.subIn K (.ref D_NotWeights) (.ref D_BadNumber) = some false)
    (xk_BadNumber : PySem.W.keepIn K (.ref D_BadNumber) = true)
    (xb_BadNumber : PySem.W.subIn K (.ref D_BadNumber) (.type "BaseException") = some true)
    (xt_BadNumber : PySem.W.typeIn K (.ref D_BadNumber) = some (.type "type"))
    (xa_BadNumber : PySem.W.findIn K (.ref D_BadNumber) "__getattribute__" = some (some (.builtin "BaseException.__getattribute__")))
    (xn_BadNumber : PySem.W.findIn K (.ref D_BadNumber) "__getattr__" = some none)
    (xd_BadNumber : PySem.W.hasDictIn K D_BadNumber = true)
    (xc_BadNumber : PySem.W.findIn K (.ref D_BadNumber) "__class__" = some (some (.builtin "object.__class__")))
    (xm_BadNumber : PySem.W.mroIn K D_BadNumber (.type "object") = some true)
    (xr_BadNumber : PySem.W.excIn K D_BadNumber chainVE "ValueError.__new__" = true)
    (s_BadNumber_CayleyError : PySem.W.subIn K (.ref D_BadNumber) (.ref D_CayleyError) = some true)
    (s_BadNumber_NotWord : PySem.W.subIn K (.ref D_BadNumber) (.ref D_NotWord) = some false)
    (s_BadNumber_NotPresentation : PySem.W.subIn K (.ref D_BadNumber) (.ref D_NotPresentation) = some false)
    (s_BadNumber_NotWeights : PySem.W.subIn K (.ref D_BadNumber) (.ref D_NotWeights) = some false)
    (s_BadNumber_BadNumber : PySem.W.subIn K (.ref D_BadNumber) (.ref D_BadNumber) = some true)
    (hn : PySem.W.specialIn K (.builtin "object.__class__") "__get__" = some (some (.builtin "getset_descriptor.__get__")))
    (ht : PySem.W.takesIn K (.builtin "object.__class__") = some true)
    (n_CayleyError_NotWord : decide (D_CayleyError = D_NotWord) = false)
    (n_CayleyError_NotPresentation : decide (D_CayleyError = D_NotPresentation) = false)
    (n_CayleyError_NotWeights : decide (D_CayleyError = D_NotWeights) = false)
    (n_CayleyError_BadNumber : decide (D_CayleyError = D_BadNumber) = false)
    (n_NotWord_NotPresentation : decide (D_NotWord = D_NotPresentation) = false)
    (n_NotWord_NotWeights : decide (D_NotWord = D_NotWeights) = false)
    (n_NotWord_BadNumber : decide (D_NotWord = D_BadNumber) = false)
    (n_NotPresentation_NotWord : decide (D_NotPresentation = D_NotWord) = false)
    (n_NotPresentation_NotWeights : decide (D_NotPresentation = D_NotWeights) = false)
    (n_NotPresentation_BadNumber : decide (D_NotPresentation = D_BadNumber) = false)
    (n_NotWeights_NotWord : decide (D_NotWeights = D_NotWord) = false)
    (n_NotWeights_NotPresentation : decide (D_NotWeights = D_NotPresentation) = false)
    (n_NotWeights_BadNumber : decide (D_NotWeights = D_BadNumber) = false)
    (n_BadNumber_NotWord : decide (D_BadNumber = D_NotWord) = false)
    (n_BadNumber_NotPresentation : decide (D_BadNumber = D_NotPresentation) = false)
    (n_BadNumber_NotWeights : decide (D_BadNumber = D_NotWeights) = false)
    (math : ∀ ns : List Int, ns.length ≤ 63 → ∃ k, m_law [.lst (ns.map D.int)] = .ok (k, .bl true)) :
    ∃ fd : FuncData, (∀ (s : Shared) (v : Value), BindsTo s fd ⟨[v], []⟩ [("_law_script", v)]) ∧ ∀ base : Heap, K.In base → base.Ns mainGlobals mg → FnG P w K mg base 8 fa fd ["_law_script"] (spLaw K) := by
  have e := hfa.symm.trans (PySem.W.mg_of X G a_law)
  have e2 : F_law = fa := by cases e; rfl
  clear e
  subst e2
  have A : Amb K mg (ecL [("CayleyError", D_CayleyError), ("NotWord", D_NotWord), ("NotPresentation", D_NotPresentation), ("NotWeights", D_NotWeights), ("BadNumber", D_BadNumber)]) tT ["BadNumber", "NotWord", "NotPresentation", "NotWeights"] [] := amb_mk hn ht (by rfl) (And.intro (⟨PySem.W.mg_of X G xg_CayleyError, xk_CayleyError, xb_CayleyError, xt_CayleyError, xa_CayleyError, xn_CayleyError, xd_CayleyError, xc_CayleyError, xm_CayleyError⟩) (And.intro (⟨PySem.W.mg_of X G xg_NotWord, xk_NotWord, xb_NotWord, xt_NotWord, xa_NotWord, xn_NotWord, xd_NotWord, xc_NotWord, xm_NotWord⟩) (And.intro (⟨PySem.W.mg_of X G xg_NotPresentation, xk_NotPresentation, xb_NotPresentation, xt_NotPresentation, xa_NotPresentation, xn_NotPresentation, xd_NotPresentation, xc_NotPresentation, xm_NotPresentation⟩) (And.intro (⟨PySem.W.mg_of X G xg_NotWeights, xk_NotWeights, xb_NotWeights, xt_NotWeights, xa_NotWeights, xn_NotWeights, xd_NotWeights, xc_NotWeights, xm_NotWeights⟩) (And.intro (⟨PySem.W.mg_of X G xg_BadNumber, xk_BadNumber, xb_BadNumber, xt_BadNumber, xa_BadNumber, xn_BadNumber, xd_BadNumber, xc_BadNumber, xm_BadNumber⟩) (trivial)))))) (And.intro (And.intro (⟨_, s_CayleyError_CayleyError, show isA tT "CayleyError" "CayleyError" = some true by decide +kernel, fun _ => rfl⟩) (And.intro (⟨_, s_CayleyError_NotWord, show isA tT "CayleyError" "NotWord" = some false by decide +kernel, fun z => absurd z (of_decide_eq_false n_CayleyError_NotWord)⟩) (And.intro (⟨_, s_CayleyError_NotPresentation, show isA tT "CayleyError" "NotPresentation" = some false by decide +kernel, fun z => absurd z (of_decide_eq_false n_CayleyError_NotPresentation)⟩) (And.intro (⟨_, s_CayleyError_NotWeights, show isA tT "CayleyError" "NotWeights" = some false by decide +kernel, fun z => absurd z (of_decide_eq_false n_CayleyError_NotWeights)⟩) (And.intro (⟨_, s_CayleyError_BadNumber, show isA tT "CayleyError" "BadNumber" = some false by decide +kernel, fun z => absurd z (of_decide_eq_false n_CayleyError_BadNumber)⟩) (trivial)))))) (And.intro (And.intro (⟨_, s_NotWord_CayleyError, show isA tT "NotWord" "CayleyError" = some true by decide +kernel, fun _ => rfl⟩) (And.intro (⟨_, s_NotWord_NotWord, show isA tT "NotWord" "NotWord" = some true by decide +kernel, fun _ => rfl⟩) (And.intro (⟨_, s_NotWord_NotPresentation, show isA tT "NotWord" "NotPresentation" = some false by decide +kernel, fun z => absurd z (of_decide_eq_false n_NotWord_NotPresentation)⟩) (And.intro (⟨_, s_NotWord_NotWeights, show isA tT "NotWord" "NotWeights" = some false by decide +kernel, fun z => absurd z (of_decide_eq_false n_NotWord_NotWeights)⟩) (And.intro (⟨_, s_NotWord_BadNumber, show isA tT "NotWord" "BadNumber" = some false by decide +kernel, fun z => absurd z (of_decide_eq_false n_NotWord_BadNumber)⟩) (trivial)))))) (And.intro (And.intro (⟨_, s_NotPresentation_CayleyError, show isA tT "NotPresentation" "CayleyError" = some true by decide +kernel, fun _ => rfl⟩) (And.intro (⟨_, s_NotPresentation_NotWord, show isA tT "NotPresentation" "NotWord" = some false by decide +kernel, fun z => absurd z (of_decide_eq_false n_NotPresentation_NotWord)⟩) (And.intro (⟨_, s_NotPresentation_NotPresentation, show isA tT "NotPresentation" "NotPresentation" = some true by decide +kernel, fun _ => rfl⟩) (And.intro (⟨_, s_NotPresentation_NotWeights, show isA tT "NotPresentation" "NotWeights" = some false by decide +kernel, fun z => absurd z (of_decide_eq_false n_NotPresentation_NotWeights)⟩) (And.intro (⟨_, s_NotPresentation_BadNumber, show isA tT "NotPresentation" "BadNumber" = some false by decide +kernel, fun z => absurd z (of_decide_eq_false n_NotPresentation_BadNumber)⟩) (trivial)))))) (And.intro (And.intro (⟨_, s_NotWeights_CayleyError, show isA tT "NotWeights" "CayleyError" = some true by decide +kernel, fun _ => rfl⟩) (And.intro (⟨_, s_NotWeights_NotWord, show isA tT "NotWeights" "NotWord" = some false by decide +kernel, fun z => absurd z (of_decide_eq_false n_NotWeights_NotWord)⟩) (And.intro (⟨_, s_NotWeights_NotPresentation, show isA tT "NotWeights" "NotPresentation" = some false by decide +kernel, fun z => absurd z (of_decide_eq_false n_NotWeights_NotPresentation)⟩) (And.intro (⟨_, s_NotWeights_NotWeights, show isA tT "NotWeights" "NotWeights" = some true by decide +kernel, fun _ => rfl⟩) (And.intro (⟨_, s_NotWeights_BadNumber, show isA tT "NotWeights" "BadNumber" = some false by decide +kernel, fun z => absurd z (of_decide_eq_false n_NotWeights_BadNumber)⟩) (trivial)))))) (And.intro (And.intro (⟨_, s_BadNumber_CayleyError, show isA tT "BadNumber" "CayleyError" = some true by decide +kernel, fun _ => rfl⟩) (And.intro (⟨_, s_BadNumber_NotWord, show isA tT "BadNumber" "NotWord" = some false by decide +kernel, fun z => absurd z (of_decide_eq_false n_BadNumber_NotWord)⟩) (And.intro (⟨_, s_BadNumber_NotPresentation, show isA tT "BadNumber" "NotPresentation" = some false by decide +kernel, fun z => absurd z (of_decide_eq_false n_BadNumber_NotPresentation)⟩) (And.intro (⟨_, s_BadNumber_NotWeights, show isA tT "BadNumber" "NotWeights" = some false by decide +kernel, fun z => absurd z (of_decide_eq_false n_BadNumber_NotWeights)⟩) (And.intro (⟨_, s_BadNumber_BadNumber, show isA tT "BadNumber" "BadNumber" = some true by decide +kernel, fun _ => rfl⟩) (trivial)))))) (trivial)))))) (trivial) (And.intro (⟨show (List.lookup "BadNumber" tT).isSome = true by decide +kernel, D_BadNumber, rfl, xr_BadNumber⟩) (And.intro (⟨show (List.lookup "NotWord" tT).isSome = true by decide +kernel, D_NotWord, rfl, xr_NotWord⟩) (And.intro (⟨show (List.lookup "NotPresentation" tT).isSome = true by decide +kernel, D_NotPresentation, rfl, xr_NotPresentation⟩) (And.intro (⟨show (List.lookup "NotWeights" tT).isSome = true by decide +kernel, D_NotWeights, rfl, xr_NotWeights⟩) (trivial)))))
  have Fu_check_generators := fun_mk (st := top 10) l_check_generators e_check_generators k_check_generators
  have b_check_generators := Fu_check_generators.binds (ps := ["g"]) fun _ _ _ _ _ _ us hl => match us, hl with | [_], _ => rfl
  have Fu_letters_of := fun_mk (st := top 11) l_letters_of e_letters_of k_letters_of
  have b_letters_of := Fu_letters_of.binds (ps := ["g"]) fun _ _ _ _ _ _ us hl => match us, hl with | [_], _ => rfl
  have Fu_rank_of := fun_mk (st := top 12) l_rank_of e_rank_of k_rank_of
  have b_rank_of := Fu_rank_of.binds (ps := ["letter"]) fun _ _ _ _ _ _ us hl => match us, hl with | [_], _ => rfl
  have Fu__is_over := fun_mk (st := top 13) l__is_over e__is_over k__is_over
  have b__is_over := Fu__is_over.binds (ps := ["letters", "text"]) fun _ _ _ _ _ _ us hl => match us, hl with | [_, _], _ => rfl
  have Fu_is_word := fun_mk (st := top 14) l_is_word e_is_word k_is_word
  have b_is_word := Fu_is_word.binds (ps := ["g", "text"]) fun _ _ _ _ _ _ us hl => match us, hl with | [_, _], _ => rfl
  have Fu_check_word := fun_mk (st := top 15) l_check_word e_check_word k_check_word
  have b_check_word := Fu_check_word.binds (ps := ["g", "text"]) fun _ _ _ _ _ _ us hl => match us, hl with | [_, _], _ => rfl
  have Fu_is_presentation := fun_mk (st := top 20) l_is_presentation e_is_presentation k_is_presentation
  have b_is_presentation := Fu_is_presentation.binds (ps := ["value"]) fun _ _ _ _ _ _ us hl => match us, hl with | [_], _ => rfl
  have Fu_check_presentation := fun_mk (st := top 21) l_check_presentation e_check_presentation k_check_presentation
  have b_check_presentation := Fu_check_presentation.binds (ps := ["presentation"]) fun _ _ _ _ _ _ us hl => match us, hl with | [_], _ => rfl
  have Fu_counted := fun_mk (st := top 23) l_counted e_counted k_counted
  have b_counted := Fu_counted.binds (ps := ["g", "word"]) fun _ _ _ _ _ _ us hl => match us, hl with | [_, _], _ => rfl
  have Fu_check_weights := fun_mk (st := top 24) l_check_weights e_check_weights k_check_weights
  have b_check_weights := Fu_check_weights.binds (ps := ["weights"]) fun _ _ _ _ _ _ us hl => match us, hl with | [_], _ => rfl
  have Fu_weighed := fun_mk (st := top 25) l_weighed e_weighed k_weighed
  have b_weighed := Fu_weighed.binds (ps := ["weights", "word"]) fun _ _ _ _ _ _ us hl => match us, hl with | [_, _], _ => rfl
  have Fu_weight_of := fun_mk (st := top 26) l_weight_of e_weight_of k_weight_of
  have b_weight_of := Fu_weight_of.binds (ps := ["weights", "word"]) fun _ _ _ _ _ _ us hl => match us, hl with | [_, _], _ => rfl
  have Fu_fits := fun_mk (st := top 27) l_fits e_fits k_fits
  have b_fits := Fu_fits.binds (ps := ["presentation", "weights"]) fun _ _ _ _ _ _ us hl => match us, hl with | [_, _], _ => rfl
  have Fu__law_cell := fun_mk (st := top 29) l__law_cell e__law_cell k__law_cell
  have b__law_cell := Fu__law_cell.binds (ps := ["_law_script", "_law_k"]) fun _ _ _ _ _ _ us hl => match us, hl with | [_, _], _ => rfl
  have Fu__law_values := fun_mk (st := top 30) l__law_values e__law_values k__law_values
  have b__law_values := Fu__law_values.binds (ps := ["_law_cell_here", "_law_count", "_law_size"]) fun _ _ _ _ _ _ us hl => match us, hl with | [_, _, _], _ => rfl
  have Fu__law_word := fun_mk (st := top 31) l__law_word e__law_word k__law_word
  have b__law_word := Fu__law_word.binds (ps := ["_law_cell_here", "_law_g", "_law_most"]) fun _ _ _ _ _ _ us hl => match us, hl with | [_, _, _], _ => rfl
  have Fu__law_inverse := fun_mk (st := top 32) l__law_inverse e__law_inverse k__law_inverse
  have b__law_inverse := Fu__law_inverse.binds (ps := ["_law_word_here"]) fun _ _ _ _ _ _ us hl => match us, hl with | [_], _ => rfl
  have Fu__law_presentation := fun_mk (st := top 33) l__law_presentation e__law_presentation k__law_presentation
  have b__law_presentation := Fu__law_presentation.binds (ps := ["_law_cell_here", "_law_second", "_law_g"]) fun _ _ _ _ _ _ us hl => match us, hl with | [_, _, _], _ => rfl
  have Fu__law_moved := fun_mk (st := top 34) l__law_moved e__law_moved k__law_moved
  have b__law_moved := Fu__law_moved.binds (ps := ["_law_word_here", "_law_presentation_here", "_law_g", "_law_cell_here"]) fun _ _ _ _ _ _ us hl => match us, hl with | [_, _, _, _], _ => rfl
  have Fu__law_sums := fun_mk (st := top 35) l__law_sums e__law_sums k__law_sums
  have b__law_sums := Fu__law_sums.binds (ps := ["_law_g", "_law_word_here"]) fun _ _ _ _ _ _ us hl => match us, hl with | [_, _], _ => rfl
  have Fu__law_told := fun_mk (st := top 36) l__law_told e__law_told k__law_told
  have b__law_told := Fu__law_told.binds (ps := ["_law_presentation_here", "_law_weights"]) fun _ _ _ _ _ _ us hl => match us, hl with | [_, _], _ => rfl
  have Fu__law_holds := fun_mk (st := top 37) l__law_holds e__law_holds k__law_holds
  have b__law_holds := Fu__law_holds.binds (ps := ["_law_presentation_here", "_law_weights"]) fun _ _ _ _ _ _ us hl => match us, hl with | [_, _], _ => rfl
  have Fu_law := fun_mk (st := top 38) l_law e_law k_law
  have b_law := Fu_law.binds (ps := ["_law_script"]) fun _ _ _ _ _ _ us hl => match us, hl with | [_], _ => rfl
  refine ⟨PySem.W.fnOf "law" "law" (defArgs (top 38)) (defBody (top 38)) (defScope (top 38)) .none kV_law dc_law pm_law an_law cd_law ct_law, fun s v => .of_eq rfl, fun base _ _ => ?_⟩
  have G_check_generators : FnG P w K mg base 1 F_check_generators _ ["g"] (spD K _ 1 m_check_generators) := def_mk (k := 0) (cf := f_check_generators) Fu_check_generators sc_check_generators A (And.intro (by decide +kernel) (trivial)) (trivial) (trivial) [] [conI (name := "MOST_GENERATORS_letters") (3) (PySem.W.mg_of X G g_MOST_GENERATORS_letters)] (by rfl) (by rfl) (trivial) (by rfl) o_check_generators
  have G_rank_of : FnG P w K mg base 1 F_rank_of _ ["letter"] (spD K _ 1 m_rank_of) := def_mk (k := 0) (cf := f_rank_of) Fu_rank_of sc_rank_of A (And.intro (by decide +kernel) (trivial)) (trivial) (And.intro (PySem.W.mg_none_of X G z_len) (trivial)) [] [conS (name := "LETTERS") [97, 65, 98, 66, 99, 67] (PySem.W.mg_of X G g_LETTERS) (by decide +kernel)] (by rfl) (by rfl) (trivial) (by rfl) o_rank_of
  have G__is_over : FnG P w K mg base 1 F__is_over _ ["letters", "text"] (spD K _ 2 m__is_over) := def_mk (k := 0) (cf := f__is_over) Fu__is_over sc__is_over A (trivial) (trivial) (trivial) [] [] (by rfl) (by rfl) (trivial) (by rfl) o__is_over
  have G_check_weights : FnG P w K mg base 1 F_check_weights _ ["weights"] (spD K _ 1 m_check_weights) := def_mk (k := 0) (cf := f_check_weights) Fu_check_weights sc_check_weights A (And.intro (by decide +kernel) (trivial)) (trivial) (And.intro (PySem.W.mg_none_of X G z_len) (trivial)) [] [] (by rfl) (by rfl) (trivial) (by rfl) o_check_weights
  have G__law_cell : FnG P w K mg base 1 F__law_cell _ ["_law_script", "_law_k"] (spD K _ 2 m__law_cell) := def_mk (k := 0) (cf := f__law_cell) Fu__law_cell sc__law_cell A (trivial) (trivial) (And.intro (PySem.W.mg_none_of X G z_len) (trivial)) [] [] (by rfl) (by rfl) (trivial) (by rfl) o__law_cell
  have G__law_values : FnG P w K mg base 1 F__law_values _ ["_law_cell_here", "_law_count", "_law_size"] (spD K _ 3 m__law_values) := def_mk (k := 0) (cf := f__law_values) Fu__law_values sc__law_values A (trivial) (trivial) (And.intro (PySem.W.mg_none_of X G z_range) (And.intro (PySem.W.mg_none_of X G z_int) (trivial))) [] [] (by rfl) (by rfl) (trivial) (by rfl) o__law_values
  have G__law_inverse : FnG P w K mg base 1 F__law_inverse _ ["_law_word_here"] (spD K _ 1 m__law_inverse) := def_mk (k := 0) (cf := f__law_inverse) Fu__law_inverse sc__law_inverse A (trivial) (trivial) (trivial) [] [] (by rfl) (by rfl) (trivial) (by rfl) o__law_inverse
  have G__law_sums : FnG P w K mg base 1 F__law_sums _ ["_law_g", "_law_word_here"] (spD K _ 2 m__law_sums) := def_mk (k := 0) (cf := f__law_sums) Fu__law_sums sc__law_sums A (trivial) (trivial) (And.intro (PySem.W.mg_none_of X G z_range) (trivial)) [] [] (by rfl) (by rfl) (trivial) (by rfl) o__law_sums
  have G_letters_of : FnG P w K mg base 2 F_letters_of _ ["g"] (spD K _ 1 m_letters_of) := def_mk (k := 1) (cf := f_letters_of) Fu_letters_of sc_letters_of A (trivial) (trivial) (trivial) [⟨"check_generators", 1, m_check_generators, 1, F_check_generators, _, _, G_check_generators, PySem.W.mg_of X G a_check_generators, k_check_generators, b_check_generators⟩] [conS (name := "LETTERS") [97, 65, 98, 66, 99, 67] (PySem.W.mg_of X G g_LETTERS) (by decide +kernel)] (by rfl) (by rfl) (And.intro (show (1 : Nat) ≤ 1 by decide) (trivial)) (by rfl) o_letters_of
  have G_counted : FnG P w K mg base 2 F_counted _ ["g", "word"] (spD K _ 2 m_counted) := def_mk (k := 1) (cf := f_counted) Fu_counted sc_counted A (trivial) (trivial) (trivial) [⟨"rank_of", 1, m_rank_of, 1, F_rank_of, _, _, G_rank_of, PySem.W.mg_of X G a_rank_of, k_rank_of, b_rank_of⟩] [] (by rfl) (by rfl) (And.intro (show (1 : Nat) ≤ 1 by decide) (trivial)) (by rfl) o_counted
  have G__law_word : FnG P w K mg base 2 F__law_word _ ["_law_cell_here", "_law_g", "_law_most"] (spD K _ 3 m__law_word) := def_mk (k := 1) (cf := f__law_word) Fu__law_word sc__law_word A (trivial) (trivial) (trivial) [⟨"_law_values", 3, m__law_values, 1, F__law_values, _, _, G__law_values, PySem.W.mg_of X G a__law_values, k__law_values, b__law_values⟩] [] (by rfl) (by rfl) (And.intro (show (1 : Nat) ≤ 1 by decide) (trivial)) (by rfl) o__law_word
  have G__law_presentation : FnG P w K mg base 2 F__law_presentation _ ["_law_cell_here", "_law_second", "_law_g"] (spD K _ 3 m__law_presentation) := def_mk (k := 1) (cf := f__law_presentation) Fu__law_presentation sc__law_presentation A (trivial) (trivial) (And.intro (PySem.W.mg_none_of X G z_range) (And.intro (PySem.W.mg_none_of X G z_tuple) (trivial))) [⟨"_law_values", 3, m__law_values, 1, F__law_values, _, _, G__law_values, PySem.W.mg_of X G a__law_values, k__law_values, b__law_values⟩] [] (by rfl) (by rfl) (And.intro (show (1 : Nat) ≤ 1 by decide) (trivial)) (by rfl) o__law_presentation
  have G__law_moved : FnG P w K mg base 2 F__law_moved _ ["_law_word_here", "_law_presentation_here", "_law_g", "_law_cell_here"] (spD K _ 4 m__law_moved) := def_mk (k := 1) (cf := f__law_moved) Fu__law_moved sc__law_moved A (trivial) (trivial) (And.intro (PySem.W.mg_none_of X G z_range) (And.intro (PySem.W.mg_none_of X G z_len) (trivial))) [⟨"_law_values", 3, m__law_values, 1, F__law_values, _, _, G__law_values, PySem.W.mg_of X G a__law_values, k__law_values, b__law_values⟩, ⟨"_law_inverse", 1, m__law_inverse, 1, F__law_inverse, _, _, G__law_inverse, PySem.W.mg_of X G a__law_inverse, k__law_inverse, b__law_inverse⟩] [] (by rfl) (by rfl) (And.intro (show (1 : Nat) ≤ 1 by decide) (And.intro (show (1 : Nat) ≤ 1 by decide) (trivial))) (by rfl) o__law_moved
  have G__law_holds : FnG P w K mg base 2 F__law_holds _ ["_law_presentation_here", "_law_weights"] (spD K _ 2 m__law_holds) := def_mk (k := 1) (cf := f__law_holds) Fu__law_holds sc__law_holds A (trivial) (trivial) (And.intro (PySem.W.mg_none_of X G z_sum) (And.intro (PySem.W.mg_none_of X G z_range) (And.intro (PySem.W.mg_none_of X G z_int) (trivial)))) [⟨"_law_sums", 2, m__law_sums, 1, F__law_sums, _, _, G__law_sums, PySem.W.mg_of X G a__law_sums, k__law_sums, b__law_sums⟩] [] (by rfl) (by rfl) (And.intro (show (1 : Nat) ≤ 1 by decide) (trivial)) (by rfl) o__law_holds
  have G_is_word : FnG P w K mg base 3 F_is_word _ ["g", "text"] (spD K _ 2 m_is_word) := def_mk (k := 2) (cf := f_is_word) Fu_is_word sc_is_word A (trivial) (trivial) (trivial) [⟨"_is_over", 2, m__is_over, 1, F__is_over, _, _, G__is_over, PySem.W.mg_of X G a__is_over, k__is_over, b__is_over⟩, ⟨"letters_of", 1, m_letters_of, 2, F_letters_of, _, _, G_letters_of, PySem.W.mg_of X G a_letters_of, k_letters_of, b_letters_of⟩] [] (by rfl) (by rfl) (And.intro (show (1 : Nat) ≤ 2 by decide) (And.intro (show (2 : Nat) ≤ 2 by decide) (trivial))) (by rfl) o_is_word
  have G_weighed : FnG P w K mg base 3 F_weighed _ ["weights", "word"] (spD K _ 2 m_weighed) := def_mk (k := 2) (cf := f_weighed) Fu_weighed sc_weighed A (trivial) (trivial) (And.intro (PySem.W.mg_none_of X G z_sum) (And.intro (PySem.W.mg_none_of X G z_len) (And.intro (PySem.W.mg_none_of X G z_zip) (trivial)))) [⟨"counted", 2, m_counted, 2, F_counted, _, _, G_counted, PySem.W.mg_of X G a_counted, k_counted, b_counted⟩] [] (by rfl) (by rfl) (And.intro (show (2 : Nat) ≤ 2 by decide) (trivial)) (by rfl) o_weighed
  have G_check_word : FnG P w K mg base 4 F_check_word _ ["g", "text"] (spD K _ 2 m_check_word) := def_mk (k := 3) (cf := f_check_word) Fu_check_word sc_check_word A (And.intro (by decide +kernel) (trivial)) (trivial) (And.intro (PySem.W.mg_none_of X G z_len) (trivial)) [⟨"is_word", 2, m_is_word, 3, F_is_word, _, _, G_is_word, PySem.W.mg_of X G a_is_word, k_is_word, b_is_word⟩] [conI (name := "MOST_LETTERS") (60) (PySem.W.mg_of X G g_MOST_LETTERS)] (by rfl) (by rfl) (And.intro (show (3 : Nat) ≤ 3 by decide) (trivial)) (by rfl) o_check_word
  have G_is_presentation : FnG P w K mg base 4 F_is_presentation _ ["value"] (spD K _ 1 m_is_presentation) := def_mk (k := 3) (cf := f_is_presentation) Fu_is_presentation sc_is_presentation A (trivial) (trivial) (And.intro (PySem.W.mg_none_of X G z_len) (trivial)) [⟨"is_word", 2, m_is_word, 3, F_is_word, _, _, G_is_word, PySem.W.mg_of X G a_is_word, k_is_word, b_is_word⟩] [conI (name := "MOST_GENERATORS_presentations") (3) (PySem.W.mg_of X G g_MOST_GENERATORS_presentations), conI (name := "MOST_RELATORS") (8) (PySem.W.mg_of X G g_MOST_RELATORS), conI (name := "LONGEST_RELATOR") (20) (PySem.W.mg_of X G g_LONGEST_RELATOR)] (by rfl) (by rfl) (And.intro (show (3 : Nat) ≤ 3 by decide) (trivial)) (by rfl) o_is_presentation
  have G_check_presentation : FnG P w K mg base 5 F_check_presentation _ ["presentation"] (spD K _ 1 m_check_presentation) := def_mk (k := 4) (cf := f_check_presentation) Fu_check_presentation sc_check_presentation A (And.intro (by decide +kernel) (trivial)) (trivial) (trivial) [⟨"is_presentation", 1, m_is_presentation, 4, F_is_presentation, _, _, G_is_presentation, PySem.W.mg_of X G a_is_presentation, k_is_presentation, b_is_presentation⟩] [] (by rfl) (by rfl) (And.intro (show (4 : Nat) ≤ 4 by decide) (trivial)) (by rfl) o_check_presentation
  have G_weight_of : FnG P w K mg base 5 F_weight_of _ ["weights", "word"] (spD K _ 2 m_weight_of) := def_mk (k := 4) (cf := f_weight_of) Fu_weight_of sc_weight_of A (trivial) (trivial) (And.intro (PySem.W.mg_none_of X G z_len) (trivial)) [⟨"check_weights", 1, m_check_weights, 1, F_check_weights, _, _, G_check_weights, PySem.W.mg_of X G a_check_weights, k_check_weights, b_check_weights⟩, ⟨"check_word", 2, m_check_word, 4, F_check_word, _, _, G_check_word, PySem.W.mg_of X G a_check_word, k_check_word, b_check_word⟩, ⟨"weighed", 2, m_weighed, 3, F_weighed, _, _, G_weighed, PySem.W.mg_of X G a_weighed, k_weighed, b_weighed⟩] [] (by rfl) (by rfl) (And.intro (show (1 : Nat) ≤ 4 by decide) (And.intro (show (4 : Nat) ≤ 4 by decide) (And.intro (show (3 : Nat) ≤ 4 by decide) (trivial)))) (by rfl) o_weight_of
  have G_fits : FnG P w K mg base 6 F_fits _ ["presentation", "weights"] (spD K _ 2 m_fits) := def_mk (k := 5) (cf := f_fits) Fu_fits sc_fits A (And.intro (by decide +kernel) (trivial)) (trivial) (And.intro (PySem.W.mg_none_of X G z_len) (trivial)) [⟨"check_presentation", 1, m_check_presentation, 5, F_check_presentation, _, _, G_check_presentation, PySem.W.mg_of X G a_check_presentation, k_check_presentation, b_check_presentation⟩, ⟨"check_weights", 1, m_check_weights, 1, F_check_weights, _, _, G_check_weights, PySem.W.mg_of X G a_check_weights, k_check_weights, b_check_weights⟩, ⟨"weighed", 2, m_weighed, 3, F_weighed, _, _, G_weighed, PySem.W.mg_of X G a_weighed, k_weighed, b_weighed⟩] [] (by rfl) (by rfl) (And.intro (show (5 : Nat) ≤ 5 by decide) (And.intro (show (1 : Nat) ≤ 5 by decide) (And.intro (show (3 : Nat) ≤ 5 by decide) (trivial)))) (by rfl) o_fits
  have G__law_told : FnG P w K mg base 7 F__law_told _ ["_law_presentation_here", "_law_weights"] (spD K _ 2 m__law_told) := def_mk (k := 6) (cf := f__law_told) Fu__law_told sc__law_told A (trivial) (trivial) (trivial) [⟨"fits", 2, m_fits, 6, F_fits, _, _, G_fits, PySem.W.mg_of X G a_fits, k_fits, b_fits⟩] [] (by rfl) (by rfl) (And.intro (show (6 : Nat) ≤ 6 by decide) (trivial)) (by rfl) o__law_told
  have G_law : FnG P w K mg base 8 F_law _ ["_law_script"] (spD K _ 1 m_law) := def_mk (k := 7) (cf := f_law) Fu_law sc_law A (trivial) (trivial) (And.intro (PySem.W.mg_none_of X G z_tuple) (And.intro (PySem.W.mg_none_of X G z_int) (And.intro (PySem.W.mg_none_of X G z_repr) (trivial)))) [⟨"_law_cell", 2, m__law_cell, 1, F__law_cell, _, _, G__law_cell, PySem.W.mg_of X G a__law_cell, k__law_cell, b__law_cell⟩, ⟨"_law_presentation", 3, m__law_presentation, 2, F__law_presentation, _, _, G__law_presentation, PySem.W.mg_of X G a__law_presentation, k__law_presentation, b__law_presentation⟩, ⟨"_law_values", 3, m__law_values, 1, F__law_values, _, _, G__law_values, PySem.W.mg_of X G a__law_values, k__law_values, b__law_values⟩, ⟨"_law_holds", 2, m__law_holds, 2, F__law_holds, _, _, G__law_holds, PySem.W.mg_of X G a__law_holds, k__law_holds, b__law_holds⟩, ⟨"_law_told", 2, m__law_told, 7, F__law_told, _, _, G__law_told, PySem.W.mg_of X G a__law_told, k__law_told, b__law_told⟩, ⟨"_law_word", 3, m__law_word, 2, F__law_word, _, _, G__law_word, PySem.W.mg_of X G a__law_word, k__law_word, b__law_word⟩, ⟨"_law_moved", 4, m__law_moved, 2, F__law_moved, _, _, G__law_moved, PySem.W.mg_of X G a__law_moved, k__law_moved, b__law_moved⟩, ⟨"weight_of", 2, m_weight_of, 5, F_weight_of, _, _, G_weight_of, PySem.W.mg_of X G a_weight_of, k_weight_of, b_weight_of⟩] [] (by rfl) (by rfl) (And.intro (show (1 : Nat) ≤ 7 by decide) (And.intro (show (2 : Nat) ≤ 7 by decide) (And.intro (show (1 : Nat) ≤ 7 by decide) (And.intro (show (2 : Nat) ≤ 7 by decide) (And.intro (show (7 : Nat) ≤ 7 by decide) (And.intro (show (2 : Nat) ≤ 7 by decide) (And.intro (show (2 : Nat) ≤ 7 by decide) (And.intro (show (5 : Nat) ≤ 7 by decide) (trivial))))))))) (by rfl) o_law
  exact G_law.imp (law_imp math)
end Q

open PySem PySem.W PyProof.Rows
set_option maxHeartbeats 0 in
theorem PySem.Challenge.cw_cayleywalk_k25_weights_that_fit_holds : PySem.Challenge.rw_cayleywalk_k25_weights_that_fit.Holds := by
  w_on; o_law; k_head; (case hw => w_witness2)
  k_fill
  refine Px.walkG (l := PySem.Challenge.rw_cayleywalk_k25_weights_that_fit) (k := 8) (x := "_law_script") rfl rfl ⟨rfl, by decide, by decide⟩ (fun w h Y => PySem.W.kIn_of Y) ?F
  case F =>
    intro w mg fa h KX G hmg
    refine' Q.all_mk KX G hmg ?a_check_generators ?l_check_generators ?e_check_generators ?k_check_generators ?a_letters_of ?l_letters_of ?e_letters_of ?k_letters_of ?a_rank_of ?l_rank_of ?e_rank_of ?k_rank_of ?a__is_over ?l__is_over ?e__is_over ?k__is_over ?a_is_word ?l_is_word ?e_is_word ?k_is_word ?a_check_word ?l_check_word ?e_check_word ?k_check_word ?a_is_presentation ?l_is_presentation ?e_is_presentation ?k_is_presentation ?a_check_presentation ?l_check_presentation ?e_check_presentation ?k_check_presentation ?a_counted ?l_counted ?e_counted ?k_counted ?a_check_weights ?l_check_weights ?e_check_weights ?k_check_weights ?a_weighed ?l_weighed ?e_weighed ?k_weighed ?a_weight_of ?l_weight_of ?e_weight_of ?k_weight_of ?a_fits ?l_fits ?e_fits ?k_fits ?a__law_cell ?l__law_cell ?e__law_cell ?k__law_cell ?a__law_values ?l__law_values ?e__law_values ?k__law_values ?a__law_word ?l__law_word ?e__law_word ?k__law_word ?a__law_inverse ?l__law_inverse ?e__law_inverse ?k__law_inverse ?a__law_presentation ?l__law_presentation ?e__law_presentation ?k__law_presentation ?a__law_moved ?l__law_moved ?e__law_moved ?k__law_moved ?a__law_sums ?l__law_sums ?e__law_sums ?k__law_sums ?a__law_told ?l__law_told ?e__law_told ?k__law_told ?a__law_holds ?l__law_holds ?e__law_holds ?k__law_holds ?a_law ?l_law ?e_law ?k_law ?z_len ?z_sum ?z_zip ?z_range ?z_int ?z_tuple ?z_repr ?g_MOST_GENERATORS_letters ?g_LETTERS ?g_MOST_LETTERS ?g_MOST_GENERATORS_presentations ?g_MOST_RELATORS ?g_LONGEST_RELATOR ?xg_CayleyError ?xg_NotWord ?xg_NotPresentation ?xg_NotWeights ?xg_BadNumber ?xk_CayleyError ?xb_CayleyError ?xt_CayleyError ?xa_CayleyError ?xn_CayleyError ?xd_CayleyError ?xc_CayleyError ?xm_CayleyError ?s_CayleyError_CayleyError ?s_CayleyError_NotWord ?s_CayleyError_NotPresentation ?s_CayleyError_NotWeights ?s_CayleyError_BadNumber ?xk_NotWord ?xb_NotWord ?xt_NotWord ?xa_NotWord ?xn_NotWord ?xd_NotWord ?xc_NotWord ?xm_NotWord ?xr_NotWord ?s_NotWord_CayleyError ?s_NotWord_NotWord ?s_NotWord_NotPresentation ?s_NotWord_NotWeights ?s_NotWord_BadNumber ?xk_NotPresentation ?xb_NotPresentation ?xt_NotPresentation ?xa_NotPresentation ?xn_NotPresentation ?xd_NotPresentation ?xc_NotPresentation ?xm_NotPresentation ?xr_NotPresentation ?s_NotPresentation_CayleyError ?s_NotPresentation_NotWord ?s_NotPresentation_NotPresentation ?s_NotPresentation_NotWeights ?s_NotPresentation_BadNumber ?xk_NotWeights ?xb_NotWeights ?xt_NotWeights ?xa_NotWeights ?xn_NotWeights ?xd_NotWeights ?xc_NotWeights ?xm_NotWeights ?xr_NotWeights ?s_NotWeights_CayleyError ?s_NotWeights_NotWord ?s_NotWeights_NotPresentation ?s_NotWeights_NotWeights ?s_NotWeights_BadNumber ?xk_BadNumber ?xb_BadNumber ?xt_BadNumber ?xa_BadNumber ?xn_BadNumber ?xd_BadNumber ?xc_BadNumber ?xm_BadNumber ?xr_BadNumber ?s_BadNumber_CayleyError ?s_BadNumber_NotWord ?s_BadNumber_NotPresentation ?s_BadNumber_NotWeights ?s_BadNumber_BadNumber ?hn ?ht ?n_CayleyError_NotWord ?n_CayleyError_NotPresentation ?n_CayleyError_NotWeights ?n_CayleyError_BadNumber ?n_NotWord_NotPresentation ?n_NotWord_NotWeights ?n_NotWord_BadNumber ?n_NotPresentation_NotWord ?n_NotPresentation_NotWeights ?n_NotPresentation_BadNumber ?n_NotWeights_NotWord ?n_NotWeights_NotPresentation ?n_NotWeights_BadNumber ?n_BadNumber_NotWord ?n_BadNumber_NotPresentation ?n_BadNumber_NotWeights Q.math
    (case a_check_generators => k_is)
    (case l_check_generators => k_is)
    (case e_check_generators => k_is)
    (case k_check_generators => k_is)
    (case a_letters_of => k_is)
    (case l_letters_of => k_is)
    (case e_letters_of => k_is)
    (case k_letters_of => k_is)
    (case a_rank_of => k_is)
    (case l_rank_of => k_is)
    (case e_rank_of => k_is)
    (case k_rank_of => k_is)
    (case a__is_over => k_is)
    (case l__is_over => k_is)
    (case e__is_over => k_is)
    (case k__is_over => k_is)
    (case a_is_word => k_is)
    (case l_is_word => k_is)
    (case e_is_word => k_is)
    (case k_is_word => k_is)
    (case a_check_word => k_is)
    (case l_check_word => k_is)
    (case e_check_word => k_is)
    (case k_check_word => k_is)
    (case a_is_presentation => k_is)
    (case l_is_presentation => k_is)
    (case e_is_presentation => k_is)
    (case k_is_presentation => k_is)
    (case a_check_presentation => k_is)
    (case l_check_presentation => k_is)
    (case e_check_presentation => k_is)
    (case k_check_presentation => k_is)
    (case a_counted => k_is)
    (case l_counted => k_is)
    (case e_counted => k_is)
    (case k_counted => k_is)
    (case a_check_weights => k_is)
    (case l_check_weights => k_is)
    (case e_check_weights => k_is)
    (case k_check_weights => k_is)
    (case a_weighed => k_is)
    (case l_weighed => k_is)
    (case e_weighed => k_is)
    (case k_weighed => k_is)
    (case a_weight_of => k_is)
    (case l_weight_of => k_is)
    (case e_weight_of => k_is)
    (case k_weight_of => k_is)
    (case a_fits => k_is)
    (case l_fits => k_is)
    (case e_fits => k_is)
    (case k_fits => k_is)
    (case a__law_cell => k_is)
    (case l__law_cell => k_is)
    (case e__law_cell => k_is)
    (case k__law_cell => k_is)
    (case a__law_values => k_is)
    (case l__law_values => k_is)
    (case e__law_values => k_is)
    (case k__law_values => k_is)
    (case a__law_word => k_is)
    (case l__law_word => k_is)
    (case e__law_word => k_is)
    (case k__law_word => k_is)
    (case a__law_inverse => k_is)
    (case l__law_inverse => k_is)
    (case e__law_inverse => k_is)
    (case k__law_inverse => k_is)
    (case a__law_presentation => k_is)
    (case l__law_presentation => k_is)
    (case e__law_presentation => k_is)
    (case k__law_presentation => k_is)
    (case a__law_moved => k_is)
    (case l__law_moved => k_is)
    (case e__law_moved => k_is)
    (case k__law_moved => k_is)
    (case a__law_sums => k_is)
    (case l__law_sums => k_is)
    (case e__law_sums => k_is)
    (case k__law_sums => k_is)
    (case a__law_told => k_is)
    (case l__law_told => k_is)
    (case e__law_told => k_is)
    (case k__law_told => k_is)
    (case a__law_holds => k_is)
    (case l__law_holds => k_is)
    (case e__law_holds => k_is)
    (case k__law_holds => k_is)
    (case a_law => k_is)
    (case l_law => k_is)
    (case e_law => k_is)
    (case k_law => k_is)
    (case z_len => k_is)
    (case z_sum => k_is)
    (case z_zip => k_is)
    (case z_range => k_is)
    (case z_int => k_is)
    (case z_tuple => k_is)
    (case z_repr => k_is)
    (case g_MOST_GENERATORS_letters => k_is)
    (case g_LETTERS => k_is)
    (case g_MOST_LETTERS => k_is)
    (case g_MOST_GENERATORS_presentations => k_is)
    (case g_MOST_RELATORS => k_is)
    (case g_LONGEST_RELATOR => k_is)
    (case xg_CayleyError => k_is)
    (case xg_NotWord => k_is)
    (case xg_NotPresentation => k_is)
    (case xg_NotWeights => k_is)
    (case xg_BadNumber => k_is)
    (case xk_CayleyError => k_is)
    (case xb_CayleyError => k_is)
    (case xt_CayleyError => k_is)
    (case xa_CayleyError => k_is)
    (case xn_CayleyError => k_is)
    (case xd_CayleyError => k_is)
    (case xc_CayleyError => k_is)
    (case xm_CayleyError => k_is)
    (case s_CayleyError_CayleyError => k_is)
    (case s_CayleyError_NotWord => k_is)
    (case s_CayleyError_NotPresentation => k_is)
    (case s_CayleyError_NotWeights => k_is)
    (case s_CayleyError_BadNumber => k_is)
    (case xk_NotWord => k_is)
    (case xb_NotWord => k_is)
    (case xt_NotWord => k_is)
    (case xa_NotWord => k_is)
    (case xn_NotWord => k_is)
    (case xd_NotWord => k_is)
    (case xc_NotWord => k_is)
    (case xm_NotWord => k_is)
    (case xr_NotWord => first | k_exc | k_is)
    (case s_NotWord_CayleyError => k_is)
    (case s_NotWord_NotWord => k_is)
    (case s_NotWord_NotPresentation => k_is)
    (case s_NotWord_NotWeights => k_is)
    (case s_NotWord_BadNumber => k_is)
    (case xk_NotPresentation => k_is)
    (case xb_NotPresentation => k_is)
    (case xt_NotPresentation => k_is)
    (case xa_NotPresentation => k_is)
    (case xn_NotPresentation => k_is)
    (case xd_NotPresentation => k_is)
    (case xc_NotPresentation => k_is)
    (case xm_NotPresentation => k_is)
    (case xr_NotPresentation => first | k_exc | k_is)
    (case s_NotPresentation_CayleyError => k_is)
    (case s_NotPresentation_NotWord => k_is)
    (case s_NotPresentation_NotPresentation => k_is)
    (case s_NotPresentation_NotWeights => k_is)
    (case s_NotPresentation_BadNumber => k_is)
    (case xk_NotWeights => k_is)
    (case xb_NotWeights => k_is)
    (case xt_NotWeights => k_is)
    (case xa_NotWeights => k_is)
    (case xn_NotWeights => k_is)
    (case xd_NotWeights => k_is)
    (case xc_NotWeights => k_is)
    (case xm_NotWeights => k_is)
    (case xr_NotWeights => first | k_exc | k_is)
    (case s_NotWeights_CayleyError => k_is)
    (case s_NotWeights_NotWord => k_is)
    (case s_NotWeights_NotPresentation => k_is)
    (case s_NotWeights_NotWeights => k_is)
    (case s_NotWeights_BadNumber => k_is)
    (case xk_BadNumber => k_is)
    (case xb_BadNumber => k_is)
    (case xt_BadNumber => k_is)
    (case xa_BadNumber => k_is)
    (case xn_BadNumber => k_is)
    (case xd_BadNumber => k_is)
    (case xc_BadNumber => k_is)
    (case xm_BadNumber => k_is)
    (case xr_BadNumber => first | k_exc | k_is)
    (case s_BadNumber_CayleyError => k_is)
    (case s_BadNumber_NotWord => k_is)
    (case s_BadNumber_NotPresentation => k_is)
    (case s_BadNumber_NotWeights => k_is)
    (case s_BadNumber_BadNumber => k_is)
    (case hn => k_is)
    (case ht => k_is)
    (case n_CayleyError_NotWord => decide)
    (case n_CayleyError_NotPresentation => decide)
    (case n_CayleyError_NotWeights => decide)
    (case n_CayleyError_BadNumber => decide)
    (case n_NotWord_NotPresentation => decide)
    (case n_NotWord_NotWeights => decide)
    (case n_NotWord_BadNumber => decide)
    (case n_NotPresentation_NotWord => decide)
    (case n_NotPresentation_NotWeights => decide)
    (case n_NotPresentation_BadNumber => decide)
    (case n_NotWeights_NotWord => decide)
    (case n_NotWeights_NotPresentation => decide)
    (case n_NotWeights_BadNumber => decide)
    (case n_BadNumber_NotWord => decide)
    (case n_BadNumber_NotPresentation => decide)
    (case n_BadNumber_NotWeights => decide)
