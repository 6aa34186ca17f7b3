import PyProof.Rows.All
import Wide.All
import OpenK.AllK
import Wide.FinOn
import HandS.ForMost
import HandS.ForExc
import KE.DataCmp
import HandS.IsInst
import PyProof.MinMaxWalk
import HandS.SortInts
import HandS.TupMul
import HandS.Dict
import HandS.TupAny
import KE.KIndexOf
import HandS.Conv
import HandS.Deep
import HandS.Style
import HandS.TupLe
import KE.SortKeyHeap
import HandS.Replace
import HandS.StrMore
import PyProof.ReprRoads
import PyProof.ListStr
import HandS.More
import KE.DataMinKey
import HandS.SortKw
import HandS.Flow
import HandS.Star
import HandS.Zip0
import HandS.Zip
import KE.GoesZip
import KE.GoesEnum
import PyProof.EnumMake
import HandS.NoneIn
import HandS.HotCalls
import HandS.ExcInit
import HandS.ExcField
import HandS.ExcIs
import KE.KExcIs
import KE.SortData
import HandS.TryMany
import HandS.Ends
import PyProof.StrLawsRepr
import PyProof.ReprLen
import PyProof.FitsInt
import HandS.List
import PySem.Challenge.RW_cayleywalk_k04_cores_and_rotations
set_option Elab.async false
set_option linter.all false
set_option maxRecDepth 100000
set_option maxHeartbeats 2000000
/-! Px1: pure data D, how a value in the abstract heap stands for it, what a def owns. -/
namespace Px
open PySem PySem.Spec PyProof.Rows L2

/-- what stands for an object that is not looked into: the list of draws -/
inductive Tk where
  | draws
inductive D where
  | non | bl (b : Bool) | int (i : Int) | str (s : List Nat)
  | lst (xs : List D) | tup (xs : List D) | dct (ks : List D) (vs : List D)
  | ext (t : Tk)
/-- at a: a list of whole numbers from 0 to 999 -/
def drawsO (a : Addr) : HO := .ext fun h => ∃ (ns : List Int) (its : List Value) (n : Nat), (∀ i ∈ ns, 0 ≤ i ∧ i < 1000) ∧ ns.length ≤ sizeLine ∧ Vals (ns.map V.int) its ∧ h.get? a = some { cls := .type "list", data := .seq its.toArray n }
def tkO (a : Addr) : Tk → HO
  | .draws => drawsO a

abbrev mkS (s : List Nat) : Str := ⟨s.toArray⟩
def keyOf : D → Option Key
  | .int i => some (.inl i)
  | .str s => some (.inr (mkS s))
  | _ => none

abbrev AS := Addr → Prop
open Classical in
noncomputable def cut (H : Hp) (A : AS) : Hp := fun b => if A b then none else H b
section
variable {H H' : Hp} {A A' B : AS} {a b : Addr} {o : HO} {K : PySem.W.Frag}
theorem cut_some (h : cut H A a = some o) : H a = some o ∧ ¬ A a := by
  unfold cut at h; split at h
  · cases h
  · exact ⟨h, by assumption⟩
theorem cut_of (h : H a = some o) (n : ¬ A a) : cut H A a = some o := by
  unfold cut; rw [if_neg n]; exact h
theorem cut_same : Same (cut H A) H := fun _ _ h => (cut_some h).1
theorem cut_heap (s : Same H H') : Same (cut H A) (cut H' A) := fun b o h => let ⟨h1, h2⟩ := cut_some h; cut_of (s b o h1) h2
theorem cut_set (h : ∀ x, A' x → A x) : Same (cut H A) (cut H A') := fun b o q => let ⟨h1, h2⟩ := cut_some q; cut_of h1 fun z => h2 (h b z)
theorem cut_fresh (h : ∀ x, A' x → A x ∨ H x = none) : Same (cut H A) (cut H A') := fun b o q => by
  obtain ⟨h1, h2⟩ := cut_some q
  refine cut_of h1 fun z => ?_
  rcases h b z with k | k
  · exact h2 k
  · rw [k] at h1; cases h1
theorem cut_upd (h : A a) : cut (upd H a o) A = cut H A := by
  funext b; unfold cut; split
  · rfl
  · exact upd_ne (fun e => by subst e; contradiction)
theorem Same.seqT {xs : List V} (e : Same H H') (h : SqT K H a xs) : SqT K H' a xs := by
  rcases h with (h | ⟨o, h⟩) | h
  · exact .inl (.inl (e _ _ h))
  · exact .inl (.inr ⟨o, e _ _ h⟩)
  · exact .inr h
/-- a tuple without a dict of its own -/
def PTu (K : PySem.W.Frag) (H : Hp) (a : Addr) (vs : List V) : Prop := (∃ o : Obj, H a = some (.frz o (.tup vs)) ∧ o.dict = none) ∨
  ∃ (o : Obj) (its : Array Value) (n : Nat), K.lookup a = some o ∧ o.cls = .type "tuple" ∧ o.dict = none ∧ o.data = .seq its n ∧ its.size ≤ sizeLine ∧ Vals vs its.toList
theorem PTu.sq {xs : List V} (h : PTu K H a xs) : SqT K H a xs := by
  rcases h with ⟨o, h, _⟩ | ⟨o, its, n, h1, h2, _, h3⟩
  · exact .inl (.inr ⟨o, h⟩)
  · exact .inr ⟨o, its, n, h1, h2, h3⟩
theorem Same.pt {xs : List V} (e : Same H H') (h : PTu K H a xs) : PTu K H' a xs := by
  rcases h with ⟨o, h, d⟩ | h
  · exact .inl ⟨o, e _ _ h, d⟩
  · exact .inr h
theorem PTu.of {xs : List V} {o : Obj} (h : H a = some (.frz o (.tup xs))) (d : o.dict = none) : PTu K H a xs := .inl ⟨o, h, d⟩
theorem Same.rd {u : HO} (e : Same H H') (h : Rd H a u) : Rd H' a u := by
  rcases h with h | ⟨o, h⟩
  · exact .inl (e _ _ h)
  · exact .inr ⟨o, e _ _ h⟩
theorem same_new (h : H a = none) : Same H (upd H a o) := fun b u e => by rw [upd_ne (ne_of_none e h)]; exact e
end

/-! ### what a value stands for -/
mutual
def RepR (K : PySem.W.Frag) (H : Hp) : D → V → Prop
  | .non, v => v = .non
  | .bl b, v => v = .bl b
  | .int i, v => v = .int i
  | .str s, v => v = .str (mkS s)
  | .lst xs, v => ∃ a vs, v = .ref a ∧ SqL K H a vs ∧ RepRs K H xs vs
  | .tup xs, v => ∃ a vs, v = .ref a ∧ PTu K H a vs ∧ RepRs K H xs vs
  | .dct ks ds, v => ∃ a kvs, v = .ref a ∧ Rd H a (.dK kvs) ∧ ks.map keyOf = kvs.map (fun p => some p.1) ∧ RepRs K H ds (kvs.map (·.2))
  | .ext t, v => ∃ a, v = .ref a ∧ H a = some (tkO a t)
def RepRs (K : PySem.W.Frag) (H : Hp) : List D → List V → Prop
  | [], vs => vs = []
  | d :: ds, vs => ∃ v vs', vs = v :: vs' ∧ RepR K H d v ∧ RepRs K H ds vs'
end
section
variable {K : PySem.W.Frag} {H H' : Hp} {A A' : AS}
mutual
theorem RepR.mono (h : Same H H') : ∀ {d : D} {v : V}, RepR K H d v → RepR K H' d v
  | .non, _, r => by unfold RepR at *; exact r
  | .bl _, _, r => by unfold RepR at *; exact r
  | .int _, _, r => by unfold RepR at *; exact r
  | .str _, _, r => by unfold RepR at *; exact r
  | .lst xs, v, r => by
    unfold RepR at *
    obtain ⟨a, vs, e, s, q⟩ := r
    exact ⟨a, vs, e, L2.Same.seq h s, RepRs.mono h q⟩
  | .tup xs, v, r => by
    unfold RepR at *
    obtain ⟨a, vs, e, s, q⟩ := r
    exact ⟨a, vs, e, Same.pt h s, RepRs.mono h q⟩
  | .dct ks ds, v, r => by
    unfold RepR at *
    obtain ⟨a, vs, e, s, k, q⟩ := r
    exact ⟨a, vs, e, Same.rd h s, k, RepRs.mono h q⟩
  | .ext t, v, r => by
    unfold RepR at *
    obtain ⟨a, e, s⟩ := r
    exact ⟨a, e, h _ _ s⟩
theorem RepRs.mono (h : Same H H') : ∀ {ds : List D} {vs : List V}, RepRs K H ds vs → RepRs K H' ds vs
  | [], _, r => by unfold RepRs at *; exact r
  | d :: ds, vs, r => by
    unfold RepRs at *
    obtain ⟨v, vs', e, r1, r2⟩ := r
    exact ⟨v, vs', e, RepR.mono h r1, RepRs.mono h r2⟩
end
theorem RepRs.length : ∀ {ds : List D} {vs : List V}, RepRs K H ds vs → vs.length = ds.length
  | [], _, r => by unfold RepRs at r; subst r; rfl
  | d :: ds, vs, r => by
    unfold RepRs at r
    obtain ⟨v, vs', e, r1, r2⟩ := r
    subst e; simp [RepRs.length r2]
theorem RepRs.get : ∀ {ds : List D} {vs : List V} {i : Nat} {d : D}, RepRs K H ds vs → ds[i]? = some d → ∃ v, vs[i]? = some v ∧ RepR K H d v
  | [], _, _, _, _, e => by simp at e
  | d :: ds, vs, 0, d', r, e => by
    unfold RepRs at r
    obtain ⟨v, vs', e', r1, r2⟩ := r
    subst e'; simp at e; subst e
    exact ⟨v, rfl, r1⟩
  | d :: ds, vs, i + 1, d', r, e => by
    unfold RepRs at r
    obtain ⟨v, vs', e', r1, r2⟩ := r
    subst e'
    obtain ⟨u, h1, h2⟩ := RepRs.get (i := i) r2 (by simpa using e)
    exact ⟨u, by simpa using h1, h2⟩
theorem RepRs.append : ∀ {ds es : List D} {vs us : List V}, RepRs K H ds vs → RepRs K H es us → RepRs K H (ds ++ es) (vs ++ us)
  | [], _, _, _, r, q => by unfold RepRs at r; subst r; exact q
  | d :: ds, _, _, _, r, q => by
    unfold RepRs at r
    obtain ⟨v, vs', e', r1, r2⟩ := r
    subst e'
    show RepRs K H (d :: (ds ++ _)) _
    unfold RepRs
    exact ⟨v, _, rfl, r1, RepRs.append r2 q⟩
theorem RepRs.cons {d : D} {ds : List D} {v : V} {vs : List V} (r : RepR K H d v) (q : RepRs K H ds vs) : RepRs K H (d :: ds) (v :: vs) := by
  unfold RepRs; exact ⟨v, vs, rfl, r, q⟩
theorem RepRs.nil : RepRs K H [] [] := by unfold RepRs; rfl

/-! ### what is owned -/
def D.cont : D → Bool
  | .lst _ => true
  | .dct _ _ => true
  | _ => false
def Owns (R : D → V → AS → Prop) : List D → List V → AS → Prop
  | [], vs, O => vs = [] ∧ ∀ x, ¬ O x
  | d :: ds, vs, O => ∃ v vs' O1 O2, vs = v :: vs' ∧ (∀ x, O x ↔ O1 x ∨ O2 x) ∧ (∀ x, O1 x → ¬ O2 x) ∧ R d v O1 ∧ Owns R ds vs' O2
def Own (K : PySem.W.Frag) (H : Hp) (A : AS) : Nat → D → V → AS → Prop
  | 0, d, v, O => (∀ x, ¬ O x) ∧ RepR K (cut H A) d v
  | k + 1, d, v, O => match d with
    | .lst xs => ∃ a vs O', v = .ref a ∧ H a = some (.lst vs) ∧ (∀ x, O x ↔ x = a ∨ O' x) ∧ ¬ O' a ∧ Owns (Own K H A k) xs vs O'
    | .dct ks ds => ∃ a kvs O', v = .ref a ∧ H a = some (.dK kvs) ∧ ks.map keyOf = kvs.map (fun p => some p.1) ∧ (∀ x, O x ↔ x = a ∨ O' x) ∧ ¬ O' a ∧ Owns (Own K H A k) ds (kvs.map (·.2)) O'
    | d => (∀ x, ¬ O x) ∧ RepR K (cut H A) d v
theorem Owns.imp {R R' : D → V → AS → Prop} (f : ∀ d v O, R d v O → R' d v O) : ∀ {ds : List D} {vs : List V} {O : AS}, Owns R ds vs O → Owns R' ds vs O
  | [], _, _, h => h
  | d :: ds, _, _, ⟨v, vs', O1, O2, e, h1, h2, r, q⟩ => ⟨v, vs', O1, O2, e, h1, h2, f _ _ _ r, Owns.imp f q⟩
/-- with the footprints at hand -/
theorem Owns.impIn {R R' : D → V → AS → Prop} : ∀ {ds : List D} {vs : List V} {O : AS}, Owns R ds vs O → (∀ d ∈ ds, ∀ v O1, (∀ x, O1 x → O x) → R d v O1 → R' d v O1) → Owns R' ds vs O
  | [], _, _, h, _ => h
  | d :: ds, _, _, ⟨v, vs', O1, O2, e, h1, h2, r, q⟩, f => ⟨v, vs', O1, O2, e, h1, h2, f _ (by simp) _ _ (fun x z => (h1 x).mpr (.inl z)) r,
      Owns.impIn q fun d' m v' O' s => f d' (by simp [m]) v' O' fun x z => (h1 x).mpr (.inr (s x z))⟩
theorem Owns.mem {R : D → V → AS → Prop} : ∀ {ds : List D} {vs : List V} {O : AS} {x : Addr}, Owns R ds vs O → O x → ∃ d ∈ ds, ∃ v O1, R d v O1 ∧ O1 x
  | [], _, _, _, h, z => (h.2 _ z).elim
  | d :: ds, _, _, x, ⟨v, vs', O1, O2, e, h1, h2, r, q⟩, z => by
    rcases (h1 x).mp z with k | k
    · exact ⟨d, by simp, v, O1, r, k⟩
    · obtain ⟨d', m, v', O', r', z'⟩ := Owns.mem q k
      exact ⟨d', by simp [m], v', O', r', z'⟩
theorem Owns.length {R : D → V → AS → Prop} : ∀ {ds : List D} {vs : List V} {O : AS}, Owns R ds vs O → vs.length = ds.length
  | [], _, _, h => by rw [h.1]; rfl
  | d :: ds, _, _, ⟨v, vs', O1, O2, e, h1, h2, r, q⟩ => by subst e; simp [Owns.length q]
theorem Owns.rep {R : D → V → AS → Prop} (f : ∀ d v O, R d v O → RepR K H d v) : ∀ {ds : List D} {vs : List V} {O : AS}, Owns R ds vs O → RepRs K H ds vs
  | [], _, _, h => by rw [h.1]; exact RepRs.nil
  | d :: ds, _, _, ⟨v, vs', O1, O2, e, h1, h2, r, q⟩ => by subst e; exact RepRs.cons (f _ _ _ r) (Owns.rep f q)
theorem Owns.frz {R : D → V → AS → Prop} (f : ∀ d v O, (∀ x, ¬ O x) → RepR K H d v → R d v O) : ∀ {ds : List D} {vs : List V} {O : AS}, (∀ x, ¬ O x) → RepRs K H ds vs → Owns R ds vs O
  | [], _, _, n, r => by unfold RepRs at r; exact ⟨r, n⟩
  | d :: ds, _, O, n, r => by
    unfold RepRs at r
    obtain ⟨v, vs', e, r1, r2⟩ := r
    exact ⟨v, vs', O, O, e, fun x => by simp, fun x z => (n x z).elim, f _ _ _ n r1, Owns.frz f n r2⟩
theorem Owns.get {R : D → V → AS → Prop} : ∀ {ds : List D} {vs : List V} {O : AS} {i : Nat} {d : D}, Owns R ds vs O → ds[i]? = some d → ∃ v O1, vs[i]? = some v ∧ (∀ x, O1 x → O x) ∧ R d v O1
  | [], _, _, _, _, _, e => by simp at e
  | d :: ds, _, _, 0, d', ⟨v, vs', O1, O2, e, h1, h2, r, q⟩, e' => by
    simp at e'; subst e'; subst e
    exact ⟨v, O1, rfl, fun x z => (h1 x).mpr (.inl z), r⟩
  | d :: ds, _, _, i + 1, d', ⟨v, vs', O1, O2, e, h1, h2, r, q⟩, e' => by
    subst e
    obtain ⟨u, O3, g1, g2, g3⟩ := Owns.get (i := i) q (by simpa using e')
    exact ⟨u, O3, by simpa using g1, fun x z => (h1 x).mpr (.inr (g2 x z)), g3⟩
theorem Owns.append {R : D → V → AS → Prop} (hR : ∀ d v O O', (∀ x, O x ↔ O' x) → R d v O → R d v O') : ∀ {ds es : List D} {vs us : List V} {O1 O2 O : AS}, (∀ x, O x ↔ O1 x ∨ O2 x) → (∀ x, O1 x → ¬ O2 x) → Owns R ds vs O1 → Owns R es us O2 → Owns R (ds ++ es) (vs ++ us) O
  | [], [], _, _, O1, O2, O, e, _, h, q => by
    obtain ⟨rfl, n1⟩ := h; obtain ⟨rfl, n2⟩ := q
    exact ⟨rfl, fun x z => by rcases (e x).mp z with k | k; exact n1 x k; exact n2 x k⟩
  | [], d :: es, _, _, O1, O2, O, e, _, h, q => by
    obtain ⟨rfl, n1⟩ := h
    obtain ⟨v, vs', P1, P2, e', h1, h2, r, q⟩ := q
    exact ⟨v, vs', P1, P2, e', fun x => by rw [e x, h1 x]; constructor; (rintro (z | z); exact (n1 x z).elim; exact z); exact .inr, h2, r, q⟩
  | d :: ds, es, _, _, O1, O2, O, e, dj, h, q => by
    obtain ⟨v, vs', P1, P2, e', h1, h2, r, h⟩ := h
    subst e'
    refine ⟨v, _, P1, fun x => P2 x ∨ O2 x, rfl, fun x => by rw [e x, h1 x]; constructor; (rintro ((z | z) | z); exact .inl z; exact .inr (.inl z); exact .inr (.inr z)); (rintro (z | z | z); exact .inl (.inl z); exact .inl (.inr z); exact .inr z), fun x z1 z2 => ?_, r, Owns.append hR (fun x => Iff.rfl) (fun x z => dj x ((h1 x).mpr (.inr z))) h q⟩
    rcases z2 with z2 | z2
    · exact h2 x z1 z2
    · exact dj x ((h1 x).mpr (.inl z1)) z2
theorem Own.iff : ∀ {k : Nat} {d : D} {v : V} {O O' : AS}, (∀ x, O x ↔ O' x) → Own K H A k d v O → Own K H A k d v O'
  | 0, d, v, O, O', e, h => ⟨fun x z => h.1 x ((e x).mpr z), h.2⟩
  | k + 1, d, v, O, O', e, h => by
    unfold Own at *
    split at h
    · obtain ⟨a, vs, P, e1, e2, e3, e4, q⟩ := h
      exact ⟨a, vs, P, e1, e2, fun x => by rw [← e x]; exact e3 x, e4, q⟩
    · obtain ⟨a, vs, P, e1, e2, e5, e3, e4, q⟩ := h
      exact ⟨a, vs, P, e1, e2, e5, fun x => by rw [← e x]; exact e3 x, e4, q⟩
    · exact ⟨fun x z => h.1 x ((e x).mpr z), h.2⟩
theorem Own.frz0 {d : D} {v : V} {O : AS} (n : ∀ x, ¬ O x) (r : RepR K (cut H A) d v) : Own K H A 0 d v O := ⟨n, r⟩
/-- what is no container is the same at every depth -/
theorem Own.flat {d : D} (c : d.cont = false) {k : Nat} {v : V} {O : AS} : Own K H A k d v O ↔ ((∀ x, ¬ O x) ∧ RepR K (cut H A) d v) := by
  cases k with
  | zero => exact Iff.rfl
  | succ k => cases d <;> first | exact Iff.rfl | cases c
theorem Own.dom : ∀ {k : Nat} {d : D} {v : V} {O : AS} {x : Addr}, Own K H A k d v O → O x → (∃ vs, H x = some (.lst vs)) ∨ ∃ kvs, H x = some (.dK kvs)
  | 0, d, v, O, x, h, z => (h.1 x z).elim
  | k + 1, d, v, O, x, h, z => by
    unfold Own at h
    split at h
    · obtain ⟨a, vs, P, e1, e2, e3, e4, q⟩ := h
      rcases (e3 x).mp z with k | k
      · subst k; exact .inl ⟨vs, e2⟩
      · obtain ⟨d', m, v', O', r, z'⟩ := Owns.mem q k
        exact Own.dom r z'
    · obtain ⟨a, vs, P, e1, e2, e5, e3, e4, q⟩ := h
      rcases (e3 x).mp z with k | k
      · subst k; exact .inr ⟨vs, e2⟩
      · obtain ⟨d', m, v', O', r, z'⟩ := Owns.mem q k
        exact Own.dom r z'
    · exact (h.1 x z).elim
theorem Own.some {k : Nat} {d : D} {v : V} {O : AS} {x : Addr} (h : Own K H A k d v O) (z : O x) : ∃ o, H x = some o := by
  rcases h.dom z with ⟨_, e⟩ | ⟨_, e⟩ <;> exact ⟨_, e⟩
/-- the heap grows, the cut changes where nothing frozen stands -/
theorem Own.mono (s : Same H H') (hA : ∀ x, A' x → A x ∨ H x = none) : ∀ {k : Nat} {d : D} {v : V} {O : AS}, Own K H A k d v O → Own K H' A' k d v O
  | 0, d, v, O, h => ⟨h.1, h.2.mono fun b o q => cut_heap s b o (cut_fresh hA b o q)⟩
  | k + 1, d, v, O, h => by
    unfold Own at *
    split at h
    · obtain ⟨a, vs, P, e1, e2, e3, e4, q⟩ := h
      exact ⟨a, vs, P, e1, s _ _ e2, e3, e4, q.imp fun _ _ _ r => Own.mono s hA r⟩
    · obtain ⟨a, vs, P, e1, e2, e5, e3, e4, q⟩ := h
      exact ⟨a, vs, P, e1, s _ _ e2, e5, e3, e4, q.imp fun _ _ _ r => Own.mono s hA r⟩
    · exact ⟨h.1, h.2.mono fun b o q => cut_heap s b o (cut_fresh hA b o q)⟩
/-- an owned object of another footprint changes -/
theorem Own.upd {a : Addr} {o : HO} (hA : A a) : ∀ {k : Nat} {d : D} {v : V} {O : AS}, ¬ O a → Own K H A k d v O → Own K (L2.upd H a o) A k d v O
  | 0, d, v, O, n, h => ⟨h.1, by rw [cut_upd hA]; exact h.2⟩
  | k + 1, d, v, O, n, h => by
    unfold Own at *
    split at h
    · obtain ⟨b, vs, P, e1, e2, e3, e4, q⟩ := h
      have nb : b ≠ a := fun e => n (by rw [e3]; exact .inl e.symm)
      exact ⟨b, vs, P, e1, (upd_ne nb).trans e2, e3, e4, q.impIn fun _ _ _ _ s r => Own.upd hA (fun z => n (by rw [e3]; exact .inr (s a z))) r⟩
    · obtain ⟨b, vs, P, e1, e2, e5, e3, e4, q⟩ := h
      have nb : b ≠ a := fun e => n (by rw [e3]; exact .inl e.symm)
      exact ⟨b, vs, P, e1, (upd_ne nb).trans e2, e5, e3, e4, q.impIn fun _ _ _ _ s r => Own.upd hA (fun z => n (by rw [e3]; exact .inr (s a z))) r⟩
    · exact ⟨h.1, by rw [cut_upd hA]; exact h.2⟩
theorem Own.rep : ∀ {k : Nat} {d : D} {v : V} {O : AS}, Own K H A k d v O → RepR K H d v
  | 0, d, v, O, h => h.2.mono cut_same
  | k + 1, d, v, O, h => by
    unfold Own at h
    split at h
    · obtain ⟨b, vs, P, e1, e2, e3, e4, q⟩ := h
      unfold RepR
      exact ⟨b, vs, e1, SqL.of e2, q.rep fun _ _ _ r => Own.rep r⟩
    · obtain ⟨b, vs, P, e1, e2, e5, e3, e4, q⟩ := h
      unfold RepR
      exact ⟨b, vs, e1, .inl e2, e5, q.rep fun _ _ _ r => Own.rep r⟩
    · exact h.2.mono cut_same
/-- fewer things owned: the footprint shrinks to P', the rest is frozen -/
theorem Own.lower : ∀ {k : Nat} {d : D} {v : V} {O : AS}, Own K H A k d v O → ∀ k', k' ≤ k → ∃ O', (∀ x, O' x → O x) ∧ ∀ A', (∀ x, A' x → A x) → (∀ x, A' x → O x → O' x) → Own K H A' k' d v O'
  | 0, d, v, O, h, k', hk => by
    have : k' = 0 := by omega
    subst this
    exact ⟨O, fun _ z => z, fun A' s _ => ⟨h.1, h.2.mono (cut_set s)⟩⟩
  | k + 1, d, v, O, h, k', hk => by
    have shrink : ∀ (j j' : Nat) (ds : List D) (vs : List V) (P : AS), j' ≤ j → j ≤ k → Owns (Own K H A j) ds vs P → (∀ x, P x → O x) → ∃ P', (∀ x, P' x → P x) ∧ ∀ A', (∀ x, A' x → A x) → (∀ x, A' x → P x → P' x) → Owns (Own K H A' j') ds vs P' := by
      intro j j' ds
      induction ds with
      | nil => intro vs P _ _ q _; exact ⟨P, fun _ z => z, fun _ _ _ => q⟩
      | cons d ds ih =>
        intro vs P hj hjk ⟨v, vs', O1, O2, e, h1, h2, r, q⟩ hPO
        obtain ⟨P1, s1, f1⟩ := Own.lower r j' hj
        obtain ⟨P2, s2, f2⟩ := ih vs' O2 hj hjk q fun x z => hPO x ((h1 x).mpr (.inr z))
        refine ⟨fun x => P1 x ∨ P2 x, fun x z => (h1 x).mpr (z.elim (fun z => .inl (s1 x z)) fun z => .inr (s2 x z)), fun A' sA hA => ?_⟩
        refine ⟨v, vs', P1, P2, e, fun x => Iff.rfl, fun x z1 z2 => h2 x (s1 x z1) (s2 x z2), f1 A' sA fun x z o1 => ?_, f2 A' sA fun x z o2 => ?_⟩
        · rcases hA x z ((h1 x).mpr (.inl o1)) with k | k
          · exact k
          · exact (h2 x o1 (s2 x k)).elim
        · rcases hA x z ((h1 x).mpr (.inr o2)) with k | k
          · exact (h2 x (s1 x k) o2).elim
          · exact k
    cases k' with
    | zero =>
      unfold Own at h
      split at h
      · obtain ⟨b, vs, P, e1, e2, e3, e4, q⟩ := h
        obtain ⟨P', s', f'⟩ := shrink k 0 _ vs P (Nat.zero_le _) (Nat.le_refl _) q fun x z => (e3 x).mpr (.inr z)
        refine ⟨fun _ => False, fun _ z => z.elim, fun A' sA hA => ⟨fun _ z => z, ?_⟩⟩
        have nA : ∀ x, O x → ¬ A' x := fun x o z => hA x z o
        have q' := f' A' sA fun x z p => (nA x ((e3 x).mpr (.inr p)) z).elim
        unfold RepR
        exact ⟨b, vs, e1, SqL.of (cut_of e2 (nA b ((e3 b).mpr (.inl rfl)))), q'.rep fun _ _ _ r => r.2⟩
      · obtain ⟨b, vs, P, e1, e2, e5, e3, e4, q⟩ := h
        obtain ⟨P', s', f'⟩ := shrink k 0 _ _ P (Nat.zero_le _) (Nat.le_refl _) q fun x z => (e3 x).mpr (.inr z)
        refine ⟨fun _ => False, fun _ z => z.elim, fun A' sA hA => ⟨fun _ z => z, ?_⟩⟩
        have nA : ∀ x, O x → ¬ A' x := fun x o z => hA x z o
        have q' := f' A' sA fun x z p => (nA x ((e3 x).mpr (.inr p)) z).elim
        unfold RepR
        exact ⟨b, vs, e1, .inl (cut_of e2 (nA b ((e3 b).mpr (.inl rfl)))), e5, q'.rep fun _ _ _ r => r.2⟩
      · exact ⟨O, fun _ z => z, fun A' sA _ => ⟨h.1, h.2.mono (cut_set sA)⟩⟩
    | succ k' =>
      have hk' : k' ≤ k := by omega
      unfold Own at h
      split at h
      · obtain ⟨b, vs, P, e1, e2, e3, e4, q⟩ := h
        obtain ⟨P', s', f'⟩ := shrink k k' _ vs P hk' (Nat.le_refl _) q fun x z => (e3 x).mpr (.inr z)
        refine ⟨fun x => x = b ∨ P' x, fun x z => (e3 x).mpr (z.elim .inl fun z => .inr (s' x z)), fun A' sA hA => ?_⟩
        unfold Own
        refine ⟨b, vs, P', e1, e2, fun x => Iff.rfl, fun z => e4 (s' b z), f' A' sA fun x z p => ?_⟩
        rcases hA x z ((e3 x).mpr (.inr p)) with k | k
        · subst k; exact (e4 p).elim
        · exact k
      · obtain ⟨b, vs, P, e1, e2, e5, e3, e4, q⟩ := h
        obtain ⟨P', s', f'⟩ := shrink k k' _ _ P hk' (Nat.le_refl _) q fun x z => (e3 x).mpr (.inr z)
        refine ⟨fun x => x = b ∨ P' x, fun x z => (e3 x).mpr (z.elim .inl fun z => .inr (s' x z)), fun A' sA hA => ?_⟩
        unfold Own
        refine ⟨b, vs, P', e1, e2, e5, fun x => Iff.rfl, fun z => e4 (s' b z), f' A' sA fun x z p => ?_⟩
        rcases hA x z ((e3 x).mpr (.inr p)) with k | k
        · subst k; exact (e4 p).elim
        · exact k
      · rename_i hl hd
        have hc : d.cont = false := by
          cases d <;> first | rfl | exact (hl _ rfl).elim | exact (hd _ _ rfl).elim
        exact ⟨O, fun _ z => z, fun A' sA _ => (Own.flat hc).mpr ⟨h.1, h.2.mono (cut_set sA)⟩⟩
end
end Px

/-! Px2: the code of a def, and what it computes over pure data. -/
namespace Px
open PySem PySem.Spec PyProof.Rows L2

inductive R (α : Type) where
  | ok (a : α) | exc (x : String) (p : List (String × Int)) | stuck
  | draw (f : Int → R α)
def R.bind {α β : Type} (a : R α) (f : α → R β) : R β := match a with
  | .ok a => f a
  | .exc x p => .exc x p
  | .stuck => .stuck
  | .draw g => .draw fun n => R.bind (g n) f
instance : Monad R where
  pure := R.ok
  bind := R.bind
section
variable {α β : Type}
@[simp] theorem R.bind_ok (a : α) (f : α → R β) : (R.ok a >>= f) = f a := rfl
@[simp] theorem R.bind_exc (x : String) (p : List (String × Int)) (f : α → R β) : ((R.exc x p : R α) >>= f) = R.exc x p := rfl
@[simp] theorem R.bind_stuck (f : α → R β) : ((R.stuck : R α) >>= f) = R.stuck := rfl
@[simp] theorem R.bind_draw (g : Int → R α) (f : α → R β) : ((R.draw g : R α) >>= f) = R.draw fun n => g n >>= f := rfl
theorem R.bind_assoc {γ : Type} (r : R α) (f : α → R β) (g : β → R γ) : (r >>= f) >>= g = r >>= fun a => f a >>= g := by
  induction r with
  | ok a => rfl
  | exc x p => rfl
  | stuck => rfl
  | draw h ih => exact congrArg R.draw (funext ih)
/-- neither an exception nor a draw -/
def wild : R α → Prop
  | .exc _ _ => True
  | .draw _ => True
  | _ => False
@[simp] theorem R.pure_ok (a : α) : (pure a : R α) = R.ok a := rfl
end

/-- a value of an expression: none: borrowed from a slot; some k: our own, owned down to the depth k (0: frozen) -/
abbrev Kd := Option Nat × D
abbrev Env := List (Option (Nat × D))
abbrev at9 (d : D) : Kd := (some 9, d)
/-- nothing but what is not a container is ever frozen by name -/
def kd (k : Nat) (d : D) : Kd := if d.cont then (some k, d) else (some 9, d)
def needV : Kd → R (Nat × D)
  | (some k, d) => .ok (k, d)
  | (none, _) => .stuck

/-! ### operations -/
/-- how deep the items of a list are owned, when they go into a new one -/
def chd (k : Option Nat) (xs : List D) : R Nat :=
  if xs.any D.cont then match k with
    | none => .stuck
    | some 0 => .ok 0
    | some (k + 1) => .ok k
  else .ok 8
def newL (k : Nat) (xs : List D) : Kd := (some (k + 1), .lst xs)
abbrev line : Nat := 16777216
def mulOk (a b : Int) : Bool := a.natAbs < 18446744073709551616 || b.natAbs < 18446744073709551616
def repL {α : Type} (n : Int) (xs : List α) : List α := (List.replicate n.toNat xs).flatten
def binD : Operator → Kd → Kd → R Kd
  | .Add, (_, .int a), (_, .int b) => .ok (at9 (.int (a + b)))
  | .Sub, (_, .int a), (_, .int b) => .ok (at9 (.int (a - b)))
  | .Mult, (_, .int a), (_, .int b) => if mulOk a b then .ok (at9 (.int (a * b))) else .stuck
  | .FloorDiv, (_, .int a), (_, .int b) => if b ≠ 0 ∧ b.natAbs < 1073741824 then .ok (at9 (.int (a.fdiv b))) else .stuck
  | .Mod, (_, .int a), (_, .int b) => if b ≠ 0 then .ok (at9 (.int (a.fmod b))) else .stuck
  | .Pow, (_, .int a), (_, .int b) => if 0 ≤ b ∧ b ≤ 1000000 ∧ a.natAbs < 18446744073709551616 then .ok (at9 (.int (a ^ b.toNat))) else .stuck
  | .BitAnd, (_, .int a), (_, .int b) => .ok (at9 (.int (Builtin.bitAnd a b)))
  | .BitOr, (_, .int a), (_, .int b) => .ok (at9 (.int (Builtin.bitOr a b)))
  | .BitXor, (_, .int a), (_, .int b) => .ok (at9 (.int (Builtin.bitXor a b)))
  | .Add, (_, .str a), (_, .str b) => if a.length + b.length ≤ line then .ok (at9 (.str (a ++ b))) else .stuck
  | .Mult, (_, .str a), (_, .int n) => if -9223372036854775808 ≤ n ∧ n < 9223372036854775808 ∧ a.length * n.toNat ≤ line then .ok (at9 (.str (repL n a))) else .stuck
  | .Add, (k, .lst xs), (l, .lst ys) => if xs.length + ys.length ≤ line then do let a ← chd k xs; let b ← chd l ys; .ok (newL (min a b) (xs ++ ys)) else .stuck
  | .Mult, (some (_ + 1), .lst xs), (_, .int n) => if -9223372036854775808 ≤ n ∧ n < 9223372036854775808 ∧ xs.length * n.toNat ≤ line ∧ xs.any D.cont = false then .ok (newL 8 (repL n xs)) else .stuck
  | .Mult, (_, .tup xs), (_, .int n) => if xs.isEmpty = false ∧ 0 ≤ n ∧ n ≤ 1000 ∧ xs.length ≤ 1000 then .ok (at9 (.tup (repL n xs))) else .stuck
  | .Add, (_, .tup xs), (_, .tup ys) => if xs.length + ys.length ≤ line then .ok (at9 (.tup (xs ++ ys))) else .stuck
  | _, _, _ => .stuck
def unD : UnaryOp → Kd → R Kd
  | .USub, (_, .int a) => .ok (at9 (.int (-a)))
  | _, _ => .stuck
mutual
/-- as the data that the model's == speaks of -/
def D.py : D → PyData
  | .non => .none
  | .bl b => .bool b
  | .int i => .int i
  | .str s => .str (mkS s)
  | .lst xs => .list (D.pys xs)
  | .tup xs => .tuple (D.pys xs)
  | .dct _ _ => .dict []
  | .ext _ => .dict []
def D.pys : List D → List PyData
  | [] => []
  | d :: ds => d.py :: D.pys ds
end
def shp (d : D) : Bool := SeqAt.shaped d.py
def eqD (a b : D) : Bool := PyData.eqv a.py b.py
def inStr (x y : List Nat) : Bool := !(Builtin.Str.occurrences (mkS y) (mkS x) 0 y.length 1).isEmpty
def ltStr (a b : List Nat) : Bool := decide (a < b)
def scalB : D → D → Option Bool
  | .non, .non => some true
  | .int a, .int b => some (decide (a = b))
  | .bl a, .bl b => some (a == b)
  | .str a, .str b => some (decide (a = b))
  | _, _ => none
def memD (a : D) (xs : List D) : Bool := xs.any fun z => PyData.eqv z.py a.py
def eqK : D → D → Bool
  | .int a, .int b => decide (a = b)
  | .str a, .str b => decide (a = b)
  | _, _ => false
/-- a dict's values with another one at a key -/
def putV : List D → List D → D → D → List D
  | k :: ks, v :: vs, y, d => (if eqK k y then d else v) :: putV ks vs y d
  | _, _, _, _ => []
def dctPut (ks vs : List D) (y d : D) : List D × List D := if (ks.any fun k => eqK k y) = true then (ks, putV ks vs y d) else (ks ++ [y], vs ++ [d])
/-- without a key -/
def dropKs (ks : List D) (y : D) : List D := ks.filter fun k => !eqK k y
def dropVs : List D → List D → D → List D
  | k :: ks, v :: vs, y => if eqK k y then dropVs ks vs y else v :: dropVs ks vs y
  | _, _, _ => []
/-- what a dict holds at a key -/
def dctGet : List D → List D → D → Option D
  | k :: ks, v :: vs, y => if eqK k y then some v else dctGet ks vs y
  | _, _, _ => none
def keyD : D → Bool
  | .int _ => true
  | .str _ => true
  | _ => false
def isNonD : D → Bool
  | .non => true
  | _ => false
/-- a < b of tuples, nested as they may be -/
def ltOk (a b : D) : Bool := shp a && shp b && PySem.W.alike a.py b.py
def ltD (a b : D) : Bool := PySem.W.dataLt a.py b.py
def leD (a b : D) : Bool := !ltD b a
/-- keys that can be compared, each with each -/
def ntD (d : D) : Bool := match d with
  | .non => false
  | _ => true
def keyOk (ks : List D) : Bool := ks.all (fun d => shp d && ntD d && decide (d.py.depth ≤ 60)) && ks.all fun a => ks.all fun b => PySem.W.alike a.py b.py
def srtB (ds : List D) : Bool := ds.all (fun d => match d with | .tup (_ :: _) => true | _ => false) || ds.all (fun d => match d with | .non => false | .tup _ => false | _ => true)
def bestK (ds : List D) (n : Nat) : Nat := PySem.argBest (fun i j => ltD (ds.getD i .non) (ds.getD j .non)) n
def sortKL {α : Type} (ds : List D) (cs : List α) : List α := ((ds.zip cs).mergeSort fun p q => leD p.1 q.1).map (·.2)
def cmpD : CmpOp → Kd → Kd → R Bool
  | .Eq, (_, a), (_, b) => match scalB a b with
    | some r => .ok r
    | none => if shp a && shp b then .ok (eqD a b) else .stuck
  | .NotEq, (_, a), (_, b) => match scalB a b with
    | some r => .ok (!r)
    | none => if shp a && shp b then .ok (!eqD a b) else .stuck
  | .Lt, (_, .int a), (_, .int b) => .ok (decide (a < b))
  | .LtE, (_, .int a), (_, .int b) => .ok (decide (a ≤ b))
  | .Gt, (_, .int a), (_, .int b) => .ok (decide (b < a))
  | .GtE, (_, .int a), (_, .int b) => .ok (decide (b ≤ a))
  | .In, (_, .str a), (_, .str b) => .ok (inStr a b)
  | .NotIn, (_, .str a), (_, .str b) => .ok (!inStr a b)
  | .In, (_, a), (_, .lst xs) => if shp a && shp (.lst xs) then .ok (memD a xs) else .stuck
  | .NotIn, (_, a), (_, .lst xs) => if shp a && shp (.lst xs) then .ok (!memD a xs) else .stuck
  | .In, (_, a), (_, .tup xs) => if shp a && shp (.tup xs) then .ok (memD a xs) else .stuck
  | .NotIn, (_, a), (_, .tup xs) => if shp a && shp (.tup xs) then .ok (!memD a xs) else .stuck
  | .In, (_, a), (_, .dct ks vs) => if keyD a then .ok (dctGet ks vs a).isSome else .stuck
  | .NotIn, (_, a), (_, .dct ks vs) => if keyD a then .ok (!(dctGet ks vs a).isSome) else .stuck
  | .Lt, (_, .tup xs), (_, .tup ys) => if ltOk (.tup xs) (.tup ys) then .ok (ltD (.tup xs) (.tup ys)) else .stuck
  | .LtE, (_, .tup xs), (_, .tup ys) => if ltOk (.tup xs) (.tup ys) then .ok (leD (.tup xs) (.tup ys)) else .stuck
  | .Is, (_, a), (_, .non) => .ok (isNonD a)
  | .IsNot, (_, a), (_, .non) => .ok (!isNonD a)
  | .Is, (_, .bl a), (_, .bl b) => .ok (a == b)
  | .IsNot, (_, .bl a), (_, .bl b) => .ok (!(a == b))
  | _, _, _ => .stuck
def truD : Kd → R Bool
  | (_, .non) => .ok false
  | (_, .bl b) => .ok b
  | (_, .int i) => .ok (i != 0)
  | (_, .str s) => if s.length ≤ line then .ok (!s.isEmpty) else .stuck
  | (_, .lst xs) => .ok (!xs.isEmpty)
  | (_, .tup xs) => .ok (!xs.isEmpty)
  | _ => .stuck
def idxD : Kd → Kd → R Kd
  | (k, .lst xs), (_, .int i) => match atI xs i with
    | some d => if d.cont then (match k with
        | none => .ok (none, d)
        | some 0 => .ok (some 0, d)
        | some (k + 1) => .ok (some k, d)) else .ok (at9 d)
    | none => .stuck
  | (_, .tup xs), (_, .int i) => match atI xs i with
    | some d => .ok (kd 0 d)
    | none => .stuck
  | (_, .str s), (_, .int i) => if s.length ≤ line then (match atI s i with
    | some c => .ok (at9 (.str [c]))
    | none => .stuck) else .stuck
  | (_, .dct ks vs), (_, y) => if keyD y then (match dctGet ks vs y with
    | some d => if d.cont then .stuck else .ok (at9 d)
    | none => .stuck) else .stuck
  | _, _ => .stuck
def cutL {α : Type} (xs : List α) (lo hi : Option Int) : List α := (xs.drop (HT.sIx xs.length 0 lo)).take (HT.sIx xs.length xs.length hi - HT.sIx xs.length 0 lo)
def slD (a : Kd) (lo hi : Option Int) : R Kd := match a with
  | (_, .str s) => if s.length ≤ line then .ok (at9 (.str (cutL s lo hi))) else .stuck
  | (k, .lst xs) => do let c ← chd k xs; .ok (newL c (cutL xs lo hi))
  | (_, .tup xs) => .ok (at9 (.tup (cutL xs lo hi)))
  | _ => .stuck
def revD : Kd → R Kd
  | (_, .str s) => if s.length ≤ line then .ok (at9 (.str s.reverse)) else .stuck
  | (k, .lst xs) => do let c ← chd k xs; .ok (newL c xs.reverse)
  | _ => .stuck

/-- what repr tells -/
def rpS (d : D) : List Nat := d.py.shown.cps.toList
def rOk (d : D) : Bool := shp d && d.py.showable && decide ((rpS d).length ≤ line)
/-- built-ins that are called by their names -/
inductive Bi where
  | len | int | list | tuple | abs | max2 | min2 | sum | maxL | minL | all | any | repr | str | sortI
  deriving DecidableEq
def intsOf : List D → Option (List Int)
  | [] => some []
  | .int i :: r => (intsOf r).map (i :: ·)
  | _ => none
def blsOf : List D → Option (List Bool)
  | [] => some []
  | .bl i :: r => (blsOf r).map (i :: ·)
  | _ => none
def strsOf : List D → Option (List (List Nat))
  | [] => some []
  | .str i :: r => (strsOf r).map (i :: ·)
  | _ => none
def maxI : List Int → Int
  | [] => 0
  | [a] => a
  | a :: b :: r => let m := maxI (b :: r); if m > a then m else a
def minI : List Int → Int
  | [] => 0
  | [a] => a
  | a :: b :: r => let m := minI (b :: r); if m < a then m else a
def rng1 (lo hi : Int) : List D := (List.range (hi - lo).toNat).map fun (i : Nat) => D.int (lo + (i : Int))
/-- whole numbers in ascending order -/
def insI (a : Int) : List Int → List Int
  | [] => [a]
  | b :: r => if a ≤ b then a :: b :: r else b :: insI a r
def isort : List Int → List Int
  | [] => []
  | a :: r => insI a (isort r)
/-- list(range(..)), tuple(range(..)) -/
def rglD (t : Bool) (lo hi : Int) : R Kd := if 0 ≤ lo ∧ lo ≤ 16777216 ∧ 0 ≤ hi ∧ hi ≤ 16777216 then .ok (if t then at9 (.tup (rng1 lo hi)) else newL 8 (rng1 lo hi)) else .stuck
/-- sorted(xs), any data that can be compared -/
def sortD (k : Option Nat) (xs : List D) : R Kd := do let _ ← chd k xs; if keyOk xs && srtB xs then .ok (newL 0 (xs.mergeSort leD)) else .stuck
def biD : Bi → List Kd → R Kd
  | .len, [(_, .str s)] => if s.length ≤ line then .ok (at9 (.int s.length)) else .stuck
  | .len, [(_, .lst xs)] => .ok (at9 (.int xs.length))
  | .len, [(_, .tup xs)] => .ok (at9 (.int xs.length))
  | .int, [(_, .int i)] => .ok (at9 (.int i))
  | .int, [(_, .bl b)] => .ok (at9 (.int (if b then 1 else 0)))
  | .int, [(_, .str s)] => match PySem.intText? (mkS s) with
    | some n => if s.length ≤ 640 then .ok (at9 (.int n)) else .stuck
    | none => .stuck
  | .str, [(_, .int i)] => if i.natAbs.log2 < 1920 then .ok (at9 (.str (Str.ofString (toString i)).cps.toList)) else .stuck
  | .list, [(k, .lst xs)] => do let c ← chd k xs; .ok (newL c xs)
  | .list, [(_, .tup xs)] => .ok (newL (if xs.any D.cont then 0 else 8) xs)
  | .list, [(_, .str s)] => if s.length ≤ line then .ok (newL 8 (s.map fun c => .str [c])) else .stuck
  | .tuple, [(k, .lst xs)] => do let _ ← chd k xs; .ok (at9 (.tup xs))
  | .tuple, [(_, .tup xs)] => .ok (at9 (.tup xs))
  | .abs, [(_, .int i)] => .ok (at9 (.int (if i < 0 then -i else i)))
  | .max2, [(_, .int i), (_, .int j)] => .ok (at9 (.int (if j > i then j else i)))
  | .min2, [(_, .int i), (_, .int j)] => .ok (at9 (.int (if j < i then j else i)))
  | .sum, [(_, .lst xs)] => match intsOf xs with
    | some ns => .ok (at9 (.int ns.sum))
    | none => .stuck
  | .maxL, [(_, .lst xs)] => match intsOf xs with
    | some (n :: ns) => .ok (at9 (.int (maxI (n :: ns))))
    | _ => .stuck
  | .minL, [(_, .lst xs)] => match intsOf xs with
    | some (n :: ns) => .ok (at9 (.int (minI (n :: ns))))
    | _ => .stuck
  | .all, [(_, .lst xs)] => match blsOf xs with
    | some bs => .ok (at9 (.bl (bs.all id)))
    | none => .stuck
  | .any, [(_, .lst xs)] => match blsOf xs with
    | some bs => .ok (at9 (.bl (bs.any id)))
    | none => .stuck
  | .sortI, [(k, .lst xs)] => match intsOf xs with
    | some ns => .ok (newL 8 ((isort ns).map .int))
    | none => sortD k xs
  | .sortI, [(_, .tup xs)] => match intsOf xs with
    | some ns => .ok (newL 8 ((isort ns).map .int))
    | none => .stuck
  | .repr, [(_, .bl b)] => .ok (at9 (.str (if b then [84, 114, 117, 101] else [70, 97, 108, 115, 101])))
  | .repr, [(_, d)] => if rOk d then .ok (at9 (.str (rpS d))) else .stuck
  | _, _ => .stuck
/-- methods that change nothing -/
inductive Me where
  | join | sindex | lindex | startswith | endswith | count | split
  deriving DecidableEq
def splS (s t : List Nat) : List D := (Txt.split (mkS s) (mkS t)).map fun y => .str y.cps.toList
def joinL (s : List Nat) : List (List Nat) → List Nat
  | [] => []
  | [x] => x
  | x :: y :: r => x ++ s ++ joinL s (y :: r)
def indexOf (c : Nat) : List Nat → Option Nat
  | [] => none
  | d :: r => if d = c then some 0 else (indexOf c r).map (· + 1)
def meOk : Me → D → Bool
  | .lindex, .lst _ => true
  | .lindex, _ => false
  | _, .str _ => true
  | _, _ => false
/-- the name of a value's type -/
def tyN : D → String
  | .non => "NoneType" | .bl _ => "bool" | .int _ => "int" | .str _ => "str" | .lst _ => "list" | .tup _ => "tuple" | .dct _ _ => "dict" | .ext _ => "?"
def meD : Me → Kd → List Kd → R Kd
  | .join, (_, .str s), [(_, .lst xs)] => match strsOf xs with
    | some ys => if (ys.map (·.length)).sum + ys.length * s.length ≤ line then .ok (at9 (.str (joinL s ys))) else .stuck
    | none => .stuck
  | .sindex, (_, .str s), [(_, .str [c])] => match indexOf c s with
    | some n => .ok (at9 (.int n))
    | none => .stuck
  | .lindex, (_, .lst xs), [(_, .int c)] => match intsOf xs with
    | some ns => if ns.contains c then .ok (at9 (.int (ns.idxOf c))) else .stuck
    | none => .stuck
  | .lindex, (_, .lst xs), [(_, .str c)] => match strsOf xs with
    | some ns => if ns.contains c then .ok (at9 (.int (ns.idxOf c))) else .stuck
    | none => .stuck
  | .startswith, (_, .str s), [(_, .str t)] => .ok (at9 (.bl (Txt.startswith (mkS s) (mkS t))))
  | .endswith, (_, .str s), [(_, .str t)] => .ok (at9 (.bl (Txt.endswith (mkS s) (mkS t))))
  | .count, (_, .str s), [(_, .str t)] => .ok (at9 (.int (Txt.count (mkS s) (mkS t))))
  | .split, (_, .str s), [(_, .str t)] => if (t.length == 0) = false ∧ s.length + 2 ≤ line then .ok (newL 8 (splS s t)) else .stuck
  | _, _, _ => .stuck

/-- a def that tells the kind of an error: the classes and their words, the class above all, the word for no class -/
inductive Kt where
  | lit (n : Int) | fld (c f : String)
  deriving DecidableEq
/-- a word, or a pair of a word and a number -/
inductive Kw where
  | w (s : List Nat) | p (s : List Nat) (t : Kt)
  deriving DecidableEq
structure Kn where
  es : List (String × Kw)
  top : String
  o : Kw
  deriving DecidableEq
/-! ### code -/
inductive Pat where
  | nm (i : Nat) | tp (ps : List Pat)
mutual
/-- an expression -/
inductive Ex where
  | var (i : Nat) | lit (d : D) | glob (j : Nat)
  | bin (o : Operator) (a b : Ex) | un (o : UnaryOp) (a : Ex)
  | cmp (o : CmpOp) (a b : Ex) | chain (o o' : CmpOp) (a b c : Ex)
  | and (a b : Ex) | or (a b : Ex) | not (a : Ex) | ite (c : Tx) (a b : Ex)
  | idx (a i : Ex) | sl (a : Ex) (lo hi : Ox) | rev (a : Ex)
  | call (j : Nat) (es : List Ex) | bi (b : Bi) (es : List Ex) | me (m : Me) (a : Ex) (es : List Ex)
  | tup (es : List Ex) | list (es : List Ex)
  | comp (p : Pat) (it : Ix) (cs : List Tx) (e : Ex)
  | isTy (a : Ex) (t : String)
  | dlk (ps : List (D × D)) (a : Ex) | dlg (ps : List (D × D)) (a : Ex) (d : D)
  | dnw | dsp (k v : Ex) | dgt (a y x : Ex)
  | tix (a i : Ex)
  | keyed (mn : Bool) (j : Nat) (es : List Ex)
  | tupS (a b c : Ex)
  | rgl1 (t : Bool) (a : Ex) | rgl2 (t : Bool) (a b : Ex)
/-- a test -/
inductive Tx where
  | and (a b : Tx) | or (a b : Tx) | not (a : Tx)
  | cmp (o : CmpOp) (a b : Ex) | chain (o o' : CmpOp) (a b c : Ex)
  | val (a : Ex)
/-- a part of a slice -/
inductive Ox where
  | no | yes (a : Ex)
/-- what is walked, in a for or a comprehension alone -/
inductive Ix where
  | rng1 (a : Ex) | rng2 (a b : Ex) | rng3 (a b c : Ex) | enum (a : Ex) | zip (a b : Ex) | val (a : Ex)
end

/-- {k: v, ..}[y], keys and values written -/
def dget (ps : List (D × D)) (y : D) : Option D := ps.foldl (fun a p => if eqK p.1 y then some p.2 else a) none
/-- a target takes a frozen value -/
def isFl : D → Bool := fun d => d.cont
def dgtD (ks vs : List D) (y x : Kd) : R Kd := if keyD y.2 && !x.2.cont then (match dctGet ks vs y.2 with
    | some d => if d.cont then .stuck else .ok (at9 d)
    | none => .ok (at9 x.2)) else .stuck
/-- t.index(n), there -/
def tixD (xs : List D) (y : Kd) : R Kd := match intsOf xs, y.2 with
  | some ns, .int c => if ns.contains c then .ok (at9 (.int (ns.idxOf c))) else .stuck
  | _, _ => .stuck
mutual
def bindP : Pat → D → Env → R Env
  | .nm i, d, ρ => if i < ρ.length then .ok (ρ.set i (some ((kd 0 d).1.getD 0, d))) else .stuck
  | .tp ps, .tup ds, ρ => bindPs ps ds ρ
  | .tp ps, .lst ds, ρ => bindPs ps ds ρ
  | .tp _, _, _ => .stuck
def bindPs : List Pat → List D → Env → R Env
  | [], [], ρ => .ok ρ
  | p :: ps, d :: ds, ρ => do let ρ' ← bindP p d ρ; bindPs ps ds ρ'
  | _, _, _ => .stuck
end
/-- what is walked, as frozen items -/
def itemsD (bor : Bool) : Kd → R (List D)
  | (k, .lst xs) => if k.isNone && !bor then .stuck else do let _ ← chd k xs; .ok xs
  | (_, .tup xs) => .ok xs
  | (_, .str s) => .ok (s.map fun c => .str [c])
  | _ => .stuck
/-- .. of a list or a tuple -/
def itemsM (bor : Bool) : Kd → R (List D)
  | (k, .lst xs) => itemsD bor (k, .lst xs)
  | (k, .tup xs) => itemsD bor (k, .tup xs)
  | _ => .stuck
/-- .. of a list alone -/
def itemsL (bor : Bool) : Kd → R (List D)
  | (k, .lst xs) => itemsD bor (k, .lst xs)
  | _ => .stuck
def mapR {α β : Type} (f : α → R β) : List α → R (List β)
  | [] => .ok []
  | a :: r => do let b ← f a; let bs ← mapR f r; .ok (b :: bs)
/-- a comprehension: the items kept -/
def compR (f : D → R (Option (Nat × D))) : List D → R (List (Nat × D))
  | [] => .ok []
  | a :: r => do
    let b ← f a
    let bs ← compR f r
    match b with
      | some b => .ok (b :: bs)
      | none => .ok bs
/-- (a, b, *c), c a tuple -/
def tup2 (x y z : Kd) : R Kd := match z with
  | (_, .tup zs) => if x.2.cont || y.2.cont then .stuck else if zs.length + 2 ≤ line then .ok (at9 (.tup (x.2 :: y.2 :: zs))) else .stuck
  | _ => .stuck
def dmin : List Nat → Nat
  | [] => 8
  | k :: r => min k (dmin r)
def listV (vs : List (Nat × D)) : R Kd := if vs.length ≤ line then .ok (newL (dmin (vs.map (·.1))) (vs.map (·.2))) else .stuck
def listD (ks : List Kd) : R Kd := do
  let vs ← mapR needV ks
  listV vs
def tupD (ks : List Kd) : R Kd := do
  let vs ← mapR needV ks
  if vs.length ≤ line then .ok (at9 (.tup (vs.map (·.2)))) else .stuck
mutual
def pureD : D → Bool
  | .lst _ => false
  | .dct _ _ => false
  | .tup xs => puresD xs
  | _ => true
def puresD : List D → Bool
  | [] => true
  | d :: ds => pureD d && puresD ds
end
def ownAll : Nat → D → Bool
  | 0, d => pureD d
  | k + 1, d => match d with
    | .lst xs => xs.all (ownAll k)
    | .dct _ vs => vs.all (ownAll k)
    | d => pureD d
abbrev Fn := List D → R (Nat × D)
def callD (f : Fn) (ks : List Kd) : R Kd := do
  let (k, d) ← f (ks.map (·.2))
  if ks.any (fun x => x.1.isNone) && !ownAll k d then .stuck else .ok (kd k d)
def rngL (lo hi st : Int) : List D := (List.range (Builtin.Range.rangeSize lo hi st).toNat).map fun (i : Nat) => D.int (lo + (i : Int) * st)
def big : Int := 4611686018427387904
def inBig (a : Int) : Bool := -big ≤ a && a < big
def enumL : Nat → List D → List D
  | _, [] => []
  | n, d :: ds => .tup [.int n, d] :: enumL (n + 1) ds
def zipL : List D → List D → List D
  | a :: as, b :: bs => .tup [a, b] :: zipL as bs
  | _, _ => []

mutual
def Pat.slots : Pat → List Nat
  | .nm i => [i]
  | .tp ps => slotsL ps
def slotsL : List Pat → List Nat
  | [] => []
  | p :: ps => p.slots ++ slotsL ps
end
def wipeE (ρ : Env) : List Nat → Env
  | [] => ρ
  | v :: vs => (wipeE ρ vs).set v none
/-- what raises within a comprehension is not looked at -/
def noExc {α : Type} : R α → R α
  | .ok a => .ok a
  | .draw f => .draw fun n => noExc (f n)
  | _ => .stuck
/-- min(xs, key=f), sorted(xs, key=f): texts -/
def keysOf (f : Fn) : List (List Nat) → Option (List D)
  | [] => some []
  | c :: r => match f [.str c], keysOf f r with
    | .ok (_, d), some ds => some (d :: ds)
    | _, _ => none
def keyedS (mn : Bool) (cs : List (List Nat)) (ds : List D) : R Kd := if keyOk ds = true then (if mn = true then (match cs[bestK ds (cs.length - 1)]? with
    | some c => .ok (at9 (.str c))
    | none => .stuck) else if srtB ds = true then .ok (newL 8 ((sortKL ds cs).map .str)) else .stuck) else .stuck
def keyedD (mn : Bool) (f : Fn) : List Kd → R Kd
  | [(_, .lst xs)] => match strsOf xs with
    | some cs => (match keysOf f cs with
      | some ds => keyedS mn cs ds
      | none => .stuck)
    | none => .stuck
  | _ => .stuck
section
variable (F : List Fn) (C : List D)
mutual
def ev : Ex → Env → R Kd
  | .var i, ρ => match ρ[i]? with
    | some (some (k, d)) => .ok (if d.cont then (if k = 0 then (some 0, d) else (none, d)) else at9 d)
    | _ => .stuck
  | .lit d, _ => .ok (at9 d)
  | .glob j, _ => match C[j]? with
    | some d => .ok (kd 0 d)
    | none => .stuck
  | .bin o a b, ρ => do let x ← ev a ρ; let y ← ev b ρ; binD o x y
  | .un o a, ρ => do let x ← ev a ρ; unD o x
  | .cmp o a b, ρ => do let x ← ev a ρ; let y ← ev b ρ; let r ← cmpD o x y; .ok (at9 (.bl r))
  | .chain o o' a b c, ρ => do
    let x ← ev a ρ
    let y ← ev b ρ
    let r ← cmpD o x y
    if r then do let z ← ev c ρ; let r' ← cmpD o' y z; .ok (at9 (.bl r')) else .ok (at9 (.bl false))
  | .and a b, ρ => do
    let x ← ev a ρ
    match x with
      | (_, .bl true) => ev b ρ
      | (_, .bl false) => .ok (at9 (.bl false))
      | _ => .stuck
  | .or a b, ρ => do
    let x ← ev a ρ
    match x with
      | (_, .bl true) => .ok (at9 (.bl true))
      | (_, .bl false) => ev b ρ
      | _ => .stuck
  | .not a, ρ => do let x ← ev a ρ; let r ← truD x; .ok (at9 (.bl (!r)))
  | .ite c a b, ρ => do let r ← tst c ρ; if r then ev a ρ else ev b ρ
  | .idx a i, ρ => do let x ← ev a ρ; let y ← ev i ρ; idxD x y
  | .sl a lo hi, ρ => do let x ← ev a ρ; let l ← evO lo ρ; let h ← evO hi ρ; slD x l h
  | .rev a, ρ => do let x ← ev a ρ; revD x
  | .call j es, ρ => do
    let ks ← evs es ρ
    match F[j]? with
      | some f => callD f ks
      | none => .stuck
  | .keyed b j es, ρ => do
    let ks ← evs es ρ
    match F[j]? with
      | some f => keyedD b f ks
      | none => .stuck
  | .bi b es, ρ => do let ks ← evs es ρ; biD b ks
  | .me m a es, ρ => do
    let x ← ev a ρ
    if meOk m x.2 then do let ks ← evs es ρ; meD m x ks else .stuck
  | .tup es, ρ => do let ks ← evs es ρ; tupD ks
  | .list es, ρ => do let ks ← evs es ρ; listD ks
  | .comp p it cs e, ρ => do
    let xs ← evI true it ρ
    let ks ← noExc (compR (fun d => do
      let ρ' ← bindP p d (wipeE ρ p.slots)
      let r ← tsts cs ρ'
      if r then do let k ← ev e ρ'; let k ← needV k; .ok (some k) else .ok none) xs)
    listV ks
  | .isTy a t, ρ => do
    let x ← ev a ρ
    match kitB (tyN x.2) t with
      | some b => .ok (at9 (.bl b))
      | none => .stuck
  | .tupS a b c, ρ => do let x ← ev a ρ; let y ← ev b ρ; let z ← ev c ρ; tup2 x y z
  | .rgl1 t a, ρ => do
    let x ← ev a ρ
    match x with
      | (_, .int n) => rglD t 0 n
      | _ => .stuck
  | .rgl2 t a b, ρ => do
    let x ← ev a ρ
    let y ← ev b ρ
    match x, y with
      | (_, .int n), (_, .int m) => rglD t n m
      | _, _ => .stuck
  | .dlk ps a, ρ => do
    let x ← ev a ρ
    match dget ps x.2 with
      | some d => .ok (at9 d)
      | none => .stuck
  | .dlg ps a d, ρ => do
    let x ← ev a ρ
    if keyD x.2 then .ok (at9 ((dget ps x.2).getD d)) else .stuck
  | .dnw, _ => .ok (some 9, .dct [] [])
  | .dsp k v, ρ => do
    let x ← ev k ρ
    let y ← ev v ρ
    if keyD x.2 && !y.2.cont then .ok (some 9, .dct [x.2] [y.2]) else .stuck
  | .dgt a y x, ρ => do
    let d ← ev a ρ
    match d with
      | (_, .dct ks vs) => do
        let k ← ev y ρ
        let v ← ev x ρ
        dgtD ks vs k v
      | _ => .stuck
  | .tix a i, ρ => do
    let x ← ev a ρ
    match x with
      | (_, .tup xs) => do
        let y ← ev i ρ
        tixD xs y
      | _ => .stuck
/-- a part of a slice -/
def evO : Ox → Env → R (Option Int)
  | .no, _ => .ok none
  | .yes e, ρ => do
    let x ← ev e ρ
    match x with
      | (_, .int i) => .ok (some i)
      | _ => .stuck
/-- as a test -/
def tst : Tx → Env → R Bool
  | .and a b, ρ => do let r ← tst a ρ; if r then tst b ρ else .ok false
  | .or a b, ρ => do let r ← tst a ρ; if r then .ok true else tst b ρ
  | .not a, ρ => do let r ← tst a ρ; .ok (!r)
  | .cmp o a b, ρ => do let x ← ev a ρ; let y ← ev b ρ; cmpD o x y
  | .chain o o' a b c, ρ => do
    let x ← ev a ρ
    let y ← ev b ρ
    let r ← cmpD o x y
    if r then do let z ← ev c ρ; cmpD o' y z else .ok false
  | .val e, ρ => do let x ← ev e ρ; truD x
/-- what is walked -/
def evI (bor : Bool) : Ix → Env → R (List D)
  | .rng1 a, ρ => do
    let x ← ev a ρ
    match x with
      | (_, .int n) => if inBig n then .ok (rng1 0 n) else .stuck
      | _ => .stuck
  | .rng2 a b, ρ => do
    let x ← ev a ρ
    let y ← ev b ρ
    match x, y with
      | (_, .int n), (_, .int m) => if inBig n && inBig m then .ok (rng1 n m) else .stuck
      | _, _ => .stuck
  | .rng3 a b c, ρ => do
    let x ← ev a ρ
    let y ← ev b ρ
    let z ← ev c ρ
    match x, y, z with
      | (_, .int n), (_, .int m), (_, .int k) => if inBig n && inBig m && k ≠ 0 && k.natAbs < 1073741824 && Builtin.Range.small n m k && 0 ≤ Builtin.Range.rangeSize n m k then .ok (rngL n m k) else .stuck
      | _, _, _ => .stuck
  | .enum a, ρ => do let x ← ev a ρ; let xs ← itemsM bor x; .ok (enumL 0 xs)
  | .zip a b, ρ => do let x ← ev a ρ; let y ← ev b ρ; let xs ← itemsM bor x; let ys ← itemsL bor y; .ok (zipL xs ys)
  | .val e, ρ => do let x ← ev e ρ; itemsD bor x
def evs : List Ex → Env → R (List Kd)
  | [], _ => .ok []
  | e :: es, ρ => do let k ← ev e ρ; let ks ← evs es ρ; .ok (k :: ks)
def tsts : List Tx → Env → R Bool
  | [], _ => .ok true
  | e :: es, ρ => do let r ← tst e ρ; if r then tsts es ρ else .ok false
end
end
end Px

/-! PxS: sorted of whole numbers, in a list or a tuple. -/
namespace Px
open PySem PySem.Spec PyProof.Rows L2
section
variable {prog : Program} {w : World} {A : Around} {E : Value → Shared → Prop} {s : Shared}
/-- the items of a tuple, gathered into a list that no one holds -/
theorem gather_tup {a : Addr} {us : List Value} {Q : List Value → Shared → Prop} (ht : IsTup s.heap a us.toArray) (hz : us.length ≤ sizeLine)
    (h : Q us { s with heap := (s.heap.push (seqObj "list" #[] 0)).update s.heap.objs.size (Obj.mapSeq (· ++ us.toArray)) }) : wpAny (model prog w) A (collect (.ref a)) Q E s := by
  obtain ⟨ob, hb, hcls, k, hdat⟩ := id ht
  have hb2 : (s.heap.push (seqObj "list" #[] 0)).get? a = some ob := Heap.get?_push_of_some _ hb
  have hnew : (s.heap.push (seqObj "list" #[] 0)).get? s.heap.objs.size = some (seqObj "list" #[] 0) := Heap.get?_push_size _ rfl
  unfold collect
  refine wpAny_bind (wpAny_runValue (codeAny_builtin entry_proto_collect' ?_))
  show wpAny _ _ (newList [] >>= fun l => again (.builtin "list.__iadd__" ⟨[l, .ref a], []⟩)) _ _ s
  refine wpAny_bind (wpAny_newList (wpAny_pure ⟨Code.quiet_builtin _ (by decide +kernel), ?_⟩))
  refine codeAny_builtin entry_list_iadd' ?_
  show wpAny _ _ (Builtin.List.listExtendWith (.ref s.heap.objs.size) (.ref a) (.ref s.heap.objs.size)) _ _ ({ s with heap := s.heap.push (seqObj "list" #[] 0) } : Shared)
  unfold Builtin.List.listExtendWith
  refine wpAny_bind (wpAny_typeOf (T := "tuple") ⟨ob, hb2, hcls⟩ ?_)
  have e : (Value.type "tuple" == Value.type "tuple") = true := by rfl
  rw [if_pos (by rw [e]; simp)]
  refine wpAny_bind (listItems_at hb2 hdat (wpAny_bind (listItems_at (xs := #[]) (n := 0) hnew rfl ?_)))
  rw [if_neg (by simp)]
  refine wpAny_bind (listUpdate_at (xs := #[]) (n := 0) hnew rfl ?_ (Nat.zero_le _) ?_)
  · refine wpAny_pure ?_
    refine (show wpAny (model prog w) A (load s.heap.objs.size >>= fun o => match o.data with
        | .seq xs _ => (pure xs.toList : Sem (List Value))
        | _ => unsupported "internal:collect") Q E { s with heap := (s.heap.push (seqObj "list" #[] 0)).update s.heap.objs.size (Obj.mapSeq (· ++ us.toArray)) } from ?_)
    refine wpAny_bind (wpAny_load (get?_update_seq hnew _) ?_)
    have e2 : ((#[] : Array Value) ++ us.toArray).toList = us := by simp
    refine (show wpAny _ _ (pure ((#[] : Array Value) ++ us.toArray).toList) Q E _ from ?_)
    rw [e2]
    exact wpAny_pure h
  · show (#[] ++ us.toArray).size ≤ sizeLine + 1
    simp only [Array.size_append, List.size_toArray, List.length_nil]
    omega
theorem sorted_tup {a : Addr} {us : List Value} {lt : Value → Value → Bool} {Q : Value → Shared → Prop} (O : SrtO.Swo lt) (ht : IsTup s.heap a us.toArray) (hz : us.length ≤ sizeLine)
    (hS : 2 ≤ us.length → ∀ (h₁ : Heap) (b : Addr), SrtO.SortableO prog w A.in1.in1 { s with heap := h₁ } b us lt)
    (h : ∀ out : List Value, SrtO.Srtd lt out → SrtO.Stb lt out us → Q (.ref (s.heap.objs.size + 1)) { s with heap := sortedAll s.heap us out.toArray }) : wpAny (model prog w) A (call (.builtin "sorted") [.ref a]) Q E s := by
  refine Calls.call_function_entry kind_sorted plain_sorted entry_sorted (args_sorted1 _) ?_
  unfold Builtin.«sorted»
  refine wpAny_bind (m := checkCount "sorted" 1 1 _) (wpAny_pure (wpAny_bind (gather_tup ht hz (wpAny_bind (wpAny_newList ?_ hz)))))
  have n1 : ((s.heap.push (seqObj "list" #[] 0)).update s.heap.objs.size (Obj.mapSeq (· ++ us.toArray))).objs.size = s.heap.objs.size + 1 := by rw [Heap.size_update, size_push']
  have n2 : (((s.heap.push (seqObj "list" #[] 0)).update s.heap.objs.size (Obj.mapSeq (· ++ us.toArray))).push (seqObj "list" us.toArray 0)).get? (s.heap.objs.size + 1) = some (seqObj "list" us.toArray 0) := by
    rw [← n1]
    exact Heap.get?_push_size _ rfl
  refine (show wpAny _ _ _ _ _ ({ s with heap := ((s.heap.push (seqObj "list" #[] 0)).update s.heap.objs.size (Obj.mapSeq (· ++ us.toArray))).push (seqObj "list" us.toArray 0) } : Shared) from ?_)
  rw [n1]
  refine wpAny_bind (wpAny_holding (wpAny_call_entry slot_list_sort ⟨_, n2, rfl⟩ entry_list_sort (SrtO.list_sort_ord O n2 hz (fun h2 => hS h2 _ _) fun out h1 h2 => ⟨_, rfl, ?_⟩) (args_list_sort _)))
  exact wpAny_pure ⟨_, rfl, h out h1 h2⟩
end
/-- sorted(xs), xs whole numbers in a list or a tuple -/
def rSortA (K : PySem.W.Frag) : List V → Hp → VK → Prop := fun vs H Q => ∃ (a : Addr) (ns : List Int), vs = [V.ref a] ∧ (SqL K H a (ns.map V.int) ∨ SqT K H a (ns.map V.int)) ∧ ∀ (ms : List Int) (p : Addr), ms.Perm ns → ms.Pairwise (· ≤ ·) → H p = none → Q (.ref p) (upd H p (.lst (ms.map V.int)))
theorem cr_sortA {X : Cx} : CallR X (.builtin "sorted") (rSortA X.K) := by
  rintro pins s σ H vs us Q I r ⟨a, ns, rfl, hs | hs, q⟩
  · exact cr_sortedI pins s σ H _ us Q I r ⟨a, ns, rfl, hs, fun ms p h1 h2 h3 => q ms p h1 h2 h3⟩
  · obtain ⟨its, rv, hl, hz⟩ := I.tuple hs
    rw [Vals.ref1 r]
    have hi := rv.ints
    refine sorted_tup SrtO.swo_int hl (by rw [← rv.length]; exact hz) (fun h2 h₁ b => SrtO.ints_sortable hi h2) fun out h1 h2 => ?_
    obtain ⟨k1, k2, k3⟩ := SrtO.ints_out hi h1 h2
    obtain ⟨ep, e⟩ := PyProof.Rows.sortedAll_at s.heap its out.toArray
    have lz : ((out.map SrtO.iv).map V.int).length ≤ sizeLine := by
      rw [List.length_map] at hz ⊢
      rw [k2.length_eq]
      exact hz
    have I2 := I.laid (t' := s.toks) (fun _ _ => PyProof.Rows.sortedAll_old) (Nat.le_succ _) (show ObjOk X.prog X.w _ _ _ (.lst ((out.map SrtO.iv).map V.int)) from ⟨lz, out, ep, vals_of_ints k1, e⟩)
    exact ⟨.ref _, _, I2, rfl, q _ _ k2 k3 (I.hok.fresh (Nat.le_succ _))⟩
end Px

/-! Px3: what stands in the slots and in the heap for an environment; results; operations by values. -/
namespace Px
open PySem PySem.Spec PyProof.Rows L2

def IsM (H : Hp) (x : Addr) : Prop := (∃ vs, H x = some (.lst vs)) ∨ ∃ kvs, H x = some (.dK kvs)
theorem IsM.mono {H H' : Hp} {x : Addr} (s : Same H H') (h : IsM H x) : IsM H' x := h.elim (fun ⟨v, e⟩ => .inl ⟨v, s _ _ e⟩) fun ⟨v, e⟩ => .inr ⟨v, s _ _ e⟩
theorem IsM.ne {H : Hp} {x : Addr} (h : IsM H x) : H x ≠ none := fun e => by rcases h with ⟨_, h⟩ | ⟨_, h⟩ <;> (rw [e] at h; cases h)
abbrev ZO (Z : AS) (O : Nat → AS) : AS := fun x => Z x ∨ ∃ i, O i x

/-- the slots and the heap of an environment: Z reserved by others, O i owned by slot i, B what stood at the beginning -/
structure Rel (K : PySem.W.Frag) (B : Hp) (Z : AS) (O : Nat → AS) (σ : L2.St) (H : Hp) (ρ : Env) : Prop where
  len : σ.length = ρ.length
  zm : ∀ x, Z x → IsM H x
  dj : ∀ i j x, O i x → O j x → i = j
  fr : ∀ i x, O i x → ¬ Z x ∧ B x = none
  base : Same B H
  own : ∀ i k d, ρ[i]? = some (some (k, d)) → ∃ v, σ[i]? = some (some v) ∧ Own K H (ZO Z O) k d v (O i)
  non : ∀ i, (∀ k d, ρ[i]? ≠ some (some (k, d))) → ∀ x, ¬ O i x
section
variable {K : PySem.W.Frag} {B H H' H0 H1 : Hp} {A Z : AS} {O : Nat → AS} {σ : L2.St} {ρ : Env}
theorem Rel.om (r : Rel K B Z O σ H ρ) {i : Nat} {x : Addr} (h : O i x) : IsM H x := by
  cases e : ρ[i]? with
  | none => exact (r.non i (fun k d q => by rw [e] at q; cases q) x h).elim
  | some q =>
    cases q with
    | none => exact (r.non i (fun k d q => by rw [e] at q; cases q) x h).elim
    | some p =>
      obtain ⟨v, _, w⟩ := r.own i p.1 p.2 e
      exact w.dom h
theorem Rel.am (r : Rel K B Z O σ H ρ) {x : Addr} (h : ZO Z O x) : IsM H x := h.elim (r.zm x) fun ⟨_, h⟩ => r.om h
theorem Rel.mono (r : Rel K B Z O σ H ρ) (s : Same H H') : Rel K B Z O σ H' ρ :=
  ⟨r.len, fun x z => (r.zm x z).mono s, r.dj, r.fr, r.base.trans s, fun i k d e => let ⟨v, e1, w⟩ := r.own i k d e; ⟨v, e1, w.mono s fun _ z => .inl z⟩, r.non⟩
/-- more is reserved -/
theorem Rel.res (r : Rel K B Z O σ H ρ) (s : Same H H') {T : AS} (hT : ∀ x, T x → H x = none) (hm : ∀ x, T x → IsM H' x) : Rel K B (fun x => Z x ∨ T x) O σ H' ρ := by
  refine ⟨r.len, fun x z => z.elim (fun z => (r.zm x z).mono s) (hm x), r.dj, fun i x o => ⟨fun z => ?_, (r.fr i x o).2⟩, r.base.trans s, fun i k d e => ?_, r.non⟩
  · rcases z with z | z
    · exact (r.fr i x o).1 z
    · exact (r.om o).ne (hT x z)
  · obtain ⟨v, e1, w⟩ := r.own i k d e
    exact ⟨v, e1, w.mono s fun x z => by
      rcases z with (z | z) | z
      · exact .inl (.inl z)
      · exact .inr (hT x z)
      · exact .inl (.inr z)⟩

/-! ### results -/
def Res1 (K : PySem.W.Frag) (H : Hp) (A : AS) (k : Kd) (v : V) (O : AS) : Prop := match k.1 with
  | none => (∀ x, ¬ O x) ∧ ∃ j P, (∀ x, P x → A x) ∧ Own K H A j k.2 v P
  | some j => Own K H A j k.2 v O
def OwnsK (R : Kd → V → AS → Prop) : List Kd → List V → AS → Prop
  | [], vs, O => vs = [] ∧ ∀ x, ¬ O x
  | d :: ds, vs, O => ∃ v vs' O1 O2, vs = v :: vs' ∧ (∀ x, O x ↔ O1 x ∨ O2 x) ∧ (∀ x, O1 x → ¬ O2 x) ∧ R d v O1 ∧ OwnsK R ds vs' O2
/-- a result of an expression that began at H0 -/
def Res (K : PySem.W.Frag) (H0 H : Hp) (A : AS) (k : Kd) (v : V) : Prop := ∃ O : AS, (∀ x, O x → H0 x = none) ∧ Res1 K H (fun x => A x ∨ O x) k v O
def Ress (K : PySem.W.Frag) (H0 H : Hp) (A : AS) (ks : List Kd) (vs : List V) : Prop := ∃ O : AS, (∀ x, O x → H0 x = none) ∧ OwnsK (Res1 K H (fun x => A x ∨ O x)) ks vs O
theorem Res1.rep {k : Kd} {v : V} {O : AS} (h : Res1 K H A k v O) : RepR K H k.2 v := by
  unfold Res1 at h; split at h
  · obtain ⟨_, j, P, _, w⟩ := h; exact w.rep
  · exact h.rep
theorem Res.rep {k : Kd} {v : V} (h : Res K H0 H A k v) : RepR K H k.2 v := let ⟨_, _, r⟩ := h; r.rep
theorem OwnsK.rep : ∀ {ks : List Kd} {vs : List V} {O : AS}, OwnsK (Res1 K H A) ks vs O → RepRs K H (ks.map (·.2)) vs
  | [], _, _, h => by rw [h.1]; exact RepRs.nil
  | k :: ks, _, _, ⟨v, vs', O1, O2, e, h1, h2, r, q⟩ => by subst e; exact RepRs.cons r.rep (OwnsK.rep q)
theorem Ress.rep {ks : List Kd} {vs : List V} (h : Ress K H0 H A ks vs) : RepRs K H (ks.map (·.2)) vs := let ⟨_, _, r⟩ := h; r.rep
theorem Res1.mono (s : Same H H') {A' : AS} (hA : ∀ x, A' x → A x ∨ H x = none) (hA2 : ∀ x, A x → A' x) {k : Kd} {v : V} {O : AS} (h : Res1 K H A k v O) : Res1 K H' A' k v O := by
  unfold Res1 at *; split at h <;> rename_i e
  · obtain ⟨n, j, P, hp, w⟩ := h
    exact ⟨n, j, P, fun x z => hA2 x (hp x z), w.mono s hA⟩
  · exact h.mono s hA
theorem OwnsK.imp {R R' : Kd → V → AS → Prop} (f : ∀ d v O, R d v O → R' d v O) : ∀ {ds : List Kd} {vs : List V} {O : AS}, OwnsK R ds vs O → OwnsK R' ds vs O
  | [], _, _, h => h
  | d :: ds, _, _, ⟨v, vs', O1, O2, e, h1, h2, r, q⟩ => ⟨v, vs', O1, O2, e, h1, h2, f _ _ _ r, OwnsK.imp f q⟩
theorem Res1.dom {k : Kd} {v : V} {O : AS} {x : Addr} (h : Res1 K H A k v O) (z : O x) : IsM H x := by
  unfold Res1 at h; split at h
  · exact (h.1 x z).elim
  · exact h.dom z
theorem OwnsK.dom : ∀ {ks : List Kd} {vs : List V} {O : AS} {x : Addr}, OwnsK (Res1 K H A) ks vs O → O x → IsM H x
  | [], _, _, _, h, z => (h.2 _ z).elim
  | k :: ks, _, _, x, ⟨v, vs', O1, O2, e, h1, h2, r, q⟩, z => by
    rcases (h1 x).mp z with z | z
    · exact r.dom z
    · exact OwnsK.dom q z
theorem Ress.nil : Ress K H H A [] [] := ⟨fun _ => False, fun _ z => z.elim, rfl, fun _ z => z⟩
/-- a first result, then the others, begun where the first one ended, its own things reserved -/
theorem Ress.cons {k : Kd} {ks : List Kd} {v : V} {vs : List V} {O1 : AS} (f1 : ∀ x, O1 x → H0 x = none) (hA : ∀ x, A x → IsM H0 x) (s0 : Same H0 H1) (r1 : Res1 K H1 (fun x => A x ∨ O1 x) k v O1) (s1 : Same H1 H)
    (r2 : Ress K H1 H (fun x => A x ∨ O1 x) ks vs) : Ress K H0 H A (k :: ks) (v :: vs) := by
  obtain ⟨O2, f2, r2⟩ := r2
  have f2' : ∀ x, O2 x → H0 x = none := fun x z => s0.free (f2 x z)
  refine ⟨fun x => O1 x ∨ O2 x, fun x z => z.elim (f1 x) (f2' x), v, vs, O1, O2, rfl, fun x => Iff.rfl, fun x z1 z2 => (r1.dom z1).ne (f2 x z2), ?_, ?_⟩
  · refine r1.mono s1 (fun x z => ?_) fun x z => ?_
    · rcases z with z | z | z
      · exact .inl (.inl z)
      · exact .inl (.inr z)
      · exact .inr (f2 x z)
    · rcases z with z | z
      · exact .inl z
      · exact .inr (.inl z)
  · refine r2.imp fun d v O r => r.mono (Same.refl _) (fun x z => ?_) fun x z => ?_
    · rcases z with z | z | z
      · exact .inl (.inl (.inl z))
      · exact .inl (.inl (.inr z))
      · exact .inl (.inr z)
    · rcases z with (z | z) | z
      · exact .inl z
      · exact .inr (.inl z)
      · exact .inr (.inr z)
/-! a value that leans on no mutable thing -/
def atomD : D → Bool
  | .lst _ => false
  | .tup _ => false
  | .dct _ _ => false
  | .ext _ => false
  | _ => true
theorem RepR.atom {d : D} (a : atomD d = true) {v : V} (r : RepR K H d v) : RepR K H' d v := by
  cases d <;> first | (cases a; done) | (unfold RepR at *; exact r)
theorem Res.atom {d : D} (a : atomD d = true) {v : V} (r : RepR K H' d v) : Res K H0 H A (at9 d) v :=
  ⟨fun _ => False, fun _ z => z.elim, (Own.flat (by cases d <;> first | rfl | cases a)).mpr ⟨fun _ z => z, r.atom a⟩⟩
theorem Res.int {i : Int} : Res K H0 H A (at9 (.int i)) (.int i) := Res.atom (H' := H) rfl (by unfold RepR; rfl)
theorem Res.bl {b : Bool} : Res K H0 H A (at9 (.bl b)) (.bl b) := Res.atom (H' := H) rfl (by unfold RepR; rfl)
theorem Res.str {s : List Nat} : Res K H0 H A (at9 (.str s)) (.str (mkS s)) := Res.atom (H' := H) rfl (by unfold RepR; rfl)
theorem Res.non : Res K H0 H A (at9 .non) .non := Res.atom (H' := H) rfl (by unfold RepR; rfl)
theorem RepR.int {i : Int} {v : V} (r : RepR K H (.int i) v) : v = .int i := by unfold RepR at r; exact r
theorem RepR.bl {b : Bool} {v : V} (r : RepR K H (.bl b) v) : v = .bl b := by unfold RepR at r; exact r
theorem RepR.str {s : List Nat} {v : V} (r : RepR K H (.str s) v) : v = .str (mkS s) := by unfold RepR at r; exact r
theorem RepR.non {v : V} (r : RepR K H .non v) : v = .non := by unfold RepR at r; exact r
theorem RepR.lst {xs : List D} {v : V} (r : RepR K H (.lst xs) v) : ∃ a vs, v = .ref a ∧ SqL K H a vs ∧ RepRs K H xs vs := by unfold RepR at r; exact r
theorem RepR.tup {xs : List D} {v : V} (r : RepR K H (.tup xs) v) : ∃ a vs, v = .ref a ∧ SqT K H a vs ∧ RepRs K H xs vs := by unfold RepR at r; obtain ⟨a, vs, e, s, q⟩ := r; exact ⟨a, vs, e, s.sq, q⟩
theorem RepR.tupP {xs : List D} {v : V} (r : RepR K H (.tup xs) v) : ∃ a vs, v = .ref a ∧ PTu K H a vs ∧ RepRs K H xs vs := by unfold RepR at r; exact r
theorem RepR.dct {ks xs : List D} {v : V} (r : RepR K H (.dct ks xs) v) : ∃ a kvs, v = .ref a ∧ Rd H a (.dK kvs) ∧ ks.map keyOf = kvs.map (fun p => some p.1) ∧ RepRs K H xs (kvs.map (·.2)) := by unfold RepR at r; exact r
theorem RepR.ext {t : Tk} {v : V} (r : RepR K H (.ext t) v) : ∃ a, v = .ref a ∧ H a = some (tkO a t) := by unfold RepR at r; exact r
theorem mkS_len (s : List Nat) : (mkS s).length = s.length := by unfold Str.length; simp
theorem mkS_app (s t : List Nat) : mkS s ++ mkS t = mkS (s ++ t) := by
  show Str.append (mkS s) (mkS t) = _
  unfold Str.append; simp
theorem mkS_inj {s t : List Nat} (h : mkS s = mkS t) : s = t := by
  have := congrArg (fun z => z.cps.toList) h; simpa using this
theorem mkS_list (z : Str) : mkS z.cps.toList = z := by cases z; simp
theorem line_eq : (sizeLine : Nat) = line := by unfold sizeLine; rfl
/-- the items of what is owned at its top, one by one -/
theorem ch_ok {k : Option Nat} {xs : List D} {c : Nat} {v : V} {O : AS} (h : chd k xs = .ok c) (r : Res1 K H A (k, .lst xs) v O) (hO : ∀ x, O x → A x) :
    ∃ a vs, v = .ref a ∧ SqL K H a vs ∧ (k.isSome = true → ∀ x, ¬ O x → x ≠ a ∨ True) ∧ ∃ O', (∀ x, O' x → O x) ∧ (∀ x, O' x → x ≠ a) ∧ Owns (Own K H A c) xs vs O' := by
  have frz : ∀ {vs : List V} {j : Nat}, RepRs K (cut H A) xs vs → xs.any D.cont = false → Owns (Own K H A j) xs vs (fun _ => False) := by
    intro vs j q hc
    have q' := Owns.frz (R := Own K H A 0) (fun d v O n r => ⟨n, r⟩) (O := fun _ => False) (fun _ z => z) q
    refine q'.impIn fun d m v O1 s r => ?_
    have cd : d.cont = false := by
      cases e : d.cont with
      | false => rfl
      | true => rw [List.any_eq_true.mpr ⟨d, m, e⟩] at hc; cases hc
    exact (Own.flat cd).mpr r
  have low : ∀ {vs : List V} {j c : Nat} {O1 : AS}, Owns (Own K H A j) xs vs O1 → xs.any D.cont = false → Owns (Own K H A c) xs vs (fun _ => False) := by
    intro vs j c O1 q hc
    have q' : Owns (Own K H A c) xs vs O1 := q.impIn fun d m v O1 s r => by
      have cd : d.cont = false := by
        cases e : d.cont with
        | false => rfl
        | true => rw [List.any_eq_true.mpr ⟨d, m, e⟩] at hc; cases hc
      exact (Own.flat cd).mpr ((Own.flat cd).mp r)
    have : ∀ {ds : List D} {vs : List V} {P : AS}, (∀ d ∈ ds, d.cont = false) → Owns (Own K H A c) ds vs P → Owns (Own K H A c) ds vs (fun _ => False) := by
      intro ds
      induction ds with
      | nil => intro vs P _ h; exact ⟨h.1, fun _ z => z⟩
      | cons d ds ih =>
        intro vs P hd ⟨v, vs', O1, O2, e, h1, h2, r, q⟩
        exact ⟨v, vs', _, _, e, fun x => by simp, fun _ z => z.elim, (Own.flat (hd d (by simp))).mpr ⟨fun _ z => z, ((Own.flat (hd d (by simp))).mp r).2⟩, ih (fun d m => hd d (by simp [m])) q⟩
    refine this (fun d m => ?_) q'
    cases e : d.cont with
    | false => rfl
    | true => rw [List.any_eq_true.mpr ⟨d, m, e⟩] at hc; cases hc
  -- by the depth of what we have
  have main : ∀ (j : Nat) (P : AS), Own K H A j (.lst xs) v P → ∃ a vs, v = .ref a ∧ SqL K H a vs ∧ (j = 0 → RepRs K (cut H A) xs vs) ∧ (∀ j', j = j' + 1 → ∃ O', (∀ x, O' x → P x) ∧ (∀ x, O' x → x ≠ a) ∧ Owns (Own K H A j') xs vs O') := by
    intro j P w
    cases j with
    | zero =>
      obtain ⟨a, vs, e, s, q⟩ := RepR.lst w.2
      exact ⟨a, vs, e, L2.Same.seq cut_same s, fun _ => q, fun j' z => by omega⟩
    | succ j =>
      unfold Own at w
      obtain ⟨a, vs, O', e, s, h1, h2, q⟩ := w
      refine ⟨a, vs, e, SqL.of s, fun z => by omega, fun j' z => ?_⟩
      have : j' = j := by omega
      subst this
      exact ⟨O', fun x z => (h1 x).mpr (.inr z), fun x z e => h2 (e ▸ z), q⟩
  have get : ∃ (j : Nat) (P : AS), Own K H A j (.lst xs) v P ∧ (∀ m, k = some m → m = j ∧ P = O) := by
    unfold Res1 at r
    cases k with
    | none => obtain ⟨n, j, P, hp, w⟩ := r; exact ⟨j, P, w, fun m z => nomatch z⟩
    | some m => exact ⟨m, O, r, fun m' z => by cases z; exact ⟨rfl, rfl⟩⟩
  obtain ⟨j, P, w, hk⟩ := get
  obtain ⟨a, vs, e, s, m0, m1⟩ := main j P w
  refine ⟨a, vs, e, s, fun _ _ _ => .inr trivial, ?_⟩
  unfold chd at h
  by_cases hc : xs.any D.cont = true
  · rw [if_pos hc] at h
    cases k with
    | none => cases h
    | some m =>
      obtain ⟨e1, e2⟩ := hk m rfl
      subst e1
      subst e2
      cases m with
      | zero =>
        cases h
        exact ⟨fun _ => False, fun _ z => z.elim, fun _ z => z.elim, Owns.frz (fun d v O n r => ⟨n, r⟩) (fun _ z => z) (m0 rfl)⟩
      | succ m =>
        cases h
        exact m1 _ rfl
  · have hc : xs.any D.cont = false := by simpa using hc
    rw [if_neg (by rw [hc]; exact Bool.false_ne_true)] at h
    cases h
    cases j with
    | zero => exact ⟨fun _ => False, fun _ z => z.elim, fun _ z => z.elim, frz (m0 rfl) hc⟩
    | succ j =>
      obtain ⟨O', _, _, q⟩ := m1 j rfl
      exact ⟨fun _ => False, fun _ z => z.elim, fun _ z => z.elim, low q hc⟩
/-- a new list of owned things -/
theorem Res.newL {xs : List D} {vs : List V} {c : Nat} {p : Addr} {O : AS} (hp : H p = none) (s0 : Same H0 H) (f : ∀ x, O x → H0 x = none) (hA : ∀ x, A x → IsM H x) (q : Owns (Own K H (fun x => A x ∨ O x) c) xs vs O) :
    Res K H0 (upd H p (.lst vs)) A (newL c xs) (.ref p) := by
  refine ⟨fun x => x = p ∨ O x, fun x z => z.elim (fun e => e ▸ s0.free hp) (f x), ?_⟩
  show Own K _ _ (c + 1) (.lst xs) (.ref p) _
  unfold Own
  have nO : ¬ O p := fun z => by
    obtain ⟨d, _, v, O1, r, z⟩ := Owns.mem q z
    obtain ⟨o, e⟩ := r.some z
    rw [hp] at e; cases e
  refine ⟨p, vs, O, rfl, upd_same, fun x => Iff.rfl, nO, q.imp fun d v O1 r => r.mono (same_new hp) fun x z => ?_⟩
  rcases z with z | z | z
  · exact .inl (.inl z)
  · subst z; exact .inr hp
  · exact .inl (.inr z)
theorem Res.tupN {xs : List D} {vs : List V} {p : Addr} {o : Obj} (hp : H p = none) (hd : o.dict = none) (hA : ∀ x, A x → IsM H x) (q : RepRs K (cut H A) xs vs) : Res K H0 (upd H p (.frz o (.tup vs))) A (at9 (.tup xs)) (.ref p) := by
  refine ⟨fun _ => False, fun _ z => z.elim, (Own.flat rfl).mpr ⟨fun _ z => z, ?_⟩⟩
  have nA : ¬ A p := fun z => (hA p z).ne hp
  have hs : Same (cut H A) (cut (upd H p (.frz o (.tup vs))) (fun x => A x ∨ False)) := fun b u e => by
    obtain ⟨e1, e2⟩ := cut_some e
    exact cut_of (same_new hp b u e1) fun z => z.elim e2 id
  unfold RepR
  exact ⟨p, vs, rfl, PTu.of (cut_of upd_same fun z => z.elim nA id) hd, q.mono hs⟩
end
end Px

/-! PxV: a tuple taken once, or not at all. -/
namespace Px
open PySem PySem.Spec L2 PyProof.Rows
theorem once_tuple (l : Addr) (its : Array Value) (n : Nat) (dd : Option Addr) (sl : Array (Option Value)) (u : Tok) :
    Meets (Builtin.«tuple.__mul__» ⟨[.ref l, .int 1 u], []⟩) (fun _ R s => s.heap.get? l = some ⟨.type "tuple", dd, .seq its n, sl⟩ ∧ R (.ok (.ret (.ref l))) s) :=
  .of_wp fun prog w A R s h => by
    obtain ⟨hp, g, d, tk, os⟩ := s
    obtain ⟨hl, h⟩ := h
    have f1 := AutoSeq1.idx_int
    wp_walk using wpAny_loadPart' hl
    exact ⟨_, rfl, h⟩
theorem nought_tuple (l : Addr) (its : Array Value) (n : Nat) (dd : Option Addr) (sl : Array (Option Value)) (u : Tok) (he : its.isEmpty = false) :
    Meets (Builtin.«tuple.__mul__» ⟨[.ref l, .int 0 u], []⟩) (fun _ R s => s.heap.get? l = some ⟨.type "tuple", dd, .seq its n, sl⟩ ∧
      R (.ok (.ret (.ref s.heap.objs.size))) { s with heap := s.heap.push { cls := .type "tuple", data := .seq #[] }, toks := s.toks }) :=
  .of_wp fun prog w A R s h => by
    obtain ⟨hp, g, d, tk, os⟩ := s
    obtain ⟨hl, h⟩ := h
    have f1 := AutoSeq1.idx_int
    have no : ¬ (its.isEmpty || (0 : Int) == 1) = true := by rw [he]; decide
    have yes : (decide ((0 : Int) ≤ 0) || its.isEmpty) = true := by rw [he]; decide
    wp_walk using wpAny_loadPart' hl
    exact ⟨_, rfl, h⟩
section
variable {X : Cx}
theorem op_rep1 : OpR X (binaryOp .Mult) (fun x y H Q => ∃ l xs, x = .ref l ∧ y = .int 1 ∧ SqT X.K H l xs ∧ Q (.ref l) H) := by
  intro pins s σ H x y v u Q I rx ry ⟨l, xs, ex, ey, hT, q⟩
  subst ex ey
  cases rx
  obtain ⟨tk, rfl⟩ := ry
  obtain ⟨its, r, ⟨⟨cl, dd, da, sl⟩, ho, hc, n, hd⟩, _⟩ := I.tuple hT
  simp only at hc hd
  subst hc hd
  refine wpAny_binaryOp_repeat_ref (T := "tuple") (U := "int") (by decide) ⟨_, ho, rfl⟩ (fun s2 => typeIs_int s2 1 tk)
    noFill_tuple_mul PySem.F.fills_int_mul PySem.F.slot_int_rmul repeat_tuple PySem.F.slot_int_index.lookup ?_
  refine call_meets PySem.F.slot_int_rmul (typeIs_int s 1 tk) PySem.F.entry_int_rmul (PySem.F.args_int_rmul_2 _ _)
    (int_rmul_tuple 1 tk l its.toArray n dd sl) ⟨ho, rfl, ⟨_, ho, rfl⟩, ?_⟩
  exact call_meets PySem.F.slot_tuple_mul ⟨_, ho, rfl⟩ PySem.F.entry_tuple_mul (PySem.F.args_tuple_mul_2 _ _)
    (once_tuple l its.toArray n dd sl tk) ⟨ho, .ref l, H, I, rfl, q⟩
theorem op_rep0 : OpR X (binaryOp .Mult) (fun x y H Q => ∃ l xs, x = .ref l ∧ y = .int 0 ∧ SqT X.K H l xs ∧ xs ≠ [] ∧ ∀ (p : Addr) (o : Obj), H p = none → o.dict = none → Q (.ref p) (upd H p (.frz o (.tup [])))) := by
  intro pins s σ H x y v u Q I rx ry ⟨l, xs, ex, ey, hT, hne, q⟩
  subst ex ey
  cases rx
  obtain ⟨tk, rfl⟩ := ry
  obtain ⟨its, r, ⟨⟨cl, dd, da, sl⟩, ho, hc, n, hd⟩, _⟩ := I.tuple hT
  simp only at hc hd
  subst hc hd
  have full : its.toArray.isEmpty = false := by
    cases its with
    | nil =>
      have e0 := r.length
      exact absurd (List.eq_nil_of_length_eq_zero e0) hne
    | cons _ _ => rfl
  refine wpAny_binaryOp_repeat_ref (T := "tuple") (U := "int") (by decide) ⟨_, ho, rfl⟩ (fun s2 => typeIs_int s2 0 tk)
    noFill_tuple_mul PySem.F.fills_int_mul PySem.F.slot_int_rmul repeat_tuple PySem.F.slot_int_index.lookup ?_
  refine call_meets PySem.F.slot_int_rmul (typeIs_int s 0 tk) PySem.F.entry_int_rmul (PySem.F.args_int_rmul_2 _ _)
    (int_rmul_tuple 0 tk l its.toArray n dd sl) ⟨ho, rfl, ⟨_, ho, rfl⟩, ?_⟩
  refine call_meets PySem.F.slot_tuple_mul ⟨_, ho, rfl⟩ PySem.F.entry_tuple_mul (PySem.F.args_tuple_mul_2 _ _)
    (nought_tuple l its.toArray n dd sl tk full) ⟨ho, .ref s.heap.objs.size, _, I.laid (t' := s.toks) (o := .frz { cls := .type "tuple", data := .seq #[] } (.tup [])) (fun b ob q => Heap.get?_push_of_some _ q) (Nat.le_refl _) ?_, rfl, q _ _ (I.hok.fresh (Nat.le_refl _)) rfl⟩
  exact ⟨Heap.get?_push_size _ rfl, by rw [sizeLine_eq]; simp, [], .nil, IsTup.new _ _⟩
end
end Px

/-! PxW: dicts whose keys are whole numbers and texts: what they hold. -/
namespace Px
open PySem PySem.Spec L2 PyProof.Rows
def kyOf : D → Key
  | .int i => .inl i
  | .str s => .inr (mkS s)
  | _ => .inl 0
theorem ky_of {d : D} (h : keyD d = true) : keyOf d = some (kyOf d) := by
  cases d <;> first | (cases h; done) | rfl
theorem mkS_one {s t : List Nat} (h : mkS s = mkS t) : s = t := by
  have := congrArg (fun z : Str => z.cps.toList) h
  simpa using this
theorem ky_eq {a b : D} {k : Key} (ha : keyOf a = some k) (hb : keyD b = true) : eqK a b = decide (k = kyOf b) := by
  cases a <;> first | (cases ha; done) | skip
  · rename_i i
    cases ha
    cases b <;> first | (cases hb; done) | skip
    · rename_i j
      show decide (i = j) = decide ((Sum.inl i : Key) = Sum.inl j)
      by_cases e : i = j
      · subst e; simp
      · rw [decide_eq_false e, decide_eq_false (fun z => e (Sum.inl.inj z))]
    · show false = decide ((Sum.inl _ : Key) = Sum.inr _)
      rw [decide_eq_false (fun z => by cases z)]
  · rename_i s
    cases ha
    cases b <;> first | (cases hb; done) | skip
    · show false = decide ((Sum.inr _ : Key) = Sum.inl _)
      rw [decide_eq_false (fun z => by cases z)]
    · rename_i t
      show decide (s = t) = decide ((Sum.inr (mkS s) : Key) = Sum.inr (mkS t))
      by_cases e : s = t
      · subst e; simp
      · rw [decide_eq_false e, decide_eq_false (fun z => e (mkS_one (Sum.inr.inj z)))]
section
variable {K : PySem.W.Frag} {H : Hp} {A : AS}
theorem ky_val {d : D} {v : V} (h : keyD d = true) (r : RepR K H d v) : v = kV (kyOf d) := by
  cases d <;> first | (cases h; done) | (unfold RepR at r; rw [r]; rfl)
/-- what it holds, on both sides -/
theorem dct_val {y : D} (hy : keyD y = true) : ∀ {ks vs : List D} {kvs : List (Key × V)}, ks.map keyOf = kvs.map (fun p => some p.1) → RepRs K H vs (kvs.map (·.2)) →
    (∃ d v, dctGet ks vs y = some d ∧ valV kvs (kyOf y) = some v ∧ RepR K H d v ∧ d ∈ vs) ∨ (dctGet ks vs y = none ∧ valV kvs (kyOf y) = none)
  | [], vs, [], _, _ => .inr ⟨by cases vs <;> rfl, rfl⟩
  | [], _, _ :: _, h, _ => by cases h
  | _ :: _, _, [], h, _ => by cases h
  | k :: ks, vs, p :: kvs, h, r => by
    rw [List.map_cons, List.map_cons, List.cons.injEq] at h
    obtain ⟨h1, h2⟩ := h
    cases vs with
    | nil => unfold RepRs at r; cases r
    | cons d vs =>
      rw [List.map_cons] at r
      unfold RepRs at r
      obtain ⟨v, vs', e, r1, r2⟩ := r
      rw [List.cons.injEq] at e
      obtain ⟨rfl, rfl⟩ := e
      have q := ky_eq h1 hy
      unfold dctGet
      by_cases c : p.1 = kyOf y
      · rw [q, decide_eq_true c, if_pos rfl]
        exact .inl ⟨d, p.2, rfl, valV_pos c, r1, by simp⟩
      · rw [q, decide_eq_false c, if_neg Bool.false_ne_true, valV_neg c]
        rcases dct_val hy h2 r2 with ⟨d', v', e1, e2, e3, e4⟩ | e
        · exact .inl ⟨d', v', e1, e2, e3, by simp [e4]⟩
        · exact .inr e
theorem dct_own {R : D → V → AS → Prop} {y : D} (hy : keyD y = true) : ∀ {ks vs : List D} {kvs : List (Key × V)} {O : AS}, ks.map keyOf = kvs.map (fun p => some p.1) → Owns R vs (kvs.map (·.2)) O →
    (∃ d v O1, dctGet ks vs y = some d ∧ valV kvs (kyOf y) = some v ∧ R d v O1) ∨ (dctGet ks vs y = none ∧ valV kvs (kyOf y) = none)
  | [], vs, [], _, _, _ => .inr ⟨by cases vs <;> rfl, rfl⟩
  | [], _, _ :: _, _, h, _ => by cases h
  | _ :: _, _, [], _, h, _ => by cases h
  | k :: ks, vs, p :: kvs, O, h, r => by
    rw [List.map_cons, List.map_cons, List.cons.injEq] at h
    obtain ⟨h1, h2⟩ := h
    cases vs with
    | nil => cases r.1
    | cons d vs =>
      obtain ⟨v, vs', O1, O2, e, _, _, r1, r2⟩ := r
      rw [List.map_cons, List.cons.injEq] at e
      obtain ⟨rfl, rfl⟩ := e
      have q := ky_eq h1 hy
      unfold dctGet
      by_cases c : p.1 = kyOf y
      · rw [q, decide_eq_true c, if_pos rfl]
        exact .inl ⟨d, p.2, O1, rfl, valV_pos c, r1⟩
      · rw [q, decide_eq_false c, if_neg Bool.false_ne_true, valV_neg c]
        exact dct_own hy h2 r2
theorem dct_get {y : D} {ks vs : List D} {x v : V} (hy : keyD y = true) (rd : RepR K H (.dct ks vs) x) (ry : RepR K H y v) : ∃ a o, x = .ref a ∧ DGet H a v o ∧ ((∃ d w, dctGet ks vs y = some d ∧ o = some w ∧ RepR K H d w) ∨ (dctGet ks vs y = none ∧ o = none)) := by
  unfold RepR at rd
  obtain ⟨a, kvs, e, hd, hk, r⟩ := rd
  refine ⟨a, valV kvs (kyOf y), e, .inl ⟨kvs, kyOf y, hd, ky_val hy ry, rfl⟩, ?_⟩
  rcases dct_val hy hk r with ⟨d, w, e1, e2, e3, _⟩ | ⟨e1, e2⟩
  · exact .inl ⟨d, w, e1, e2, e3⟩
  · exact .inr ⟨e1, e2⟩
end
section
variable {X : Cx}
theorem op_inK (hu : X.A.units + 1 < cLine) : OpR X (compareOp .In) (fun x y H Q => ∃ a o, y = .ref a ∧ DGet H a x o ∧ Q (.bl o.isSome) H) := by
  intro pins s σ H x y v u Q I rx ry ⟨a, o, e, g, q⟩
  subst e
  obtain rfl : u = Value.ref a := ry
  exact d_in hu I g rx fun s' J => ⟨.bl o.isSome, H, J, rfl, q⟩
theorem op_notinK (hu : X.A.units + 1 < cLine) : OpR X (compareOp .NotIn) (fun x y H Q => ∃ a o, y = .ref a ∧ DGet H a x o ∧ Q (.bl (!o.isSome)) H) := by
  intro pins s σ H x y v u Q I rx ry ⟨a, o, e, g, q⟩
  subst e
  obtain rfl : u = Value.ref a := ry
  exact d_notIn hu I g rx fun s' J => ⟨.bl (!o.isSome), H, J, rfl, q⟩
theorem ix_dct (hu : X.A.units + 1 < cLine) : IxR X (fun x y H Q => ∃ a w, x = .ref a ∧ DGet H a y (some w) ∧ Q w H) := by
  intro value slice pins s σ H x y v u Q I rx ry ⟨a, w, e, g, q⟩ hs
  subst e
  obtain rfl : v = Value.ref a := rx
  have hT := dict_typeIs I g
  unfold subscriptTail
  refine wpAny_bind ?_
  rw [getitemInPython_of_ne hT.not_modules]
  refine wpAny_bind (wpAny_specialOf hT PySem.F.slot_dict_getitem.lookup ?_)
  have tail : wpAny (model X.prog X.w) X.A (subscripted slice false (.ref a) u) (fun r t => wpAny (model X.prog X.w) X.A (letTemporaryGo value (.ref a) r >>= fun _ => pure r) (EP X pins σ Q) X.xe t) X.xe s := by
    rw [hs]
    refine wpAny_operating (d_getItem hu I g ry fun w' t J rw' => ?_)
    exact wpAny_bind (wpAny_letTemporaryGo (wpAny_pure ⟨w, H, J, rw', q⟩))
  first
    | exact wpAny_pure (wpAny_bind tail)
    | exact wpAny_bind (wpAny_pure (wpAny_bind tail))
    | exact wpAny_bind tail
end
end Px

/-! PxQ: tuples that the program makes have no dict of their own (not used yet). -/
namespace Px
open PySem PySem.Spec L2 PyProof.Rows
/-- a new tuple, told exactly -/
def newT (H : Hp) (xs : List V) (Q : VK) : Prop := ∀ (p : Addr) (o : Obj), H p = none → o.dict = none → Q (.ref p) (upd H p (.frz o (.tup xs)))
section
variable {X : Cx} {pins : List (Addr × Obj)} {σ : L2.St} {H : Hp} {s : Shared} {Q : VK}
theorem new_tuple {us : List Value} {xs : List V} {t : Nat} (I : Inv X pins σ H s) (r : Vals xs us) (z : xs.length ≤ sizeLine) (q : newT H xs Q) :
    EP X pins σ Q (.ref s.heap.objs.size) { s with heap := s.heap.push { cls := .type "tuple", data := .seq us.toArray }, toks := t } := by
  have free := I.hok.fresh (Nat.le_refl s.heap.objs.size)
  have held : ObjOk X.prog X.w (upd H s.heap.objs.size (.frz { cls := .type "tuple", data := .seq us.toArray } (.tup xs))) (s.heap.push { cls := .type "tuple", data := .seq us.toArray }) s.heap.objs.size (.frz { cls := .type "tuple", data := .seq us.toArray } (.tup xs)) :=
    ⟨Heap.get?_push_size _ rfl, z, us, r, ⟨_, Heap.get?_push_size _ rfl, rfl, _, rfl⟩⟩
  exact ⟨.ref _, _, I.laid (fun b u e => Heap.get?_push_of_some _ e) (Nat.le_refl _) held, rfl, q _ _ free rfl⟩
end
section
variable {X : Cx} {es : List Expr} {pos : Pos} {t : TA}
theorem pe_tupN {k : Nat} (h : PA X es t) : PE X (.Tuple es k pos) (fun σ H Q => t σ H fun xs H1 => xs.length ≤ sizeLine ∧ newT H1 xs Q) := by
  constructor
  intro pins s σ H Q I hq
  refine wpAny_Tuple_spliced (thn (h.run pos pins s σ H _ I hq) fun us s1 hx => ?_)
  obtain ⟨xs, H1, J, r, z, q⟩ := hx
  exact ⟨by rw [← r.length]; exact z, new_tuple J r z q⟩
end
section
variable {X : Cx}
/-- a + b, neither is empty -/
theorem op_catN : OpR X (binaryOp .Add) (fun x y H Q => ∃ a b xs ys, x = .ref a ∧ y = .ref b ∧ SqT X.K H a xs ∧ SqT X.K H b ys ∧ xs ≠ [] ∧ ys ≠ [] ∧ xs.length + ys.length ≤ sizeLine ∧ newT H (xs ++ ys) Q) := by
  intro pins s σ H x y v u Q I rx ry ⟨a, b, xs, ys, ex, ey, ha, hb, hx, hy, hz, q⟩
  subst ex ey
  cases rx
  cases ry
  obtain ⟨its, r1, p1, _⟩ := I.tuple ha
  obtain ⟨jts, r2, p2, _⟩ := I.tuple hb
  refine HT.cat_tup p1 p2 (fun z => hx (r1.nil_iff.mp z)) (fun z => (hy (r2.nil_iff.mp z)).elim) (fun _ => ?_) (by rw [← r1.length, ← r2.length]; exact hz)
  exact new_tuple (t := s.toks) I (r1.append r2) (by rw [List.length_append]; exact hz) q
/-- part of a tuple, not the whole -/
theorem sl_tupN : SlR X (fun x lo hi H Q => ∃ a xs, x = .ref a ∧ SqT X.K H a xs ∧ ¬ (HT.sIx xs.length 0 lo = 0 ∧ HT.sIx xs.length xs.length hi = xs.length) ∧ newT H (cutV xs lo hi) Q) := by
  intro pins s σ H x v vl vu lo hi sl Q I rx hs pl pu ⟨a, xs, ex, hx, hw, q⟩
  subst ex
  cases rx
  obtain ⟨its, r, ht, hz⟩ := I.tuple hx
  have hlen : its.toArray.size = xs.length := by
    have := r.length
    simp [this]
  refine ⟨"tuple", _, PyProof.Rows.slot_tuple_getitem.lookup, ht.typeIs, ?_⟩
  refine HT.getItem_tuple_cut ht hs pl pu (by rw [hlen]; exact hw) ?_ (by rw [hlen]; exact hz)
  rw [hlen]
  exact new_tuple (t := s.toks) I ((r.drop (HT.sIx xs.length 0 lo)).take (HT.sIx xs.length xs.length hi - HT.sIx xs.length 0 lo)) (Nat.le_trans (cutV_length xs lo hi) hz) q
/-- tuple(list) -/
theorem call_tupleN : CallR X (.type "tuple") (fun xs H Q => ∃ p ys, xs = [.ref p] ∧ SqL X.K H p ys ∧ newT H ys Q) := by
  intro pins s σ H xs us Q I r ⟨p, ys, e, hq, q⟩
  subst e
  obtain ⟨u, rfl, rx⟩ := vals1 r
  cases rx
  obtain ⟨its, r', pl, hz⟩ := I.list hq
  have hlen := r'.length
  refine call_tuple_list pl.isList (fun h' kp => ?_) (by simp only [List.size_toArray] <;> omega)
  exact new_tuple (t := s.toks) (I.kept (t' := s.toks) kp) r' hz q
end
theorem inv_pt {X : Cx} {pins : List (Addr × Obj)} {σ : L2.St} {H : Hp} {s : Shared} {a : Addr} {xs : List V} (I : Inv X pins σ H s) (h : PTu X.K H a xs) : ∃ (its : List Value) (ob : Obj), Vals xs its ∧ IsTup s.heap a its.toArray ∧ s.heap.get? a = some ob ∧ ob.dict = none := by
  rcases h with ⟨ob, h, d⟩ | ⟨o, its, n, hk, hc, hd, hs, hz, r⟩
  · obtain ⟨g, z, its, r, p⟩ := (show ObjOk X.prog X.w H s.heap a (.frz ob (.tup xs)) from I.hok a _ h)
    exact ⟨its, ob, r, p, g, d⟩
  · exact ⟨its.toList, o, r, ⟨o, I.kIn a o hk, hc, n, by simpa using hs⟩, I.kIn a o hk, hd⟩
section
variable {X : Cx} {o e : Expr} {apos cpos : Pos} {td ty : TE}
/-- t.index(k), there; whole numbers -/
theorem pe_tix (ho : PE X o td) (he : PE X e ty) (m : M1 X o "index" apos e cpos) : PE X (.Call (.Attribute o "index" apos) [e] [] cpos)
    (fun σ H Q => td σ H fun x H1 => ∃ a xs, x = .ref a ∧ PTu X.K H1 a xs ∧ ty σ H1 fun y H2 => ∃ (ns : List Int) (k : Int), xs = ns.map V.int ∧ y = .int k ∧ k ∈ ns ∧ PTu X.K H2 a xs ∧ Q (.int (ns.idxOf k : Nat)) H2) := by
  constructor
  intro pins s σ H Q I h
  refine wpAny_Call_method m.base m.few m.line PySem.F.plainAttrs_tuple PySem.F.slot_tuple_index PySem.F.type_tuple_index (thn (ho.run pins s σ H _ I h) fun u s1 hx => ?_)
  obtain ⟨x, H1, I1, rx, a, xs, ex, hd, q1⟩ := hx
  subst ex
  obtain rfl : u = Value.ref a := rx
  obtain ⟨its1, ob, r1, p1, g1, hn⟩ := inv_pt I1 hd
  refine ⟨p1.typeIs, fun b e => by cases e; exact ⟨ob, g1, hn⟩, ?_⟩
  rw [m.trees]
  refine Calls.callWith_builtin rfl (Calls.evalArgs_plain (Calls.spliced_cons (thn (he.run pins s1 σ H1 _ I1 q1) fun iv s2 hy => Calls.spliced_nil ?_)))
  obtain ⟨y, H2, I2, ry, ns, k, exs, ey, hk, hd2, q2⟩ := hy
  subst ey exs
  obtain ⟨t, rfl⟩ := ry
  obtain ⟨its2, ob2, r2, p2, _, _⟩ := inv_pt I2 hd2
  exact SeqAt.tuple_index_ints p2 (intsAre_of r2) hk ⟨.int (ns.idxOf k : Nat), H2, I2.tok _, ⟨_, rfl⟩, q2⟩
end
section
variable {X : Cx}
/-- a tuple taken twice and more -/
theorem op_repN : OpR X (binaryOp .Mult) (fun x y H Q => ∃ l k xs, x = .ref l ∧ y = .int k ∧ SqT X.K H l xs ∧ xs ≠ [] ∧ 2 ≤ k ∧ k ≤ 1000 ∧ xs.length ≤ 1000 ∧ newT H (List.replicate k.toNat xs).flatten Q) := by
  intro pins s σ H x y v u Q I rx ry ⟨l, k, xs, ex, ey, hT, hne, h1, h2, hz, q⟩
  subst ex ey
  cases rx
  obtain ⟨tk, rfl⟩ := ry
  obtain ⟨its, r, ⟨⟨cl, dd, da, sl⟩, ho, hc, n, hd⟩, _⟩ := I.tuple hT
  simp only at hc hd
  subst hc hd
  have le : its.length = xs.length := r.length.symm
  have full : its.toArray.isEmpty = false := by
    cases its with
    | nil => exact absurd (List.eq_nil_of_length_eq_zero le.symm) hne
    | cons _ _ => rfl
  have prod : k.toNat * xs.length ≤ 1000000 := by
    have : k.toNat * xs.length ≤ 1000 * 1000 := Nat.mul_le_mul (by omega) hz
    omega
  have size : ((its.toArray.size : Nat) : Int) * k ≤ 1000000 := by
    rw [List.size_toArray, le]
    have e : (k.toNat : Int) = k := Int.toNat_of_nonneg (by omega)
    have : ((k.toNat * xs.length : Nat) : Int) ≤ 1000000 := by omega
    rw [Int.natCast_mul, e, Int.mul_comm] at this
    exact this
  have flat : (List.replicate k.toNat its).flatten.length = k.toNat * xs.length := by rw [lm_len_rep_flat, le]
  have d0 : (decide (k < -(2 ^ 63)) || decide (k ≥ 2 ^ 63)) = false := by
    rw [decide_eq_false (show ¬ k < -(2 ^ 63) by omega), decide_eq_false (show ¬ k ≥ 2 ^ 63 by omega)]; rfl
  have d1 : (its.toArray.isEmpty || k == 1) = false := by
    rw [full, Bool.false_or]
    exact beq_eq_false_iff_ne.mpr (show k ≠ 1 by omega)
  have d2 : (decide (k ≤ 0) || its.toArray.isEmpty) = false := by rw [full, Bool.or_false]; exact decide_eq_false (show ¬ k ≤ 0 by omega)
  have d4 : Builtin.Tuple.tupleTooMany (((its.toArray.size : Nat) : Int) * k) = false := by
    unfold Builtin.Tuple.tupleTooMany
    exact decide_eq_false (by rw [sizeLine_eq]; omega)
  refine wpAny_binaryOp_repeat_ref (T := "tuple") (U := "int") (by decide) ⟨_, ho, rfl⟩ (fun s2 => typeIs_int s2 k tk)
    noFill_tuple_mul PySem.F.fills_int_mul PySem.F.slot_int_rmul repeat_tuple PySem.F.slot_int_index.lookup ?_
  refine call_meets PySem.F.slot_int_rmul (typeIs_int s k tk) PySem.F.entry_int_rmul (PySem.F.args_int_rmul_2 _ _)
    (int_rmul_tuple k tk l its.toArray n dd sl) ⟨ho, rfl, ⟨_, ho, rfl⟩, ?_⟩
  refine call_meets PySem.F.slot_tuple_mul ⟨_, ho, rfl⟩ PySem.F.entry_tuple_mul (PySem.F.args_tuple_mul_2 _ _)
    (tuple_mulW l its.toArray n dd sl k tk d0 d1 d2 (by omega) d4 (by rw [size_rep, List.size_toArray, flat, sizeLine_eq]; omega)) ⟨ho, ?_⟩
  rw [size_rep]
  exact new_tuple (t := s.toks) I (r.rep k.toNat) (by rw [lm_len_rep_flat, sizeLine_eq]; omega) q
end
section
variable {X : Cx} {e : Expr} {te : L2.St → Hp → (Int → Int → Hp → Prop) → Prop}
/-- tuple(range(..)) -/
theorem pe_tupRgN {p pos : Pos} (hc : X.calm = true) (hg : Gl X "tuple") (hm : X.mg "tuple" = none) (he : PRg X e te) (na : starEach [e] X.env = (false, eval e X.env) :: starEach [] X.env) :
    PE X (.Call (.Name "tuple" p) [e] [] pos) (fun σ H Q => te σ H fun a b H1 => RgOk a b ∧ newT H1 (rgV a b) Q) := by
  constructor
  intro pins s σ H Q I h
  refine Call_ (ld_blt I hg hm boot_tuple (PyProof.Rows.callWith_type1 (args_cons (thn (he pins s σ H _ I h) fun x s1 hx => args_nil ?_) na) na))
  obtain ⟨r, a, b, t, u, v, H1, ex, hr, J, ok, q⟩ := hx
  subst ex
  obtain ⟨b1, b2, b3, b4, b5⟩ := ok
  refine call_tuple_range (n := (b - a).toNat) (J.ok.hd hc) hr (small_one b1 b2 b3 b4) (rangeSize_nat a b) b5 fun h' tk acc hk hi => ?_
  have J2 : Inv X pins σ H1 { s1 with heap := h', toks := tk } := J.kept hk
  have := new_tuple (t := tk) J2 (vals_rg hi) (by rw [rgV_length, sizeLine_eq]; omega) q
  rw [Array.toArray_toList] at this
  exact this
end
end Px

/-! Px4: operations by values. -/
namespace Px
open PySem PySem.Spec L2
section
variable {K : PySem.W.Frag} {B H H' H0 H1 : Hp} {A Z : AS} {X : Cx}
/-- what an operation on two values asks, by its pure function -/
def rB (K : PySem.W.Frag) (f : Kd → Kd → R Kd) : R2 := fun x y H Q => ∃ (H0 : Hp) (A : AS) (ka kb r : Kd), Same H0 H ∧ (∀ z, A z → IsM H0 z) ∧ Ress K H0 H A [ka, kb] [x, y] ∧ f ka kb = .ok r ∧ ∀ v H', Same H H' → Res K H0 H' A r v → Q v H'
theorem ress2 {ka kb : Kd} {x y : V} (h : Ress K H0 H A [ka, kb] [x, y]) : RepR K H ka.2 x ∧ RepR K H kb.2 y := by
  obtain ⟨O, f, v, vs, O1, O2, e, h1, h2, r, v', vs', O3, O4, e', h3, h4, r', q⟩ := h
  cases e; cases e'
  exact ⟨r.rep, r'.rep⟩
theorem ress2o {ka kb : Kd} {x y : V} (h : Ress K H0 H A [ka, kb] [x, y]) : ∃ O1 O2 : AS, (∀ z, O1 z ∨ O2 z → H0 z = none) ∧ (∀ z, O1 z → ¬ O2 z) ∧ Res1 K H (fun z => A z ∨ O1 z ∨ O2 z) ka x O1 ∧ Res1 K H (fun z => A z ∨ O1 z ∨ O2 z) kb y O2 := by
  obtain ⟨O, f, v, vs, O1, O2, e, h1, h2, r, v', vs', O3, O4, e', h3, h4, r', q⟩ := h
  cases e; cases e'
  have hO : ∀ z, O z ↔ O1 z ∨ O3 z := fun z => by
    rw [h1 z, h3 z]
    constructor
    · rintro (z1 | z1 | z1)
      · exact .inl z1
      · exact .inr z1
      · exact (q.2 z z1).elim
    · rintro (z1 | z1)
      · exact .inl z1
      · exact .inr (.inl z1)
  have hA : ∀ z, (A z ∨ O1 z ∨ O3 z) → (A z ∨ O z) ∨ H z = none := fun z q => .inl (q.elim .inl fun q => .inr ((hO z).mpr q))
  have hA2 : ∀ z, (A z ∨ O z) → (A z ∨ O1 z ∨ O3 z) := fun z q => q.elim .inl fun q => .inr ((hO z).mp q)
  exact ⟨O1, O3, fun z q => f z ((hO z).mpr q), fun z z1 z3 => h2 z z1 ((h3 z).mpr (.inl z3)), r.mono (Same.refl _) hA hA2, r'.mono (Same.refl _) hA hA2⟩
theorem repL_str (n : Int) (s : List Nat) : (List.replicate n.toNat (mkS s).cps).foldl (· ++ ·) #[] = (repL n s).toArray := by
  unfold repL
  have : ∀ (m : Nat) (acc : List Nat), (List.replicate m s.toArray).foldl (· ++ ·) acc.toArray = (acc ++ (List.replicate m s).flatten).toArray := by
    intro m
    induction m with
    | zero => intro acc; simp
    | succ m ih =>
      intro acc
      rw [List.replicate_succ, List.foldl_cons, List.replicate_succ, List.flatten_cons]
      have : acc.toArray ++ s.toArray = (acc ++ s).toArray := by simp
      rw [this, ih, List.append_assoc]
  have h := this n.toNat []
  simpa using h
theorem repL_len {α : Type} (n : Int) (s : List α) : (repL n s).length = s.length * n.toNat := by
  unfold repL
  rw [List.length_flatten, List.map_replicate]
  simp [Nat.mul_comm]
theorem op_mul_str : OpR X (binaryOp .Mult) (fun x y H Q => ∃ (s : List Nat) (n : Int), x = .str (mkS s) ∧ y = .int n ∧ -9223372036854775808 ≤ n ∧ n < 9223372036854775808 ∧ s.length * n.toNat ≤ line ∧ Q (.str (mkS (repL n s))) H) := by
  intro pins s σ H x y v u Q I rx ry h
  obtain ⟨z, n, rfl, rfl, h1, h2, h3, q⟩ := h
  obtain ⟨t, rfl⟩ := rx
  obtain ⟨t', rfl⟩ := ry
  have len := mkS_len z
  have capg : ¬ n < 1 → (n == 1 || (mkS z).length == 0) = false → ¬ (((mkS z).length : Int) > (2 ^ 63 - 1) / n) := fun n1 n2 => by
    rw [len]
    have hp : 0 < n := by omega
    rw [gt_iff_lt, Int.not_lt, Int.le_ediv_iff_mul_le hp]
    have e : ((z.length : Int)) * n = ((z.length * n.toNat : Nat) : Int) := by
      rw [Int.natCast_mul, Int.toNat_of_nonneg (by omega)]
    rw [e]
    have : (line : Int) ≤ 2 ^ 63 - 1 := by decide
    omega
  have long : ∀ k : Nat, k ≤ line → PySem.Builtin.Str.tooLong k = false := fun k hk => by
    unfold PySem.Builtin.Str.tooLong
    exact decide_eq_false (by rw [line_eq]; omega)
  refine PySem.P.mul_str ?_ capg (fun _ _ => long ((mkS z).length * n.toNat) (by rw [len]; exact h3)) ?_
  · have e1 : ¬ n < -(2 ^ 63 : Int) := by omega
    have e2 : ¬ n ≥ (2 ^ 63 : Int) := by omega
    rw [decide_eq_false e1, decide_eq_false e2]; rfl
  · by_cases c1 : n < 1
    · rw [if_pos c1]
      have e : repL n z = [] := by
        unfold repL
        rw [show n.toNat = 0 by omega]; rfl
      rw [e] at q
      exact ⟨by decide, .str (mkS []), H, I.tok _, ⟨_, rfl⟩, q⟩
    · rw [if_neg c1]
      by_cases c2 : (n == 1 || (mkS z).length == 0) = true
      · rw [if_pos c2]
        have e : repL n z = z := by
          rw [Bool.or_eq_true] at c2
          rcases c2 with c2 | c2
          · have : n = 1 := by simpa using c2
            subst this
            show (List.replicate 1 z).flatten = z
            simp
          · rw [len] at c2
            have : z.length = 0 := by simpa using c2
            have : z = [] := List.eq_nil_of_length_eq_zero this
            subst this
            apply List.eq_nil_of_length_eq_zero
            rw [repL_len]; simp
        rw [e] at q
        exact ⟨.str (mkS z), H, I, ⟨_, rfl⟩, q⟩
      · rw [if_neg c2, repL_str]
        refine ⟨?_, .str _, H, I.tok _, ⟨_, rfl⟩, q⟩
        show (mkS (repL n z)).length ≤ _
        rw [mkS_len, repL_len, line_eq]
        exact h3
/-- two lists, whatever they are -/
theorem op_catL : OpR X (binaryOp .Add) (fun x y H Q => ∃ l b xs zs, x = .ref l ∧ y = .ref b ∧ SqL X.K H l xs ∧ SqL X.K H b zs ∧ xs.length + zs.length ≤ sizeLine ∧ ∀ p, H p = none → Q (.ref p) (upd H p (.lst (xs ++ zs)))) := by
  intro pins s σ H x y v u Q I rx ry h
  obtain ⟨l, b, xs, zs, rfl, rfl, hH, hB, hz, q⟩ := h
  cases rx
  cases ry
  obtain ⟨its, r, ⟨⟨cls, dd, data, sl⟩, n1, ho, hc, hdd, hd⟩, _⟩ := I.list hH
  obtain ⟨its2, r2, ⟨⟨cls2, dd2, data2, sl2⟩, n2, ho2, hc2, hdd2, hd2⟩, _⟩ := I.list hB
  simp only at hc hd hc2 hd2
  subst hc hd hc2 hd2
  have hl := r.length
  have hl2 := r2.length
  have e : its.toArray ++ its2.toArray = (its ++ its2).toArray := by simp
  refine PySem.concat_meets ⟨_, ho, rfl⟩ ⟨_, ho2, rfl⟩ noFill_list_add seq_list_add PySem.F.slot_list_add PySem.F.entry_list_add (PySem.F.args_list_add_2 _ _) (PyProof.Rows.list_addW l b its.toArray its2.toArray n1 n2 dd dd2 sl sl2 (by rw [List.size_toArray, List.size_toArray]; omega)) ⟨ho, ho2, ?_⟩
  rw [e]
  exact ⟨.ref _, _, I.lnew (t' := s.toks) (r.append r2) (by rw [List.length_append]; omega), rfl, q _ I.fresh⟩
theorem atI_get {α : Type} {xs : List α} {i : Int} {d : α} (h : atI xs i = some d) : ∃ j : Nat, ixN xs.length i = some j ∧ xs[j]? = some d := by
  unfold atI at h
  cases e : ixN xs.length i with
  | none => rw [e] at h; cases h
  | some j => rw [e] at h; exact ⟨j, rfl, h⟩
theorem atI_reps {xs : List D} {vs : List V} {i : Int} {d : D} (h : atI xs i = some d) (r : RepRs K H xs vs) : ∃ v, atI vs i = some v ∧ RepR K H d v := by
  obtain ⟨j, e1, e2⟩ := atI_get h
  obtain ⟨v, e3, rv⟩ := r.get e2
  refine ⟨v, ?_, rv⟩
  unfold atI
  rw [r.length, e1]; exact e3
theorem RepRs.flatten {xs : List D} {vs : List V} (r : RepRs K H xs vs) : ∀ n : Nat, RepRs K H (List.replicate n xs).flatten (List.replicate n vs).flatten
  | 0 => RepRs.nil
  | n + 1 => by
    rw [List.replicate_succ, List.replicate_succ, List.flatten_cons, List.flatten_cons]
    exact r.append (RepRs.flatten r n)
theorem Owns.flatten {c : Nat} {xs : List D} {vs : List V} (r : Owns (Own K H A c) xs vs (fun _ => False)) : ∀ n : Nat, Owns (Own K H A c) (List.replicate n xs).flatten (List.replicate n vs).flatten (fun _ => False)
  | 0 => ⟨rfl, fun _ z => z⟩
  | n + 1 => by
    rw [List.replicate_succ, List.replicate_succ, List.flatten_cons, List.flatten_cons]
    exact Owns.append (fun _ _ _ _ e h => h.iff e) (fun x => by simp) (fun _ z => z.elim) r (Owns.flatten r n)
theorem ch8 {k : Option Nat} {xs : List D} (h : xs.any D.cont = false) : chd k xs = .ok 8 := by
  unfold chd; rw [if_neg (by rw [h]; exact Bool.false_ne_true)]
/-- no container among them: nothing is owned -/
theorem Owns.none_of {c : Nat} : ∀ {ds : List D} {vs : List V} {P : AS}, (∀ d ∈ ds, d.cont = false) → Owns (Own K H A c) ds vs P → Owns (Own K H A c) ds vs (fun _ => False)
  | [], _, _, _, h => ⟨h.1, fun _ z => z⟩
  | d :: ds, _, _, hd, ⟨v, vs', O1, O2, e, h1, h2, r, q⟩ =>
    ⟨v, vs', _, _, e, fun x => by simp, fun _ z => z.elim, (Own.flat (hd d (by simp))).mpr ⟨fun _ z => z, ((Own.flat (hd d (by simp))).mp r).2⟩, Owns.none_of (fun d m => hd d (by simp [m])) q⟩
theorem cont_of {xs : List D} (h : xs.any D.cont = false) : ∀ d ∈ xs, d.cont = false := fun d m => by
  cases e : d.cont with
  | false => rfl
  | true => rw [List.any_eq_true.mpr ⟨d, m, e⟩] at h; cases h
/-- a result that is one of the operands, or part of one, and no container -/
theorem Own.to_res {d : D} (c : d.cont = false) {j : Nat} {v : V} {P : AS} {A' : AS} (w : Own K H A j d v P) (hA : ∀ x, A' x → A x) (s : Same H H') : Res K H0 H' A' (at9 d) v := by
  refine ⟨fun _ => False, fun _ z => z.elim, (Own.flat c).mpr ⟨fun _ z => z, ?_⟩⟩
  exact (((Own.flat c).mp w).2).mono fun b o e => cut_heap s b o (cut_set (fun x z => hA x (z.elim id False.elim)) b o e)
theorem Res1.to_res {k : Option Nat} {d : D} (c : d.cont = false) {v : V} {P : AS} {A' : AS} (w : Res1 K H A (k, d) v P) (hA : ∀ x, A' x → A x) (s : Same H H') : Res K H0 H' A' (at9 d) v := by
  unfold Res1 at w; split at w
  · obtain ⟨_, j, P', _, w⟩ := w; exact Own.to_res c w hA s
  · exact Own.to_res c w hA s
/-- what is no container stands in the cut -/
theorem Res1.flat {k : Option Nat} {d : D} (c : d.cont = false) {v : V} {P : AS} (w : Res1 K H A (k, d) v P) : RepR K (cut H A) d v := by
  unfold Res1 at w; split at w
  · obtain ⟨_, j, P', _, w⟩ := w; exact ((Own.flat c).mp w).2
  · exact ((Own.flat c).mp w).2
theorem owns_lower {j : Nat} : ∀ {ds : List D} {vs : List V} {P : AS}, Owns (Own K H A j) ds vs P → ∀ j', j' ≤ j → ∃ P' : AS, (∀ x, P' x → P x) ∧ ∀ A' : AS, (∀ x, A' x → A x) → (∀ x, A' x → P x → P' x) → Owns (Own K H A' j') ds vs P'
  | [], _, P, h, _, _ => ⟨P, fun _ z => z, fun _ _ _ => h⟩
  | d :: ds, _, P, ⟨v, vs', O1, O2, e, h1, h2, r, q⟩, j', hj => by
    obtain ⟨P1, s1, f1⟩ := Own.lower r j' hj
    obtain ⟨P2, s2, f2⟩ := owns_lower q j' hj
    refine ⟨fun x => P1 x ∨ P2 x, fun x z => (h1 x).mpr (z.elim (fun z => .inl (s1 x z)) fun z => .inr (s2 x z)), fun A' sA hA => ?_⟩
    refine ⟨v, vs', P1, P2, e, fun x => Iff.rfl, fun x z1 z2 => h2 x (s1 x z1) (s2 x z2), f1 A' sA fun x z o1 => ?_, f2 A' sA fun x z o2 => ?_⟩
    · rcases hA x z ((h1 x).mpr (.inl o1)) with k | k
      · exact k
      · exact (h2 x o1 (s2 x k)).elim
    · rcases hA x z ((h1 x).mpr (.inr o2)) with k | k
      · exact (h2 x (s1 x k) o2).elim
      · exact k
theorem op_bin (o : Operator) : OpR X (binaryOp o) (rB X.K (binD o)) := by
  intro pins s σ H x y v u Q I rx ry ⟨H0, A, ka, kb, r, s0, hA, rr, e, q⟩
  obtain ⟨ra, rb⟩ := ress2 rr
  obtain ⟨O1, O2, f, dj, r1, r2⟩ := ress2o rr
  unfold binD at e
  split at e
  · cases e; exact op_add pins s σ H x y v u Q I rx ry ⟨_, _, ra.int, rb.int, q _ _ (Same.refl _) Res.int⟩
  · cases e; exact op_sub pins s σ H x y v u Q I rx ry ⟨_, _, ra.int, rb.int, q _ _ (Same.refl _) Res.int⟩
  · split at e <;> cases e
    rename_i hm
    refine op_mul pins s σ H x y v u Q I rx ry ⟨_, _, ra.int, rb.int, ?_, q _ _ (Same.refl _) Res.int⟩
    unfold mulOk at hm
    rw [Bool.or_eq_true] at hm
    rcases hm with hm | hm
    · exact .inl (by have := of_decide_eq_true hm; omega)
    · exact .inr (by have := of_decide_eq_true hm; omega)
  · split at e <;> cases e
    rename_i hm
    exact op_fdivN pins s σ H x y v u Q I rx ry ⟨_, _, ra.int, rb.int, hm, q _ _ (Same.refl _) Res.int⟩
  · split at e <;> cases e
    rename_i hm
    exact op_modN pins s σ H x y v u Q I rx ry ⟨_, _, ra.int, rb.int, hm, q _ _ (Same.refl _) Res.int⟩
  · split at e <;> cases e
    rename_i hm
    exact op_pow pins s σ H x y v u Q I rx ry ⟨_, _, ra.int, rb.int, ⟨hm.1, hm.2.1, hm.2.2⟩, q _ _ (Same.refl _) Res.int⟩
  · cases e; exact op_and pins s σ H x y v u Q I rx ry ⟨_, _, ra.int, rb.int, q _ _ (Same.refl _) Res.int⟩
  · cases e; exact op_or pins s σ H x y v u Q I rx ry ⟨_, _, ra.int, rb.int, q _ _ (Same.refl _) Res.int⟩
  · cases e; exact op_xor pins s σ H x y v u Q I rx ry ⟨_, _, ra.int, rb.int, q _ _ (Same.refl _) Res.int⟩
  · split at e <;> cases e
    rename_i hm
    refine op_add_str pins s σ H x y v u Q I rx ry ⟨_, _, ra.str, rb.str, by rw [mkS_len, mkS_len, line_eq]; exact hm, ?_⟩
    rw [mkS_app]
    exact q _ _ (Same.refl _) Res.str
  · split at e <;> cases e
    rename_i hm
    exact op_mul_str pins s σ H x y v u Q I rx ry ⟨_, _, ra.str, rb.int, hm.1, hm.2.1, hm.2.2, q _ _ (Same.refl _) Res.str⟩
  · split at e
    · rename_i k xs l ys hm
      cases e1 : chd k xs with
      | ok c1 =>
        cases e2 : chd l ys with
        | ok c2 =>
          rw [e1, e2] at e
          cases e
          obtain ⟨a, vs, ex, sx, _, P1, s1, n1, w1⟩ := ch_ok e1 (r1.mono (Same.refl _) (fun x z => .inl z) (fun x z => z)) (fun x z => .inr (.inl z))
          obtain ⟨b, us, ey, sy, _, P2, s2, n2, w2⟩ := ch_ok e2 (r2.mono (Same.refl _) (fun x z => .inl z) (fun x z => z)) (fun x z => .inr (.inr z))
          have lx := w1.length
          have ly := w2.length
          refine op_catL pins s σ H x y v u Q I rx ry ⟨a, b, vs, us, ex, ey, sx, sy, by rw [lx, ly, line_eq]; exact hm, fun p hp => q _ _ (same_new hp) ?_⟩
          obtain ⟨Q1, t1, g1⟩ := owns_lower w1 (min c1 c2) (Nat.min_le_left _ _)
          obtain ⟨Q2, t2, g2⟩ := owns_lower w2 (min c1 c2) (Nat.min_le_right _ _)
          have nA : ∀ z, A z → ¬ (O1 z ∨ O2 z) := fun z a o => (hA z a).ne (f z o)
          have sub : ∀ z, (A z ∨ (Q1 z ∨ Q2 z)) → A z ∨ O1 z ∨ O2 z := fun z a => a.elim .inl fun a => a.elim (fun a => .inr (.inl (s1 z (t1 z a)))) fun a => .inr (.inr (s2 z (t2 z a)))
          refine Res.newL (O := fun z => Q1 z ∨ Q2 z) hp s0 (fun z a => f z (a.elim (fun a => .inl (s1 z (t1 z a))) fun a => .inr (s2 z (t2 z a)))) (fun z a => (hA z a).mono s0) ?_
          refine Owns.append (fun _ _ _ _ e h => h.iff e) (fun z => Iff.rfl) (fun z a b => dj z (s1 z (t1 z a)) (s2 z (t2 z b))) (g1 _ sub fun z a o => ?_) (g2 _ sub fun z a o => ?_)
          · rcases a with a | a | a
            · exact (nA z a (.inl (s1 z o))).elim
            · exact a
            · exact (dj z (s1 z o) (s2 z (t2 z a))).elim
          · rcases a with a | a | a
            · exact (nA z a (.inr (s2 z o))).elim
            · exact (dj z (s1 z (t1 z a)) (s2 z o)).elim
            · exact a
        | exc x p => rw [e1, e2] at e; cases e
        | stuck => rw [e1, e2] at e; cases e
        | draw _ => rw [e1, e2] at e; cases e
      | exc x p => rw [e1] at e; cases e
      | stuck => rw [e1] at e; cases e
      | draw _ => rw [e1] at e; cases e
    · cases e
  · split at e <;> cases e
    rename_i k xs l n hm
    obtain ⟨h1, h2, h3, hc⟩ := hm
    have r1 : Own X.K H _ (k + 1) (.lst xs) x O1 := r1
    unfold Own at r1
    obtain ⟨a, vs, P, ex, ea, _, _, w⟩ := r1
    have w := Owns.none_of (cont_of hc) w
    have lx := w.length
    refine op_rep pins s σ H x y v u Q I rx ry ⟨a, n, vs, ex, rb.int, ea, by omega, by omega, by rw [lx, line_eq]; exact h3, fun p hp => q _ _ (same_new hp) ?_⟩
    have w8 : Owns (Own X.K H (fun z => A z ∨ False) 8) xs vs (fun _ => False) := w.impIn fun d m v' O' _ r => (Own.flat (cont_of hc d m)).mpr ⟨((Own.flat (cont_of hc d m)).mp r).1, ((Own.flat (cont_of hc d m)).mp r).2.mono (cut_set fun z a => .inl (a.elim id False.elim))⟩
    exact Res.newL (O := fun _ => False) hp s0 (fun _ z => z.elim) (fun z a => (hA z a).mono s0) (w8.flatten n.toNat)
  · split at e <;> cases e
    rename_i k xs l n hm
    obtain ⟨h0, h1, h2, h3⟩ := hm
    obtain ⟨a, vs, ex, sx, wx⟩ := RepR.tup (Res1.flat rfl r1)
    have lx := wx.length
    have sub : ∀ z, A z → A z ∨ O1 z ∨ O2 z := fun z a => .inl a
    have ne : vs ≠ [] := fun e => by
      subst e
      have : xs = [] := List.eq_nil_of_length_eq_zero (by rw [← lx]; rfl)
      subst this
      cases h0
    by_cases n0 : n = 0
    · subst n0
      refine op_rep0 pins s σ H x y v u Q I rx ry ⟨a, vs, ex, rb.int, Same.seqT cut_same sx, ne, fun p o hp hd => q _ _ (same_new hp) ?_⟩
      exact Res.tupN hp hd (fun z a => (hA z a).mono s0) .nil
    by_cases n1 : n = 1
    · subst n1
      refine op_rep1 pins s σ H x y v u Q I rx ry ⟨a, vs, ex, rb.int, Same.seqT cut_same sx, ?_⟩
      refine q _ _ (Same.refl _) ?_
      rw [← ex, show repL 1 xs = xs from by unfold repL; simp]
      exact Res1.to_res rfl r1 sub (Same.refl _)
    refine op_repN pins s σ H x y v u Q I rx ry ⟨a, n, vs, ex, rb.int, Same.seqT cut_same sx, ne, by omega, h2, by rw [lx]; exact h3, fun p o hp hd => q _ _ (same_new hp) (Res.tupN hp hd (fun z a => (hA z a).mono s0) ((wx.mono (cut_set sub)).flatten n.toNat))⟩
  · split at e <;> cases e
    rename_i k xs l ys hm
    have q1 := Res1.flat rfl r1
    have q2 := Res1.flat rfl r2
    obtain ⟨a, vs, ex, sx, wx⟩ := RepR.tup q1
    obtain ⟨b, us, ey, sy, wy⟩ := RepR.tup q2
    have lx := wx.length
    have ly := wy.length
    have sub : ∀ z, A z → A z ∨ O1 z ∨ O2 z := fun z a => .inl a
    by_cases cn : vs ≠ [] ∧ us ≠ []
    · exact op_catN pins s σ H x y v u Q I rx ry ⟨a, b, vs, us, ex, ey, Same.seqT cut_same sx, Same.seqT cut_same sy, cn.1, cn.2, by rw [lx, ly, line_eq]; exact hm, fun p o hp hd => q _ _ (same_new hp) (Res.tupN hp hd (fun z a => (hA z a).mono s0) ((wx.mono (cut_set sub)).append (wy.mono (cut_set sub))))⟩
    refine op_catA pins s σ H x y v u Q I rx ry ⟨a, b, vs, us, ex, ey, Same.seqT cut_same sx, Same.seqT cut_same sy, by rw [lx, ly, line_eq]; exact hm, fun e => ?_, fun e1 e => ?_, fun n1 n2 p hp => (cn ⟨n1, n2⟩).elim⟩
    · subst e
      have : xs = [] := List.eq_nil_of_length_eq_zero (by rw [← lx]; rfl)
      subst this
      refine q _ _ (Same.refl _) ?_
      rw [← ey]
      exact Res1.to_res rfl r2 sub (Same.refl _)
    · subst e
      have : ys = [] := List.eq_nil_of_length_eq_zero (by rw [← ly]; rfl)
      subst this
      refine q _ _ (Same.refl _) ?_
      rw [List.append_nil, ← ex]
      exact Res1.to_res rfl r1 sub (Same.refl _)
  · cases e

/-! ### one operand -/
def rU1 (K : PySem.W.Frag) (f : Kd → R Kd) : V → Hp → VK → Prop := fun x H Q => ∃ (H0 : Hp) (A : AS) (ka r : Kd), Same H0 H ∧ (∀ z, A z → IsM H0 z) ∧ Res K H0 H A ka x ∧ f ka = .ok r ∧ ∀ v H', Same H H' → Res K H0 H' A r v → Q v H'
theorem op_un (o : UnaryOp) : UnR X (unaryOp o) (rU1 X.K (unD o)) := by
  intro pins s σ H x v Q I rx ⟨H0, A, ka, r, s0, hA, rr, e, q⟩
  have ra := rr.rep
  unfold unD at e
  split at e
  · cases e; exact un_neg pins s σ H x v Q I rx ⟨_, ra.int, q _ _ (Same.refl _) Res.int⟩
  · cases e

/-! ### comparisons -/
mutual
theorem RepR.dp : ∀ {d : D} {v : V}, d.py.canLay0 = true → RepR K H d v → Dp K H v d.py
  | .non, _, _, r => by rw [r.non]; exact .non
  | .bl _, _, _, r => by rw [r.bl]; exact .bl _
  | .int _, _, _, r => by rw [r.int]; exact .int _
  | .str _, _, _, r => by rw [r.str]; exact .str _
  | .lst xs, _, c, r => by
    obtain ⟨a, vs, e, s, q⟩ := r.lst
    rw [e]; unfold D.py; exact .lst s (RepRs.dp (by unfold D.py at c; exact c) q)
  | .tup xs, _, c, r => by
    obtain ⟨a, vs, e, s, q⟩ := r.tup
    rw [e]; unfold D.py; exact .tup s (RepRs.dp (by unfold D.py at c; exact c) q)
  | .dct _ _, _, s, _ => by unfold D.py at s; cases s
  | .ext _, _, s, _ => by unfold D.py at s; cases s
theorem RepRs.dp : ∀ {ds : List D} {vs : List V}, PyData.canLayAll0 (D.pys ds) = true → RepRs K H ds vs → DpAll K H vs (D.pys ds)
  | [], _, _, r => by unfold RepRs at r; subst r; unfold D.pys; exact .nil
  | d :: ds, _, c, r => by
    unfold RepRs at r
    obtain ⟨v, vs', e, r1, r2⟩ := r
    unfold D.pys PyData.canLayAll0 at c
    rw [Bool.and_eq_true] at c
    subst e; unfold D.pys
    exact .cons (RepR.dp c.1 r1) (RepRs.dp c.2 r2)
end
theorem shp_can {d : D} (h : shp d = true) : d.py.canLay0 = true := SeqAt.canLay_of_shaped h
theorem RepR.dps {d : D} {v : V} (h : shp d = true) (r : RepR K H d v) : Dp K H v d.py := r.dp (shp_can h)
def rC (K : PySem.W.Frag) (f : Kd → Kd → R Bool) : R2 := fun x y H Q => ∃ (ka kb : Kd) (r : Bool), RepR K H ka.2 x ∧ RepR K H kb.2 y ∧ f ka kb = .ok r ∧ Q (.bl r) H
theorem scal_of {a b : D} {x y : V} {r : Bool} (h : scalB a b = some r) (ra : RepR K H a x) (rb : RepR K H b y) : scal x y = true ∧ decide (x = y) = r := by
  unfold scalB at h
  split at h <;> cases h
  · rw [ra.non, rb.non]; exact ⟨rfl, rfl⟩
  · rw [ra.int, rb.int]
    refine ⟨rfl, ?_⟩
    rename_i a b
    by_cases e : a = b
    · subst e; simp
    · simp [e]
  · rw [ra.bl, rb.bl]
    refine ⟨rfl, ?_⟩
    rename_i a b
    cases a <;> cases b <;> rfl
  · rw [ra.str, rb.str]
    refine ⟨rfl, ?_⟩
    rename_i a b
    by_cases e : a = b
    · subst e; simp
    · have : ¬ V.str (mkS a) = V.str (mkS b) := fun q => e (mkS_inj (V.str.inj q))
      rw [decide_eq_false this, decide_eq_false e]
theorem isnon {d : D} {v : V} (r : RepR K H d v) : decide (v = .non) = isNonD d := by
  cases d with
  | non => rw [r.non]; rfl
  | bl _ => rw [r.bl]; rfl
  | int _ => rw [r.int]; rfl
  | str _ => rw [r.str]; rfl
  | lst _ => obtain ⟨_, _, e, _⟩ := r.lst; rw [e]; rfl
  | tup _ => obtain ⟨_, _, e, _⟩ := r.tup; rw [e]; rfl
  | dct _ _ => obtain ⟨_, _, e, _⟩ := r.dct; rw [e]; rfl
  | ext _ => obtain ⟨_, e, _⟩ := r.ext; rw [e]; rfl
theorem memD_py (a : D) : ∀ xs : List D, ((D.pys xs).any fun z => PyData.eqv z a.py) = memD a xs
  | [] => rfl
  | x :: xs => by
    unfold D.pys
    rw [List.any_cons, memD_py a xs]
    rfl
theorem op_cmp (hu : X.A.units + 65 < cLine) (o : CmpOp) : OpR X (compareOp o) (rC X.K (cmpD o)) := by
  intro pins s σ H x y v u Q I rx ry ⟨ka, kb, r, ra, rb, e, q⟩
  have hu64 : X.A.units + 64 < cLine := by omega
  unfold cmpD at e
  split at e
  · split at e
    · rename_i h; cases e
      obtain ⟨h1, h2⟩ := scal_of h ra rb
      exact op_eq pins s σ H x y v u Q I rx ry ⟨h1, by rw [h2]; exact q⟩
    · split at e <;> cases e
      rename_i h
      rw [Bool.and_eq_true] at h
      exact op_eqD hu64 pins s σ H x y v u Q I rx ry ⟨_, _, ra.dps h.1, rb.dps h.2, h.1, h.2, q⟩
  · split at e
    · rename_i h; cases e
      obtain ⟨h1, h2⟩ := scal_of h ra rb
      exact op_ne pins s σ H x y v u Q I rx ry ⟨h1, by rw [h2]; exact q⟩
    · split at e <;> cases e
      rename_i h
      rw [Bool.and_eq_true] at h
      exact op_neD hu64 pins s σ H x y v u Q I rx ry ⟨_, _, ra.dps h.1, rb.dps h.2, h.1, h.2, q⟩
  · cases e; exact op_lt pins s σ H x y v u Q I rx ry ⟨_, _, ra.int, rb.int, q⟩
  · cases e; exact op_le pins s σ H x y v u Q I rx ry ⟨_, _, ra.int, rb.int, q⟩
  · cases e; exact op_gt pins s σ H x y v u Q I rx ry ⟨_, _, ra.int, rb.int, q⟩
  · cases e; exact op_ge pins s σ H x y v u Q I rx ry ⟨_, _, ra.int, rb.int, q⟩
  · cases e; exact op_in_str pins s σ H x y v u Q I rx ry ⟨_, _, ra.str, rb.str, by rw [mkS_len]; exact q⟩
  · cases e; exact op_notin_str pins s σ H x y v u Q I rx ry ⟨_, _, ra.str, rb.str, by rw [mkS_len]; exact q⟩
  · split at e <;> cases e
    rename_i h
    rw [Bool.and_eq_true] at h
    refine op_inD hu pins s σ H x y v u Q I rx ry ⟨_, _, ra.dps h.1, rb.dps h.2, h.1, h.2, ?_⟩
    rw [memD_py]; exact q
  · split at e <;> cases e
    rename_i h
    rw [Bool.and_eq_true] at h
    refine op_notInD hu pins s σ H x y v u Q I rx ry ⟨_, _, ra.dps h.1, rb.dps h.2, h.1, h.2, ?_⟩
    rw [memD_py]; exact q
  · split at e <;> cases e
    rename_i h
    rw [Bool.and_eq_true] at h
    obtain ⟨as, r1⟩ := Dp.reads I _ x v (ra.dps h.1) rx
    obtain ⟨bs, r2⟩ := Dp.reads I _ y u (rb.dps h.2) ry
    refine SeqAt.in_tuple_reads r2 r1 (SeqAt.canLay_of_shaped h.2) (SeqAt.canLay_of_shaped h.1) (PyProof.Rows.room_in_shaped h.1 hu) ⟨.bl _, H, I, rfl, ?_⟩
    show Q (.bl ((D.pys _).any fun z => PyData.eqv z (D.py _))) H
    rw [memD_py]; exact q
  · split at e <;> cases e
    rename_i h
    rw [Bool.and_eq_true] at h
    obtain ⟨as, r1⟩ := Dp.reads I _ x v (ra.dps h.1) rx
    obtain ⟨bs, r2⟩ := Dp.reads I _ y u (rb.dps h.2) ry
    refine SeqAt.notIn_tuple_reads r2 r1 (SeqAt.canLay_of_shaped h.2) (SeqAt.canLay_of_shaped h.1) (PyProof.Rows.room_in_shaped h.1 hu) ⟨.bl _, H, I, rfl, ?_⟩
    show Q (.bl (!(D.pys _).any fun z => PyData.eqv z (D.py _))) H
    rw [memD_py]; exact q
  · split at e <;> cases e
    rename_i hk
    obtain ⟨a, ov, ey, g, c⟩ := dct_get hk rb ra
    refine op_inK (by omega) pins s σ H x y v u Q I rx ry ⟨a, ov, ey, g, ?_⟩
    rcases c with ⟨d, w, e1, e2, _⟩ | ⟨e1, e2⟩ <;> (rw [e2]; rw [e1] at q; exact q)
  · split at e <;> cases e
    rename_i hk
    obtain ⟨a, ov, ey, g, c⟩ := dct_get hk rb ra
    refine op_notinK (by omega) pins s σ H x y v u Q I rx ry ⟨a, ov, ey, g, ?_⟩
    rcases c with ⟨d, w, e1, e2, _⟩ | ⟨e1, e2⟩ <;> (rw [e2]; rw [e1] at q; exact q)
  · split at e <;> cases e
    rename_i h
    unfold ltOk at h
    rw [Bool.and_eq_true, Bool.and_eq_true] at h
    obtain ⟨⟨h1, h2⟩, h3⟩ := h
    obtain ⟨as, r1⟩ := Dp.reads I _ x v (ra.dps h1) rx
    obtain ⟨bs, r2⟩ := Dp.reads I _ y u (rb.dps h2) ry
    have hd := of_decide_eq_true ((Bool.and_eq_true _ _).mp h1).2
    refine PySem.W.lt_data r1 r2 h3 (fun z => by cases z) ?_ ⟨.bl _, H, I, rfl, q⟩
    have := Nat.min_le_left (D.py (.tup (by assumption))).depth (D.py (.tup (by assumption))).depth
    omega
  · split at e <;> cases e
    rename_i h
    unfold ltOk at h
    rw [Bool.and_eq_true, Bool.and_eq_true] at h
    obtain ⟨⟨h1, h2⟩, h3⟩ := h
    obtain ⟨as, r1⟩ := Dp.reads I _ x v (ra.dps h1) rx
    obtain ⟨bs, r2⟩ := Dp.reads I _ y u (rb.dps h2) ry
    have hd := of_decide_eq_true ((Bool.and_eq_true _ _).mp h1).2
    refine PySem.W.le_data r1 r2 h3 (fun z => by cases z) ?_ ⟨.bl _, H, I, rfl, q⟩
    have := Nat.min_le_left (D.py (.tup (by assumption))).depth (D.py (.tup (by assumption))).depth
    omega
  · cases e
    refine op_isN pins s σ H x y v u Q I rx ry ⟨rb.non, ?_⟩
    rw [isnon ra]; exact q
  · cases e
    refine op_notN pins s σ H x y v u Q I rx ry ⟨rb.non, ?_⟩
    rw [isnon ra]; exact q
  · cases e
    refine op_isBl pins s σ H x y v u Q I rx ry ⟨_, _, ra.bl, rb.bl, ?_⟩
    rw [← Bool.beq_eq_decide_eq]; exact q
  · cases e
    refine op_notBl pins s σ H x y v u Q I rx ry ⟨_, _, ra.bl, rb.bl, ?_⟩
    rw [← Bool.beq_eq_decide_eq]; exact q
  · cases e

/-! ### truth -/
theorem RepRs.empty {xs : List D} {vs : List V} (r : RepRs K H xs vs) : vs.isEmpty = xs.isEmpty := by
  have := r.length
  cases vs <;> cases xs <;> first | rfl | simp at this
theorem tru_of {k : Kd} {v : V} {b : Bool} (h : truD k = .ok b) (r : RepR K H k.2 v) : TruV K v H b := by
  unfold truD at h
  split at h
  · cases h; rw [r.non]; rfl
  · cases h; rw [r.bl]; rfl
  · cases h; rw [r.int]; rfl
  · rename_i s
    split at h <;> cases h
    rename_i hs
    rw [r.str]
    refine ⟨by rw [mkS_len, line_eq]; exact hs, ?_⟩
    rw [mkS_len]
    cases s with
    | nil => rfl
    | cons c s =>
      have : ((c :: s).length : Int) ≠ 0 := by simp; omega
      show true = ((((c :: s).length : Nat) : Int) != 0)
      rw [bne_iff_ne.mpr this]
  · cases h
    obtain ⟨a, vs, e, s, q⟩ := r.lst
    rw [e]; exact .inl ⟨vs, s, by rw [q.empty]⟩
  · cases h
    obtain ⟨a, vs, e, s, q⟩ := r.tup
    rw [e]; exact .inr (.inl ⟨vs, s, by rw [q.empty]⟩)
  · cases h

/-! ### items -/
theorem RepR.cutO {d : D} {v : V} {A' : AS} (r : RepR K (cut H A) d v) (h : ∀ x, A' x → A x) : RepR K (cut H A') d v := r.mono (cut_set h)
theorem Owns.at {R : D → V → AS → Prop} {ds : List D} {vs : List V} {O : AS} {i : Int} {d : D} (w : Owns R ds vs O) (e : atI ds i = some d) : ∃ v O1, atI vs i = some v ∧ (∀ x, O1 x → O x) ∧ R d v O1 := by
  obtain ⟨j, e1, e2⟩ := atI_get e
  obtain ⟨v, O1, e3, s, r⟩ := w.get e2
  refine ⟨v, O1, ?_, s, r⟩
  unfold atI
  rw [w.length, e1]; exact e3
theorem atI_map {α β : Type} (f : α → β) {xs : List α} {i : Int} {d : α} (h : atI xs i = some d) : atI (xs.map f) i = some (f d) := by
  obtain ⟨j, e1, e2⟩ := atI_get h
  unfold atI
  rw [List.length_map, e1]
  show (xs.map f)[j]? = _
  rw [List.getElem?_map, e2]; rfl
theorem Res1.empty {k : Option Nat} {d : D} (c : d.cont = false) {v : V} {O : AS} (w : Res1 K H A (k, d) v O) : ∀ z, ¬ O z := by
  unfold Res1 at w; split at w
  · exact w.1
  · exact ((Own.flat c).mp w).1
theorem op_idx (hu : X.A.units + 1 < cLine) : IxR X (rB X.K idxD) := by
  intro value slice pins s σ H x y v u Q I rx ry ⟨H0, A, ka, kb, r, s0, hA, rr, e, q⟩ hs
  obtain ⟨ra, rb⟩ := ress2 rr
  obtain ⟨O1, O2, f, dj, r1, r2⟩ := ress2o rr
  have nA : ∀ z, A z → ¬ (O1 z ∨ O2 z) := fun z a o => (hA z a).ne (f z o)
  unfold idxD at e
  split at e
  · rename_i k xs l i
    split at e
    · rename_i d ed
      -- the list, at whatever depth
      have get : ∃ (j : Nat) (P : AS), Own X.K H (fun z => A z ∨ O1 z ∨ O2 z) j (.lst xs) x P ∧ (∀ m, k = some m → m = j ∧ P = O1) ∧ (k = none → ∀ z, P z → A z ∨ O1 z ∨ O2 z) := by
        unfold Res1 at r1
        cases k with
        | none => obtain ⟨n, j, P, hp, w⟩ := r1; exact ⟨j, P, w, (fun m z => by cases z), fun _ => hp⟩
        | some m => exact ⟨m, O1, r1, (fun m' z => by cases z; exact ⟨rfl, rfl⟩), fun z => by cases z⟩
      obtain ⟨j, P, w, hk, hn⟩ := get
      cases j with
      | zero =>
        obtain ⟨a, vs, ex, sx, wx⟩ := RepR.lst w.2
        obtain ⟨z, ez, rz⟩ := atI_reps ed wx
        refine ix_list value slice pins s σ H x y v u Q I rx ry ⟨a, vs, i, z, ex, rb.int, L2.Same.seq cut_same sx, ez, ?_⟩ hs
        by_cases hc : d.cont = true
        · rw [if_pos hc] at e
          cases k with
          | none =>
            cases e
            exact q _ _ (Same.refl _) ⟨fun _ => False, fun _ z => z.elim, fun _ z => z, 0, fun _ => False, fun _ z => z.elim, fun _ z => z, rz.cutO fun z a => a.elim .inl False.elim⟩
          | some m =>
            obtain ⟨rfl, rfl⟩ := hk m rfl
            cases e
            exact q _ _ (Same.refl _) ⟨fun _ => False, fun _ z => z.elim, fun _ z => z, rz.cutO fun z a => a.elim .inl False.elim⟩
        · have hc : d.cont = false := by simpa using hc
          rw [if_neg (by rw [hc]; exact Bool.false_ne_true)] at e
          cases e
          exact q _ _ (Same.refl _) ⟨fun _ => False, fun _ z => z.elim, (Own.flat hc).mpr ⟨fun _ z => z, rz.cutO fun z a => a.elim .inl False.elim⟩⟩
      | succ j =>
        have w := w
        unfold Own at w
        obtain ⟨a, vs, P', ex, ea, hP, nP, wx⟩ := w
        obtain ⟨z, O3, ez, s3, rz⟩ := wx.at ed
        refine ix_list value slice pins s σ H x y v u Q I rx ry ⟨a, vs, i, z, ex, rb.int, SqL.of ea, ez, ?_⟩ hs
        by_cases hc : d.cont = true
        · rw [if_pos hc] at e
          cases k with
          | none =>
            cases e
            -- borrowed: reserved things alone
            refine q _ _ (Same.refl _) ?_
            have hO3 : ∀ z, O3 z → A z ∨ O1 z ∨ O2 z := fun z o => hn rfl z ((hP z).mpr (.inr (s3 z o)))
            have r1n : ∀ z, ¬ O1 z := by
              have r1 := r1
              unfold Res1 at r1
              exact r1.1
            have r2n : ∀ z, ¬ O2 z := Res1.empty rfl r2
            refine ⟨fun _ => False, fun _ z => z.elim, fun _ z => z, j, O3, fun z o => .inl ?_, rz.mono (Same.refl _) fun z a => .inl (a.elim .inl False.elim)⟩
            exact (hO3 z o).elim id fun o => (o.elim (r1n z) (r2n z)).elim
          | some m =>
            obtain ⟨e1, e2⟩ := hk m rfl
            subst e1; subst e2
            cases e
            have hO : ∀ z, O3 z → P z := fun z o => (hP z).mpr (.inr (s3 z o))
            refine q _ _ (Same.refl _) ⟨O3, fun z o => f z (.inl (hO z o)), rz.mono (Same.refl _) fun z a => .inl ?_⟩
            exact a.elim .inl fun o => .inr (.inl (hO z o))
        · have hc : d.cont = false := by simpa using hc
          rw [if_neg (by rw [hc]; exact Bool.false_ne_true)] at e
          cases e
          exact q _ _ (Same.refl _) (Own.to_res hc rz (fun z a => .inl a) (Same.refl _))
    · cases e
  · rename_i k xs l i
    split at e <;> cases e
    rename_i d ed
    obtain ⟨a, vs, ex, sx, wx⟩ := RepR.tup (Res1.flat rfl r1)
    obtain ⟨z, ez, rz⟩ := atI_reps ed wx
    refine ix_tup value slice pins s σ H x y v u Q I rx ry ⟨a, vs, i, z, ex, rb.int, Same.seqT cut_same sx, ez, q _ _ (Same.refl _) ?_⟩ hs
    have rz' : RepR X.K (cut H (fun z => A z ∨ False)) d z := rz.cutO fun z a => a.elim .inl False.elim
    unfold kd
    split
    · exact ⟨fun _ => False, fun _ z => z.elim, fun _ z => z, rz'⟩
    · rename_i hc
      exact ⟨fun _ => False, fun _ z => z.elim, (Own.flat (by simpa using hc)).mpr ⟨fun _ z => z, rz'⟩⟩
  · rename_i k cs l i
    split at e
    · split at e <;> cases e
      rename_i hl _ c ec
      refine ix_str value slice pins s σ H x y v u Q I rx ry ⟨_, i, c, ra.str, rb.int, by rw [mkS_len, line_eq]; exact hl, ?_, ?_⟩ hs
      · exact ec
      · exact q _ _ (Same.refl _) (Res.str (s := [c]))
    · cases e
  · rename_i k ks vs l y0
    split at e
    case isFalse => cases e
    rename_i hk
    split at e
    case h_2 => cases e
    rename_i d hg
    split at e <;> cases e
    rename_i hc
    have hc : d.cont = false := by simpa using hc
    -- the dict, frozen or owned
    have get : ∃ a kvs, x = .ref a ∧ Rd H a (.dK kvs) ∧ ks.map keyOf = kvs.map (fun p => some p.1) ∧ (∃ j P, Owns (Own X.K H (fun z => A z ∨ O1 z ∨ O2 z) j) vs (kvs.map (·.2)) P) := by
      have own : ∃ (j : Nat) (P : AS), Own X.K H (fun z => A z ∨ O1 z ∨ O2 z) j (.dct ks vs) x P := by
        unfold Res1 at r1
        cases k with
        | none => obtain ⟨n, j, P, hp, w⟩ := r1; exact ⟨j, P, w⟩
        | some m => exact ⟨m, O1, r1⟩
      obtain ⟨j, P, w⟩ := own
      cases j with
      | zero =>
        have w2 := w.2
        unfold RepR at w2
        obtain ⟨a, kvs, e1, e2, e3, e4⟩ := w2
        exact ⟨a, kvs, e1, Same.rd cut_same e2, e3, 0, fun _ => False, Owns.frz (fun _ _ _ n r => ⟨n, r⟩) (fun _ z => z) e4⟩
      | succ j =>
        unfold Own at w
        obtain ⟨a, kvs, P', e1, e2, e3, e4, e5, e6⟩ := w
        exact ⟨a, kvs, e1, .inl e2, e3, j, P', e6⟩
    obtain ⟨a, kvs, ex, hd, hks, j, P, ow⟩ := get
    rcases dct_own hk hks ow with ⟨d', w, O3, e1, e2, rz⟩ | ⟨e1, _⟩
    · rw [e1] at hg
      cases hg
      have hy := ky_val hk rb
      exact ix_dct hu value slice pins s σ H x y v u Q I rx ry ⟨a, w, ex, .inl ⟨kvs, _, hd, hy, e2.symm⟩, q _ _ (Same.refl _) (Own.to_res hc rz (fun z a => .inl a) (Same.refl _))⟩ hs
    · rw [e1] at hg; cases hg
  · cases e

/-! ### slices -/
def rS (K : PySem.W.Frag) (f : Kd → Option Int → Option Int → R Kd) : V → Option Int → Option Int → Hp → VK → Prop := fun x lo hi H Q => ∃ (H0 : Hp) (A : AS) (ka r : Kd), Same H0 H ∧ (∀ z, A z → IsM H0 z) ∧ Res K H0 H A ka x ∧ f ka lo hi = .ok r ∧ ∀ v H', Same H H' → Res K H0 H' A r v → Q v H'
theorem RepRs.take : ∀ {ds : List D} {vs : List V} (n : Nat), RepRs K H ds vs → RepRs K H (ds.take n) (vs.take n)
  | _, _, 0, _ => by rw [List.take_zero, List.take_zero]; exact RepRs.nil
  | [], _, n + 1, r => by unfold RepRs at r; subst r; exact RepRs.nil
  | d :: ds, _, n + 1, r => by
    unfold RepRs at r
    obtain ⟨v, vs', e, r1, r2⟩ := r
    subst e
    exact RepRs.cons r1 (RepRs.take n r2)
theorem RepRs.drop : ∀ {ds : List D} {vs : List V} (n : Nat), RepRs K H ds vs → RepRs K H (ds.drop n) (vs.drop n)
  | _, _, 0, r => r
  | [], _, n + 1, r => by unfold RepRs at r; subst r; exact RepRs.nil
  | d :: ds, _, n + 1, r => by
    unfold RepRs at r
    obtain ⟨v, vs', e, r1, r2⟩ := r
    subst e
    exact RepRs.drop n r2
theorem cutV_eq (vs : List V) (lo hi : Option Int) : cutV vs lo hi = cutL vs lo hi := rfl
theorem RepRs.cutL {ds : List D} {vs : List V} (r : RepRs K H ds vs) (lo hi : Option Int) : RepRs K H (cutL ds lo hi) (cutV vs lo hi) := by
  unfold Px.cutL cutV
  rw [r.length]
  exact (r.drop _).take _
/-- some of the items -/
theorem Owns.take {c : Nat} : ∀ {ds : List D} {vs : List V} {O : AS} (n : Nat), Owns (Own K H A c) ds vs O → ∃ O' : AS, (∀ x, O' x → O x) ∧ Owns (Own K H A c) (ds.take n) (vs.take n) O'
  | _, _, _, 0, _ => ⟨fun _ => False, fun _ z => z.elim, by rw [List.take_zero, List.take_zero]; exact ⟨rfl, fun _ z => z⟩⟩
  | [], _, O, n + 1, r => by obtain ⟨rfl, h⟩ := r; exact ⟨O, fun _ z => z, rfl, h⟩
  | d :: ds, _, O, n + 1, ⟨v, vs', O1, O2, e, h1, h2, r, q⟩ => by
    subst e
    obtain ⟨O3, s, q⟩ := Owns.take n q
    exact ⟨fun x => O1 x ∨ O3 x, fun x z => (h1 x).mpr (z.elim .inl fun z => .inr (s x z)), v, _, O1, O3, rfl, fun x => Iff.rfl, fun x a b => h2 x a (s x b), r, q⟩
theorem Owns.drop {c : Nat} : ∀ {ds : List D} {vs : List V} {O : AS} (n : Nat), Owns (Own K H A c) ds vs O → ∃ O' : AS, (∀ x, O' x → O x) ∧ Owns (Own K H A c) (ds.drop n) (vs.drop n) O'
  | _, _, O, 0, r => ⟨O, fun _ z => z, r⟩
  | [], _, O, n + 1, r => by obtain ⟨rfl, h⟩ := r; exact ⟨O, fun _ z => z, rfl, h⟩
  | d :: ds, _, O, n + 1, ⟨v, vs', O1, O2, e, h1, h2, r, q⟩ => by
    subst e
    obtain ⟨O3, s, q⟩ := Owns.drop n q
    exact ⟨O3, fun x z => (h1 x).mpr (.inr (s x z)), q⟩
theorem Owns.cutL {c : Nat} {ds : List D} {vs : List V} {O : AS} (r : Owns (Own K H A c) ds vs O) (lo hi : Option Int) : ∃ O' : AS, (∀ x, O' x → O x) ∧ Owns (Own K H A c) (cutL ds lo hi) (cutV vs lo hi) O' := by
  unfold Px.cutL cutV
  rw [r.length]
  obtain ⟨O1, s1, r1⟩ := Owns.drop _ r
  obtain ⟨O2, s2, r2⟩ := Owns.take _ r1
  exact ⟨O2, fun x z => s1 x (s2 x z), r2⟩
/-- one value: its footprint -/
theorem Res.one {k : Kd} {v : V} (h : Res K H0 H A k v) : ∃ O : AS, (∀ z, O z → H0 z = none) ∧ Res1 K H (fun z => A z ∨ O z) k v O := h
/-- a new list of items that were ours -/
theorem Res.list_of {O O' : AS} {c : Nat} {xs : List D} {vs : List V} {p : Addr} (s0 : Same H0 H) (hA : ∀ z, A z → IsM H0 z) (f : ∀ z, O z → H0 z = none) (s : ∀ z, O' z → O z) (w : Owns (Own K H (fun z => A z ∨ O z) c) xs vs O') (hp : H p = none) :
    Res K H0 (upd H p (.lst vs)) A (Px.newL c xs) (.ref p) :=
  Res.newL (O := O') hp s0 (fun z o => f z (s z o)) (fun z a => (hA z a).mono s0) (w.imp fun d v P r => r.mono (Same.refl _) fun z a => .inl (a.elim .inl fun o => .inr (s z o)))
theorem op_sl : SlR X (rS X.K slD) := by
  intro pins s σ H x v vl vu lo hi sl Q I rx hs pl pu ⟨H0, A, ka, r, s0, hA, rr, e, q⟩
  have ra := rr.rep
  obtain ⟨O, f, r1⟩ := rr
  unfold slD at e
  split at e
  · rename_i o cs
    split at e <;> cases e
    rename_i hl
    refine sl_str pins s σ H x v vl vu lo hi sl Q I rx hs pl pu ⟨_, ra.str, by rw [mkS_len, line_eq]; exact hl, ?_⟩
    have e : cutS (mkS cs) lo hi = mkS (cutL cs lo hi) := by
      unfold cutS Px.cutL
      rw [mkS_len]
    rw [e]
    exact q _ _ (Same.refl _) Res.str
  · rename_i k xs
    cases e1 : chd k xs with
    | ok c =>
      rw [e1] at e
      cases e
      obtain ⟨a, vs, ex, sx, _, P, sP, nP, w⟩ := ch_ok e1 r1 (fun x z => .inr z)
      obtain ⟨P', s', w'⟩ := w.cutL lo hi
      exact sl_list pins s σ H x v vl vu lo hi sl Q I rx hs pl pu ⟨a, vs, ex, sx, fun p hp => q _ _ (same_new hp) (Res.list_of s0 hA f (fun z o => sP z (s' z o)) w' hp)⟩
    | exc x p => rw [e1] at e; cases e
    | stuck => rw [e1] at e; cases e
    | draw _ => rw [e1] at e; cases e
  · rename_i k xs
    cases e
    obtain ⟨a, vs, ex, sx, wx⟩ := RepR.tup (Res1.flat rfl r1)
    have wx' : RepRs X.K (cut H A) xs vs := wx.mono (cut_set fun z a => .inl a)
    by_cases cw : HT.sIx vs.length 0 lo = 0 ∧ HT.sIx vs.length vs.length hi = vs.length
    case neg => exact sl_tupN pins s σ H x v vl vu lo hi sl Q I rx hs pl pu ⟨a, vs, ex, Same.seqT cut_same sx, cw, fun p o hp hd => q _ _ (same_new hp) (Res.tupN hp hd (fun z a => (hA z a).mono s0) (wx'.cutL lo hi))⟩
    refine sl_tupA pins s σ H x v vl vu lo hi sl Q I rx hs pl pu ⟨a, vs, ex, Same.seqT cut_same sx, fun h => ?_, fun h p hp => (h cw).elim⟩
    · have e : cutL xs lo hi = xs := by
        unfold Px.cutL
        rw [← wx.length, h.1, h.2, List.drop_zero, Nat.sub_zero, wx.length]
        exact List.take_length
      rw [e] at q
      rw [← ex]
      exact q _ _ (Same.refl _) (Res1.to_res rfl r1 (fun z a => .inl a) (Same.refl _))
  · cases e

/-! ### [::-1] -/
theorem Owns.reverse {c : Nat} : ∀ {ds : List D} {vs : List V} {O : AS}, Owns (Own K H A c) ds vs O → Owns (Own K H A c) ds.reverse vs.reverse O
  | [], _, _, r => by obtain ⟨rfl, h⟩ := r; exact ⟨rfl, h⟩
  | d :: ds, _, O, ⟨v, vs', O1, O2, e, h1, h2, r, q⟩ => by
    subst e
    rw [List.reverse_cons, List.reverse_cons]
    exact Owns.append (fun _ _ _ _ e h => h.iff e) (fun x => by rw [h1 x]; exact Or.comm) (fun x a b => h2 x b a) (Owns.reverse q) ⟨v, [], O1, fun _ => False, rfl, fun x => by simp, fun _ _ z => z, r, rfl, fun _ z => z⟩
theorem rev_pick (s : List Nat) : ((Builtin.Str.strSliceIndices none none (-1) s.length).filterMap (s.toArray[·]?)) = s.reverse := by
  have e : Builtin.Str.strSliceIndices none none (-1) s.length = (List.range s.length).map fun k => s.length - 1 - k := by
    unfold Builtin.Str.strSliceIndices sliceRange
    simp only [show ¬ ((-1 : Int) > 0) by decide, if_false]
    have : (if (s.length : Int) - 1 > -1 then ((s.length : Int) - 1 - -1 - -1 - 1) / (- -1) else 0).toNat = s.length := by
      split
      · rw [show (- -1 : Int) = 1 by decide, Int.ediv_one]; omega
      · omega
    rw [this]
    apply List.map_congr_left
    intro k hk
    have := List.mem_range.mp hk
    omega
  rw [e, List.filterMap_map]
  apply List.ext_getElem?
  intro j
  have key : ∀ (n : Nat), n ≤ s.length → ((List.range n).filterMap ((fun x => s.toArray[x]?) ∘ fun k => s.length - 1 - k)) = s.reverse.take n := by
    intro n
    induction n with
    | zero => intro _; rfl
    | succ n ih =>
      intro hn
      rw [List.range_succ, List.filterMap_append, ih (by omega), List.take_add_one]
      congr 1
      have h1 : s.length - 1 - n < s.length := by omega
      have h2 : s.reverse[n]? = some s[s.length - 1 - n] := by
        rw [List.getElem?_reverse (by omega), List.getElem?_eq_getElem h1]
      rw [h2]
      simp [h1]
  rw [key s.length (Nat.le_refl _)]
  rw [List.take_of_length_le (by simp)]
def tRev (K : PySem.W.Frag) (te : TE) : TE := fun σ H Q => te σ H fun x H1 => rU1 K revD x H1 Q
theorem pe_rev {e : Expr} {te : TE} {k : Nat} {p1 p2 p3 pos : Pos} (he : PE X e te) : PE X (.Subscript e (.Slice none none (some (.UnaryOp .USub (.Constant (.int 1) k p1) p2)) p3) pos) (tRev X.K te) := by
  refine ⟨fun pins s σ H Q I h => ?_⟩
  refine PyProof.Rows.Subscript_ (thn (he.run pins s σ H _ I h) fun v s1 ⟨x, H1, I1, r1, H0, A, ka, r, s0, hA, rr, e, q⟩ => ?_)
  have hst : PO X (some (.UnaryOp .USub (.Constant (.int 1) k p1) p2)) (tPart (tUn (rU fun i => .int (-i)) (tC (.int 1)))) := po_some (pe_un un_neg pe_int)
  refine wpAny_Slice (thn (po_none.run pins s1 σ H1 (fun o H2 => o = none ∧ H2 = H1) I1 ⟨rfl, rfl⟩) fun vl s2 ⟨l, H2, I2, pl, el, e2⟩ => ?_)
  subst el e2
  refine thn (po_none.run pins s2 σ H2 (fun o H3 => o = none ∧ H3 = H2) I2 ⟨rfl, rfl⟩) fun vu s3 ⟨u, H3, I3, pu, eu, e3⟩ => ?_
  subst eu e3
  refine thn (hst.run pins s3 σ H3 (fun o H4 => o = some (-1) ∧ H4 = H3) I3 ⟨1, rfl, -1, rfl, rfl, rfl⟩) fun vs s4 ⟨o, H4, I4, ps, eo, e4⟩ => ?_
  subst eo e4
  have I5 : Inv X pins σ H4 { s4 with heap := s4.heap.push { cls := .type "slice", data := .fields #[vl, vu, vs] } } := I4.kept (t' := s4.toks) fun b ob q => Heap.get?_push_of_some _ q
  have ra := rr.rep
  obtain ⟨O, f, rr1⟩ := rr
  unfold revD at e
  split at e
  · rename_i o cs
    split at e <;> cases e
    rename_i hl
    have ex := ra.str
    subst ex
    obtain ⟨t, rfl⟩ := r1
    obtain ⟨l', rfl, el⟩ := IsPart.raw pl
    obtain ⟨u', rfl, eu⟩ := IsPart.raw pu
    obtain ⟨st', rfl, es⟩ := IsPart.raw ps
    have el : l' = none := by cases l' <;> first | rfl | cases el
    have eu : u' = none := by cases u' <;> first | rfl | cases eu
    obtain ⟨tk, est⟩ : ∃ tk, st' = some (-1, tk) := by
      cases st' with
      | none => cases es
      | some p => obtain ⟨a, b⟩ := p; cases es; exact ⟨b, rfl⟩
    subst el eu est
    refine PyProof.Rows.tail_any (ops := [.str (mkS cs) t, .ref s4.heap.objs.size]) (typeIs_str _ _ _) (F.slot_str_getitem.lookup) ?_ (by with_unfolding_all rfl)
    refine wpAny_getItem_str_slice (l := none) (u := none) (st := some (-1, tk)) ⟨_, Heap.get?_push_size _ rfl, rfl, rfl⟩ rfl ?_
    have e2 : sliceMade (mkS cs) t none none (some (-1, tk)) = Made.str (mkS cs.reverse) := by
      show (if ((-1 : Int) == 1 && (Builtin.Str.strSliceIndices none none (-1) (mkS cs).length).length == (mkS cs).length) = true then Made.val (.str (mkS cs) t) else Made.str ⟨((Builtin.Str.strSliceIndices none none (-1) (mkS cs).length).filterMap (cs.toArray[·]?)).toArray⟩) = _
      rw [if_neg (by rw [show ((-1 : Int) == 1) = false from rfl]; exact Bool.false_ne_true), mkS_len, rev_pick]
    rw [e2]
    refine ⟨?_, .str (mkS cs.reverse), H4, I5.tok _, ⟨_, rfl⟩, q _ _ (Same.refl _) Res.str⟩
    show (mkS cs.reverse).length ≤ _
    rw [mkS_len, List.length_reverse, line_eq]
    exact hl
  · rename_i k xs
    cases e1 : chd k xs with
    | ok c =>
      rw [e1] at e
      cases e
      obtain ⟨a, vs2, ex, sx, _, P, sP, nP, w⟩ := ch_ok e1 rr1 (fun x z => .inr z)
      subst ex
      cases r1
      obtain ⟨its, r, ht, hz⟩ := I5.list sx
      have hlen := r.length
      refine PyProof.Rows.tail_any (ops := [.ref a, .ref s4.heap.objs.size]) ht.isList.typeIs (PySem.slot_list_getitem.lookup) ?_ (by with_unfolding_all rfl)
      refine wpAny_getItem_list_slice ht.isList (Heap.IsSliceOf.new _ vl vu vs) pl pu ps (by decide) ?_ (by rw [List.size_toArray]; omega)
      rw [PySem.W.krv_pick]
      refine ⟨.ref _, _, I5.laid (t' := s4.toks) (o := .lst vs2.reverse) (fun b ob q => Heap.get?_push_of_some _ q) (Nat.le_refl _) ?_, rfl, q _ _ (same_new (I5.hok.fresh (Nat.le_refl _))) (Res.list_of s0 hA f sP w.reverse (I5.hok.fresh (Nat.le_refl _)))⟩
      exact ⟨by rw [List.length_reverse]; exact hz, _, 0, r.reverse, Heap.get?_push_size _ rfl⟩
    | exc x p => rw [e1] at e; cases e
    | stuck => rw [e1] at e; cases e
    | draw _ => rw [e1] at e; cases e
  · cases e
end
end Px

/-! PxSd: sorted of data that can be compared. -/
namespace Px
open PySem PySem.Spec PyProof.Rows L2
theorem keyOk_at {ks : List D} (h : keyOk ks = true) {d : D} (m : d ∈ ks) : shp d = true ∧ d.py ≠ .none ∧ d.py.depth ≤ 60 := by
  unfold keyOk at h
  rw [Bool.and_eq_true] at h
  have q := List.all_eq_true.mp h.1 d m
  simp only [Bool.and_eq_true, decide_eq_true_eq] at q
  refine ⟨q.1.1, fun e => ?_, q.2⟩
  have e2 := q.1.2
  cases d <;> first | (cases e2; done) | (unfold D.py at e; cases e)
theorem keyOk_al {ks : List D} (h : keyOk ks = true) {a b : D} (m : a ∈ ks) (m' : b ∈ ks) : PySem.W.alike a.py b.py = true := by
  unfold keyOk at h
  rw [Bool.and_eq_true] at h
  exact List.all_eq_true.mp (List.all_eq_true.mp h.2 a m) b m'
theorem srtB_ok {ds : List D} (h : srtB ds = true) : PySem.W.Sortable (ds.map Px.D.py) := by
  unfold srtB at h
  rw [Bool.or_eq_true] at h
  rcases h with h | h
  · refine .inl fun d hd => ?_
    obtain ⟨x, hx, rfl⟩ := List.mem_map.mp hd
    have q := List.all_eq_true.mp h x hx
    split at q
    · exact ⟨_, _, by unfold D.py D.pys; rfl⟩
    · cases q
  · refine .inr fun d hd => ?_
    obtain ⟨x, hx, rfl⟩ := List.mem_map.mp hd
    have q := List.all_eq_true.mp h x hx
    cases x <;> first | (cases q; done) | (refine ⟨fun e => ?_, fun xs e => ?_⟩ <;> (unfold D.py at e; cases e))
theorem keyOk_all {ds : List D} (h : keyOk ds = true) : PySem.W.AllAlike (ds.map Px.D.py) := by
  intro a ha b hb
  obtain ⟨x, hx, rfl⟩ := List.mem_map.mp ha
  obtain ⟨y, hy, rfl⟩ := List.mem_map.mp hb
  exact keyOk_al h hx hy
theorem vals_of_each {α : Type} {f : α → V} : ∀ {us : List Value} {xs : List α}, PySem.W.EachIs (fun u x => RelV (f x) u) us xs → Vals (xs.map f) us
  | _, _, .nil => .nil
  | _, _, .cons r t => .cons r (vals_of_each t)
theorem each_zip {α : Type} {f : α → V} : ∀ {ds : List D} {cs : List α} {us : List Value}, ds.length = cs.length → Vals (cs.map f) us → PySem.W.EachIs (fun u (p : D × α) => RelV (f p.2) u) us (ds.zip cs)
  | [], [], _, _, r => by cases r; exact .nil
  | [], _ :: _, _, h, _ => by cases h
  | _ :: _, [], _, h, _ => by cases h
  | d :: ds, c :: cs, _, h, r => by
    cases r with
    | cons r1 r2 => exact .cons r1 (each_zip (by simpa using h) r2)
theorem zip_py {α : Type} : ∀ {ds : List D} {cs : List α}, ds.length = cs.length → (ds.zip cs).map (fun p => p.1.py) = ds.map D.py
  | [], [], _ => rfl
  | [], _ :: _, h => by cases h
  | _ :: _, [], h => by cases h
  | d :: ds, c :: cs, h => by
    rw [List.zip_cons_cons, List.map_cons, List.map_cons, zip_py (by simpa using h)]
theorem le_eq {α : Type} : (PySem.W.dataLe false fun p : D × α => p.1.py) = fun p q => leD p.1 q.1 := by
  rw [PySem.W.dataLe_eq]; rfl
theorem sortKL_len {α : Type} {ds : List D} {cs : List α} (h : ds.length = cs.length) : (sortKL ds cs).length = cs.length := by
  unfold sortKL
  rw [List.length_map, (List.mergeSort_perm _ _).length_eq, List.length_zip, h, Nat.min_self]
theorem sort_fst {α : Type} {xs : List D} {ys : List α} (h : xs.length = ys.length) : ((xs.zip ys).mergeSort fun p q => leD p.1 q.1).map (·.1) = xs.mergeSort leD := by
  rw [List.map_mergeSort (r := fun p q : D × α => leD p.1 q.1) (s := leD) (f := (·.1)) (fun _ _ _ _ => rfl), List.map_fst_zip (by omega)]
section
variable {K : PySem.W.Frag} {G : Hp}
theorem reps_zip : ∀ {xs : List D} {ys : List V}, RepRs K G xs ys → ∀ p ∈ xs.zip ys, RepR K G p.1 p.2
  | [], _, _, p, m => by simp at m
  | d :: xs, ys, r, p, m => by
    unfold RepRs at r
    obtain ⟨v, vs, e, r1, r2⟩ := r
    subst e
    rw [List.zip_cons_cons] at m
    rcases List.mem_cons.mp m with e | m
    · rw [e]; exact r1
    · exact reps_zip r2 p m
theorem reps_of : ∀ {ps : List (D × V)}, (∀ p ∈ ps, RepR K G p.1 p.2) → RepRs K G (ps.map (·.1)) (ps.map (·.2))
  | [], _ => RepRs.nil
  | p :: ps, h => RepRs.cons (h p (by simp)) (reps_of fun q m => h q (by simp [m]))
theorem sort_rep {xs : List D} {ys : List V} (r : RepRs K G xs ys) : RepRs K G (xs.mergeSort leD) (sortKL xs ys) := by
  rw [← sort_fst (ys := ys) r.length.symm]
  exact reps_of fun p m => reps_zip r p ((List.mergeSort_perm _ _).mem_iff.mp m)
end
section
variable {X : Cx}
theorem cr_sortD (un : X.A.units + 65 < cLine) : CallR X (.builtin "sorted") (fun vs H Q => ∃ (a : Addr) (xs : List D) (ys : List V), vs = [V.ref a] ∧ SqL X.K H a ys ∧ RepRs X.K H xs ys ∧ keyOk xs = true ∧ srtB xs = true ∧ ∀ p, H p = none → Q (.ref p) (upd H p (.lst (sortKL xs ys)))) := by
  intro pins s σ H vs us Q I r ⟨a, xs, ys, e0, hs, rr, ok, srt, q⟩
  subst e0
  obtain rfl := Vals.ref1 r
  obtain ⟨its, rv, pl, hz⟩ := I.list hs
  have hxy : xs.length = ys.length := rr.length.symm
  have hL : (xs.zip ys).length ≤ sizeLine := by rw [List.length_zip, hxy, Nat.min_self]; exact hz
  have rv' : Vals (ys.map id) its := by rw [List.map_id]; exact rv
  have e : PySem.W.EachIs (fun u (p : D × V) => RelV p.2 u) its (xs.zip ys) := each_zip (f := id) hxy rv'
  have mem : ∀ p ∈ xs.zip ys, p.1 ∈ xs := fun p m => (List.of_mem_zip m).1
  have er : PySem.W.EachIs (fun u (p : D × V) => ∃ as, Reads s.heap u p.1.py as) its (xs.zip ys) := by
    have go : ∀ {us : List Value} {ps : List (D × V)}, (∀ p ∈ ps, shp p.1 = true ∧ RepR X.K H p.1 p.2) → PySem.W.EachIs (fun u (p : D × V) => RelV p.2 u) us ps → PySem.W.EachIs (fun u (p : D × V) => ∃ as, Reads s.heap u p.1.py as) us ps := by
      intro us ps h q
      induction q with
      | nil => exact .nil
      | cons r1 _ ih => exact .cons (Dp.reads I _ _ _ ((h _ (by simp)).2.dps (h _ (by simp)).1) r1) (ih fun p m => h p (by simp [m]))
    exact go (fun p m => ⟨(keyOk_at ok (mem p m)).1, reps_zip rr p m⟩) e
  have al : PySem.W.AllAlike ((xs.zip ys).map fun p => p.1.py) := by rw [zip_py hxy]; exact keyOk_all ok
  have st : PySem.W.Sortable ((xs.zip ys).map fun p => p.1.py) := by rw [zip_py hxy]; exact srtB_ok srt
  refine PySem.W.sorted_data (R := fun u (p : D × V) => RelV p.2 u) (enc := fun p => p.1.py) (bs := xs.zip ys) pl.isList e er al st hL (fun p m => ?_) fun out hlo ho => ?_
  · have := (keyOk_at ok (mem p m)).2.2
    omega
  · rw [le_eq] at ho
    have ev : Vals (sortKL xs ys) out := vals_of_each ho
    obtain ⟨ep, e⟩ := PyProof.Rows.sortedAll_at s.heap its out.toArray
    refine ⟨.ref _, _, I.laid (t' := s.toks) (fun _ _ => PyProof.Rows.sortedAll_old) (Nat.le_succ _) (show ObjOk X.prog X.w _ _ _ (.lst (sortKL xs ys)) from ⟨?_, out, ep, ev, e⟩), rfl, q _ (I.hok.fresh (Nat.le_succ _))⟩
    rw [sortKL_len hxy]; exact hz
end
end Px

/-! Px5: built-ins and methods by values. -/
namespace Px
open PySem PySem.Spec L2
/-! ### the first place of a sign -/
theorem indexOf_some {c : Nat} : ∀ {s : List Nat} {n : Nat}, indexOf c s = some n → s[n]? = some c ∧ ∀ k, k < n → s[k]? ≠ some c
  | [], n, h => by simp [indexOf] at h
  | d :: r, n, h => by
    unfold indexOf at h
    split at h
    · rename_i e
      cases h
      exact ⟨by rw [e]; rfl, fun k hk => absurd hk (Nat.not_lt_zero k)⟩
    · rename_i e
      cases q : indexOf c r with
      | none => rw [q] at h; cases h
      | some m =>
        rw [q] at h
        cases h
        obtain ⟨h1, h2⟩ := indexOf_some q
        refine ⟨by simpa using h1, fun k hk => ?_⟩
        cases k with
        | zero => simpa using e
        | succ k =>
          have hk : k + 1 < m + 1 := hk
          simpa using h2 k (by omega)
theorem indexOf_of {c : Nat} : ∀ {s : List Nat} {n : Nat}, s[n]? = some c → (∀ k, k < n → s[k]? ≠ some c) → indexOf c s = some n
  | [], n, h, _ => by simp at h
  | d :: r, 0, h, _ => by
    unfold indexOf
    rw [if_pos (by simpa using h)]
  | d :: r, n + 1, h, hk => by
    unfold indexOf
    rw [if_neg (fun e => hk 0 (Nat.succ_pos n) (by simp [e]))]
    rw [indexOf_of (s := r) (n := n) (by simpa using h) fun k h1 => by simpa using hk (k + 1) (by omega)]
    rfl
theorem at_sign {s : List Nat} {c i : Nat} : PySem.StrLaws.At (mkS s) (mkS [c]) (mkS s).length i ↔ s[i]? = some c := by
  unfold PySem.StrLaws.At
  rw [PySem.StrLaws.subAt_eq, mkS_len, mkS_len]
  show i + 1 ≤ s.length ∧ ((s.drop i).take 1 == [c]) = true ↔ _
  constructor
  · rintro ⟨h1, h2⟩
    have h2 := eq_of_beq h2
    have : (s.drop i)[0]? = some c := by
      have h3 : ((s.drop i).take 1)[0]? = some c := by rw [h2]; rfl
      rwa [List.getElem?_take, if_pos (by decide)] at h3
    rwa [List.getElem?_drop, Nat.add_zero] at this
  · intro h
    have hl : i < s.length := (List.getElem?_eq_some_iff.mp h).1
    refine ⟨hl, ?_⟩
    have e : s.drop i = c :: s.drop (i + 1) := by
      rw [List.drop_eq_getElem_cons hl]
      have := (List.getElem?_eq_some_iff.mp h).2
      rw [this]
    rw [e]
    simp
theorem occ_idx {s : List Nat} {c n : Nat} (h : indexOf c s = some n) : ∃ rest, Builtin.Str.occurrences (mkS s) (mkS [c]) 0 (mkS s).length 1 = n :: rest := by
  obtain ⟨h1, h2⟩ := indexOf_some h
  have hn : n < s.length := (List.getElem?_eq_some_iff.mp h1).1
  have key := PySem.StrLaws.occ_first (mkS s) (mkS [c]) (mkS s).length 1 (Nat.le_refl _) (List.range' 0 ((mkS s).length + 1 - 0)) 0 (fun _ _ => Nat.zero_le _)
  have mem : n ∈ List.range' 0 ((mkS s).length + 1 - 0) := by
    rw [List.mem_range', mkS_len]
    exact ⟨n, by omega, by omega⟩
  rw [PySem.StrLaws.occ_eq]
  rcases key with ⟨_, k⟩ | ⟨pre, a, post, e, e0, ha, hp⟩
  · exact (k n mem (at_sign.mpr h1)).elim
  · have sa := at_sign.mp ha
    have : a = n := by
      by_cases l : a < n
      · exact absurd sa (h2 a l)
      · by_cases l2 : n < a
        · have : n ∈ pre := by
            rw [e] at mem
            rcases List.mem_append.mp mem with m | m
            · exact m
            · have pw : List.Pairwise (· < ·) (pre ++ a :: post) := by rw [← e]; exact List.pairwise_lt_range'
              rcases List.mem_cons.mp m with m | m
              · omega
              · have := (List.pairwise_append.mp pw).2.1
                have := (List.pairwise_cons.mp this).1 n m
                omega
          exact (hp n this (at_sign.mpr h1)).elim
        · omega
    subst this
    generalize ((forIn (List.range' 0 ((mkS s).length + 1 - 0)) ((#[] : Array Nat), 0) (PySem.StrLaws.occBody (mkS s) (mkS [c]) (mkS s).length 1)).run.fst) = arr at e0 ⊢
    have e1 : arr.toList[0]? = some a := by simpa using e0
    cases q : arr.toList with
    | nil => rw [q] at e1; cases e1
    | cons b r =>
      rw [q] at e1
      cases e1
      exact ⟨r, rfl⟩
theorem inStr_one (x : List Nat) (c : Nat) : inStr [c] x = decide (c ∈ x) := by
  unfold inStr
  have := PySem.StrLaws.found_one (mkS x) c
  rw [mkS_len] at this
  exact this
theorem join_mk (s : List Nat) : ∀ ys : List (List Nat), Txt.join (mkS s) (ys.map mkS) = mkS (joinL s ys)
  | [] => rfl
  | [x] => rfl
  | x :: y :: r => by
    have ih := join_mk s (y :: r)
    unfold Txt.join at ih ⊢
    rw [PySem.StrLaws.glued_eq_join] at ih ⊢
    show mkS x ++ mkS s ++ Str.join (mkS s) ((y :: r).map mkS) = _
    rw [ih, mkS_app, mkS_app]
    rfl
section
variable {K : PySem.W.Frag} {B H H' H0 H1 : Hp} {A Z : AS} {X : Cx}
theorem ints_rep : ∀ {xs : List D} {ns : List Int} {vs : List V}, intsOf xs = some ns → RepRs K H xs vs → vs = ns.map V.int
  | [], ns, vs, h, r => by cases h; unfold RepRs at r; exact r
  | d :: xs, ns, vs, h, r => by
    unfold RepRs at r
    obtain ⟨v, vs', e, r1, r2⟩ := r
    cases d <;> unfold intsOf at h <;> first | cases h | skip
    rename_i i
    cases q : intsOf xs with
    | none => rw [q] at h; cases h
    | some ms =>
      rw [q] at h
      cases h
      rw [e, r1.int, ints_rep q r2]; rfl
theorem bls_rep : ∀ {xs : List D} {ns : List Bool} {vs : List V}, blsOf xs = some ns → RepRs K H xs vs → vs = ns.map V.bl
  | [], ns, vs, h, r => by cases h; unfold RepRs at r; exact r
  | d :: xs, ns, vs, h, r => by
    unfold RepRs at r
    obtain ⟨v, vs', e, r1, r2⟩ := r
    cases d <;> unfold blsOf at h <;> first | cases h | skip
    rename_i i
    cases q : blsOf xs with
    | none => rw [q] at h; cases h
    | some ms =>
      rw [q] at h
      cases h
      rw [e, r1.bl, bls_rep q r2]; rfl
theorem strs_rep : ∀ {xs : List D} {ns : List (List Nat)} {vs : List V}, strsOf xs = some ns → RepRs K H xs vs → vs = (ns.map mkS).map V.str
  | [], ns, vs, h, r => by cases h; unfold RepRs at r; exact r
  | d :: xs, ns, vs, h, r => by
    unfold RepRs at r
    obtain ⟨v, vs', e, r1, r2⟩ := r
    cases d <;> unfold strsOf at h <;> first | cases h | skip
    rename_i i
    cases q : strsOf xs with
    | none => rw [q] at h; cases h
    | some ms =>
      rw [q] at h
      cases h
      rw [e, r1.str, strs_rep q r2]; rfl
theorem maxI_of : ∀ {ns : List Int} {m : Int}, m ∈ ns → (∀ y ∈ ns, y ≤ m) → m = maxI ns
  | [a], m, h, _ => by simpa [maxI] using h
  | a :: b :: r, m, h, hl => by
    unfold maxI
    have h1 : maxI (b :: r) ∈ b :: r ∧ ∀ y ∈ b :: r, y ≤ maxI (b :: r) := by
      have : ∀ (l : List Int), l ≠ [] → maxI l ∈ l ∧ ∀ y ∈ l, y ≤ maxI l := by
        intro l
        induction l with
        | nil => intro h; exact absurd rfl h
        | cons x l ih =>
          intro _
          cases l with
          | nil => exact ⟨by simp [maxI], fun y hy => by simp [maxI] at hy ⊢; omega⟩
          | cons z l =>
            obtain ⟨i1, i2⟩ := ih (by simp)
            unfold maxI
            refine ⟨?_, fun y hy => ?_⟩
            · show (if maxI (z :: l) > x then maxI (z :: l) else x) ∈ _
              split
              · exact List.mem_cons_of_mem _ i1
              · exact List.mem_cons_self
            · show y ≤ if maxI (z :: l) > x then maxI (z :: l) else x
              rcases List.mem_cons.mp hy with e | hy
              · subst e; split <;> omega
              · have := i2 y hy; split <;> omega
      exact this _ (by simp)
    show m = if maxI (b :: r) > a then maxI (b :: r) else a
    have h2 := hl _ (List.mem_cons_of_mem a h1.1)
    have h3 := hl a List.mem_cons_self
    rcases List.mem_cons.mp h with e | e
    · subst e; split <;> omega
    · have := h1.2 m e; split <;> omega
theorem minI_of : ∀ {ns : List Int} {m : Int}, m ∈ ns → (∀ y ∈ ns, m ≤ y) → m = minI ns
  | [a], m, h, _ => by simpa [minI] using h
  | a :: b :: r, m, h, hl => by
    unfold minI
    have h1 : minI (b :: r) ∈ b :: r ∧ ∀ y ∈ b :: r, minI (b :: r) ≤ y := by
      have : ∀ (l : List Int), l ≠ [] → minI l ∈ l ∧ ∀ y ∈ l, minI l ≤ y := by
        intro l
        induction l with
        | nil => intro h; exact absurd rfl h
        | cons x l ih =>
          intro _
          cases l with
          | nil => exact ⟨by simp [minI], fun y hy => by simp [minI] at hy ⊢; omega⟩
          | cons z l =>
            obtain ⟨i1, i2⟩ := ih (by simp)
            unfold minI
            refine ⟨?_, fun y hy => ?_⟩
            · show (if minI (z :: l) < x then minI (z :: l) else x) ∈ _
              split
              · exact List.mem_cons_of_mem _ i1
              · exact List.mem_cons_self
            · show (if minI (z :: l) < x then minI (z :: l) else x) ≤ y
              rcases List.mem_cons.mp hy with e | hy
              · subst e; split <;> omega
              · have := i2 y hy; split <;> omega
      exact this _ (by simp)
    show m = if minI (b :: r) < a then minI (b :: r) else a
    have h2 := hl _ (List.mem_cons_of_mem a h1.1)
    have h3 := hl a List.mem_cons_self
    rcases List.mem_cons.mp h with e | e
    · subst e; split <;> omega
    · have := h1.2 m e; split <;> omega
/-! ### calls by values -/
def rF (K : PySem.W.Frag) (f : List Kd → R Kd) : List V → Hp → VK → Prop := fun xs H Q => ∃ (H0 : Hp) (A : AS) (ks : List Kd) (r : Kd), Same H0 H ∧ (∀ z, A z → IsM H0 z) ∧ Ress K H0 H A ks xs ∧ f ks = .ok r ∧ ∀ v H', Same H H' → Res K H0 H' A r v → Q v H'
theorem ress1 {k : Kd} {xs : List V} (h : Ress K H0 H A [k] xs) : ∃ x, xs = [x] ∧ Res K H0 H A k x := by
  obtain ⟨O, f, v, vs, O1, O2, e, h1, h2, r, q⟩ := h
  obtain ⟨e2, n⟩ := q
  subst e2
  exact ⟨v, e, O1, fun z o => f z ((h1 z).mpr (.inl o)), r.mono (Same.refl _) (fun z a => .inl (a.elim .inl fun o => .inr ((h1 z).mpr (.inl o)))) fun z a => a.elim .inl fun o => ((h1 z).mp o).elim .inr fun o => (n z o).elim⟩
theorem ress2' {k l : Kd} {xs : List V} (h : Ress K H0 H A [k, l] xs) : ∃ x y, xs = [x, y] ∧ Ress K H0 H A [k, l] [x, y] := by
  obtain ⟨O, f, v, vs, O1, O2, e, h1, h2, r, v', vs', O3, O4, e', h3, h4, r', q⟩ := id h
  obtain ⟨e2, n⟩ := q
  subst e2; subst e'; subst e
  exact ⟨v, v', rfl, h⟩
theorem op_repr {pins : List (Addr × Obj)} {σ : L2.St} {s : Shared} {d : D} {x : V} {us : List Value} {Q : VK} (gu : X.A.guards = some []) (un : X.A.units + 65 < cLine) (I : Inv X pins σ H s) (rx : Vals [x] us) (r : RepR X.K H d x) (ok : rOk d = true) (q : Q (.str (mkS (rpS d))) H) :
    wpAny (model X.prog X.w) X.A (call (.builtin "repr") us) (EP X pins σ Q) X.xe s := by
  obtain ⟨u, rfl, ru⟩ := vals1 rx
  unfold rOk at ok
  simp only [Bool.and_eq_true, decide_eq_true_eq] at ok
  obtain ⟨⟨o1, o2⟩, o3⟩ := ok
  have eS : mkS (rpS d) = d.py.shown := by unfold rpS mkS; simp
  have sz : d.py.shown.length ≤ sizeLine := by rw [← eS, mkS_len, line_eq]; exact o3
  obtain ⟨as, rd⟩ := Dp.reads I _ x u (r.dps o1) ru
  have dep := SeqAt.depth_of_shaped o1
  have fin : ∀ tk, EP X pins σ Q (.str d.py.shown tk) { s with toks := s.toks + 1 } := fun tk => ⟨.str (mkS (rpS d)), H, I.tok _, ⟨tk, by rw [eS]⟩, q⟩
  have big : ∀ a, u = .ref a → wpAny (model X.prog X.w) X.A (call (.builtin "repr") [u]) (EP X pins σ Q) X.xe s := by
    rintro a rfl
    refine repr_of_reads' rd o2 (PyData.noDict_hsm (PyData.hasDict_of_canLay _ (SeqAt.canLay_of_shaped o1))) gu (by omega) (fun _ _ e => e) (fun h' u tk hk => ?_) sz
    exact ⟨.str (mkS (rpS d)), H, I.kept hk, ⟨u, by rw [eS]⟩, q⟩
  cases d with
  | non => rw [r.non] at ru; cases ru; exact PySem.P.repr_of_none (fin _)
  | bl b => rw [r.bl] at ru; cases ru; exact PySem.P.repr_of_bool (by have := fin s.toks; cases b <;> exact this)
  | int i =>
    rw [r.int] at ru
    obtain ⟨t, rfl⟩ := ru
    exact PySem.P.repr_of_int (of_decide_eq_true o2) (fin _)
  | str t =>
    rw [r.str] at ru
    obtain ⟨t, rfl⟩ := ru
    exact PySem.P.repr_of_str (fin _) sz
  | lst xs => obtain ⟨a, vs, e, _⟩ := r.lst; rw [e] at ru; exact big a ru
  | tup xs => obtain ⟨a, vs, e, _⟩ := r.tup; rw [e] at ru; exact big a ru
  | dct _ _ => cases o1
  | ext _ => cases o1
def biV : Bi → Value
  | .len => .builtin "len" | .int => .type "int" | .list => .type "list" | .tuple => .type "tuple" | .abs => .builtin "abs"
  | .max2 => .builtin "max" | .maxL => .builtin "max" | .min2 => .builtin "min" | .minL => .builtin "min"
  | .sum => .builtin "sum" | .all => .builtin "all" | .any => .builtin "any" | .repr => .builtin "repr" | .str => .type "str" | .sortI => .builtin "sorted"
theorem insI_perm (a : Int) : ∀ l, (insI a l).Perm (a :: l)
  | [] => .refl _
  | b :: l => by
    unfold insI
    split
    · exact .refl _
    · exact ((insI_perm a l).cons b).trans (.swap a b l)
theorem insI_sorted (a : Int) : ∀ l : List Int, l.Pairwise (· ≤ ·) → (insI a l).Pairwise (· ≤ ·)
  | [], _ => by simp [insI]
  | b :: l, h => by
    unfold insI
    rw [List.pairwise_cons] at h
    split
    · rename_i hab
      refine List.pairwise_cons.mpr ⟨fun c m => ?_, List.pairwise_cons.mpr h⟩
      rcases List.mem_cons.mp m with e | m
      · rw [e]; exact hab
      · exact Int.le_trans hab (h.1 c m)
    · rename_i hab
      refine List.pairwise_cons.mpr ⟨fun c m => ?_, insI_sorted a l h.2⟩
      rcases List.mem_cons.mp ((insI_perm a l).mem_iff.mp m) with e | m
      · rw [e]; omega
      · exact h.1 c m
theorem isort_perm : ∀ l, (isort l).Perm l
  | [] => .refl _
  | a :: l => (insI_perm a _).trans ((isort_perm l).cons a)
theorem isort_sorted : ∀ l, (isort l).Pairwise (· ≤ ·)
  | [] => .nil
  | a :: l => insI_sorted a _ (isort_sorted l)
theorem sorted_uniq : ∀ {l m : List Int}, l.Perm m → l.Pairwise (· ≤ ·) → m.Pairwise (· ≤ ·) → l = m
  | [], m, p, _, _ => (List.nil_perm.mp p).symm
  | a :: l, [], p, _, _ => by have := p.length_eq; cases this
  | a :: l, b :: m, p, h1, h2 => by
    rw [List.pairwise_cons] at h1 h2
    have ea : a = b := by
      have m1 : a ∈ b :: m := p.mem_iff.mp (by simp)
      have m2 : b ∈ a :: l := p.mem_iff.mpr (by simp)
      rcases List.mem_cons.mp m1 with e | m1
      · exact e
      · rcases List.mem_cons.mp m2 with e | m2
        · exact e.symm
        · have := h1.1 b m2
          have := h2.1 a m1
          omega
    subst ea
    rw [sorted_uniq p.cons_inv h1.2 h2.2]
theorem isort_of {ms ns : List Int} (p : ms.Perm ns) (h : ms.Pairwise (· ≤ ·)) : ms = isort ns := sorted_uniq (p.trans (isort_perm ns).symm) h (isort_sorted ns)
theorem ints_own {K : PySem.W.Frag} {H : Hp} {A : AS} {k : Nat} : ∀ ns : List Int, Owns (Own K H A k) (ns.map D.int) (ns.map V.int) (fun _ => False)
  | [] => ⟨rfl, fun _ z => z⟩
  | n :: ns => ⟨_, _, fun _ => False, fun _ => False, rfl, fun x => by simp, fun _ z => z.elim, (Own.flat rfl).mpr ⟨fun _ z => z, by unfold RepR; rfl⟩, ints_own ns⟩
theorem op_bi (hc : X.calm = true) (gu : X.A.guards = some []) (un : X.A.units + 65 < cLine) (b : Bi) : CallR X (biV b) (rF X.K (biD b)) := by
  intro pins s σ H xs us Q I rx ⟨H0, A, ks, r, s0, hA, rr, e, q⟩
  unfold biD at e
  split at e
  · split at e <;> cases e
    rename_i hl
    obtain ⟨x, rfl, rx1⟩ := ress1 rr
    exact call_len pins s σ H _ us Q I rx ⟨x, _, rfl, by rw [rx1.rep.str]; exact ⟨by rw [mkS_len, line_eq]; exact hl, rfl⟩, by rw [mkS_len]; exact q _ _ (Same.refl _) Res.int⟩
  · cases e
    obtain ⟨x, rfl, rx1⟩ := ress1 rr
    obtain ⟨a, vs, ex, sx, w⟩ := rx1.rep.lst
    subst ex
    exact call_len pins s σ H _ us Q I rx ⟨_, _, rfl, .inl ⟨vs, sx, rfl⟩, by rw [w.length]; exact q _ _ (Same.refl _) Res.int⟩
  · cases e
    obtain ⟨x, rfl, rx1⟩ := ress1 rr
    obtain ⟨a, vs, ex, sx, w⟩ := rx1.rep.tup
    subst ex
    exact call_len pins s σ H _ us Q I rx ⟨_, _, rfl, .inr ⟨vs, sx, rfl⟩, by rw [w.length]; exact q _ _ (Same.refl _) Res.int⟩
  · cases e
    obtain ⟨x, rfl, rx1⟩ := ress1 rr
    rw [rx1.rep.int] at rx
    exact call_int1 pins s σ H _ us Q I rx (.inl ⟨_, rfl, q _ _ (Same.refl _) Res.int⟩)
  · cases e
    obtain ⟨x, rfl, rx1⟩ := ress1 rr
    rw [rx1.rep.bl] at rx
    exact call_int1 pins s σ H _ us Q I rx (.inr ⟨_, rfl, q _ _ (Same.refl _) Res.int⟩)
  · split at e
    · rename_i n hn
      split at e <;> cases e
      rename_i hl
      obtain ⟨x, rfl, rx1⟩ := ress1 rr
      exact call_int_str pins s σ H _ us Q I rx ⟨mkS _, n, by rw [rx1.rep.str], hn, by rw [mkS_len]; exact hl, q _ _ (Same.refl _) Res.int⟩
    · cases e
  · split at e <;> cases e
    rename_i i hl
    obtain ⟨x, rfl, rx1⟩ := ress1 rr
    refine call_str_int pins s σ H _ us Q I rx ⟨i, by rw [rx1.rep.int], hl, ?_⟩
    have w := q (.str (mkS (Str.ofString (toString i)).cps.toList)) H (Same.refl _) Res.str
    rw [show mkS (Str.ofString (toString i)).cps.toList = Str.ofString (toString i) from by unfold mkS; simp] at w
    exact w
  · rename_i k xs'
    obtain ⟨x, rfl, O, f, r1⟩ := ress1 rr
    cases e1 : chd k xs' with
    | ok c =>
      rw [e1] at e
      cases e
      obtain ⟨a, vs, ex, sx, _, P, sP, nP, w⟩ := ch_ok e1 r1 (fun x z => .inr z)
      subst ex
      exact call_list_of pins s σ H _ us Q I rx ⟨a, vs, rfl, .inl sx, fun p hp => q _ _ (same_new hp) (Res.list_of s0 hA f sP w hp)⟩
    | exc x p => rw [e1] at e; cases e
    | stuck => rw [e1] at e; cases e
    | draw _ => rw [e1] at e; cases e
  · rename_i k xs'
    cases e
    obtain ⟨x, rfl, O, f, r1⟩ := ress1 rr
    obtain ⟨a, vs, ex, sx, w⟩ := RepR.tup (Res1.flat rfl r1)
    subst ex
    have w : RepRs X.K (cut H fun z => A z ∨ False) xs' vs := w.mono (cut_set fun z a => .inl (a.elim id False.elim))
    refine call_list_of pins s σ H _ us Q I rx ⟨a, vs, rfl, .inr (Same.seqT cut_same sx), fun p hp => q _ _ (same_new hp) (Res.newL (O := fun _ => False) hp s0 (fun _ z => z.elim) (fun z a => (hA z a).mono s0) ?_)⟩
    split
    · exact Owns.frz (fun d v O n r => ⟨n, r⟩) (fun _ z => z) w
    · rename_i hcn
      have hcn : xs'.any D.cont = false := by simpa using hcn
      exact (Owns.frz (R := Own X.K H (fun z => A z ∨ False) 0) (fun d v O n r => ⟨n, r⟩) (fun _ z => z) w).impIn fun d m v O1 _ r => (Own.flat (cont_of hcn d m)).mpr r
  · split at e <;> cases e
    rename_i t hl
    obtain ⟨x, rfl, rx1⟩ := ress1 rr
    rw [rx1.rep.str] at rx
    obtain ⟨u, rfl, tk0, rfl⟩ := vals1 rx
    have hsz : (mkS t).cps.size ≤ sizeLine := by rw [line_eq]; simpa using hl
    refine call_list_str (I.ok.hd hc) (mkS t) tk0 (fun h' tk acc c' hk e hi => ?_) hsz
    have lenA : acc.size = t.length := by rw [hi.1]; simp
    refine ⟨.ref s.heap.objs.size, upd H s.heap.objs.size (.lst (t.map fun c => V.str (mkS [c]))), I.laid hk (Nat.le_refl _) ⟨by rw [List.length_map]; exact (line_eq ▸ hl), acc.toList, c', ?_, by rw [Array.toArray_toList]; exact e⟩, rfl, ?_⟩
    · refine vals_of_idx _ _ (by rw [List.length_map, Array.length_toList]; exact lenA) fun j u hj => ?_
      obtain ⟨c, t', hc', rfl⟩ := hi.2 j u (by rw [← Array.getElem?_toList]; exact hj)
      exact ⟨.str (mkS [c]), by rw [List.getElem?_map]; rw [show t[j]? = some c from by simpa using hc']; rfl, ⟨_, rfl⟩⟩
    · have hp : H s.heap.objs.size = none := I.hok.fresh (Nat.le_refl _)
      have go : ∀ (G : Hp) (R' : D → V → AS → Prop) (l : List Nat), (∀ c, R' (.str [c]) (.str (mkS [c])) fun _ => False) → Owns R' (l.map fun c => D.str [c]) (l.map fun c => V.str (mkS [c])) (fun _ => False) := fun G R' l hR => by
        induction l with
        | nil => exact ⟨rfl, fun _ z => z⟩
        | cons c l ih => exact ⟨_, _, fun _ => False, fun _ => False, rfl, fun x => by simp, fun _ z => z.elim, hR c, ih⟩
      exact q _ _ (same_new hp) (Res.newL (O := fun _ => False) hp s0 (fun _ z => z.elim) (fun z a => (hA z a).mono s0) (go H _ t fun c => (Own.flat rfl).mpr ⟨fun _ z => z, by unfold RepR; rfl⟩))
  · rename_i k xs'
    obtain ⟨x, rfl, O, f, r1⟩ := ress1 rr
    cases e1 : chd k xs' with
    | ok c =>
      rw [e1] at e
      cases e
      obtain ⟨a, vs, ex, sx, _, P, sP, nP, w⟩ := ch_ok e1 r1 (fun x z => .inr z)
      subst ex
      obtain ⟨P', sP', g⟩ := owns_lower w 0 (Nat.zero_le _)
      have g := g A (fun z a => .inl a) fun z a p => absurd (f z (sP z p)) (hA z a).ne
      exact call_tupleN pins s σ H _ us Q I rx ⟨a, vs, rfl, sx, fun p o hp hd => q _ _ (same_new hp) (Res.tupN hp hd (fun z a => (hA z a).mono s0) (g.rep fun _ _ _ r => r.2))⟩
    | exc x p => rw [e1] at e; cases e
    | stuck => rw [e1] at e; cases e
    | draw _ => rw [e1] at e; cases e
  · cases e
    obtain ⟨x, rfl, rx1⟩ := ress1 rr
    obtain ⟨a, vs, ex, sx, w⟩ := rx1.rep.tup
    have rx2 := rx1
    obtain ⟨O, f, r1⟩ := rx2
    subst ex
    exact call_tuple_of pins s σ H _ us Q I rx ⟨a, vs, rfl, .inr ⟨sx, q _ _ (Same.refl _) (Res1.to_res rfl r1 (fun z a => .inl a) (Same.refl _))⟩⟩
  · cases e
    obtain ⟨x, rfl, rx1⟩ := ress1 rr
    rw [rx1.rep.int] at rx
    exact call_abs pins s σ H _ us Q I rx ⟨_, rfl, q _ _ (Same.refl _) Res.int⟩
  · cases e
    obtain ⟨x, y, rfl, rr⟩ := ress2' rr
    obtain ⟨ra, rb⟩ := ress2 rr
    rw [ra.int, rb.int] at rx
    exact call_max2 hc pins s σ H _ us Q I rx ⟨_, _, rfl, q _ _ (Same.refl _) Res.int⟩
  · cases e
    obtain ⟨x, y, rfl, rr⟩ := ress2' rr
    obtain ⟨ra, rb⟩ := ress2 rr
    rw [ra.int, rb.int] at rx
    exact call_min2 hc pins s σ H _ us Q I rx ⟨_, _, rfl, q _ _ (Same.refl _) Res.int⟩
  · split at e <;> cases e
    rename_i ns hn
    obtain ⟨x, rfl, rx1⟩ := ress1 rr
    obtain ⟨a, vs, ex, sx, w⟩ := rx1.rep.lst
    subst ex
    rw [ints_rep hn w] at sx
    exact cr_sum hc pins s σ H _ us Q I rx ⟨a, ns, rfl, sx, q _ _ (Same.refl _) Res.int⟩
  · split at e <;> cases e
    rename_i n ns hn
    obtain ⟨x, rfl, rx1⟩ := ress1 rr
    obtain ⟨a, vs, ex, sx, w⟩ := rx1.rep.lst
    subst ex
    rw [ints_rep hn w] at sx
    exact cr_max hc pins s σ H _ us Q I rx ⟨a, n :: ns, rfl, sx, by simp, fun m hm hl => by rw [maxI_of hm hl]; exact q _ _ (Same.refl _) Res.int⟩
  · split at e <;> cases e
    rename_i n ns hn
    obtain ⟨x, rfl, rx1⟩ := ress1 rr
    obtain ⟨a, vs, ex, sx, w⟩ := rx1.rep.lst
    subst ex
    rw [ints_rep hn w] at sx
    exact cr_min hc pins s σ H _ us Q I rx ⟨a, n :: ns, rfl, sx, by simp, fun m hm hl => by rw [minI_of hm hl]; exact q _ _ (Same.refl _) Res.int⟩
  · split at e <;> cases e
    rename_i ns hn
    obtain ⟨x, rfl, rx1⟩ := ress1 rr
    obtain ⟨a, vs, ex, sx, w⟩ := rx1.rep.lst
    subst ex
    rw [bls_rep hn w] at sx
    exact cr_all hc pins s σ H _ us Q I rx ⟨a, ns, rfl, sx, q _ _ (Same.refl _) Res.bl⟩
  · split at e <;> cases e
    rename_i ns hn
    obtain ⟨x, rfl, rx1⟩ := ress1 rr
    obtain ⟨a, vs, ex, sx, w⟩ := rx1.rep.lst
    subst ex
    rw [bls_rep hn w] at sx
    exact cr_any hc pins s σ H _ us Q I rx ⟨a, ns, rfl, sx, q _ _ (Same.refl _) Res.bl⟩
  · rename_i k xs
    split at e
    · cases e
      rename_i ns hn
      obtain ⟨x, rfl, rx1⟩ := ress1 rr
      obtain ⟨a, vs, ex, sx, w⟩ := rx1.rep.lst
      subst ex
      rw [ints_rep hn w] at sx
      refine cr_sortA pins s σ H _ us Q I rx ⟨a, ns, rfl, .inl sx, fun ms p h1 h2 h3 => ?_⟩
      rw [isort_of h1 h2]
      exact q _ _ (same_new h3) (Res.newL (O := fun _ => False) h3 s0 (fun _ z => z.elim) (fun z a => (hA z a).mono s0) (ints_own _))
    · obtain ⟨x, rfl, O, f, r1⟩ := ress1 rr
      unfold sortD at e
      cases e1 : chd k xs with
      | ok c =>
        rw [e1] at e
        have e : (if (keyOk xs && srtB xs) = true then R.ok (newL 0 (xs.mergeSort leD)) else R.stuck) = R.ok r := e
        split at e <;> cases e
        rename_i ok
        rw [Bool.and_eq_true] at ok
        obtain ⟨a, vs, ex, sx, _, P, sP, nP, w⟩ := ch_ok e1 r1 (fun x z => .inr z)
        subst ex
        obtain ⟨P', sP', g⟩ := owns_lower w 0 (Nat.zero_le _)
        have g := g A (fun z a => .inl a) fun z a p => absurd (f z (sP z p)) (hA z a).ne
        have rp : RepRs X.K (cut H A) xs vs := g.rep fun _ _ _ r => r.2
        refine cr_sortD un pins s σ H _ us Q I rx ⟨a, xs, vs, rfl, sx, rp.mono cut_same, ok.1, ok.2, fun p hp => q _ _ (same_new hp) (Res.newL (O := fun _ => False) hp s0 (fun _ z => z.elim) (fun z a => (hA z a).mono s0) ?_)⟩
        exact Owns.frz (fun d v O n r => ⟨n, r⟩) (fun _ z => z) ((sort_rep rp).mono (cut_set fun z a => a.elim id False.elim))
      | exc x p => rw [e1] at e; cases e
      | stuck => rw [e1] at e; cases e
      | draw _ => rw [e1] at e; cases e
  · split at e <;> cases e
    rename_i ns hn
    obtain ⟨x, rfl, rx1⟩ := ress1 rr
    obtain ⟨a, vs, ex, sx, w⟩ := rx1.rep.tup
    subst ex
    rw [ints_rep hn w] at sx
    refine cr_sortA pins s σ H _ us Q I rx ⟨a, ns, rfl, .inr sx, fun ms p h1 h2 h3 => ?_⟩
    rw [isort_of h1 h2]
    exact q _ _ (same_new h3) (Res.newL (O := fun _ => False) h3 s0 (fun _ z => z.elim) (fun z a => (hA z a).mono s0) (ints_own _))
  · rename_i b
    cases e
    obtain ⟨x, rfl, rx1⟩ := ress1 rr
    rw [rx1.rep.bl] at rx
    obtain ⟨u, rfl, rfl⟩ := vals1 rx
    cases b
    · exact PySem.P.repr_of_bool ⟨.str (mkS _), H, I.tok _, ⟨_, rfl⟩, q _ _ (Same.refl _) Res.str⟩
    · exact PySem.P.repr_of_bool ⟨.str (mkS _), H, I.tok _, ⟨_, rfl⟩, q _ _ (Same.refl _) Res.str⟩
  · rename_i d nb
    split at e <;> cases e
    rename_i ok
    obtain ⟨x, rfl, rx1⟩ := ress1 rr
    exact op_repr gu un I rx rx1.rep ok (q _ _ (Same.refl _) Res.str)
  · cases e

/-! ### methods by values -/
/-- xs.index(n), whole numbers, n among them -/
def rIdxI (K : PySem.W.Frag) : V → List V → Hp → VK → Prop := fun x xs H Q => ∃ (a : Addr) (ns : List Int) (n : Int), x = .ref a ∧ xs = [.int n] ∧ SqL K H a (ns.map V.int) ∧ n ∈ ns ∧ Q (.int (ns.idxOf n : Nat)) H
theorem mt_idxL : MtR X "list.index" (rIdxI X.K) := by
  intro pins s σ H x xs v us Q I rx rxs ⟨a, ns, n, ex, exs, hs, hn, q⟩
  subst ex; subst exs
  obtain ⟨u, rfl, t, rfl⟩ := vals1 rxs
  cases rx
  obtain ⟨its, r, pl, hz⟩ := I.list hs
  refine PySem.SeqAt.list_index_ints pl.isList r.ints (by simpa using hz) hn ?_
  exact ⟨.int (ns.idxOf n : Nat), H, I.tok _, ⟨_, rfl⟩, q⟩
/-- xs.index(t), texts, t among them -/
theorem idxOf_mkS (c : List Nat) : ∀ ns : List (List Nat), (ns.map mkS).idxOf (mkS c) = ns.idxOf c
  | [] => rfl
  | n :: ns => by
    have e : (mkS n == mkS c) = (n == c) := by
      by_cases h : n = c
      · subst h; simp
      · rw [beq_eq_false_iff_ne.mpr h, beq_eq_false_iff_ne.mpr fun e => h (mkS_inj e)]
    rw [List.map_cons, List.idxOf_cons, List.idxOf_cons, idxOf_mkS c ns, e]
def rIdxS (K : PySem.W.Frag) : V → List V → Hp → VK → Prop := fun x xs H Q => ∃ (a : Addr) (ns : List (List Nat)) (n : List Nat), x = .ref a ∧ xs = [.str (mkS n)] ∧ SqL K H a ((ns.map mkS).map V.str) ∧ n ∈ ns ∧ Q (.int (ns.idxOf n : Nat)) H
theorem mt_idxS : MtR X "list.index" (rIdxS X.K) := by
  intro pins s σ H x xs v us Q I rx rxs ⟨a, ns, n, ex, exs, hs, hn, q⟩
  subst ex; subst exs
  obtain ⟨u, rfl, t, rfl⟩ := vals1 rxs
  cases rx
  obtain ⟨its, r, pl, hz⟩ := I.list hs
  refine PySem.SeqAt.list_index_strs pl.isList r.strs (by simpa using hz) (List.mem_map.mpr ⟨n, hn, rfl⟩) ?_
  rw [idxOf_mkS]
  exact ⟨.int (ns.idxOf n : Nat), H, I.tok _, ⟨_, rfl⟩, q⟩
def rM (K : PySem.W.Frag) (f : Kd → List Kd → R Kd) : V → List V → Hp → VK → Prop := fun x xs H Q => ∃ (H0 : Hp) (A : AS) (k : Kd) (ks : List Kd) (r : Kd), Same H0 H ∧ (∀ z, A z → IsM H0 z) ∧ Ress K H0 H A (k :: ks) (x :: xs) ∧ f k ks = .ok r ∧ ∀ v H', Same H H' → Res K H0 H' A r v → Q v H'
def meN : Me → String
  | .join => "join" | .sindex => "index" | .lindex => "index" | .startswith => "startswith" | .endswith => "endswith" | .count => "count" | .split => "split"
def meT : Me → String
  | .lindex => "list"
  | _ => "str"
def meI : Me → String
  | .join => "str.join" | .sindex => "str.index" | .lindex => "list.index" | .startswith => "str.startswith" | .endswith => "str.endswith" | .count => "str.count" | .split => "str.split"
theorem rep_cons {k : Kd} {ks : List Kd} {x : V} {xs : List V} (h : Ress K H0 H A (k :: ks) (x :: xs)) : RepR K H k.2 x ∧ RepRs K H (ks.map (·.2)) xs := by
  have := h.rep
  rw [List.map_cons] at this
  unfold RepRs at this
  obtain ⟨v, vs, e, r1, r2⟩ := this
  cases e
  exact ⟨r1, r2⟩
theorem RepRs.one {d : D} {vs : List V} (r : RepRs K H [d] vs) : ∃ v, vs = [v] ∧ RepR K H d v := by
  unfold RepRs at r
  obtain ⟨v, vs', e, r1, r2⟩ := r
  unfold RepRs at r2
  subst r2
  exact ⟨v, e, r1⟩
theorem strs_rp {G : Hp} : ∀ ys : List Str, RepRs K G (ys.map fun y => D.str y.cps.toList) (ys.map V.str)
  | [] => RepRs.nil
  | y :: ys => RepRs.cons (by unfold RepR; show V.str y = V.str (mkS y.cps.toList); unfold mkS; simp) (strs_rp ys)
/-- a new list of texts -/
theorem strs_new {ys : List Str} {p : Addr} (hp : H p = none) (s0 : Same H0 H) (hA : ∀ z, A z → IsM H0 z) : Res K H0 (upd H p (.lst (ys.map V.str))) A (newL 8 (ys.map fun y => D.str y.cps.toList)) (.ref p) := by
  have hcn : (ys.map fun y => D.str y.cps.toList).any D.cont = false := by
    rw [List.any_map]
    exact List.any_eq_false.mpr fun y _ => by simp [D.cont]
  refine Res.newL (O := fun _ => False) hp s0 (fun _ z => z.elim) (fun z a => (hA z a).mono s0) ?_
  exact (Owns.frz (R := Own K H (fun z => A z ∨ False) 0) (fun d v O n r => ⟨n, r⟩) (fun _ z => z) (strs_rp ys)).impIn fun d m v O1 _ r => (Own.flat (cont_of hcn d m)).mpr r
theorem op_me (m : Me) : MtR X (meI m) (rM X.K (meD m)) := by
  intro pins s σ H x xs v us Q I rx rxs ⟨H0, A, k, ks, r, s0, hA, rr, e, q⟩
  obtain ⟨ra, rb⟩ := rep_cons rr
  unfold meD at e
  split at e
  · split at e
    · split at e <;> cases e
      rename_i ys hy hl
      obtain ⟨y, rfl, ry⟩ := rb.one
      obtain ⟨a, vs, ex, sx, w⟩ := ry.lst
      subst ex
      rw [strs_rep hy w] at sx
      refine mt_join pins s σ H x _ v us Q I rx rxs ⟨_, a, _, ra.str, rfl, .inl sx, ?_, ?_⟩
      · rw [List.map_map, List.length_map, mkS_len]
        have : ((fun z : Str => z.length) ∘ mkS) = fun z : List Nat => z.length := by funext z; exact mkS_len z
        rw [this]
        exact hl
      · rw [join_mk]
        exact q _ _ (Same.refl _) Res.str
    · cases e
  · split at e <;> cases e
    rename_i n hn
    obtain ⟨y, rfl, ry⟩ := rb.one
    rw [ry.str] at rxs
    obtain ⟨rest, ho⟩ := occ_idx hn
    exact mt_sindex pins s σ H x _ v us Q I rx rxs ⟨_, _, n, rest, ra.str, rfl, ho, q _ _ (Same.refl _) Res.int⟩
  · split at e
    · rename_i ns hns
      split at e <;> cases e
      rename_i hc
      obtain ⟨y, rfl, ry⟩ := rb.one
      rw [ry.int] at rxs
      obtain ⟨a, vs, ex, sx, w⟩ := ra.lst
      subst ex
      rw [ints_rep hns w] at sx
      exact mt_idxL pins s σ H _ _ v us Q I rx rxs ⟨a, ns, _, rfl, rfl, sx, List.contains_iff_mem.mp hc, q _ _ (Same.refl _) Res.int⟩
    · cases e
  · split at e
    · rename_i ns hns
      split at e <;> cases e
      rename_i hc
      obtain ⟨y, rfl, ry⟩ := rb.one
      rw [ry.str] at rxs
      obtain ⟨a, vs, ex, sx, w⟩ := ra.lst
      subst ex
      rw [strs_rep hns w] at sx
      exact mt_idxS pins s σ H _ _ v us Q I rx rxs ⟨a, ns, _, rfl, rfl, sx, List.contains_iff_mem.mp hc, q _ _ (Same.refl _) Res.int⟩
    · cases e
  · cases e
    obtain ⟨y, rfl, ry⟩ := rb.one
    rw [ry.str] at rxs
    exact mt_startswith pins s σ H x _ v us Q I rx rxs ⟨_, _, ra.str, rfl, q _ _ (Same.refl _) Res.bl⟩
  · cases e
    obtain ⟨y, rfl, ry⟩ := rb.one
    rw [ry.str] at rxs
    exact mt_endswith pins s σ H x _ v us Q I rx rxs ⟨_, _, ra.str, rfl, q _ _ (Same.refl _) Res.bl⟩
  · cases e
    obtain ⟨y, rfl, ry⟩ := rb.one
    rw [ry.str] at rxs
    exact mt_count pins s σ H x _ v us Q I rx rxs ⟨_, _, ra.str, rfl, q _ _ (Same.refl _) Res.int⟩
  · rename_i s' t'
    split at e <;> cases e
    rename_i hl
    obtain ⟨y, rfl, ry⟩ := rb.one
    rw [ry.str] at rxs
    exact mt_split pins s σ H x _ v us Q I rx rxs ⟨_, _, ra.str, rfl, by rw [mkS_len]; exact hl.1, by rw [mkS_len, line_eq]; exact hl.2, fun p hp => q _ _ (same_new hp) (strs_new hp s0 hA)⟩
  · cases e
/-- what a method's call wants of its receiver's type -/
theorem me_ty {m : Me} {k : Kd} {ks : List Kd} {r : Kd} {x : V} (e : meD m k ks = .ok r) (ra : RepR K H k.2 x) : tyV K (meT m) x H := by
  unfold meD at e
  split at e <;> first | (cases e; done) | (rw [ra.str]; rfl) | (obtain ⟨a, vs, ex, sx, _⟩ := ra.lst; subst ex; exact .inl ⟨rfl, vs, sx⟩)
end
end Px

/-! Px6: readings of codes; the rules for expressions. -/
namespace Px
open PySem PySem.Spec L2

/-! ### what a def promises below a stack without guards -/
structure FnG (P : Program) (w : World) (K : PySem.W.Frag) (mg : Str → Option Value) (base : Heap) (k : Nat) (f : Addr) (fd : FuncData) (ps : List Str) (sp : Sp) : Prop where
  len : ∀ vs H Q E, sp vs H Q E → vs.length = ps.length
  run : ∀ (A : Around) (outer : List PySem.Env) (s : Shared) (H : Hp) (us : List Value) (vs : List V) (Q : VK) (E : XK), A.guards = some [] → Room k A → Env0 P w K mg base A outer s H → BindsTo s fd ⟨us, []⟩ (ps.zip us) → Vals vs us → sp vs H Q E →
    codeAny (model P w) A (.call (.ref f) ⟨us, []⟩) (CR (L2.CX P w) outer P w H s Q E) s
section
variable {P : Program} {w : World} {K : PySem.W.Frag} {mg : Str → Option Value} {base : Heap} {f : Addr} {fd : FuncData} {ps : List Str} {sp : Sp}
theorem FnG.mono {j k : Nat} (F : FnG P w K mg base j f fd ps sp) (h : j ≤ k) : FnG P w K mg base k f fd ps sp :=
  ⟨F.len, fun A outer s H us vs Q E hg hr => F.run A outer s H us vs Q E hg (hr.mono h)⟩
theorem FnG.imp {k : Nat} {sp' : Sp} (F : FnG P w K mg base k f fd ps sp) (h : ∀ vs H Q E, sp' vs H Q E → sp vs H Q E) : FnG P w K mg base k f fd ps sp' :=
  ⟨fun vs H Q E q => F.len vs H Q E (h _ _ _ _ q), fun A outer s H us vs Q E hg hr e0 hb r q => F.run A outer s H us vs Q E hg hr e0 hb r (h _ _ _ _ q)⟩
theorem room_of2 {k : Nat} {A : Around} (r : Room k A.in1.in1) : Room k A := ⟨r.hd, r.dp, by have := r.un; have : A.in1.in1.units = A.units + 1 + 1 := rfl; omega⟩
theorem room_of1 {k : Nat} {A : Around} (r : Room k A.in1.in1) : Room k A.in1 := ⟨r.hd, r.dp, by have := r.un; have : A.in1.in1.units = A.in1.units + 1 := rfl; omega⟩
/-- a def, by its body -/
theorem fng_of {x qual : Str} {st : Stmt} {N : List Str} {k : Nat} (Fu : Fun K x qual st f fd) (S : FnScope N ps (defScope st)) (len : ∀ vs H Q E, sp vs H Q E → vs.length = ps.length)
    (hb : ∀ (cdv : Value) (A : Around) (outer : List PySem.Env) (s : Shared) (H : Hp) (vs : List V) (Q : VK) (E : XK), A.guards = some [] → Room k (A.deeper (PyProof.Rows.envOfC qual (defScope st) s.heap.objs.size f cdv)).in1.in1 → sp vs H Q E →
      ∃ t, PSs (cxOf (L2.CX P w) P w K mg base N qual (defScope st) f cdv A outer s H E) (defBody st) t ∧ t { nx := fun _ H' => Q .non H', rt := Q } (L2.start N vs) H) : FnG P w K mg base (k + 1) f fd ps sp := by
  obtain ⟨oc, od, kV, doc, pm, an, cdv, ct, osl, efd, lk, hcd⟩ := Fu.ex
  subst efd
  constructor
  · exact len
  intro A outer s H us vs Q E hg hr e0 hbd rv hsp
  have keep := fun b o e => (e0.bs b o e).1
  have room := hr.deeper (PyProof.Rows.envOfC qual (defScope st) s.heap.objs.size f cdv)
  have room2 : Room k (A.deeper (PyProof.Rows.envOfC qual (defScope st) s.heap.objs.size f cdv)).in1.in1 := ⟨hr.hd, by have := hr.dp; show A.depth + 1 + 3 * k + 5 < _; omega, by have := hr.un; show A.units + 3 + 1 + 1 + 16 * k + 200 < _; omega⟩
  obtain ⟨t, body, pre⟩ := hb cdv A outer s H vs Q E hg room2 hsp
  have inK : K.In s.heap := e0.mod.kin.keeps keep
  have params : ∀ z ∈ ps.zip us, (defScope st).names.lookup z.1 = some .local ∨ ((defScope st).names.lookup z.1 = some .cell ∧ ((cellsFrom (s.heap.objs.size + 1) (defScope st).names []).lookup z.1).isSome = true) := by
    rintro ⟨n, v⟩ hz
    exact (S.par n (List.of_mem_zip hz).1).imp id fun c => ⟨c, PySem.W.cellsFrom_some _ _ _ (.inl c)⟩
  refine codeAny_call_function hr.depth (inK _ _ lk) rfl S.co S.gen rfl (PySem.W.codeRec_of inK hcd) (hbd _ _ _ _ ?_)
  refine wpAny_newFunctionEnv_cells S.kind params ?_
  intro env heq s1 fresh
  cases heq
  refine ⟨(e0.mod.nolimit.keeps keep).keeps fresh.toInCall.keep, codeAny_func (wpAny_mono (body.run [] s1 (L2.start N vs) H _ (inv_start S hr.hd e0 (len _ _ _ _ hsp) rv fresh) pre) ?_ fun _ _ z => z)⟩
  intro fl s' done
  match fl, done with
  | .ret u, ⟨v, _, H', J, rv', q⟩ => exact ⟨v, H', J.os, J.bare, J.base, J.hok, rv', q⟩
  | .next, ⟨_, H', J, q⟩ => exact ⟨.non, H', J.os, J.bare, J.base, J.hok, rfl, q⟩
  | .brk, ⟨_, _, _, z⟩ => exact z.elim
  | .cont, ⟨_, _, _, z⟩ => exact z.elim
end
/-- such a def is called by its name -/
theorem pe_callG {X : Cx} {k : Nat} {f : Addr} {fd : FuncData} {ps : List Str} {sp : Sp} {E : L2.St → XK} {x : Str} {p pos : Pos} {e : Expr} {es : List Expr} {t : TA} (F : FnG X.prog X.w X.K X.mg X.base k f fd ps sp) (gu : X.A.guards = some []) (hr : Room k X.A) (hg : Gl X x)
    (hm : X.mg x = some (.ref f)) (hk : PySem.W.keepIn X.K (.ref f) = true) (hb : Binds X.K fd ps []) (hx : ∀ σ, PassesAt (L2.CX X.prog X.w) X σ (E σ)) (ha : PA X (e :: es) t) (hdb : (x == ("__debug__" : Str)) = false)
    (he : starEach (e :: es) X.env = (false, eval e X.env) :: starEach es X.env) (hpl : (backTo pos (starEach es X.env)).any (·.1) = false) : PE X (.Call (.Name x p) (e :: es) [] pos) (tCallS sp E t) := by
  constructor
  intro pins s σ H Q I h
  refine wpAny_Call_Name_kw (ld_glob I hg hm (PySem.W.callWith_K (h₀ := X.base) I.ok.mod.kin hk (thn (ha.run pos pins s σ H _ I h) ?_) he hpl) hdb)
  rintro us s1 ⟨vs, H1, I1, rv, q⟩
  have bd := hb s1 us I1.kIn (by rw [List.append_nil, ← rv.length]; exact F.len _ _ _ _ q)
  rw [List.append_nil] at bd
  refine ⟨I1.kIn, wpAny_call (codeAny_mono (F.run X.A X.stack s1 H1 us vs Q (E σ) gu hr I1.env0 bd rv q) ?_)⟩
  intro r s' done
  match r, done with
  | .error e, d => exact hx σ pins H1 s1 e s' I1 d
  | .ok (.ret u), d => exact I1.after d
/-! ### what follows a computation -/
abbrev EC := String → Value
def IsExc (ec : EC) (x : String) (p : List (String × Int)) (cls : Value) (d : Option Addr) (H : Hp) : Prop :=
  cls = ec x ∧ (p = [] → d = none) ∧ (p ≠ [] → ∃ a, d = some a ∧ H a = some (.xd (p.map fun q => (Str.ofString q.1, V.int q.2))))
/-- what holds of every end of a computation -/
def out {α : Type} (r : R α) (k : α → Prop) (e : String → List (String × Int) → Prop) : Prop := match r with
  | .ok a => k a
  | .exc x p => e x p
  | .stuck => False
  | .draw f => ∀ n, 0 ≤ n → n < 1000 → out (f n) k e
theorem out_bind {α β : Type} {r : R α} {f : α → R β} {k : β → Prop} {e : String → List (String × Int) → Prop} : out (r >>= f) k e ↔ out r (fun a => out (f a) k e) e := by
  induction r with
  | ok a => exact Iff.rfl
  | exc x p => exact Iff.rfl
  | stuck => exact Iff.rfl
  | draw g ih => exact ⟨fun h n h1 h2 => (ih n).mp (h n h1 h2), fun h n h1 h2 => (ih n).mpr (h n h1 h2)⟩
theorem out_mono {α : Type} {r : R α} {k k' : α → Prop} {e e' : String → List (String × Int) → Prop} (h : out r k e) (hk : ∀ a, k a → k' a) (he : ∀ x p, e x p → e' x p) : out r k' e' := by
  induction r with
  | ok a => exact hk a h
  | exc x p => exact he x p h
  | stuck => exact h
  | draw g ih => exact fun n h1 h2 => ih n (h n h1 h2)
/-- what holds of every value that comes out -/
def lf {α : Type} (r : R α) (k : α → Prop) : Prop := match r with
  | .ok a => k a
  | .draw f => ∀ n, lf (f n) k
  | _ => True
theorem lf_true {α : Type} {r : R α} : lf r fun _ => True := by
  induction r with
  | ok a => trivial
  | exc x p => trivial
  | stuck => trivial
  | draw g ih => exact ih
theorem lf_bind {α β : Type} {r : R α} {f : α → R β} {P : α → Prop} {k : β → Prop} (h : lf r P) (hf : ∀ a, P a → lf (f a) k) : lf (r >>= f) k := by
  induction r with
  | ok a => exact hf a h
  | exc x p => trivial
  | stuck => trivial
  | draw g ih => exact fun n => ih n (h n)
theorem out_lf {α : Type} {r : R α} {k P : α → Prop} {e : String → List (String × Int) → Prop} (h : out r k e) (l : lf r P) : out r (fun a => P a ∧ k a) e := by
  induction r with
  | ok a => exact ⟨l, h⟩
  | exc x p => exact h
  | stuck => exact h
  | draw g ih => exact fun n h1 h2 => ih n (h n h1 h2) (l n)
abbrev aft (ec : EC) (W : WX) (σ : L2.St) (H : Hp) {α : Type} (r : R α) (k : α → Prop) : Prop := out r k fun x p => ∀ cls d H', Same H H' → IsExc ec x p cls d H' → W cls d σ H'
section
variable {ec : EC} {W : WX} {σ : L2.St} {H H' H1 : Hp} {α β : Type}
theorem aft_bind {r : R α} {f : α → R β} {k : β → Prop} : aft ec W σ H (r >>= f) k ↔ aft ec W σ H r (fun a => aft ec W σ H (f a) k) := out_bind
theorem aft_mono {r : R α} {k k' : α → Prop} (s : Same H H1) (h : aft ec W σ H r k) (hk : ∀ a, k a → k' a) : aft ec W σ H1 r k' := out_mono h hk fun _ _ q cls d H' s' e => q cls d H' (s.trans s') e
theorem aft_ok {a : α} {k : α → Prop} : aft ec W σ H (R.ok a) k ↔ k a := Iff.rfl
theorem aft_pure {a : α} {k : α → Prop} : aft ec W σ H (pure a : R α) k ↔ k a := Iff.rfl
end
/-! ### what a def promises -/
def RetR (K : PySem.W.Frag) (H H' : Hp) (Z : AS) (k : Nat) (d : D) (v : V) : Prop := ∃ O : AS, (∀ x, O x → H x = none) ∧ Own K H' (fun x => Z x ∨ O x) k d v O
def spD (K : PySem.W.Frag) (ec : EC) (n : Nat) (m : Fn) : Sp := fun vs H Q E => vs.length = n ∧ ∃ (ds : List D) (Z : AS), (∀ x, Z x → IsM H x) ∧ RepRs K (cut H Z) ds vs ∧
  out (m ds) (fun a => ∀ v H', Same H H' → RetR K H H' Z a.1 a.2 v → Q v H') fun x p => ∀ cls dd H', Same H H' → IsExc ec x p cls dd H' → E cls dd H'
/-- a def that is called by its name -/
structure Cal (P : Program) (w : World) (K : PySem.W.Frag) (mg : Str → Option Value) (base : Heap) (ec : EC) where
  name : String
  n : Nat
  m : Fn
  k : Nat
  f : Addr
  fd : FuncData
  ps : List Str
  ok : FnG P w K mg base k f fd ps (spD K ec n m)
  gm : mg (Str.ofString name) = some (.ref f)
  kp : PySem.W.keepIn K (.ref f) = true
  b : Binds K fd ps []
/-- a constant of the module -/
structure Con1 (K : PySem.W.Frag) (mg : Str → Option Value) where
  name : String
  d : D
  v : V
  u : Value
  gm : mg (Str.ofString name) = some u
  r : RelV v u
  rep : ∀ H, RepR K H d v
/-- the names that a code speaks of -/
structure Cf where
  N : List Str
  gc : List String
  bn : List String
  fs : List (String × Nat)
  rs : List String := []
  bx : List String := []
  ks : List (String × Kn) := []
  ri : List (String × String) := []

/-! ### a code stands for an expression -/
def visB (sc : Scope) (x : Str) : Bool := match sc.names.lookup x with
  | some .local => true
  | some .cell => true
  | some .free => true
  | _ => false
def glB (sc : Scope) (x : Str) : Bool := decide (sc.names.lookup x = some .globalImplicit)
def nmB (x : Str) : Bool := !(x == ("__debug__" : Str)) && !(x == ("__classdict__" : Str)) && !(x == ("__name__" : Str))
def noStar : Expr → Bool
  | .Starred _ _ => false
  | _ => true
def noStars : List Expr → Bool
  | [] => true
  | e :: es => noStar e && noStars es
def plainIx : Expr → Bool
  | .Slice _ _ _ _ => false
  | _ => true
def litB : D → Const → Bool
  | .non, .none => true
  | .bl a, .bool b => a == b
  | .int a, .int b => decide (a = b)
  | .str s, .str x => decide (x.cps.toList = s)
  | _, _ => false
def plainTest : Expr → Bool
  | .Name _ _ => true
  | .Call _ _ _ _ => true
  | .Subscript _ _ _ => true
  | .Constant _ _ _ => true
  | .ListComp _ _ _ _ => true
  | _ => false
def biN : Bi → String
  | .len => "len" | .int => "int" | .list => "list" | .tuple => "tuple" | .abs => "abs" | .max2 => "max" | .min2 => "min" | .sum => "sum" | .maxL => "max" | .minL => "min" | .all => "all" | .any => "any" | .repr => "repr" | .str => "str" | .sortI => "sorted"
def ownB (N : List Str) (is : List Nat) : List (Str × Nat) := is.map fun i => (N.getD i ("" : Str), i)
/-- whose cells were made at the entry: a def's: all; a block's: its own -/
def fnB : Option Scope → Str → Bool
  | none, _ => true
  | some raw, x => decide (raw.names.lookup x = some .cell)
/-- the stored names: of the block that runs -/
def locB (lv : Option Scope) (sc : Scope) (x : Str) : Bool := match sc.names.lookup x with
  | some .local => true
  | some .cell => fnB lv x
  | _ => false
mutual
def okP (cf : Cf) (lv : Option Scope) (sc : Scope) : Pat → Expr → Bool
  | .nm i, .Name x _ => decide (cf.N[i]? = some x) && locB lv sc x
  | .tp ps, .Tuple es _ _ => okPs cf lv sc ps es
  | _, _ => false
def okPs (cf : Cf) (lv : Option Scope) (sc : Scope) : List Pat → List Expr → Bool
  | [], [] => true
  | p :: ps, e :: es => okP cf lv sc p e && okPs cf lv sc ps es && noStar e
  | _, _ => false
end
def plainBase : Expr → Bool
  | .Call _ [] _ _ => false
  | _ => true
def isTupE : Expr → Bool
  | .Tuple _ _ _ => true
  | _ => false
def notSet : Expr → Bool
  | .Set _ _ _ => false
  | _ => true
def one1 (cf : Cf) (sc : Scope) (x : Str) (want : String) : Bool := decide (Str.ofString want = x) && cf.bn.contains want && glB sc x && nmB x
def glX (cf : Cf) (sc : Scope) (j : Nat) (x : Str) : Bool := (match cf.gc[j]? with | some y => decide (Str.ofString y = x) | none => false) && glB sc x && nmB x
def fnX (cf : Cf) (sc : Scope) (j : Nat) (x : Str) (l : Nat) : Bool := (match cf.fs[j]? with | some (y, n) => decide (Str.ofString y = x) && decide (l = n) | none => false) && glB sc x && nmB x
def okKV : List (D × D) → List (Option Expr) → List Expr → Bool
  | [], [], [] => true
  | p :: ps, some (.Constant c _ _) :: ks, .Constant c' _ _ :: vs => litB p.1 c && keyD p.1 && litB p.2 c' && okKV ps ks vs
  | _, _, _ => false
mutual
def okE (cf : Cf) : Ex → Scope → Expr → Bool
  | .var i, sc, e => (match e with
    | .Name x _ => decide (cf.N[i]? = some x) && visB sc x && nmB x
    | _ => false)
  | .lit d, _, e => (match e with
    | .Constant c _ _ => litB d c
    | _ => false)
  | .glob j, sc, e => (match e with
    | .Name x _ => glX cf sc j x
    | _ => false)
  | .bin o a b, sc, e => (match e with
    | .BinOp l op r _ => decide (o = op) && okE cf a sc l && okE cf b sc r
    | _ => false)
  | .un o a, sc, e => (match e with
    | .UnaryOp op e _ => decide (o = op) && okE cf a sc e
    | _ => false)
  | .cmp o a b, sc, e => (match e with
    | .Compare l [op] [r] _ => decide (o = op) && okE cf a sc l && okE cf b sc r && !(behindInMarks op r)
    | _ => false)
  | .chain o o' a b c, sc, e => (match e with
    | .Compare l [op, op'] [r, r'] _ => decide (o = op) && decide (o' = op') && okE cf a sc l && okE cf b sc r && okE cf c sc r' && !(lastMarks [op, op'] [r, r'])
    | _ => false)
  | .and a b, sc, e => (match e with
    | .BoolOp .And [x, y] _ => okE cf a sc x && okE cf b sc y
    | .BoolOp .And (x :: y :: z :: rest) pos => okE cf a sc x && okE cf b sc (.BoolOp .And (y :: z :: rest) pos)
    | _ => false)
  | .or a b, sc, e => (match e with
    | .BoolOp .Or [x, y] _ => okE cf a sc x && okE cf b sc y
    | .BoolOp .Or (x :: y :: z :: rest) pos => okE cf a sc x && okE cf b sc (.BoolOp .Or (y :: z :: rest) pos)
    | _ => false)
  | .not a, sc, e => (match e with
    | .UnaryOp .Not e _ => okE cf a sc e
    | _ => false)
  | .ite c a b, sc, e => (match e with
    | .IfExp t x y _ => okT cf c sc t && okE cf a sc x && okE cf b sc y
    | _ => false)
  | .idx a i, sc, e => (match e with
    | .Subscript v s _ => okE cf a sc v && okE cf i sc s && plainIx s
    | _ => false)
  | .sl a lo hi, sc, e => (match e with
    | .Subscript v (.Slice l u none _) _ => okE cf a sc v && okO cf lo sc l && okO cf hi sc u
    | _ => false)
  | .rev a, sc, e => (match e with
    | .Subscript v (.Slice none none (some (.UnaryOp .USub (.Constant (.int i) _ _) _)) _) _ => decide (i = 1) && okE cf a sc v
    | _ => false)
  | .call j es, sc, e => (match e with
    | .Call (.Name x _) (e :: args) [] _ => fnX cf sc j x (e :: args).length && noStars (e :: args) && okEs cf es sc (e :: args)
    | .Call (.Name x _) [] [] _ => fnX cf sc j x 0 && es.isEmpty
    | _ => false)
  | .keyed mn j es, sc, e => (match e with
    | .Call (.Name x _) [e] [⟨some kw, .Name f _, _⟩] _ => one1 cf sc x (if mn then "min" else "sorted") && decide (kw = Str.ofString "key") && fnX cf sc j f 1 && noStar e && okEs cf es sc [e]
    | _ => false)
  | .bi b es, sc, e => (match e with
    | .Call (.Name x _) (e :: args) [] _ => one1 cf sc x (biN b) && noStars (e :: args) && okEs cf es sc (e :: args)
    | _ => false)
  | .me m a es, sc, e => (match e with
    | .Call (.Attribute o nm apos) (e :: args) [] cpos => decide (Str.ofString (meN m) = nm) && noStars (e :: args) && decide (args.length < 20) && plainBase o && (apos.endLine == cpos.line) && okE cf a sc o && okEs cf es sc (e :: args)
    | _ => false)
  | .tup es, sc, e => (match e with
    | .Tuple elts _ _ => noStars elts && okEs cf es sc elts
    | _ => false)
  | .list es, sc, e => (match e with
    | .List elts _ => noStars elts && okEs cf es sc elts
    | _ => false)
  | .isTy a t, sc, e => (match e with
    | .Call (.Name x _) [e, .Name y _] [] _ => one1 cf sc x "isinstance" && one1 cf sc y t && ["str", "int", "bool", "list", "tuple"].contains t && noStar e && okE cf a sc e
    | _ => false)
  | .comp p it cs el, sc, e => (match e with
    | .ListComp elt [⟨tg, iter, ifs, as⟩] scope _ => decide (as = 0) && okI cf it sc tg iter && notSet iter && blkC cf.N sc scope (ownB cf.N p.slots) && okP cf (some scope) (relS scope sc) p tg && okTs cf cs (relS scope sc) ifs && okE cf el (relS scope sc) elt
    | _ => false)
  | .tupS a b c, sc, e => (match e with
    | .Tuple [x, y, .Starred z _] _ _ => noStar x && noStar y && okE cf a sc x && okE cf b sc y && okE cf c sc z
    | _ => false)
  | .rgl1 t a, sc, e => (match e with
    | .Call (.Name x _) [.Call (.Name y _) [e] [] _] [] _ => one1 cf sc x (if t then "tuple" else "list") && one1 cf sc y "range" && noStar e && okE cf a sc e
    | _ => false)
  | .rgl2 t a b, sc, e => (match e with
    | .Call (.Name x _) [.Call (.Name y _) [e, e'] [] _] [] _ => one1 cf sc x (if t then "tuple" else "list") && one1 cf sc y "range" && noStar e && noStar e' && okE cf a sc e && okE cf b sc e'
    | _ => false)
  | .dlk ps a, sc, e => (match e with
    | .Subscript (.Dict keys vals _) s _ => okKV ps keys vals && !ps.isEmpty && decide (ps.length ≤ 15) && plainIx s && okE cf a sc s
    | _ => false)
  | .dnw, _, e => (match e with
    | .Dict [] [] _ => true
    | _ => false)
  | .dsp k v, sc, e => (match e with
    | .Dict [some x] [y] _ => okE cf k sc x && okE cf v sc y
    | _ => false)
  | .dgt a k d, sc, e => (match e with
    | .Call (.Attribute (.Name x px) nm apos) [y, z] [] cpos => decide (nm = "get") && okE cf a sc (.Name x px) && noStars [y, z] && (apos.endLine == cpos.line) && okE cf k sc y && okE cf d sc z
    | _ => false)
  | .tix a i, sc, e => (match e with
    | .Call (.Attribute o nm apos) [y] [] cpos => decide (nm = "index") && plainBase o && noStar y && (apos.endLine == cpos.line) && okE cf a sc o && okE cf i sc y
    | _ => false)
  | .dlg ps a d, sc, e => (match e with
    | .Call (.Attribute (.Dict keys vals _) nm apos) [s, .Constant c _ _] [] cpos => decide (nm = "get") && okKV ps keys vals && !ps.isEmpty && decide (ps.length ≤ 15) && noStar s && litB d c && (apos.endLine == cpos.line) && okE cf a sc s
    | _ => false)
def okO (cf : Cf) : Ox → Scope → Option Expr → Bool
  | .no, _, e => e.isNone
  | .yes a, sc, e => (match e with
    | some e => okE cf a sc e
    | none => false)
def okT (cf : Cf) : Tx → Scope → Expr → Bool
  | .and a b, sc, e => (match e with
    | .BoolOp .And [x, y] _ => okT cf a sc x && okT cf b sc y
    | .BoolOp .And (x :: y :: z :: rest) pos => okT cf a sc x && okT cf b sc (.BoolOp .And (y :: z :: rest) pos)
    | _ => false)
  | .or a b, sc, e => (match e with
    | .BoolOp .Or [x, y] _ => okT cf a sc x && okT cf b sc y
    | .BoolOp .Or (x :: y :: z :: rest) pos => okT cf a sc x && okT cf b sc (.BoolOp .Or (y :: z :: rest) pos)
    | _ => false)
  | .not a, sc, e => (match e with
    | .UnaryOp .Not e _ => okT cf a sc e
    | _ => false)
  | .cmp o a b, sc, e => (match e with
    | .Compare l [op] [r] _ => decide (o = op) && okE cf a sc l && okE cf b sc r && !(behindInMarks op r)
    | _ => false)
  | .chain o o' a b c, sc, e => (match e with
    | .Compare l [op, op'] [r, r'] _ => decide (o = op) && decide (o' = op') && okE cf a sc l && okE cf b sc r && okE cf c sc r' && !(lastMarks [op, op'] [r, r'])
    | _ => false)
  | .val c, sc, e => okE cf c sc e && plainTest e
/-- what is walked, with its target -/
def okI (cf : Cf) : Ix → Scope → Expr → Expr → Bool
  | .rng1 a, sc, _, e => (match e with
    | .Call (.Name x _) [e] [] _ => one1 cf sc x "range" && noStar e && okE cf a sc e
    | _ => false)
  | .rng2 a b, sc, _, e => (match e with
    | .Call (.Name x _) [e, e'] [] _ => one1 cf sc x "range" && noStar e && noStar e' && okE cf a sc e && okE cf b sc e'
    | _ => false)
  | .rng3 a b c, sc, _, e => (match e with
    | .Call (.Name x _) [e, e', e''] [] _ => one1 cf sc x "range" && noStar e && noStar e' && noStar e'' && okE cf a sc e && okE cf b sc e' && okE cf c sc e''
    | _ => false)
  | .enum a, sc, tg, e => (match e with
    | .Call (.Name x _) [e] [] _ => one1 cf sc x "enumerate" && noStar e && isTupE tg && okE cf a sc e
    | _ => false)
  | .zip a b, sc, tg, e => (match e with
    | .Call (.Name x _) [e, e'] [] _ => one1 cf sc x "zip" && noStar e && noStar e' && isTupE tg && okE cf a sc e && okE cf b sc e'
    | _ => false)
  | .val c, sc, _, e => okE cf c sc e
def okEs (cf : Cf) : List Ex → Scope → List Expr → Bool
  | [], _, es => es.isEmpty
  | c :: cs, sc, es => (match es with
    | e :: es => noStar e && okE cf c sc e && okEs cf cs sc es
    | [] => false)
def okTs (cf : Cf) : List Tx → Scope → List Expr → Bool
  | [], _, es => es.isEmpty
  | c :: cs, sc, es => (match es with
    | [e] => okT cf c sc e && cs.isEmpty
    | _ => false)
end

/-! ### where a code runs -/
structure Okx (P : Program) (w : World) (K : PySem.W.Frag) (mg : Str → Option Value) (base : Heap) (N : List Str) (kk : Nat) (X : Cx) (sc : Scope) : Prop where
  hP : X.prog = P
  hw : X.w = w
  hK : X.K = K
  hmg : X.mg = mg
  hb : X.base = base
  hN : X.N = N
  hsc : X.env.scope = sc
  calm : X.calm = true
  nd : N.Nodup
  room : Room kk X.A

section
variable {K : PySem.W.Frag} {ec : EC}
/-- the reading of a code -/
def tE (K : PySem.W.Frag) (ec : EC) (W : WX) (F : List Fn) (C : List D) (c : Ex) : TE := fun σ H Q => ∃ (ρ : Env) (B : Hp) (Z : AS) (O : Nat → AS), Rel K B Z O σ H ρ ∧
  aft ec W σ H (ev F C c ρ) (fun k => ∀ v H', Same H H' → Res K H H' (ZO Z O) k v → Q v H')
def tEs (K : PySem.W.Frag) (ec : EC) (W : WX) (F : List Fn) (C : List D) (cs : List Ex) : TA := fun σ H Q => ∃ (ρ : Env) (B : Hp) (Z : AS) (O : Nat → AS), Rel K B Z O σ H ρ ∧
  aft ec W σ H (evs F C cs ρ) (fun ks => ∀ vs H', Same H H' → Ress K H H' (ZO Z O) ks vs → Q vs H')
def tT (K : PySem.W.Frag) (ec : EC) (W : WX) (F : List Fn) (C : List D) (c : Tx) : TT := fun σ H Q => ∃ (ρ : Env) (B : Hp) (Z : AS) (O : Nat → AS), Rel K B Z O σ H ρ ∧
  aft ec W σ H (tst F C c ρ) (fun b => ∀ H', Same H H' → Q b H')
def tO (K : PySem.W.Frag) (ec : EC) (W : WX) (F : List Fn) (C : List D) (c : Ox) : TO := fun σ H Q => ∃ (ρ : Env) (B : Hp) (Z : AS) (O : Nat → AS), Rel K B Z O σ H ρ ∧
  aft ec W σ H (evO F C c ρ) (fun o => ∀ H', Same H H' → Q o H')
theorem PE.imp {X : Cx} {e : Expr} {t t' : TE} (h : PE X e t) (w : ∀ σ H Q, t' σ H Q → t σ H Q) : PE X e t' := ⟨fun pins s σ H Q I q => h.run pins s σ H Q I (w σ H Q q)⟩
theorem PA.imp {X : Cx} {e : List Expr} {t t' : TA} (h : PA X e t) (w : ∀ σ H Q, t' σ H Q → t σ H Q) : PA X e t' := ⟨fun pos pins s σ H Q I q => h.run pos pins s σ H Q I (w σ H Q q)⟩
theorem PT.imp {X : Cx} {e : Expr} {t t' : TT} (h : PT X e t) (w : ∀ σ H Q, t' σ H Q → t σ H Q) : PT X e t' := ⟨fun pins s σ H Q I q => h.run pins s σ H Q I (w σ H Q q)⟩
theorem PW.imp {X : Cx} {e : Expr} {t t' : TT} (h : PW X e t) (w : ∀ σ H Q, t' σ H Q → t σ H Q) : PW X e t' := ⟨fun wh pins s σ H Q I q => h.run wh pins s σ H Q I (w σ H Q q)⟩
theorem PO.imp {X : Cx} {e : Option Expr} {t t' : TO} (h : PO X e t) (w : ∀ σ H Q, t' σ H Q → t σ H Q) : PO X e t' := ⟨fun pins s σ H Q I q => h.run pins s σ H Q I (w σ H Q q)⟩
theorem zo_res (Z O1 : AS) (O : Nat → AS) : (ZO (fun x => Z x ∨ O1 x) O) = fun x => ZO Z O x ∨ O1 x := by
  funext x
  apply propext
  constructor
  · rintro ((z | z) | z)
    · exact .inl (.inl z)
    · exact .inr z
    · exact .inl (.inr z)
  · rintro ((z | z) | z)
    · exact .inl (.inl z)
    · exact .inr z
    · exact .inl (.inr z)
variable {W : WX} {F : List Fn} {C : List D} {σ : L2.St} {H H1 H2 : Hp} {ρ : Env} {B : Hp} {Z : AS} {O : Nat → AS}
/-- behind a first value: the environment as it is, the value's own things reserved -/
theorem Rel.past {k : Kd} {v : V} {O1 : AS} (r : Rel K B Z O σ H ρ) (s : Same H H1) (f : ∀ x, O1 x → H x = none) (r1 : Res1 K H1 (fun x => ZO Z O x ∨ O1 x) k v O1) : Rel K B (fun x => Z x ∨ O1 x) O σ H1 ρ :=
  r.res s f fun x o => r1.dom o
theorem use_E {c : Ex} {Q : VK} (r : Rel K B Z O σ H ρ) (h : aft ec W σ H (ev F C c ρ) (fun k => ∀ v H', Same H H' → Res K H H' (ZO Z O) k v → Q v H')) : tE K ec W F C c σ H Q := ⟨ρ, B, Z, O, r, h⟩
/-- two values one after the other -/
theorem two {a b : Ex} {Q : V → V → Hp → Prop} {P : Kd → Kd → Prop} (r : Rel K B Z O σ H ρ) (h : aft ec W σ H (ev F C a ρ) (fun x => aft ec W σ H (ev F C b ρ) (fun y => P x y)))
    (q : ∀ ka kb v u H2, P ka kb → Same H H2 → Ress K H H2 (ZO Z O) [ka, kb] [v, u] → Q v u H2) : tE K ec W F C a σ H fun v H1 => tE K ec W F C b σ H1 fun u H2 => Q v u H2 := by
  refine use_E r (aft_mono (Same.refl _) h fun ka ha v H1 s1 ⟨O1, f1, r1⟩ => use_E (r.past s1 f1 r1) (aft_mono s1 ha fun kb hb u H2 s2 r2 => ?_))
  rw [zo_res] at r2
  obtain ⟨O2, f2, r2⟩ := r2
  refine q ka kb v u H2 hb (s1.trans s2) (Ress.cons f1 (fun x => r.am) s1 r1 s2 ?_)
  exact ⟨O2, f2, u, [], O2, fun _ => False, rfl, fun x => by simp, fun _ _ z => z, r2, rfl, fun _ z => z⟩
/-- no exception comes from an operation -/
def Calm2 (f : Kd → Kd → R Kd) : Prop := ∀ a b, ¬ wild (f a b)
end
end Px

/-! PxDt: a run has one end; so what holds of it by several roads holds of it at once. -/
namespace Px
open PySem PySem.Spec
theorem runs_det {M : Model} {Γ : PySem.Ctx} {p : Pos} {t : Sem PySem.Fin} {fs : List Frame} {s : Shared} {e : End} {s' : Shared} (h : Runs M Γ p t fs s e s') : ∀ {e2 : End} {s2 : Shared}, Runs M Γ p t fs s e2 s2 → e = e2 ∧ s' = s2 := by
  induction h with
  | done => intro e2 s2 h2; cases h2; exact ⟨rfl, rfl⟩
  | raise => intro e2 s2 h2; cases h2; exact ⟨rfl, rfl⟩
  | again _ _ ih => intro e2 s2 h2; cases h2; exact ih ‹_›
  | rule _ ih => intro e2 s2 h2; cases h2; exact ih ‹_›
  | «at» _ ih => intro e2 s2 h2; cases h2; exact ih ‹_›
  | load q _ ih =>
    intro e2 s2 h2
    cases h2
    rename_i o2 q2 r2
    rw [q] at q2; cases q2
    exact ih r2
  | update _ _ ih => intro e2 s2 h2; cases h2; exact ih ‹_›
  | loadIfAlive _ ih => intro e2 s2 h2; cases h2; exact ih ‹_›
  | point _ ih => intro e2 s2 h2; cases h2; exact ih ‹_›
  | alloc _ ih => intro e2 s2 h2; cases h2; exact ih ‹_›
  | fresh _ ih => intro e2 s2 h2; cases h2; exact ih ‹_›
  | ask _ ih => intro e2 s2 h2; cases h2; exact ih ‹_›
  | choose _ _ ih => intro e2 s2 h2; cases h2; exact ih ‹_›
  | os _ ih => intro e2 s2 h2; cases h2; exact ih ‹_›
  | handled _ ih => intro e2 s2 h2; cases h2; exact ih ‹_›
  | genState q _ ih =>
    intro e2 s2 h2
    cases h2
    rename_i o2 q2 r2
    rw [q] at q2; cases q2
    exact ih r2
  | stack _ ih => intro e2 s2 h2; cases h2; exact ih ‹_›
  | thread _ ih => intro e2 s2 h2; cases h2; exact ih ‹_›
  | newGen _ ih => intro e2 s2 h2; cases h2; exact ih ‹_›
  | call _ _ ih1 ih2 =>
    intro e2 s2 h2
    cases h2 with
    | call a b =>
      obtain ⟨e1, e2⟩ := ih1 a
      cases e1; cases e2
      exact ih2 b
    | callSusp a => exact absurd (ih1 a).1 (by simp)
  | callSusp _ ih1 =>
    intro e2 s2 h2
    cases h2 with
    | call a b => exact absurd (ih1 a).1 (by simp)
    | callSusp a =>
      obtain ⟨e1, e2⟩ := ih1 a
      cases e1; cases e2
      exact ⟨rfl, rfl⟩
  | yield => intro e2 s2 h2; cases h2; exact ⟨rfl, rfl⟩
  | resumeFresh q _ _ _ ih1 ih2 =>
    intro e2 s2 h2
    cases h2 with
    | resumeFresh q2 a _ b =>
      rw [q] at q2; cases q2
      obtain ⟨e1, e2⟩ := ih1 a
      cases e1; cases e2
      exact ih2 b
    | resumeSuspended q2 _ _ _ => rw [q] at q2; cases q2
    | resumeJustStarted q2 nv _ => exact absurd rfl nv
    | resumeRunning q2 _ => rw [q] at q2; cases q2
    | resumeFinished q2 _ => rw [q] at q2; cases q2
  | resumeSuspended q _ _ _ ih1 ih2 =>
    intro e2 s2 h2
    cases h2 with
    | resumeFresh q2 _ _ _ => rw [q] at q2; cases q2
    | resumeSuspended q2 a _ b =>
      rw [q] at q2; cases q2
      obtain ⟨e1, e2⟩ := ih1 a
      cases e1; cases e2
      exact ih2 b
    | resumeJustStarted q2 _ _ => rw [q] at q2; cases q2
    | resumeThrowFresh q2 _ => rw [q] at q2; cases q2
    | resumeRunning q2 _ => rw [q] at q2; cases q2
    | resumeFinished q2 _ => rw [q] at q2; cases q2
  | resumeJustStarted q nv _ ih =>
    intro e2 s2 h2
    cases h2 with
    | resumeFresh _ _ _ _ => exact absurd rfl nv
    | resumeSuspended q2 _ _ _ => rw [q] at q2; cases q2
    | resumeJustStarted _ _ a => exact ih a
    | resumeRunning q2 _ => rw [q] at q2; cases q2
    | resumeFinished q2 _ => rw [q] at q2; cases q2
  | resumeThrowFresh q _ ih =>
    intro e2 s2 h2
    cases h2 with
    | resumeSuspended q2 _ _ _ => rw [q] at q2; cases q2
    | resumeThrowFresh _ a => exact ih a
    | resumeRunning q2 _ => rw [q] at q2; cases q2
    | resumeFinished q2 _ => rw [q] at q2; cases q2
  | resumeRunning q _ ih =>
    intro e2 s2 h2
    cases h2 with
    | resumeFresh q2 _ _ _ => rw [q] at q2; cases q2
    | resumeSuspended q2 _ _ _ => rw [q] at q2; cases q2
    | resumeJustStarted q2 _ _ => rw [q] at q2; cases q2
    | resumeThrowFresh q2 _ => rw [q] at q2; cases q2
    | resumeRunning _ a => exact ih a
    | resumeFinished q2 _ => rw [q] at q2; cases q2
  | resumeFinished q _ ih =>
    intro e2 s2 h2
    cases h2 with
    | resumeFresh q2 _ _ _ => rw [q] at q2; cases q2
    | resumeSuspended q2 _ _ _ => rw [q] at q2; cases q2
    | resumeJustStarted q2 _ _ => rw [q] at q2; cases q2
    | resumeThrowFresh q2 _ => rw [q] at q2; cases q2
    | resumeRunning q2 _ => rw [q] at q2; cases q2
    | resumeFinished _ a => exact ih a
  | segRet _ _ ih1 ih2 =>
    intro e2 s2 h2
    cases h2 with
    | segRet a b =>
      obtain ⟨e1, e2⟩ := ih1 a
      cases e1; cases e2
      exact ih2 b
    | segSuspOut _ a => exact absurd (ih1 a).1 (by simp)
    | segSuspGen _ a _ _ => exact absurd (ih1 a).1 (by simp)
  | segGen _ _ ih1 ih2 =>
    intro e2 s2 h2
    cases h2 with
    | segGen a b =>
      obtain ⟨e1, e2⟩ := ih1 a
      cases e1; cases e2
      exact ih2 b
    | segSuspOut _ a => exact absurd (ih1 a).1 (by simp)
    | segSuspGen _ a _ _ => exact absurd (ih1 a).1 (by simp)
  | segSuspOut n _ ih1 =>
    intro e2 s2 h2
    cases h2 with
    | segRet a b => exact absurd (ih1 a).1 (by simp)
    | segGen a b => exact absurd (ih1 a).1 (by simp)
    | segSuspOut _ a =>
      obtain ⟨e1, e2⟩ := ih1 a
      cases e1; cases e2
      exact ⟨rfl, rfl⟩
    | segSuspGen n2 _ _ _ => rw [n] at n2; cases n2
  | segSuspGen n _ _ _ ih1 ih2 =>
    intro e2 s2 h2
    cases h2 with
    | segRet a b => exact absurd (ih1 a).1 (by simp)
    | segGen a b => exact absurd (ih1 a).1 (by simp)
    | segSuspOut n2 _ => rw [n] at n2; cases n2
    | segSuspGen n2 a _ b =>
      rw [n] at n2; cases n2
      obtain ⟨e1, e2⟩ := ih1 a
      cases e1; cases e2
      exact ih2 b
theorem codeAny_all {M : Model} {A : Around} {c : Code} {s : Shared} {ι : Sort _} (i0 : ι) {R : ι → Result → Shared → Prop} (h : ∀ i, codeAny M A c (R i) s) : codeAny M A c (fun r s' => ∀ i, R i r s') s := by
  intro Γ p hc hb
  obtain ⟨r, s', hr, _⟩ := h i0 Γ p hc hb
  refine ⟨r, s', hr, fun i => ?_⟩
  obtain ⟨r2, s2, hr2, q⟩ := h i Γ p hc hb
  obtain ⟨e1, e2⟩ := runs_det hr hr2
  cases e1; cases e2
  exact q
end Px

/-! PxKy: min and sorted of texts with key= a def. -/
namespace Px
open PySem PySem.Spec PyProof.Rows L2
section
variable {X : Cx} {pins : List (Addr × Obj)} {σ : L2.St} {H H' : Hp} {s s' : Shared}
/-- what is laid behind a state's end -/
structure Behind (X : Cx) (pins : List (Addr × Obj)) (b : Addr) : Prop where
  c : (b ∈ X.ex ∨ X.s_0.heap.objs.size ≤ b) ∧ b ≠ X.env.locals ∧ (∀ x c, X.env.cells.lookup x = some c → c ≠ b) ∧ ∀ p ∈ X.pn ++ pins, p.1 ≠ b
  f : b ∉ frs X.stack
theorem behind_of (I : Inv X pins σ H s) {b : Addr} (hb : s.heap.objs.size ≤ b) : Behind X pins b := by
  refine ⟨⟨.inr (Nat.le_trans I.sz hb), ?_, fun x c e z => ?_, fun p hp z => ?_⟩, fun z => ?_⟩
  · obtain ⟨m, ⟨o, _, _, ho, _⟩, _⟩ := I.loc
    exact Nat.ne_of_gt (Nat.lt_of_lt_of_le (Heap.lt_size ho) hb)
  · obtain ⟨v, o, ho, _⟩ := I.cell x c e
    exact absurd z (Nat.ne_of_lt (Nat.lt_of_lt_of_le (Heap.lt_size ho) hb))
  · exact absurd z (Nat.ne_of_lt (Nat.lt_of_lt_of_le (Heap.lt_size (I.pin p hp).1) hb))
  · obtain ⟨_, o, ho, _⟩ := I.stack.mem z
    exact absurd (Nat.lt_of_lt_of_le (Heap.lt_size ho) hb) (Nat.lt_irrefl _)
/-- untracked things of ours have turned -/
theorem turnedL {ch : List Addr} {h' : Heap} {t' : Nat} (I : Inv X pins σ H s) (k : ∀ b o, b ∉ ch → s.heap.get? b = some o → h'.get? b = some o) (hn : ∀ b ∈ ch, H b = none) (hc : ∀ b ∈ ch, Behind X pins b) : Inv X pins σ H { s with heap := h', toks := t' } := by
  have out : ∀ b u, H b = some u → b ∉ ch := fun b u e z => by rw [hn b z] at e; cases e
  refine I.step (g' := s.gens) (d' := s.drawn) (ch := ch) (fun b hb => (hc b hb).c) (fun b o _ _ h e _ => k b o h e) (fun b o _ _ h e _ => ⟨o.slots, k b o h e⟩) (fun _ _ _ _ n => n) (fun b o h e => ⟨o, k b o h e⟩) (fun _ _ e => e) (fun _ _ _ e => e) (fun b ps e => ⟨#[], by rw [e]; simp⟩) (fun m hm => ?_) (fun b u e => ?_) I.bare
  · obtain ⟨o, es, ep, ho, r⟩ := hm
    exact ⟨o, es, ep, k _ o (fun z => (hc _ z).c.2.1 rfl) ho, r⟩
  · refine (I.hok b u e).stay (fun c v q e2 => k c v ?_ e2) (fun _ q => q) fun _ _ q => q
    rcases q with z | z
    · rw [z]; exact out b u e
    · exact out c _ z
/-- a call of the key at a text -/
theorem key_call {k k' : Nat} {fa : Addr} {fd : FuncData} {ps : List Str} {ec : EC} {m : Fn} (F : FnG X.prog X.w X.K X.mg X.base k fa fd ps (spD X.K ec 1 m)) (bd : Binds X.K fd ps []) {A' : Around} (gA : A'.guards = some []) (rA : Room k A') (fA : A'.frames = X.A.frames)
    (I : Inv X pins σ H s) {c : List Nat} {d : D} (e : m [.str c] = .ok (k', d)) {u : Value} (hu : RelV (.str (mkS c)) u) :
    codeAny (model X.prog X.w) A' (.call (.ref fa) ⟨[u], []⟩) (fun r s' => ∃ w, r = .ok (.ret w) ∧ s'.os = s.os ∧ AllBare s'.gens ∧ ∃ v H', Un (frs X.stack) [] H H' s.heap s'.heap ∧ HOk X.prog X.w H' s'.heap ∧ RelV v w ∧ Same H H' ∧ RepR X.K H' d v) s := by
  have e0 := I.env0
  have sp : spD X.K ec 1 m [.str (mkS c)] H (fun v H' => Same H H' ∧ RepR X.K H' d v) (fun _ _ _ => False) := by
    refine ⟨rfl, [.str c], fun _ => False, fun _ z => z.elim, RepRs.cons (by unfold RepR; rfl) RepRs.nil, ?_⟩
    rw [e]
    exact fun v H' s' ⟨O, _, w⟩ => ⟨s', w.rep⟩
  have bd' := bd s [u] I.kIn (by rw [List.append_nil]; exact F.len _ _ _ _ sp)
  rw [List.append_nil] at bd'
  refine codeAny_mono (F.run A' X.stack s H [u] [.str (mkS c)] _ _ gA rA ⟨fA.trans e0.frames, e0.mod, e0.bs, e0.bsz, e0.funs, e0.frf, e0.hok, e0.bare⟩ bd' (.cons hu .nil) sp) ?_
  intro r s' done
  match r, done with
  | .error e, ⟨_, _, _, _, _, _, _, _, _, _, _, _, z⟩ => exact z.elim
  | .ok (.ret w), ⟨v, H', os, bare, un, hok, rv, q1, q2⟩ => exact ⟨w, rfl, os, bare, v, H', un, hok, rv, q1, q2⟩
/-- a state on the way -/
structure PJ (X : Cx) (pins : List (Addr × Obj)) (σ : L2.St) (H0 : Hp) (N : List Addr) (s : Shared) (H' : Hp) : Prop where
  inv : Inv X pins σ H' s
  same : Same H0 H'
  non : ∀ b ∈ N, H' b = none
/-- .. behind a call of the key -/
theorem PJ.call {H0 : Hp} {N : List Addr} {H1 H2 : Hp} (p : PJ X pins σ H0 N s H1) (bh : ∀ b ∈ N, Behind X pins b) (ex : ∀ b ∈ N, ∃ o, s.heap.get? b = some o) (os : s'.os = s.os) (bare : AllBare s'.gens) (un : Un (frs X.stack) [] H1 H2 s.heap s'.heap) (hok : HOk X.prog X.w H2 s'.heap) (sm : Same H1 H2) :
    PJ X pins σ H0 N s' H2 ∧ ∀ b ∈ N, ∀ o, s.heap.get? b = some o → s'.heap.get? b = some o := by
  refine ⟨⟨p.inv.call' os un hok bare (ch := []) (fun b z => absurd z (by simp)), p.same.trans sm, fun b hb => ?_⟩, fun b hb o e => un.keep b o e (p.non b hb) (bh b hb).f (by simp)⟩
  obtain ⟨o, e⟩ := ex b hb
  exact un.free b o e (p.non b hb) (by simp)
theorem PJ.moved {H0 : Hp} {N : List Addr} {H1 : Hp} (p : PJ X pins σ H0 N s H1) (bh : ∀ b ∈ N, Behind X pins b) {ch : List Addr} (hc : ∀ b ∈ ch, b ∈ N) (mv : Moved ch (fun a b => b = a) s s') : PJ X pins σ H0 N s' H1 := by
  obtain ⟨h', g', d', t', o'⟩ := s'
  obtain ⟨k, g, d, o, t⟩ := mv
  have g : g' = s.gens := g
  have d : d' = s.drawn := d
  have o : o' = s.os := o
  subst g; subst d; subst o
  exact ⟨turnedL (h' := h') (t' := t') p.inv k (fun b hb => p.non b (hc b hb)) fun b hb => bh b (hc b hb), p.same, p.non⟩
end
section
variable {prog : Program} {w : World} {A : Around}
/-- a list, walked, its items known by what they stand for -/
theorem walkL (hh : A.handled = none) (it a : Addr) (hne : a ≠ it) (ys : List V) : WalksS prog w A it [it, a] [it] (fun a b => b = a) ys.length (fun i v => ∃ y, ys[i]? = some y ∧ RelV y v) (fun i s => ∃ its : List Value, Vals ys its ∧ s.heap.IsListIter it a i ∧ s.heap.IsList a its.toArray) where
  sub := fun b hb => by simp at hb; simp [hb]
  grefl := fun _ => rfl
  gtrans := fun _ _ _ h1 h2 => h2.trans h1
  frame := fun i s h' tk ⟨its, rv, st⟩ ht hk => ⟨its, rv, st.1.at fun o e => hk it (by simp) o e, st.2.at fun o e => hk a (by simp) o e⟩
  item := fun i s Q E hi ⟨its, rv, st⟩ hQ => by
    have W := (Walks.list (prog := prog) (w := w) (A := A) hh it a hne its.toArray).toS
    refine W.item i s Q E (by rw [List.size_toArray, ← rv.length]; exact hi) st fun v s' hP st' mv => hQ v s' ?_ ⟨its, rv, st'⟩ mv
    have hP : its.toArray[i]? = some v := hP
    obtain ⟨u, e, r⟩ := rv.get (List.getElem?_eq_getElem hi)
    refine ⟨_, List.getElem?_eq_getElem hi, ?_⟩
    rw [List.getElem?_toArray, e] at hP
    cases hP
    exact r
  done := fun s Q E ⟨its, rv, st⟩ hQ => by
    have W := (Walks.list (prog := prog) (w := w) (A := A) hh it a hne its.toArray).toS
    refine W.done s Q E ?_ hQ
    rw [List.size_toArray, ← rv.length]
    exact st
  self := fun _ _ _ _ ⟨its, rv, st⟩ hQ => wpAny_pyIter_listiter st.1 hQ
end
section
variable {X : Cx} {k : Nat} {fa : Addr} {fd : FuncData} {ps : List Str} {ec : EC} {m : Fn}
/-- texts and their keys -/
structure Keyed1 (m : Fn) (cs : List (List Nat)) (ds : List D) : Prop where
  len : ds.length = cs.length
  at_ : ∀ (i : Nat) (c : List Nat) (d : D), cs[i]? = some c → ds[i]? = some d → ∃ k', m [.str c] = .ok (k', d)
  ok : keyOk ds = true
def rMinK (K : PySem.W.Frag) (fa : Addr) (m : Fn) : List V → List V → Hp → VK → Prop := fun vs zs H Q => ∃ (a : Addr) (cs : List (List Nat)) (ds : List D), vs = [V.ref a] ∧ zs = [V.ref fa] ∧ SqL K H a (cs.map fun c => V.str (mkS c)) ∧ cs ≠ [] ∧ Keyed1 m cs ds ∧
  ∀ c H', cs[bestK ds (cs.length - 1)]? = some c → Same H H' → Q (.str (mkS c)) H'
theorem cr_minK (F : FnG X.prog X.w X.K X.mg X.base k fa fd ps (spD X.K ec 1 m)) (bd : Binds X.K fd ps []) (gu : X.A.guards = some []) (rm : Room k X.A.in1) : CallRK X (.builtin "min") [Str.ofString "key"] (rMinK X.K fa m) := by
  intro pins s σ H vs zs us ws Q I r rz ⟨a, cs, ds, e1, e2, hs, ne, hk, q⟩
  subst e1; subst e2
  obtain rfl := Vals.ref1 r
  obtain rfl := Vals.ref1 rz
  show wpAny _ _ (call (.builtin "min") [.ref a] [(Str.ofString "key", .ref fa)]) _ _ _
  obtain ⟨its0, rv0, pl0, hz⟩ := I.list hs
  have hlt : a < s.heap.objs.size := by obtain ⟨_, _, e, _⟩ := pl0; exact Heap.lt_size e
  obtain ⟨it, hit0⟩ : ∃ it, it = s.heap.objs.size := ⟨_, rfl⟩
  obtain ⟨S, hS0⟩ : ∃ S, S = s.heap.objs.size + 1 := ⟨_, rfl⟩
  have bh : ∀ b ∈ [S, it], Behind X pins b := fun b hb => by
    rcases List.mem_cons.mp hb with e | hb
    · exact behind_of I (by rw [e, hS0]; exact Nat.le_succ _)
    · rw [List.mem_singleton.mp hb, hit0]; exact behind_of I (Nat.le_refl _)
  have hcl : (cs.map fun c => V.str (mkS c)).length = cs.length := List.length_map _
  have inDs : ∀ {i : Nat} {d : D}, ds[i]? = some d → d ∈ ds := fun e => List.mem_of_getElem? e
  refine call_min_walkK (wpAny_pyIter_list pl0.isList ?_)
  refine ⟨s.heap.objs.size, [s.heap.objs.size, a], [s.heap.objs.size], fun a b => b = a, _, _, _, fun s' => ∃ H', PJ X pins σ H [S, it] s' H', fun i ky s' => ∃ d H' v, ds[i]? = some d ∧ PJ X pins σ H [S, it] s' H' ∧ RelV v ky ∧ RepR X.K H' d v,
    fun i j => ltD (ds.getD i .non) (ds.getD j .non), rfl, walkL (A := X.A.in1) rm.hd s.heap.objs.size a (Nat.ne_of_lt hlt) (cs.map fun c => V.str (mkS c)), ⟨its0, rv0, ⟨_, Heap.get?_push_size _ rfl, rfl, rfl⟩, pl0.isList.push _⟩, ?_, ?_, ?_, ?_, ?_⟩
  · intro b hb
    show b < (s.heap.push _).objs.size
    rw [Heap.size_push]
    rcases List.mem_cons.mp hb with rfl | hb
    · exact Nat.lt_succ_self _
    · rw [List.mem_singleton.mp hb]; exact Nat.lt_succ_of_lt hlt
  · rw [hcl]; exact List.length_pos_iff.mpr ne
  · have hSz : (s.heap.push { cls := .type "list_iterator", data := .fields #[.ref a, .int 0 0] }).objs.size = S := by rw [Heap.size_push, hS0]
    show KeyRun _ _ _ _ _ (s.heap.push { cls := .type "list_iterator", data := .fields #[.ref a, .int 0 0] }).objs.size _ _ _ _ _ _ _ _
    rw [hSz, ← hit0]
    constructor
    · intro s1 s2 ⟨H1, p1⟩ mv
      exact ⟨H1, p1.moved bh (fun b hb => hb) mv⟩
    · intro i ky s1 s2 ⟨d, H1, v, e, p1, r1, r2⟩ mv
      exact ⟨d, H1, v, e, p1.moved bh (fun b hb => hb) mv, r1, r2⟩
    · intro i v s1 o Q1 E1 hi ⟨y, hy, ry⟩ ⟨H1, p1⟩ ⟨its, rv, hit, hil⟩ hS cont
      rw [hcl] at hi
      rw [List.getElem?_map, List.getElem?_eq_getElem hi] at hy
      cases hy
      have hd : ds[i]? = some (ds[i]'(by rw [hk.len]; exact hi)) := List.getElem?_eq_getElem _
      obtain ⟨k', e⟩ := hk.at_ i _ _ (List.getElem?_eq_getElem hi) hd
      have ex : ∀ b ∈ [S, it], ∃ o, s1.heap.get? b = some o := fun b hb => by
        rcases List.mem_cons.mp hb with e | hb
        · rw [e]; exact ⟨_, hS⟩
        · rw [List.mem_singleton.mp hb]
          obtain ⟨o, e, _⟩ := hit
          exact ⟨o, e⟩
      have all := codeAny_all (ι := { H' // PJ X pins σ H [S, it] s1 H' }) ⟨H1, p1⟩ (fun p => key_call F bd (A' := X.A.in1) gu rm rfl p.2.inv e ry)
      refine wpAny_call (codeAny_mono all ?_)
      intro r s2 hall
      obtain ⟨w, rfl, os, bare, v1, H2, un, hok, rv1, sm, rp⟩ := hall ⟨H1, p1⟩
      obtain ⟨p2, kp⟩ := p1.call bh ex os bare un hok sm
      obtain ⟨its2, rv2, pl2, _⟩ := p2.inv.list (Same.seq p2.same hs)
      refine cont w s2 ⟨H2, p2⟩ ⟨its2, rv2, hit.at (kp it (by simp)), pl2.isList⟩ (kp S (by simp) o hS) ⟨_, H2, v1, hd, p2, rv1, rp⟩ fun j ky ⟨d', H3, v3, hd', p3, rv3, rp3⟩ => ?_
      obtain ⟨w', e', os', bare', v4, H4, un', hok', _, sm', _⟩ := hall ⟨H3, p3⟩
      exact ⟨d', H4, v3, hd', (p3.call bh ex os' bare' un' hok' sm').1, rv3, RepR.mono sm' rp3⟩
    · intro i j ki kj s1 Q1 E1 _ ⟨d, H1, v, hd, p1, rv, rp⟩ ⟨d', H2, v', hd', p2, rv', rp'⟩ hq
      obtain ⟨o1, o2, o3⟩ := keyOk_at hk.ok (inDs hd)
      obtain ⟨o1', o2', o3'⟩ := keyOk_at hk.ok (inDs hd')
      obtain ⟨as, r1⟩ := Dp.reads p1.inv _ v ki (rp.dps o1) rv
      obtain ⟨bs, r2⟩ := Dp.reads p2.inv _ v' kj (rp'.dps o1') rv'
      refine PySem.W.rcLt_alike _ _ _ s1 ki kj _ _ r1 r2 (keyOk_al hk.ok (inDs hd) (inDs hd')) o2 ?_ _ _ E1 Q1 ?_
      · have h1 := rm.un
        have h2 : X.A.in1.units = X.A.units + 1 := rfl
        have := Nat.min_le_left d.py.depth d'.py.depth
        omega
      · have e1 : ds.getD i .non = d := by rw [List.getD_eq_getElem?_getD, hd]; rfl
        have e2 : ds.getD j .non = d' := by rw [List.getD_eq_getElem?_getD, hd']; rfl
        have hq : Q1 (.bool (ltD (ds.getD i .non) (ds.getD j .non))) s1 := hq
        rw [e1, e2] at hq
        exact hq
  · refine ⟨H, turnedL (ch := []) (t' := s.toks) I (fun b o _ e => Heap.get?_push_of_some _ e) (fun b z => absurd z (by simp)) (fun b z => absurd z (by simp)), Same.refl _, fun b hb => ?_⟩
    rcases List.mem_cons.mp hb with e | hb
    · rw [e, hS0]; exact I.hok.fresh (Nat.le_succ _)
    · rw [List.mem_singleton.mp hb, hit0]; exact I.hok.fresh (Nat.le_refl _)
  · intro v s1 ⟨y, hy, ry⟩ ⟨H1, p1⟩
    rw [hcl, List.getElem?_map] at hy
    cases e : cs[bestK ds (cs.length - 1)]? with
    | none => unfold bestK at e; rw [e] at hy; cases hy
    | some c =>
      have e' := e
      unfold bestK at e'
      rw [e'] at hy
      cases hy
      exact ⟨_, H1, p1.inv, ry, q c H1 e p1.same⟩
end
section
variable {X : Cx} {pins : List (Addr × Obj)} {σ : L2.St} {H : Hp} {s : Shared}
/-- a thing of ours is spoken of from now on -/
theorem track {D : Addr} {o : HO} (I : Inv X pins σ H s) (hn : H D = none) (bh : Behind X pins D) (new : ObjOk X.prog X.w (upd H D o) s.heap D o) : Inv X pins σ (upd H D o) s := by
  have ne : ∀ {b : Addr} {u : HO}, H b = some u → b ≠ D := fun e z => by rw [z, hn] at e; cases e
  have up : ∀ {b : Addr} {u : HO}, H b = some u → upd H D o b = some u := fun e => by unfold upd; rw [if_neg (ne e)]; exact e
  have q := I.step (h' := s.heap) (H' := upd H D o) (g' := s.gens) (d' := s.drawn) (t' := s.toks) (ch := [D]) (fun b hb => by rw [List.mem_singleton.mp hb]; exact bh.c) (fun b o _ _ _ e _ => e) (fun b o _ _ _ e _ => ⟨o.slots, e⟩)
    (fun b o hc _ n => by unfold upd; rw [if_neg (fun z => hc (by simp [z]))]; exact n) (fun b o _ e => ⟨o, e⟩) (fun _ _ e => up e) (fun _ _ _ e => up e) (fun b ps e => ⟨#[], by rw [up e]; simp⟩) (fun m hm => hm) (fun b u e => ?_) I.bare
  · exact q
  · by_cases hb : b = D
    · subst hb
      have e' : o = u := by
        unfold upd at e
        rw [if_pos rfl] at e
        exact Option.some.inj e
      rw [← e']; exact new
    · have e' : H b = some u := by
        unfold upd at e
        rw [if_neg hb] at e
        exact e
      exact (I.hok b u e').stay (fun _ _ _ q => q) (fun _ q => up q) fun _ _ q => up q
end
section
variable {X : Cx} {pins : List (Addr × Obj)} {σ : L2.St} {k : Nat} {fa : Addr} {fd : FuncData} {ps : List Str} {ec : EC} {m : Fn} {P : PySem.Fin → Shared → Prop} {E : Value → Shared → Prop}
theorem keyP_rest (F : FnG X.prog X.w X.K X.mg X.base k fa fd ps (spD X.K ec 1 m)) (bd : Binds X.K fd ps []) (gu : X.A.guards = some []) (rm : Room k X.A.in1.in1) {H0 H1 : Hp} {s : Shared} {D kS : Addr} {e1 : Nat} {its : List Value} {cs : List (List Nat)} {ds : List Px.D}
    (p0 : PJ X pins σ H0 [D, kS] s H1) (bh : ∀ b ∈ [D, kS], Behind X pins b) (rv : Vals (cs.map fun c => V.str (mkS c)) its) (hk : Keyed1 m cs ds) (srt : srtB ds = true)
    (nk : s.heap.get? kS = some (seqObj "list" #[] 0)) (na : s.heap.get? D = some (seqObj "list" #[] e1)) (hka : kS ≠ D) (hZ : its.length ≤ sizeLine)
    (h : ∀ s' H' out c, PJ X pins σ H0 [D, kS] s' H' → s'.heap.get? D = some (seqObj "list" (List.toArray out) c) → PySem.W.KeyedOut false (ds.map Px.D.py) its out → P (.done (.ret .none)) s') :
    wpAny (model X.prog X.w) X.A.in1.in1 (ksk_rest D (.ref fa) false its.toArray e1 (.ref kS)) P E s := by
  have lc : its.length = cs.length := by rw [← rv.length, List.length_map]
  have ld : its.length = ds.length := by rw [lc, hk.len]
  unfold ksk_rest
  refine wpAny_bind (wpAny_rule ?_)
  first
    | rw [List.forIn_toArray]
    | (rw [← Array.forIn_toList]; simp only [List.toList_toArray])
    | rw [← Array.forIn_toList]
  refine wpAny_bind (ksk_fold (fun i s' => ∃ H' kA e, PJ X pins σ H0 [D, kS] s' H' ∧ s'.heap.get? kS = some (seqObj "list" kA e) ∧ s'.heap.get? D = some (seqObj "list" #[] e1) ∧ PySem.W.EachIs (fun u d => ∃ w, RelV w u ∧ RepR X.K H' d w) kA.toList (ds.take i)) its 0 s
    ⟨H1, #[], 0, p0, nk, na, by rw [List.take_zero]; exact .nil⟩ ?step ?done)
  case step =>
    rintro j x s' hx ⟨H2, kA, e, p, nk', na', hks⟩
    simp only [Nat.zero_add] at hks ⊢
    have hj : j < its.length := (List.getElem?_eq_some_iff.mp hx).1
    have hc := List.getElem?_eq_getElem (l := cs) (i := j) (by omega)
    have hd := List.getElem?_eq_getElem (l := ds) (i := j) (by omega)
    obtain ⟨k', ek⟩ := hk.at_ j _ _ hc hd
    obtain ⟨u, eu, ru⟩ := rv.get (i := j) (x := V.str (mkS cs[j])) (by rw [List.getElem?_map, hc]; rfl)
    rw [hx] at eu
    cases eu
    have hz : kA.size ≤ its.length := by
      have h1 := hks.length
      rw [Array.length_toList, List.length_take] at h1
      omega
    have ex : ∀ b ∈ [D, kS], ∃ o, s'.heap.get? b = some o := fun b hb => by
      rcases List.mem_cons.mp hb with e | hb
      · rw [e]; exact ⟨_, na'⟩
      · rw [List.mem_singleton.mp hb]; exact ⟨_, nk'⟩
    have turn : wpAny (model X.prog X.w) X.A.in1.in1 (call (.ref fa) [x]) (fun w s2 => ∃ v H3, PJ X pins σ H0 [D, kS] s2 H3 ∧ (∀ b ∈ [D, kS], ∀ o, s'.heap.get? b = some o → s2.heap.get? b = some o) ∧ RelV v w ∧ Same H2 H3 ∧ RepR X.K H3 ds[j] v) (fun _ _ => False) s' := by
      refine wpAny_call (codeAny_mono (key_call F bd (A' := X.A.in1.in1) gu rm rfl p.inv ek ru) ?_)
      rintro r s2 ⟨w, rfl, os, bare, v, H3, un, hok, rv1, sm, rp⟩
      obtain ⟨p3, kp⟩ := p.call bh ex os bare un hok sm
      exact ⟨v, H3, p3, kp, rv1, sm, rp⟩
    refine wpAny_bind (wpAny_attempt (wpAny_mono turn (fun w s2 he => ?_) fun _ _ hF => hF.elim))
    obtain ⟨v, H3, p3, kp, rv1, sm, rp⟩ := he
    try dsimp only
    have nk2 := kp kS (by simp) _ nk'
    have na2 := kp D (by simp) _ na'
    have s1 := Heap.SameBut.update s2.heap kS (Obj.mapSeq (·.push w))
    obtain ⟨c2, hc2⟩ : ∃ c2, (s2.heap.update kS (Obj.mapSeq (·.push w))).get? kS = some (seqObj "list" (kA.push w) c2) := ⟨_, get?_update_seq nk2 (·.push w)⟩
    have e3 : ds.take (j + 1) = ds.take j ++ [ds[j]] := by rw [List.take_add_one, hd]; rfl
    have e4 : (kA.push w).toList = kA.toList ++ [w] := by simp
    refine wpAny_bind (listUpdate_at nk2 rfl ?_ (Nat.le_trans hz hZ) (Nat.le_trans (Nat.le_of_eq (Array.size_push ..)) (Nat.succ_le_succ (Nat.le_trans hz hZ))))
    refine wpAny_pure ⟨rfl, H3, kA.push w, c2, ⟨turnedL (ch := [kS]) (t' := s2.toks) p3.inv (fun b o hb e => (s1.2 b (fun z => hb (by simp [z]))).trans e) (fun b hb => by rw [List.mem_singleton.mp hb]; exact p3.non _ (by simp)) (fun b hb => by rw [List.mem_singleton.mp hb]; exact bh _ (by simp)), p3.same, p3.non⟩, hc2, (s1.2 D hka.symm).trans na2, ?_⟩
    rw [e3, e4]
    exact PySem.W.each_snoc ⟨v, rv1, rp⟩ (hks.mono fun u d ⟨z, r1, r2⟩ => ⟨z, r1, RepR.mono sm r2⟩)
  case done =>
    rintro s' ⟨H2, kA, e, p, nk', na', hks⟩
    have e3 : ds.take (0 + its.length) = ds := List.take_of_length_le (by omega)
    rw [e3] at hks
    have hks' : PySem.W.EachIs (fun u d => ∃ as, Reads s'.heap u d as) kA.toList (ds.map Px.D.py) := by
      have : ∀ {us : List Value} {es : List Px.D}, (∀ d ∈ es, shp d = true) → PySem.W.EachIs (fun u d => ∃ w, RelV w u ∧ RepR X.K H2 d w) us es → PySem.W.EachIs (fun u d => ∃ as, Reads s'.heap u d as) us (es.map Px.D.py) := by
        intro us es hs q
        induction q with
        | nil => exact .nil
        | cons r _ ih =>
          obtain ⟨w, r1, r2⟩ := r
          exact .cons (Dp.reads p.inv _ w _ (r2.dps (hs _ (by simp))) r1) (ih fun d hd => hs d (by simp [hd]))
      exact this (fun d hd => (keyOk_at hk.ok hd).1) hks
    have hsz : kA.size = its.length := by
      have h1 := hks.length
      rw [Array.length_toList] at h1
      omega
    obtain ⟨G, g1, g2⟩ := restrict s'.heap fun b => !(b == kS)
    have kp : PySem.W.KeepsBut D G s'.heap := fun b o hb e => by
      by_cases z : b = kS
      · rw [g2 b (by simp [z])] at e; cases e
      · rw [g1 b (by simp [z])] at e; exact e
    try dsimp only
    refine wpAny_bind (listItems_at nk' rfl ?_)
    refine PySem.W.keyH_end (κ := PySem.W.dataKind s'.heap (ds.map Px.D.py)) (h₁ := G) kp (g2 kS (by simp)) nk' na' hka (PySem.W.SortsAt.data (s := s') hks' (keyOk_all hk.ok) (srtB_ok srt) fun d hd => ?_) hsz hZ fun h3 tk3 c k3 n3 => ?_
    · obtain ⟨x, hx, rfl⟩ := List.mem_map.mp hd
      have h1 := (keyOk_at hk.ok hx).2.2
      have h2 := rm.un
      omega
    · refine h _ H2 _ c ⟨turnedL (ch := [D, kS]) (t' := tk3) p.inv (fun b o hb e => k3 b o (fun z => hb (by simp [z])) ((g1 b (by simp; exact fun z => hb (by simp [z]))).trans e)) (fun b hb => p.non b hb) bh, p.same, p.non⟩ n3 ⟨s'.heap, kA.toList, keyOk_all hk.ok, rfl, hks'⟩
end
section
variable {X : Cx} {k : Nat} {fa : Addr} {fd : FuncData} {ps : List Str} {ec : EC} {m : Fn}
def rSortK (K : PySem.W.Frag) (fa : Addr) (m : Fn) : List V → List V → Hp → VK → Prop := fun vs zs H Q => ∃ (a : Addr) (cs : List (List Nat)) (ds : List D), vs = [V.ref a] ∧ zs = [V.ref fa] ∧ SqL K H a (cs.map fun c => V.str (mkS c)) ∧ Keyed1 m cs ds ∧ srtB ds = true ∧
  ∀ p H', Same H H' → H' p = none → H p = none → Q (.ref p) (upd H' p (.lst ((sortKL ds cs).map fun c => V.str (mkS c))))
theorem cr_sortK (F : FnG X.prog X.w X.K X.mg X.base k fa fd ps (spD X.K ec 1 m)) (bd : Binds X.K fd ps []) (gu : X.A.guards = some []) (rm : Room k X.A.in1.in1) : CallRK X (.builtin "sorted") [Str.ofString "key"] (rSortK X.K fa m) := by
  intro pins s σ H vs zs us ws Q I r rz ⟨a, cs, ds, e1, e2, hs, hk, srt, q⟩
  subst e1; subst e2
  obtain rfl := Vals.ref1 r
  obtain rfl := Vals.ref1 rz
  show wpAny _ _ (call (.builtin "sorted") [.ref a] [(Str.ofString "key", .ref fa)]) _ _ _
  obtain ⟨its, rv, pl, hz⟩ := I.list hs
  have hL : its.length ≤ sizeLine := by rw [← rv.length]; exact hz
  refine PySem.W.sorted_of_sort pl.isList hL (ksk_s1 _ _) (fun _ => ksk_l1 _ _) fun E' => ?_
  rw [ksk_t1]
  have ho := PySem.W.copyHeap_at s.heap its
  have hDn : H (s.heap.objs.size + 1) = none := I.hok.fresh (Nat.le_succ _)
  have hDb : Behind X pins (s.heap.objs.size + 1) := behind_of I (Nat.le_succ _)
  revert ho hDn hDb
  generalize s.heap.objs.size + 1 = L
  intro ho hDn hDb
  have I1 : Inv X pins σ H { s with heap := PySem.W.copyHeap s.heap its } := turnedL (ch := []) (t' := s.toks) I (fun b o _ e => PySem.W.copyHeap_old e) (fun b z => absurd z (by simp)) (fun b z => absurd z (by simp))
  have ha : L < (PySem.W.copyHeap s.heap its).objs.size := Heap.lt_size ho
  obtain ⟨e1, ho1⟩ : ∃ e1, ((PySem.W.copyHeap s.heap its).update L (Obj.mapSeq fun _ => (#[] : Array Value))).get? L = some (seqObj "list" #[] e1) := ⟨_, get?_update_seq ho fun _ => #[]⟩
  have hkS : (((PySem.W.copyHeap s.heap its).update L (Obj.mapSeq fun _ => (#[] : Array Value))).push (seqObj "tuple" its.toArray 0)).objs.size = (PySem.W.copyHeap s.heap its).objs.size + 1 := by rw [size_push', Heap.size_update]
  have bh : ∀ b ∈ [L, (((PySem.W.copyHeap s.heap its).update L (Obj.mapSeq fun _ => (#[] : Array Value))).push (seqObj "tuple" its.toArray 0)).objs.size], Behind X pins b := fun b hb => by
    rcases List.mem_cons.mp hb with e | hb
    · rw [e]; exact hDb
    · rw [List.mem_singleton.mp hb, hkS]; exact behind_of I1 (Nat.le_succ _)
  unfold ksk_tree
  refine wpAny_bind (listItems_at ho rfl ?_)
  refine wpAny_bind (listUpdate_at ho rfl ?_ (by rw [List.size_toArray]; exact hL) (Nat.zero_le _))
  refine wpAny_bind (seqEpoch_at ho1 rfl ?_)
  refine wpAny_bind (wpAny_newTuple ?_ (by show its.length ≤ _; exact hL))
  refine wpAny_bind (wpAny_newList ?_ (Nat.zero_le _))
  refine wpAny_holding ?_
  refine keyP_rest (σ := σ) F bd gu rm (H0 := H) (H1 := H) (D := L) (kS := (((PySem.W.copyHeap s.heap its).update L (Obj.mapSeq fun _ => (#[] : Array Value))).push (seqObj "tuple" its.toArray 0)).objs.size)
    (s := { s with heap := (((PySem.W.copyHeap s.heap its).update L (Obj.mapSeq fun _ => (#[] : Array Value))).push (seqObj "tuple" its.toArray 0)).push (seqObj "list" #[] 0) }) (cs := cs) (ds := ds) ⟨?_, Same.refl _, fun b hb => ?_⟩ bh rv hk srt
    (Heap.get?_push_size _ rfl) (Heap.get?_push_of_some _ (Heap.get?_push_of_some _ ho1)) (by rw [hkS]; exact Nat.ne_of_gt (Nat.lt_succ_of_lt ha)) hL fun s' H' out c p hD' ko => ⟨rfl, ?_⟩
  · exact turnedL (s := { s with heap := PySem.W.copyHeap s.heap its }) (ch := [L]) (t' := s.toks) I1 (fun b o hb e => PySem.W.sortingHeap_old (vs := its) (fun z => hb (by simp [z])) e) (fun b hb => by rw [List.mem_singleton.mp hb]; exact hDn) (fun b hb => by rw [List.mem_singleton.mp hb]; exact hDb)
  · rcases List.mem_cons.mp hb with e | hb
    · rw [e]; exact hDn
    · rw [List.mem_singleton.mp hb, hkS]; exact I1.hok.fresh (Nat.le_succ _)
  · have ko' : PySem.W.KeyedOut false ((ds.zip cs).map fun p => p.1.py) its out := by rw [zip_py hk.len]; exact ko
    have ev := vals_of_each (PySem.W.keyedOut_each (fun p : Px.D × List Nat => p.1.py) ko' (each_zip hk.len rv))
    rw [le_eq] at ev
    have ev : Vals ((sortKL ds cs).map fun c => V.str (mkS c)) out := by
      unfold sortKL
      rw [List.map_map]
      exact ev
    refine ⟨.ref L, upd H' L (.lst ((sortKL ds cs).map fun c => V.str (mkS c))), track p.inv (p.non L (by simp)) hDb ⟨?_, out, c, ev, hD'⟩, rfl, q L H' p.same (p.non L (by simp)) hDn⟩
    rw [List.length_map, sortKL_len hk.len]
    rw [List.length_map] at hz
    exact hz
end
end Px

/-! Px7: expressions mean what their codes compute. -/
namespace Px
open PySem PySem.Spec L2
section
variable {K : PySem.W.Frag} {ec : EC} {W : WX} {F : List Fn} {C : List D} {X : Cx} {pos : Pos}
theorem bin_calm (o : Operator) : Calm2 (binD o) := by
  intro a b h
  unfold binD at h
  split at h
  all_goals first | (cases h; done) | (split at h <;> (first | (cases h; done) | skip))
  · rename_i k xs l ys _
    unfold chd at h
    repeat' split at h
    all_goals cases h
theorem idx_calm : Calm2 idxD := by
  intro a b h
  unfold idxD at h
  repeat' split at h
  all_goals cases h
theorem cmp_calm (o : CmpOp) (a b : Kd) : ¬ wild (cmpD o a b) := by
  intro h
  unfold cmpD at h
  repeat' split at h
  all_goals cases h
theorem aft_calm {σ : L2.St} {H : Hp} {α : Type} {r : R α} {k : α → Prop} (h : aft ec W σ H r k) (c : ¬ wild r) : ∃ a, r = .ok a ∧ k a := by
  cases r with
  | ok a => exact ⟨a, rfl, h⟩
  | exc x p => exact absurd trivial c
  | draw _ => exact absurd trivial c
  | stuck => exact h.elim
theorem Res.back {H0 H1 H : Hp} {A : AS} {k : Kd} {v : V} (s : Same H0 H1) (h : Res K H1 H A k v) : Res K H0 H A k v := let ⟨O, f, r⟩ := h; ⟨O, fun x o => s.free (f x o), r⟩
theorem e_var {i : Nat} {x : Str} (hN : X.N[i]? = some x) (hv : Vis X.env.scope x) (h1 : (x == ("__debug__" : Str)) = false) (h2 : (x == ("__classdict__" : Str)) = false) : PE X (.Name x pos) (tE K ec W F C (.var i)) := by
  refine PE.imp (pe_var hN hv h1 h2) fun σ H Q ⟨ρ, B, Z, O, r, h⟩ => ?_
  unfold ev at h
  split at h
  · rename_i k d e
    obtain ⟨v, e1, w⟩ := r.own i k d e
    refine ⟨v, e1, h v H (Same.refl _) ?_⟩
    split
    · rename_i hc
      split
      · rename_i hk
        subst hk
        exact ⟨fun _ => False, fun _ z => z.elim, fun _ z => z, w.2.cutO fun z a => a.elim id False.elim⟩
      · exact ⟨fun _ => False, fun _ z => z.elim, fun _ z => z, k, O i, fun z o => .inl (.inr ⟨i, o⟩), w.mono (Same.refl _) fun z a => .inl (a.elim id False.elim)⟩
    · rename_i hc
      exact Own.to_res (by simpa using hc) w (fun z a => a) (Same.refl _)
  · exact h.elim
theorem e_lit {d : D} {c : Const} {j : Nat} (h : litB d c = true) : PE X (.Constant c j pos) (tE K ec W F C (.lit d)) := by
  have go : ∀ {σ : L2.St} {H : Hp} {ρ : Env} {P : Kd → Prop} {d : D}, aft ec W σ H (ev F C (.lit d) ρ) P → P (at9 d) := fun h => by unfold ev at h; exact h
  unfold litB at h
  split at h
  · exact PE.imp pe_non fun σ H Q ⟨ρ, B, Z, O, r, h⟩ => go h _ _ (Same.refl _) Res.non
  · rename_i a b
    have e : a = b := eq_of_beq h
    subst e
    exact PE.imp pe_bl fun σ H Q ⟨ρ, B, Z, O, r, h⟩ => go h _ _ (Same.refl _) Res.bl
  · rename_i a b
    have e : a = b := of_decide_eq_true h
    subst e
    exact PE.imp pe_int fun σ H Q ⟨ρ, B, Z, O, r, h⟩ => go h _ _ (Same.refl _) Res.int
  · rename_i s z
    have e : z.cps.toList = s := of_decide_eq_true h
    subst e
    refine PE.imp pe_str fun σ H Q ⟨ρ, B, Z, O, r, h⟩ => ?_
    have := go h (.str (mkS z.cps.toList)) _ (Same.refl _) Res.str
    rw [mkS_list] at this
    exact this
  · cases h
theorem e_bin {o : Operator} {a b : Ex} {l r : Expr} (ha : PE X l (tE X.K ec W F C a)) (hb : PE X r (tE X.K ec W F C b)) : PE X (.BinOp l o r pos) (tE X.K ec W F C (.bin o a b)) := by
  refine PE.imp (pe_op (op_bin o) ha hb) fun σ H Q ⟨ρ, B, Z, O, r, h⟩ => ?_
  unfold ev at h
  rw [aft_bind] at h
  refine two (P := fun x y => aft ec W σ H (binD o x y) _) r (aft_mono (Same.refl _) h fun x hx => by rw [aft_bind] at hx; exact hx) fun ka kb v u H2 hp s rr => ?_
  obtain ⟨k, e, q⟩ := aft_calm hp (bin_calm o ka kb)
  exact ⟨H, ZO Z O, ka, kb, k, s, fun z => r.am, rr, e, fun v' H' s' res => q v' H' (s.trans s') res⟩
theorem e_idx {a b : Ex} {l r : Expr} (hu : X.A.units + 1 < cLine) (ha : PE X l (tE X.K ec W F C a)) (hb : PE X r (tE X.K ec W F C b)) (hp : PlainIxT r) : PE X (.Subscript l r pos) (tE X.K ec W F C (.idx a b)) := by
  refine PE.imp (pe_ix (op_idx hu) ha hb hp) fun σ H Q ⟨ρ, B, Z, O, r, h⟩ => ?_
  unfold ev at h
  rw [aft_bind] at h
  refine two (P := fun x y => aft ec W σ H (idxD x y) _) r (aft_mono (Same.refl _) h fun x hx => by rw [aft_bind] at hx; exact hx) fun ka kb v u H2 hp s rr => ?_
  obtain ⟨k, e, q⟩ := aft_calm hp (idx_calm ka kb)
  exact ⟨H, ZO Z O, ka, kb, k, s, fun z => r.am, rr, e, fun v' H' s' res => q v' H' (s.trans s') res⟩
/-- a comparison's two sides -/
theorem two_cmp {o : CmpOp} {a b : Ex} {σ : L2.St} {H : Hp} {ρ : Env} {B : Hp} {Z : AS} {O : Nat → AS} {k : Bool → Prop} {Q : VK} (r : Rel X.K B Z O σ H ρ)
    (h : aft ec W σ H (do let x ← ev F C a ρ; let y ← ev F C b ρ; cmpD o x y) k) (q : ∀ c H', k c → Same H H' → Q (.bl c) H') : tOp (rC X.K (cmpD o)) (tE X.K ec W F C a) (tE X.K ec W F C b) σ H Q := by
  rw [aft_bind] at h
  refine two (P := fun x y => aft ec W σ H (cmpD o x y) k) r (aft_mono (Same.refl _) h fun x hx => by rw [aft_bind] at hx; exact hx) fun ka kb v u H2 hp s rr => ?_
  obtain ⟨c, e, qc⟩ := aft_calm hp (cmp_calm o ka kb)
  obtain ⟨ra, rb⟩ := ress2 rr
  exact ⟨ka, kb, c, ra, rb, e, q c H2 qc s⟩
theorem e_cmp {o : CmpOp} {a b : Ex} {l r : Expr} (hu : X.A.units + 65 < cLine) (ha : PE X l (tE X.K ec W F C a)) (hb : PE X r (tE X.K ec W F C b)) (hm : behindInMarks o r = false) : PE X (.Compare l [o] [r] pos) (tE X.K ec W F C (.cmp o a b)) := by
  refine PE.imp (pe_cmpR (op_cmp hu o) ha hb hm) fun σ H Q ⟨ρ, B, Z, O, r, h⟩ => ?_
  unfold ev at h
  refine two_cmp (k := fun c => ∀ v H', Same H H' → Res X.K H H' (ZO Z O) (at9 (.bl c)) v → Q v H') r ?_ fun c H' hk s => hk (.bl c) H' s Res.bl
  rw [aft_bind] at h ⊢
  refine aft_mono (Same.refl _) h fun x hx => ?_
  rw [aft_bind] at hx ⊢
  refine aft_mono (Same.refl _) hx fun y hy => ?_
  rw [aft_bind] at hy
  exact hy
theorem t_cmp {o : CmpOp} {a b : Ex} {l r : Expr} (hu : X.A.units + 65 < cLine) (ha : PE X l (tE X.K ec W F C a)) (hb : PE X r (tE X.K ec W F C b)) (hm : behindInMarks o r = false) : PT X (.Compare l [o] [r] pos) (tT X.K ec W F C (.cmp o a b)) := by
  refine PT.imp (pt_cmpR (op_cmp hu o) ha hb hm) fun σ H Q ⟨ρ, B, Z, O, r, h⟩ => ?_
  unfold tst at h
  exact two_cmp r h fun c H' hk s => ⟨c, rfl, hk H' s⟩
theorem chain_core {o o' : CmpOp} {a b c : Ex} {σ : L2.St} {H : Hp} {ρ : Env} {B : Hp} {Z : AS} {O : Nat → AS} {k : Bool → Prop} {Q : VK} (r : Rel X.K B Z O σ H ρ)
    (h : aft ec W σ H (do let x ← ev F C a ρ; let y ← ev F C b ρ; let r ← cmpD o x y; if r then do let z ← ev F C c ρ; cmpD o' y z else R.ok false) k) (q : ∀ c H', k c → Same H H' → Q (.bl c) H') :
    tChain (rC X.K (cmpD o)) (rC X.K (cmpD o')) (tE X.K ec W F C a) (tE X.K ec W F C b) (tE X.K ec W F C c) σ H Q := by
  rw [aft_bind] at h
  refine use_E r (aft_mono (Same.refl _) h fun ka ha v H1 s1 ⟨O1, f1, r1⟩ => ?_)
  rw [aft_bind] at ha
  have rel1 := r.past s1 f1 r1
  refine use_E rel1 (aft_mono s1 ha fun kb hb u H2 s2 ⟨O2, f2, r2⟩ => ?_)
  rw [aft_bind] at hb
  obtain ⟨c1, e1, hc⟩ := aft_calm hb (cmp_calm o ka kb)
  have rb := r2.rep
  refine ⟨ka, kb, c1, r1.rep.mono s2, rb, e1, c1, rfl, ?_⟩
  cases c1 with
  | false =>
    rw [if_neg Bool.false_ne_true]
    exact q false H2 hc (s1.trans s2)
  | true =>
    rw [if_pos rfl]
    have hc : aft ec W σ H (do let z ← ev F C c ρ; cmpD o' kb z) k := hc
    rw [aft_bind] at hc
    refine use_E (rel1.past s2 f2 r2) (aft_mono (s1.trans s2) hc fun kc hz x H3 s3 r3 => ?_)
    obtain ⟨c2, e2, hk⟩ := aft_calm hz (cmp_calm o' kb kc)
    exact ⟨kb, kc, c2, rb.mono s3, r3.rep, e2, q c2 H3 hk (s1.trans (s2.trans s3))⟩
theorem e_chain {o o' : CmpOp} {a b c : Ex} {l r r' : Expr} (hu : X.A.units + 65 < cLine) (ha : PE X l (tE X.K ec W F C a)) (hb : PE X r (tE X.K ec W F C b)) (hc : PE X r' (tE X.K ec W F C c))
    (hm : lastMarks [o, o'] [r, r'] = false) : PE X (.Compare l [o, o'] [r, r'] pos) (tE X.K ec W F C (.chain o o' a b c)) := by
  refine PE.imp (pe_chain (op_cmp hu o) (op_cmp hu o') ha hb hc hm) fun σ H Q ⟨ρ, B, Z, O, r, h⟩ => ?_
  unfold ev at h
  refine chain_core (k := fun c => ∀ v H', Same H H' → Res X.K H H' (ZO Z O) (at9 (.bl c)) v → Q v H') r ?_ fun c H' hk s => hk (.bl c) H' s Res.bl
  rw [aft_bind] at h ⊢
  refine aft_mono (Same.refl _) h fun x hx => ?_
  rw [aft_bind] at hx ⊢
  refine aft_mono (Same.refl _) hx fun y hy => ?_
  rw [aft_bind] at hy ⊢
  refine aft_mono (Same.refl _) hy fun c1 hz => ?_
  cases c1 with
  | false => exact hz
  | true =>
    have hz : aft ec W σ H (do let z ← ev F C c ρ; let r' ← cmpD o' y z; R.ok (at9 (.bl r'))) _ := hz
    show aft ec W σ H (do let z ← ev F C c ρ; cmpD o' y z) _
    rw [aft_bind] at hz ⊢
    refine aft_mono (Same.refl _) hz fun z hw => ?_
    rw [aft_bind] at hw
    exact hw
theorem t_chain {o o' : CmpOp} {a b c : Ex} {l r r' : Expr} (hu : X.A.units + 65 < cLine) (ha : PE X l (tE X.K ec W F C a)) (hb : PE X r (tE X.K ec W F C b)) (hc : PE X r' (tE X.K ec W F C c))
    (hm : lastMarks [o, o'] [r, r'] = false) : PT X (.Compare l [o, o'] [r, r'] pos) (tT X.K ec W F C (.chain o o' a b c)) := by
  refine PT.imp (pt_chain (op_cmp hu o) (op_cmp hu o') ha hb hc hm) fun σ H Q ⟨ρ, B, Z, O, r, h⟩ => ?_
  unfold tst at h
  exact chain_core r h fun c H' hk s => ⟨c, rfl, hk H' s⟩
theorem e_un {o : UnaryOp} {a : Ex} {e : Expr} (ha : PE X e (tE X.K ec W F C a)) : PE X (.UnaryOp o e pos) (tE X.K ec W F C (.un o a)) := by
  refine PE.imp (pe_un (op_un o) ha) fun σ H Q ⟨ρ, B, Z, O, r, h⟩ => ?_
  unfold ev at h
  rw [aft_bind] at h
  refine use_E r (aft_mono (Same.refl _) h fun k hk v H1 s1 r1 => ?_)
  obtain ⟨k', e', q⟩ := aft_calm hk (fun h => by unfold unD at h; split at h <;> cases h)
  exact ⟨H, ZO Z O, k, k', s1, fun z => r.am, r1, e', fun v' H' s' res => q v' H' (s1.trans s') res⟩
theorem tru_calm (k : Kd) : ¬ wild (truD k) := by
  intro h
  unfold truD at h
  repeat' split at h
  all_goals cases h
theorem tru_core {a : Ex} {σ : L2.St} {H : Hp} {ρ : Env} {B : Hp} {Z : AS} {O : Nat → AS} {k : Bool → Prop} {Q : Bool → Hp → Prop} (r : Rel X.K B Z O σ H ρ)
    (h : aft ec W σ H (do let x ← ev F C a ρ; truD x) k) (q : ∀ c H', k c → Same H H' → Q c H') : tE X.K ec W F C a σ H fun x H1 => ∃ c, TruV X.K x H1 c ∧ Q c H1 := by
  rw [aft_bind] at h
  refine use_E r (aft_mono (Same.refl _) h fun x hx v H1 s1 r1 => ?_)
  obtain ⟨c, e, hc⟩ := aft_calm hx (tru_calm x)
  exact ⟨c, tru_of e r1.rep, q c H1 hc s1⟩
theorem e_not {a : Ex} {e : Expr} (ha : PE X e (tE X.K ec W F C a)) : PE X (.UnaryOp .Not e pos) (tE X.K ec W F C (.not a)) := by
  refine PE.imp (pe_notT ha) fun σ H Q ⟨ρ, B, Z, O, r, h⟩ => ?_
  unfold ev at h
  refine tru_core (k := fun c => ∀ v H', Same H H' → Res X.K H H' (ZO Z O) (at9 (.bl (!c))) v → Q v H') r ?_ fun c H' hk s => hk (.bl (!c)) H' s Res.bl
  rw [aft_bind] at h ⊢
  refine aft_mono (Same.refl _) h fun x hx => ?_
  rw [aft_bind] at hx
  exact hx
theorem t_truth {a : Ex} {e : Expr} (ha : PE X e (tE X.K ec W F C a)) (hp : plainTest e = true) : PT X e (tT X.K ec W F C (.val a)) := by
  refine PT.imp (pt_truth ha fun whole => by cases e <;> first | rfl | cases hp) fun σ H Q ⟨ρ, B, Z, O, r, h⟩ => ?_
  unfold tst at h
  exact tru_core r h fun c H' hk s => hk H' s
theorem t_not {a : Tx} {e : Expr} (ha : PT X e (tT X.K ec W F C a)) : PT X (.UnaryOp .Not e pos) (tT X.K ec W F C (.not a)) := by
  refine PT.imp (pt_not ha) fun σ H Q ⟨ρ, B, Z, O, r, h⟩ => ?_
  unfold tst at h
  rw [aft_bind] at h
  exact ⟨ρ, B, Z, O, r, aft_mono (Same.refl _) h fun b hb H' s => hb H' s⟩
/-! and, or -/
theorem use_T {a : Tx} {σ : L2.St} {H : Hp} {ρ : Env} {B : Hp} {Z : AS} {O : Nat → AS} {Q : Bool → Hp → Prop} (r : Rel K B Z O σ H ρ) (h : aft ec W σ H (tst F C a ρ) (fun b => ∀ H', Same H H' → Q b H')) : tT K ec W F C a σ H Q := ⟨ρ, B, Z, O, r, h⟩
theorem t_and {a b : Tx} {x y : Expr} {rest : List Expr} (ha : PT X x (tT X.K ec W F C a)) (hb : PW X (.BoolOp .And (y :: rest) pos) (tT X.K ec W F C b)) : PW X (.BoolOp .And (x :: y :: rest) pos) (tT X.K ec W F C (.and a b)) := by
  refine PW.imp (pw_and ha hb) fun σ H Q ⟨ρ, B, Z, O, r, h⟩ => ?_
  unfold tst at h
  rw [aft_bind] at h
  refine use_T r (aft_mono (Same.refl _) h fun c hc H1 s1 => ?_)
  cases c with
  | true =>
    rw [if_pos rfl]
    exact use_T (r.mono s1) (aft_mono s1 (show aft ec W σ H (tst F C b ρ) _ from hc) fun d hd H' s => hd H' (s1.trans s))
  | false =>
    rw [if_neg Bool.false_ne_true]
    exact (show ∀ H', Same H H' → Q false H' from hc) H1 s1
theorem t_or {a b : Tx} {x y : Expr} {rest : List Expr} (ha : PT X x (tT X.K ec W F C a)) (hb : PW X (.BoolOp .Or (y :: rest) pos) (tT X.K ec W F C b)) : PW X (.BoolOp .Or (x :: y :: rest) pos) (tT X.K ec W F C (.or a b)) := by
  refine PW.imp (pw_or ha hb) fun σ H Q ⟨ρ, B, Z, O, r, h⟩ => ?_
  unfold tst at h
  rw [aft_bind] at h
  refine use_T r (aft_mono (Same.refl _) h fun c hc H1 s1 => ?_)
  cases c with
  | true =>
    rw [if_pos rfl]
    exact (show ∀ H', Same H H' → Q true H' from hc) H1 s1
  | false =>
    rw [if_neg Bool.false_ne_true]
    exact use_T (r.mono s1) (aft_mono s1 (show aft ec W σ H (tst F C b ρ) _ from hc) fun d hd H' s => hd H' (s1.trans s))
theorem e_and {a b : Ex} {x y : Expr} {rest : List Expr} (ha : PE X x (tE X.K ec W F C a)) (hb : PE X (.BoolOp .And (y :: rest) pos) (tE X.K ec W F C b)) : PE X (.BoolOp .And (x :: y :: rest) pos) (tE X.K ec W F C (.and a b)) := by
  refine PE.imp (pe_and ha hb) fun σ H Q ⟨ρ, B, Z, O, r, h⟩ => ?_
  unfold ev at h
  rw [aft_bind] at h
  refine use_E r (aft_mono (Same.refl _) h fun k hk v H1 s1 r1 => ?_)
  split at hk
  · refine ⟨true, r1.rep.bl, ?_⟩
    rw [if_pos rfl]
    exact use_E (r.mono s1) (aft_mono s1 hk fun d hd v' H' s res => hd v' H' (s1.trans s) (res.back s1))
  · refine ⟨false, r1.rep.bl, ?_⟩
    rw [if_neg Bool.false_ne_true]
    exact (show ∀ v H', Same H H' → Res X.K H H' (ZO Z O) (at9 (.bl false)) v → Q v H' from hk) _ H1 s1 Res.bl
  · exact hk.elim
theorem e_or {a b : Ex} {x y : Expr} {rest : List Expr} (ha : PE X x (tE X.K ec W F C a)) (hb : PE X (.BoolOp .Or (y :: rest) pos) (tE X.K ec W F C b)) : PE X (.BoolOp .Or (x :: y :: rest) pos) (tE X.K ec W F C (.or a b)) := by
  refine PE.imp (pe_or ha hb) fun σ H Q ⟨ρ, B, Z, O, r, h⟩ => ?_
  unfold ev at h
  rw [aft_bind] at h
  refine use_E r (aft_mono (Same.refl _) h fun k hk v H1 s1 r1 => ?_)
  split at hk
  · refine ⟨true, r1.rep.bl, ?_⟩
    rw [if_pos rfl]
    exact (show ∀ v H', Same H H' → Res X.K H H' (ZO Z O) (at9 (.bl true)) v → Q v H' from hk) _ H1 s1 Res.bl
  · refine ⟨false, r1.rep.bl, ?_⟩
    rw [if_neg Bool.false_ne_true]
    exact use_E (r.mono s1) (aft_mono s1 hk fun d hd v' H' s res => hd v' H' (s1.trans s) (res.back s1))
  · exact hk.elim
theorem e_ite {c : Tx} {a b : Ex} {t x y : Expr} (hc : PT X t (tT X.K ec W F C c)) (ha : PE X x (tE X.K ec W F C a)) (hb : PE X y (tE X.K ec W F C b)) : PE X (.IfExp t x y pos) (tE X.K ec W F C (.ite c a b)) := by
  refine PE.imp (pe_ifExp hc ha hb) fun σ H Q ⟨ρ, B, Z, O, r, h⟩ => ?_
  unfold ev at h
  rw [aft_bind] at h
  refine use_T r (aft_mono (Same.refl _) h fun c hc H1 s1 => ?_)
  cases c with
  | true =>
    rw [if_pos rfl]
    exact use_E (r.mono s1) (aft_mono s1 (show aft ec W σ H (ev F C a ρ) _ from hc) fun d hd v' H' s res => hd v' H' (s1.trans s) (res.back s1))
  | false =>
    rw [if_neg Bool.false_ne_true]
    exact use_E (r.mono s1) (aft_mono s1 (show aft ec W σ H (ev F C b ρ) _ from hc) fun d hd v' H' s res => hd v' H' (s1.trans s) (res.back s1))
end
end Px

/-! Px8: slices, displays, calls. -/
namespace Px
open PySem PySem.Spec L2
section
variable {K : PySem.W.Frag} {ec : EC} {W : WX} {F : List Fn} {C : List D} {X : Cx} {pos : Pos}
variable {σ : L2.St} {H H0 H1 H2 : Hp} {A : AS} {ρ : Env} {B : Hp} {Z : AS} {O : Nat → AS}
theorem Res.fwd {k : Kd} {v : V} (s : Same H1 H2) (hA : ∀ x, A x → IsM H x) (h : Res K H H1 A k v) : Res K H H2 A k v := by
  obtain ⟨O, f, r⟩ := h
  exact ⟨O, f, r.mono s (fun x z => .inl z) fun x z => z⟩
/-! slices -/
theorem use_O {a : Ox} {Q : Option Int → Hp → Prop} (r : Rel K B Z O σ H ρ) (h : aft ec W σ H (evO F C a ρ) (fun o => ∀ H', Same H H' → Q o H')) : tO K ec W F C a σ H Q := ⟨ρ, B, Z, O, r, h⟩
theorem o_none : PO X none (tO X.K ec W F C .no) := by
  refine PO.imp po_none fun σ H Q ⟨ρ, B, Z, O, r, h⟩ => ?_
  unfold evO at h
  exact (show ∀ H', Same H H' → Q none H' from h) H (Same.refl _)
theorem o_some {a : Ex} {e : Expr} (ha : PE X e (tE X.K ec W F C a)) : PO X (some e) (tO X.K ec W F C (.yes a)) := by
  refine PO.imp (po_some ha) fun σ H Q ⟨ρ, B, Z, O, r, h⟩ => ?_
  unfold evO at h
  rw [aft_bind] at h
  refine use_E r (aft_mono (Same.refl _) h fun k hk v H1 s1 r1 => ?_)
  split at hk
  · rename_i i
    exact ⟨i, r1.rep.int, (show ∀ H', Same H H' → Q (some i) H' from hk) H1 s1⟩
  · exact hk.elim
theorem sl_calm (k : Kd) (lo hi : Option Int) : ¬ wild (slD k lo hi) := by
  intro h
  unfold slD at h
  split at h
  · split at h <;> cases h
  · unfold chd at h
    repeat' split at h
    all_goals cases h
  · cases h
  · cases h
theorem rev_calm (k : Kd) : ¬ wild (revD k) := by
  intro h
  unfold revD at h
  split at h
  · split at h <;> cases h
  · unfold chd at h
    repeat' split at h
    all_goals cases h
  · cases h
theorem e_sl {a : Ex} {lo hi : Ox} {e : Expr} {l u : Option Expr} {p2 : Pos} (ha : PE X e (tE X.K ec W F C a)) (hl : PO X l (tO X.K ec W F C lo)) (hu : PO X u (tO X.K ec W F C hi)) :
    PE X (.Subscript e (.Slice l u none p2) pos) (tE X.K ec W F C (.sl a lo hi)) := by
  refine PE.imp (pe_slice op_sl ha hl hu) fun σ H Q ⟨ρ, B, Z, O, r, h⟩ => ?_
  unfold ev at h
  rw [aft_bind] at h
  refine use_E r (aft_mono (Same.refl _) h fun k hk v H1 s1 r1 => ?_)
  rw [aft_bind] at hk
  refine use_O (r.mono s1) (aft_mono s1 hk fun o1 h1 H2 s2 => ?_)
  rw [aft_bind] at h1
  refine use_O (r.mono (s1.trans s2)) (aft_mono (s1.trans s2) h1 fun o2 h2 H3 s3 => ?_)
  obtain ⟨k', e', q⟩ := aft_calm h2 (sl_calm k o1 o2)
  have s := s1.trans (s2.trans s3)
  exact ⟨H, ZO Z O, k, k', s, fun z => r.am, r1.fwd (s2.trans s3) fun z => r.am, e', fun v' H' s' res => q v' H' (s.trans s') res⟩
theorem e_rev {a : Ex} {e : Expr} {k : Nat} {p1 p2 p3 : Pos} (ha : PE X e (tE X.K ec W F C a)) : PE X (.Subscript e (.Slice none none (some (.UnaryOp .USub (.Constant (.int 1) k p1) p2)) p3) pos) (tE X.K ec W F C (.rev a)) := by
  refine PE.imp (pe_rev ha) fun σ H Q ⟨ρ, B, Z, O, r, h⟩ => ?_
  unfold ev at h
  rw [aft_bind] at h
  refine use_E r (aft_mono (Same.refl _) h fun k hk v H1 s1 r1 => ?_)
  obtain ⟨k', e', q⟩ := aft_calm hk (rev_calm k)
  exact ⟨H, ZO Z O, k, k', s1, fun z => r.am, r1, e', fun v' H' s' res => q v' H' (s1.trans s') res⟩
/-! several expressions -/
theorem use_Es {cs : List Ex} {Q : List V → Hp → Prop} (r : Rel K B Z O σ H ρ) (h : aft ec W σ H (evs F C cs ρ) (fun ks => ∀ vs H', Same H H' → Ress K H H' (ZO Z O) ks vs → Q vs H')) : tEs K ec W F C cs σ H Q := ⟨ρ, B, Z, O, r, h⟩
theorem starEach_of {e : Expr} {es : List Expr} {env : PySem.Env} (h : noStar e = true) : starEach (e :: es) env = (false, eval e env) :: starEach es env := by
  cases e <;> first | rfl | cases h
theorem a_nil : PA X [] (tEs X.K ec W F C []) := by
  refine PA.imp pa_nil fun σ H Q ⟨ρ, B, Z, O, r, h⟩ => ?_
  unfold evs at h
  exact (show ∀ vs H', Same H H' → Ress X.K H H' (ZO Z O) [] vs → Q vs H' from h) [] H (Same.refl _) Ress.nil
theorem a_cons {c : Ex} {cs : List Ex} {e : Expr} {es : List Expr} (hs : noStar e = true) (ha : PE X e (tE X.K ec W F C c)) (hr : PA X es (tEs X.K ec W F C cs)) : PA X (e :: es) (tEs X.K ec W F C (c :: cs)) := by
  refine PA.imp (pa_cons ha hr (starEach_of hs)) fun σ H Q ⟨ρ, B, Z, O, r, h⟩ => ?_
  unfold evs at h
  rw [aft_bind] at h
  refine use_E r (aft_mono (Same.refl _) h fun k hk v H1 s1 ⟨O1, f1, r1⟩ => ?_)
  rw [aft_bind] at hk
  refine use_Es (r.past s1 f1 r1) (aft_mono s1 hk fun ks hks vs H2 s2 r2 => ?_)
  rw [zo_res] at r2
  exact (show ∀ vs H', Same H H' → Ress X.K H H' (ZO Z O) (k :: ks) vs → Q vs H' from hks) (v :: vs) H2 (s1.trans s2) (Ress.cons f1 (fun x => r.am) s1 r1 s2 r2)
/-! displays -/
theorem mapR_need {ks : List Kd} {vs : List (Nat × D)} (h : mapR needV ks = .ok vs) : ks = vs.map fun p => (some p.1, p.2) := by
  induction ks generalizing vs with
  | nil => cases h; rfl
  | cons k ks ih =>
    unfold mapR at h
    obtain ⟨o, d⟩ := k
    cases o with
    | none => cases h
    | some k =>
      have h : (do let bs ← mapR needV ks; R.ok ((k, d) :: bs)) = R.ok vs := h
      cases q : mapR needV ks with
      | ok bs =>
        rw [q] at h
        cases h
        rw [ih q]; rfl
      | exc x p => rw [q] at h; cases h
      | stuck => rw [q] at h; cases h
      | draw _ => rw [q] at h; cases h
theorem need_calm (ks : List Kd) : ¬ wild (mapR needV ks) := by
  induction ks with
  | nil => intro h; cases h
  | cons k ks ih =>
    intro h
    unfold mapR at h
    obtain ⟨o, d⟩ := k
    cases o with
    | none => cases h
    | some k =>
      have h : wild (do let bs ← mapR needV ks; R.ok ((k, d) :: bs)) := h
      cases q : mapR needV ks with
      | ok bs => rw [q] at h; cases h
      | exc y p' => exact ih (by rw [q]; trivial)
      | stuck => rw [q] at h; cases h
      | draw _ => exact ih (by rw [q]; trivial)
theorem dmin_le {l : List Nat} {k : Nat} (h : k ∈ l) : dmin l ≤ k := by
  induction l with
  | nil => cases h
  | cons a l ih =>
    unfold dmin
    rcases List.mem_cons.mp h with e | h
    · subst e; exact Nat.min_le_left _ _
    · exact Nat.le_trans (Nat.min_le_right _ _) (ih h)
/-- owned values, all to the depth c at the least, as one list -/
theorem ownsK_lower {H : Hp} {A : AS} (c : Nat) : ∀ {ps : List (Nat × D)} {vs : List V} {P : AS}, OwnsK (Res1 K H A) (ps.map fun p => (some p.1, p.2)) vs P → (∀ p ∈ ps, c ≤ p.1) →
    ∃ P' : AS, (∀ x, P' x → P x) ∧ ∀ A' : AS, (∀ x, A' x → A x) → (∀ x, A' x → P x → P' x) → Owns (Own K H A' c) (ps.map (·.2)) vs P'
  | [], _, P, h, _ => ⟨P, fun _ z => z, fun _ _ _ => h⟩
  | p :: ps, _, P, ⟨v, vs', O1, O2, e, h1, h2, r, q⟩, hc => by
    have r : Own K H A p.1 p.2 v O1 := r
    obtain ⟨P1, s1, f1⟩ := Own.lower r c (hc p (by simp))
    obtain ⟨P2, s2, f2⟩ := ownsK_lower c q fun p' m => hc p' (by simp [m])
    refine ⟨fun x => P1 x ∨ P2 x, fun x z => (h1 x).mpr (z.elim (fun z => .inl (s1 x z)) fun z => .inr (s2 x z)), fun A' sA hA => ?_⟩
    refine ⟨v, vs', P1, P2, e, fun x => Iff.rfl, fun x z1 z2 => h2 x (s1 x z1) (s2 x z2), f1 A' sA fun x z o1 => ?_, f2 A' sA fun x z o2 => ?_⟩
    · rcases hA x z ((h1 x).mpr (.inl o1)) with k | k
      · exact k
      · exact (h2 x o1 (s2 x k)).elim
    · rcases hA x z ((h1 x).mpr (.inr o2)) with k | k
      · exact (h2 x (s1 x k) o2).elim
      · exact k
theorem OwnsK.len {R : Kd → V → AS → Prop} : ∀ {ks : List Kd} {vs : List V} {O : AS}, OwnsK R ks vs O → vs.length = ks.length
  | [], _, _, h => by rw [h.1]; rfl
  | k :: ks, _, _, ⟨v, vs', O1, O2, e, h1, h2, r, q⟩ => by subst e; simp [OwnsK.len q]
/-- a new list of values -/
theorem listV_ok {ps : List (Nat × D)} {vs : List V} {r : Kd} (s0 : Same H0 H) (hA : ∀ z, A z → IsM H0 z) (rr : Ress K H0 H A (ps.map fun p => (some p.1, p.2)) vs) (e : listV ps = .ok r) :
    vs.length ≤ sizeLine ∧ ∀ p, H p = none → Res K H0 (upd H p (.lst vs)) A r (.ref p) := by
  unfold listV at e
  split at e <;> cases e
  rename_i hl
  obtain ⟨O, f, w⟩ := rr
  have lw := w.len
  rw [List.length_map] at lw
  refine ⟨by rw [lw, line_eq]; exact hl, fun p hp => ?_⟩
  obtain ⟨P', s', g⟩ := ownsK_lower (dmin (ps.map (·.1))) w fun q m => dmin_le (List.mem_map.mpr ⟨q, m, rfl⟩)
  refine Res.newL (O := P') hp s0 (fun x o => f x (s' x o)) (fun z a => (hA z a).mono s0) (g _ (fun x a => a.elim .inl fun o => .inr (s' x o)) fun x a o => ?_)
  rcases a with a | a
  · exact absurd (f x o) (hA x a).ne
  · exact a
theorem e_list {cs : List Ex} {es : List Expr} (ha : PA X es (tEs X.K ec W F C cs)) : PE X (.List es pos) (tE X.K ec W F C (.list cs)) := by
  refine PE.imp (pe_lst ha) fun σ H Q ⟨ρ, B, Z, O, r, h⟩ => ?_
  unfold ev at h
  rw [aft_bind] at h
  refine use_Es r (aft_mono (Same.refl _) h fun ks hk vs H1 s1 rr => ?_)
  unfold listD at hk
  rw [aft_bind] at hk
  obtain ⟨ps, e1, hk⟩ := aft_calm hk (need_calm ks)
  obtain ⟨k', e', q⟩ := aft_calm hk (fun h => by unfold listV at h; split at h <;> cases h)
  rw [mapR_need e1] at rr
  obtain ⟨h1, h2⟩ := listV_ok s1 (fun z => r.am) rr e'
  exact ⟨h1, fun p hp => q _ _ (s1.trans (same_new hp)) (h2 p hp)⟩
theorem e_tup {cs : List Ex} {es : List Expr} {x1 : Nat} (ha : PA X es (tEs X.K ec W F C cs)) : PE X (.Tuple es x1 pos) (tE X.K ec W F C (.tup cs)) := by
  refine PE.imp (pe_tupN ha) fun σ H Q ⟨ρ, B, Z, O, r, h⟩ => ?_
  unfold ev at h
  rw [aft_bind] at h
  refine use_Es r (aft_mono (Same.refl _) h fun ks hk vs H1 s1 rr => ?_)
  unfold tupD at hk
  rw [aft_bind] at hk
  obtain ⟨ps, e1, hk⟩ := aft_calm hk (need_calm ks)
  obtain ⟨k', e', q⟩ := aft_calm hk (fun h => by split at h <;> cases h)
  rw [mapR_need e1] at rr
  split at e' <;> cases e'
  rename_i hl
  obtain ⟨O1, f, w⟩ := rr
  have lw := w.len
  rw [List.length_map] at lw
  refine ⟨by rw [lw, line_eq]; exact hl, fun p o hp hd => q _ _ (s1.trans (same_new hp)) (Res.tupN hp hd (fun z a => (r.am a).mono s1) ?_)⟩
  obtain ⟨P', s', g⟩ := ownsK_lower 0 w fun q m => Nat.zero_le _
  exact (g (ZO Z O) (fun x a => .inl a) fun x a o => absurd (f x o) (r.am a).ne).rep fun _ _ _ r => r.2
/-! calls of built-ins -/
theorem bi_calm (b : Bi) (ks : List Kd) : ¬ wild (biD b ks) := by
  intro h
  unfold biD at h
  split at h
  all_goals first | (cases h; done) | (split at h <;> first | (cases h; done) | skip) | skip
  all_goals first | (split at h <;> first | (cases h; done) | skip) | skip
  all_goals ((first | unfold sortD chd at h | unfold chd at h); repeat' split at h)
  all_goals cases h
theorem me_calm (m : Me) (k : Kd) (ks : List Kd) : ¬ wild (meD m k ks) := by
  intro h
  unfold meD at h
  repeat' split at h
  all_goals cases h
theorem lf_evs : ∀ {cs : List Ex}, lf (evs F C cs ρ) fun ks => ks.length = cs.length
  | [] => by unfold evs; rfl
  | c :: cs => by
    unfold evs
    refine lf_bind (P := fun _ => True) lf_true fun k _ => lf_bind (lf_evs (cs := cs)) fun ks h => ?_
    show (k :: ks).length = _
    rw [List.length_cons, h, List.length_cons]
theorem bi_boot (b : Bi) : bootBuiltins (Str.ofString (biN b)) = some (biV b) := by cases b <;> decide +kernel
theorem bi_core {b : Bi} {cs : List Ex} {Q : VK} (r : Rel X.K B Z O σ H ρ) (h : aft ec W σ H (ev F C (.bi b cs) ρ) (fun k => ∀ v H', Same H H' → Res X.K H H' (ZO Z O) k v → Q v H')) :
    tCB (rF X.K (biD b)) (tEs X.K ec W F C cs) σ H Q := by
  unfold ev at h
  rw [aft_bind] at h
  refine use_Es r (aft_mono (Same.refl _) h fun ks hk vs H1 s1 rr => ?_)
  obtain ⟨k', e', q⟩ := aft_calm hk (bi_calm b ks)
  exact ⟨H, ZO Z O, ks, k', s1, fun z => r.am, rr, e', fun v' H' s' res => q v' H' (s1.trans s') res⟩
theorem plainTail : ∀ {es : List Expr} {env : PySem.Env} {p : Pos}, noStars es = true → (backTo p (starEach es env)).any (·.1) = false
  | [], _, _, _ => rfl
  | e :: es, env, p, h => by
    unfold noStars at h
    rw [Bool.and_eq_true] at h
    rw [starEach_of h.1]
    show (false || (backTo p (starEach es env)).any (·.1)) = false
    rw [plainTail h.2]; rfl
theorem e_bi {b : Bi} {cs : List Ex} {x : Str} {e : Expr} {es : List Expr} {p : Pos} (hc : X.calm = true) (gu : X.A.guards = some []) (un : X.A.units + 65 < cLine) (hx : Str.ofString (biN b) = x) (hg : Gl X x) (hm : X.mg x = none) (hn : nmB x = true) (hs : noStars (e :: es) = true)
    (ha : PA X (e :: es) (tEs X.K ec W F C cs)) : PE X (.Call (.Name x p) (e :: es) [] pos) (tE X.K ec W F C (.bi b cs)) := by
  unfold nmB at hn
  simp only [Bool.and_eq_true, Bool.not_eq_true'] at hn
  obtain ⟨⟨h1, h2⟩, h3⟩ := hn
  have hs' := hs
  unfold noStars at hs'
  rw [Bool.and_eq_true] at hs'
  have hne : x ≠ "__name__" := fun e => by rw [e] at h3; simp at h3
  subst hx
  have hb := bi_boot b
  have hv := op_bi (X := X) hc gu un b
  cases b
  all_goals first
    | exact PE.imp (pe_callB (id := "len") hv hg hm hb ha hne h1 (starEach_of hs'.1) (plainTail hs'.2)) fun σ H Q ⟨ρ, B, Z, O, r, h⟩ => bi_core r h
    | exact PE.imp (pe_callB (id := "abs") hv hg hm hb ha hne h1 (starEach_of hs'.1) (plainTail hs'.2)) fun σ H Q ⟨ρ, B, Z, O, r, h⟩ => bi_core r h
    | exact PE.imp (pe_callB (id := "max") hv hg hm hb ha hne h1 (starEach_of hs'.1) (plainTail hs'.2)) fun σ H Q ⟨ρ, B, Z, O, r, h⟩ => bi_core r h
    | exact PE.imp (pe_callB (id := "min") hv hg hm hb ha hne h1 (starEach_of hs'.1) (plainTail hs'.2)) fun σ H Q ⟨ρ, B, Z, O, r, h⟩ => bi_core r h
    | exact PE.imp (pe_callB (id := "sum") hv hg hm hb ha hne h1 (starEach_of hs'.1) (plainTail hs'.2)) fun σ H Q ⟨ρ, B, Z, O, r, h⟩ => bi_core r h
    | exact PE.imp (pe_callB (id := "all") hv hg hm hb ha hne h1 (starEach_of hs'.1) (plainTail hs'.2)) fun σ H Q ⟨ρ, B, Z, O, r, h⟩ => bi_core r h
    | exact PE.imp (pe_callB (id := "any") hv hg hm hb ha hne h1 (starEach_of hs'.1) (plainTail hs'.2)) fun σ H Q ⟨ρ, B, Z, O, r, h⟩ => bi_core r h
    | exact PE.imp (pe_callB (id := "repr") hv hg hm hb ha hne h1 (starEach_of hs'.1) (plainTail hs'.2)) fun σ H Q ⟨ρ, B, Z, O, r, h⟩ => bi_core r h
    | exact PE.imp (pe_callB (id := "sorted") hv hg hm hb ha hne h1 (starEach_of hs'.1) (plainTail hs'.2)) fun σ H Q ⟨ρ, B, Z, O, r, h⟩ => bi_core r h
    | exact PE.imp (pe_callTy (T := "int") hv hg hm hb ha hne h1 (starEach_of hs'.1) (plainTail hs'.2)) fun σ H Q ⟨ρ, B, Z, O, r, h⟩ => bi_core r h
    | exact PE.imp (pe_callTy (T := "str") hv hg hm hb ha hne h1 (starEach_of hs'.1) (plainTail hs'.2)) fun σ H Q ⟨ρ, B, Z, O, r, h⟩ => bi_core r h
    | exact PE.imp (pe_callTy (T := "list") hv hg hm hb ha hne h1 (starEach_of hs'.1) (plainTail hs'.2)) fun σ H Q ⟨ρ, B, Z, O, r, h⟩ => bi_core r h
    | exact PE.imp (pe_callTy (T := "tuple") hv hg hm hb ha hne h1 (starEach_of hs'.1) (plainTail hs'.2)) fun σ H Q ⟨ρ, B, Z, O, r, h⟩ => bi_core r h
end
end Px

/-! Px9: methods, isinstance, calls of defs. -/
namespace Px
open PySem PySem.Spec L2
section
variable {K : PySem.W.Frag} {ec : EC} {W : WX} {F : List Fn} {C : List D} {X : Cx} {pos : Pos}
variable {σ : L2.St} {H H' H0 H1 H2 : Hp} {A : AS} {ρ : Env} {B : Hp} {Z : AS} {O : Nat → AS}
theorem base_of {o : Expr} {nm : Str} {env : PySem.Env} (h : plainBase o = true) : attributeBase o nm env (eval o env) = eval o env := by
  cases o <;> first | rfl | skip
  rename_i f args kws p
  cases args with
  | nil => cases h
  | cons a as => cases f <;> rfl
theorem plainAll : ∀ {es : List Expr} {env : PySem.Env} {p : Pos}, noStars es = true → (backTo p (starEach es env)).all (fun x => !x.1) = true
  | [], _, _, _ => rfl
  | e :: es, env, p, h => by
    unfold noStars at h
    rw [Bool.and_eq_true] at h
    rw [starEach_of h.1]
    show (!false && (backTo p (starEach es env)).all (fun x => !x.1)) = true
    rw [plainAll h.2]; rfl
theorem me_core {m : Me} {a : Ex} {cs : List Ex} {T : String} {Q : VK} (hT : meT m = T) (r : Rel X.K B Z O σ H ρ) (h : aft ec W σ H (ev F C (.me m a cs) ρ) (fun k => ∀ v H', Same H H' → Res X.K H H' (ZO Z O) k v → Q v H')) :
    tBM X.K T (rM X.K (meD m)) (tE X.K ec W F C a) (tEs X.K ec W F C cs) σ H Q := by
  unfold ev at h
  rw [aft_bind] at h
  refine use_E r (aft_mono (Same.refl _) h fun k hk v H1 s1 ⟨O1, f1, r1⟩ => ?_)
  have rep := r1.rep
  split at hk
  · rename_i hok
    have ty : tyV X.K T v H1 := by
      rw [← hT]
      clear hk h r1
      obtain ⟨o, d⟩ := k
      cases m <;> cases d <;> first
        | (cases hok; done)
        | (have e := rep.str; subst e; rfl)
        | (obtain ⟨a, vs, ex, sx, _⟩ := rep.lst; subst ex; exact .inl ⟨rfl, vs, sx⟩)
    refine ⟨ty, ?_⟩
    rw [aft_bind] at hk
    refine use_Es (r.past s1 f1 r1) (aft_mono s1 hk fun ks hks vs H2 s2 r2 => ?_)
    rw [zo_res] at r2
    obtain ⟨k', e', q⟩ := aft_calm hks (me_calm m k ks)
    exact ⟨H, ZO Z O, k, ks, k', s1.trans s2, fun z => r.am, Ress.cons f1 (fun x => r.am) s1 r1 s2 r2, e', fun v' H' s' res => q v' H' (s1.trans (s2.trans s')) res⟩
  · exact hk.elim
theorem e_me {m : Me} {a : Ex} {cs : List Ex} {o e : Expr} {es : List Expr} {nm : Str} {apos cpos : Pos} (hx : Str.ofString (meN m) = nm) (hs : noStars (e :: es) = true) (hl : es.length < 20) (hb : plainBase o = true) (hp : (apos.endLine == cpos.line) = true)
    (ho : PE X o (tE X.K ec W F C a)) (ha : PA X (e :: es) (tEs X.K ec W F C cs)) : PE X (.Call (.Attribute o nm apos) (e :: es) [] cpos) (tE X.K ec W F C (.me m a cs)) := by
  have hs' := hs
  unfold noStars at hs'
  rw [Bool.and_eq_true] at hs'
  have few : ((backTo cpos (starEach (e :: es) X.env)).all (fun x => !x.1) && (backToKw cpos (keywordEach [] X.env)).all (fun x => x.1.isSome) && decide ((e :: es).length + ([] : List Keyword).length + (if ([] : List Keyword).isEmpty then 0 else 1) < 30)) = true := by
    rw [plainAll hs]
    show (true && true && decide (es.length + 1 + 0 + 0 < 30)) = true
    rw [decide_eq_true (by omega)]; rfl
  subst hx
  have hv := op_me (X := X) m
  cases m
  · exact PE.imp (pe_bm PySem.F.plainAttrs_str PySem.F.slot_str_join PySem.F.type_str_join hv ho ha (base_of hb) few hp (starEach_of hs'.1) (plainTail hs'.2)) fun σ H Q ⟨ρ, B, Z, O, r, h⟩ => me_core rfl r h
  · exact PE.imp (pe_bm PySem.F.plainAttrs_str PySem.F.slot_str_index PySem.F.type_str_index hv ho ha (base_of hb) few hp (starEach_of hs'.1) (plainTail hs'.2)) fun σ H Q ⟨ρ, B, Z, O, r, h⟩ => me_core rfl r h
  · exact PE.imp (pe_bm PySem.F.plainAttrs_list PySem.F.slot_list_index PySem.F.type_list_index hv ho ha (base_of hb) few hp (starEach_of hs'.1) (plainTail hs'.2)) fun σ H Q ⟨ρ, B, Z, O, r, h⟩ => me_core rfl r h
  · exact PE.imp (pe_bm PySem.F.plainAttrs_str PySem.F.slot_str_startswith PySem.F.type_str_startswith hv ho ha (base_of hb) few hp (starEach_of hs'.1) (plainTail hs'.2)) fun σ H Q ⟨ρ, B, Z, O, r, h⟩ => me_core rfl r h
  · exact PE.imp (pe_bm PySem.F.plainAttrs_str PySem.F.slot_str_endswith PySem.F.type_str_endswith hv ho ha (base_of hb) few hp (starEach_of hs'.1) (plainTail hs'.2)) fun σ H Q ⟨ρ, B, Z, O, r, h⟩ => me_core rfl r h
  · exact PE.imp (pe_bm PySem.F.plainAttrs_str PySem.F.slot_str_count PySem.F.type_str_count hv ho ha (base_of hb) few hp (starEach_of hs'.1) (plainTail hs'.2)) fun σ H Q ⟨ρ, B, Z, O, r, h⟩ => me_core rfl r h
  · exact PE.imp (pe_bm PySem.F.plainAttrs_str PySem.F.slot_str_split PySem.F.type_str_split hv ho ha (base_of hb) few hp (starEach_of hs'.1) (plainTail hs'.2)) fun σ H Q ⟨ρ, B, Z, O, r, h⟩ => me_core rfl r h
/-! isinstance of a built-in type -/
theorem RepR.ty : ∀ {d : D} {v : V}, tyN d ≠ "?" → RepR K H d v → TyX K H v (.type (tyN d))
  | .non, _, _, r => by rw [r.non]; exact .base .non
  | .bl _, _, _, r => by rw [r.bl]; exact .base (.bl _)
  | .int _, _, _, r => by rw [r.int]; exact .base (.int _)
  | .str _, _, _, r => by rw [r.str]; exact .base (.str _)
  | .lst xs, _, _, r => by
    obtain ⟨a, vs, e, s, _⟩ := r.lst
    rw [e]
    rcases s with (s | ⟨o, s⟩) | ⟨o, its, n, k, c, _⟩
    · exact .base (.lst s)
    · exact .base (.frz s)
    · exact .kList k c
  | .tup xs, _, _, r => by
    obtain ⟨a, vs, e, s, _⟩ := r.tup
    rw [e]
    rcases s with (s | ⟨o, s⟩) | ⟨o, its, n, k, c, _⟩
    · exact .base (.tup s)
    · exact .fTuple s
    · exact .kTuple k c
  | .dct ks xs, _, _, r => by
    obtain ⟨a, vs, e, s, _⟩ := r.dct
    rw [e]
    rcases s with s | ⟨o, s⟩
    · exact .base (.dK s)
    · exact .fDict s
  | .ext _, _, h, _ => absurd rfl h
theorem ty_boot {t : String} (h : ["str", "int", "bool", "list", "tuple"].contains t = true) : bootBuiltins (Str.ofString t) = some (.type t) := by
  have : t = "str" ∨ t = "int" ∨ t = "bool" ∨ t = "list" ∨ t = "tuple" := by simpa using h
  rcases this with e | e | e | e | e <;> subst e <;> decide +kernel
theorem kit_q {t : String} {b : Bool} (ht : ["str", "int", "bool", "list", "tuple"].contains t = true) (h : kitB "?" t = some b) : False := by
  have : t = "str" ∨ t = "int" ∨ t = "bool" ∨ t = "list" ∨ t = "tuple" := by simpa using ht
  have q : kitB "?" t = none := by rcases this with e | e | e | e | e <;> subst e <;> decide +kernel
  rw [q] at h
  cases h
theorem isi_boot : bootBuiltins (Str.ofString "isinstance") = some (.builtin "isinstance") := by decide +kernel
theorem e_isTy {a : Ex} {t : String} {x y : Str} {e : Expr} {p p' : Pos} (hx : Str.ofString "isinstance" = x) (hy : Str.ofString t = y) (hg : Gl X x) (hm : X.mg x = none) (hn : nmB x = true) (hg' : Gl X y) (hm' : X.mg y = none) (hn' : nmB y = true)
    (ht : ["str", "int", "bool", "list", "tuple"].contains t = true) (hs : noStar e = true) (ha : PE X e (tE X.K ec W F C a)) : PE X (.Call (.Name x p) [e, .Name y p'] [] pos) (tE X.K ec W F C (.isTy a t)) := by
  unfold nmB at hn hn'
  simp only [Bool.and_eq_true, Bool.not_eq_true'] at hn hn'
  obtain ⟨⟨h1, h2⟩, h3⟩ := hn
  obtain ⟨⟨h1', h2'⟩, h3'⟩ := hn'
  have hne : x ≠ "__name__" := fun e => by rw [e] at h3; simp at h3
  have hne' : y ≠ "__name__" := fun e => by rw [e] at h3'; simp at h3'
  subst hx; subst hy
  have hpa : PA X [e, .Name (Str.ofString t) p'] _ := pa_cons ha (pa_cons (pe_bltn (v := .ty t) hg' hm' (ty_boot ht) rfl hne' h1') pa_nil (by rfl)) (starEach_of hs)
  refine PE.imp (pe_callB call_isi hg hm isi_boot hpa hne h1 (starEach_of hs) (by rfl)) fun σ H Q ⟨ρ, B, Z, O, r, h⟩ => ?_
  unfold ev at h
  rw [aft_bind] at h
  refine use_E r (aft_mono (Same.refl _) h fun k hk v H1 s1 r1 => ?_)
  split at hk
  · rename_i b hb
    exact ⟨v, .ty t, .type (tyN k.2), .type t, b, rfl, .ty t, r1.rep.ty (fun e => by rw [e] at hb; exact kit_q ht hb), kit_ty hb, (show ∀ v H', Same H H' → Res X.K H H' (ZO Z O) (at9 (.bl b)) v → Q v H' from hk) _ H1 s1 Res.bl⟩
  · exact hk.elim
/-! ### calls of defs -/
mutual
/-- what has no container in it leans on no list -/
theorem pure_cut : ∀ {d : D} {v : V}, pureD d = true → (∀ x, A x → IsM H x) → RepR K H d v → RepR K (cut H A) d v
  | .non, _, _, _, r => by rw [r.non]; unfold RepR; rfl
  | .bl _, _, _, _, r => by rw [r.bl]; unfold RepR; rfl
  | .int _, _, _, _, r => by rw [r.int]; unfold RepR; rfl
  | .str _, _, _, _, r => by rw [r.str]; unfold RepR; rfl
  | .lst _, _, h, _, _ => by unfold pureD at h; cases h
  | .dct _ _, _, h, _, _ => by unfold pureD at h; cases h
  | .ext t, _, _, hA, r => by
    obtain ⟨a, e, s⟩ := r.ext
    unfold RepR
    refine ⟨a, e, cut_of s fun z => ?_⟩
    rcases hA a z with ⟨vs, q⟩ | ⟨vs, q⟩
    · rw [s] at q; cases t; cases q
    · rw [s] at q; cases t; cases q
  | .tup xs, _, h, hA, r => by
    obtain ⟨a, vs, e, s, w⟩ := r.tupP
    unfold RepR
    refine ⟨a, vs, e, ?_, pures_cut (by unfold pureD at h; exact h) hA w⟩
    have nA : ∀ {o : HO}, H a = some o → (∀ vs, o ≠ .lst vs) → (∀ vs, o ≠ .dK vs) → ¬ A a := fun e n1 n2 z => by
      rcases hA a z with ⟨vs, q⟩ | ⟨vs, q⟩
      · rw [e] at q; cases q; exact n1 _ rfl
      · rw [e] at q; cases q; exact n2 _ rfl
    rcases s with ⟨o, s, hd⟩ | s
    · exact .inl ⟨o, cut_of s (nA s (fun _ z => by cases z) fun _ z => by cases z), hd⟩
    · exact .inr s
theorem pures_cut : ∀ {ds : List D} {vs : List V}, puresD ds = true → (∀ x, A x → IsM H x) → RepRs K H ds vs → RepRs K (cut H A) ds vs
  | [], _, _, _, r => by unfold RepRs at r; subst r; exact RepRs.nil
  | d :: ds, _, h, hA, r => by
    unfold RepRs at r
    obtain ⟨v, vs', e, r1, r2⟩ := r
    unfold puresD at h
    rw [Bool.and_eq_true] at h
    subst e
    exact RepRs.cons (pure_cut h.1 hA r1) (pures_cut h.2 hA r2)
end
theorem own_pure {A' : AS} (hA : ∀ x, A' x → IsM H x) : ∀ {k : Nat} {d : D} {v : V} {O : AS}, ownAll k d = true → Own K H A k d v O → Own K H A' k d v O
  | 0, d, v, O, h, w => ⟨w.1, pure_cut (by unfold ownAll at h; exact h) hA (w.2.mono cut_same)⟩
  | k + 1, d, v, O, h, w => by
    unfold Own at w ⊢
    unfold ownAll at h
    split at w
    · obtain ⟨a, vs, P, e1, e2, e3, e4, q⟩ := w
      exact ⟨a, vs, P, e1, e2, e3, e4, q.impIn fun d m v O1 _ r => own_pure hA (List.all_eq_true.mp h d m) r⟩
    · obtain ⟨a, vs, P, e1, e2, e5, e3, e4, q⟩ := w
      exact ⟨a, vs, P, e1, e2, e5, e3, e4, q.impIn fun d m v O1 _ r => own_pure hA (List.all_eq_true.mp h d m) r⟩
    · rename_i hl hd
      have h : pureD d = true := by
        split at h
        · exact (hl _ rfl).elim
        · exact (hd _ _ rfl).elim
        · exact h
      exact ⟨w.1, pure_cut h hA (w.2.mono cut_same)⟩
theorem ress_frz {ks : List Kd} {vs : List V} (hA : ∀ z, A z → IsM H0 z) (h : Ress K H0 H A ks vs) (hb : ks.any (fun x => x.1.isNone) = false) : RepRs K (cut H A) (ks.map (·.2)) vs := by
  obtain ⟨O, f, w⟩ := h
  have go : ∀ (ks : List Kd) (vs : List V) (P : AS), (∀ x, P x → O x) → ks.any (fun x => x.1.isNone) = false → OwnsK (Res1 K H (fun x => A x ∨ O x)) ks vs P → RepRs K (cut H A) (ks.map (·.2)) vs := by
    intro ks
    induction ks with
    | nil => intro vs P _ _ w; rw [w.1]; exact RepRs.nil
    | cons k ks ih =>
      intro vs P hP hb ⟨v, vs', O1, O2, e, h1, h2, r, q⟩
      subst e
      rw [List.any_cons, Bool.or_eq_false_iff] at hb
      obtain ⟨o, d⟩ := k
      cases o with
      | none => cases hb.1
      | some j =>
        have r : Own K H _ j d v O1 := r
        obtain ⟨P1, s1, f1⟩ := Own.lower r 0 (Nat.zero_le _)
        have r' := f1 A (fun x a => .inl a) fun x a o => absurd (f x (hP x ((h1 x).mpr (.inl o)))) (hA x a).ne
        exact RepRs.cons r'.2 (ih vs' O2 (fun x o => hP x ((h1 x).mpr (.inr o))) hb.2 q)
  exact go ks vs O (fun _ z => z) hb w
theorem cut_false : cut H (fun _ => False) = H := by
  funext b; unfold cut; rw [if_neg id]
theorem kd_res {k : Nat} {d : D} {v : V} {O : AS} (f : ∀ x, O x → H0 x = none) (w : Own K H (fun x => A x ∨ O x) k d v O) : Res K H0 H A (kd k d) v := by
  unfold kd
  split
  · exact ⟨O, f, w⟩
  · rename_i hc
    exact Own.to_res (by simpa using hc) w (fun z a => .inl a) (Same.refl _)
theorem e_call {j : Nat} {cs : List Ex} {c : Cal X.prog X.w X.K X.mg X.base ec} {x : Str} {e : Expr} {es : List Expr} {p : Pos} (hj : F[j]? = some c.m) (gu : X.A.guards = some []) (hr : Room c.k X.A) (tk : Takes X W)
    (hx : Str.ofString c.name = x) (hl : (e :: es).length = c.n) (hg : Gl X x) (hn : nmB x = true) (hs : noStars (e :: es) = true) (ha : PA X (e :: es) (tEs X.K ec W F C cs)) (hlen : cs.length = (e :: es).length) :
    PE X (.Call (.Name x p) (e :: es) [] pos) (tE X.K ec W F C (.call j cs)) := by
  unfold nmB at hn
  simp only [Bool.and_eq_true, Bool.not_eq_true'] at hn
  obtain ⟨⟨h1, h2⟩, h3⟩ := hn
  have hs' := hs
  unfold noStars at hs'
  rw [Bool.and_eq_true] at hs'
  subst hx
  refine PE.imp (pe_callG c.ok gu hr hg c.gm c.kp c.b (fun σ => passAt tk σ) ha h1 (starEach_of hs'.1) (plainTail hs'.2)) fun σ H Q ⟨ρ, B, Z, O, r, h⟩ => ?_
  unfold ev at h
  rw [aft_bind] at h
  refine use_Es r (out_mono (out_lf h lf_evs) (fun ks ⟨hln, h⟩ => ?_) fun x p q => q)
  intro vs H1 s1 rr
  have h : aft ec W σ H (match F[j]? with | some f => callD f ks | none => R.stuck) (fun k => ∀ v H', Same H H' → Res X.K H H' (ZO Z O) k v → Q v H') := h
  rw [hj] at h
  have h : aft ec W σ H (callD c.m ks) (fun k => ∀ v H', Same H H' → Res X.K H H' (ZO Z O) k v → Q v H') := h
  have hlv : vs.length = c.n := by
    obtain ⟨_, _, w⟩ := rr
    rw [w.len, hln, hlen, hl]
  unfold callD at h
  rw [aft_bind] at h
  refine ⟨hlv, ks.map (·.2), ?_⟩
  by_cases hb : ks.any (fun x => x.1.isNone) = true
  · refine ⟨fun _ => False, fun _ z => z.elim, by rw [cut_false]; exact rr.rep, out_mono h (fun kd' h => ?_) fun x p h cls dd H' s' e => h cls dd H' (s1.trans s') e⟩
    obtain ⟨k, d⟩ := kd'
    have h : aft ec W σ H (if (ks.any (fun x => x.1.isNone) && !ownAll k d) = true then R.stuck else R.ok (kd k d)) (fun k => ∀ v H', Same H H' → Res X.K H H' (ZO Z O) k v → Q v H') := h
    rw [hb] at h
    cases ho : ownAll k d with
    | false => rw [ho] at h; exact h.elim
    | true =>
      rw [ho] at h
      intro v H' s' ⟨O', f', w⟩
      refine (show ∀ v H', Same H H' → Res X.K H H' (ZO Z O) (kd k d) v → Q v H' from h) v H' (s1.trans s') (kd_res (fun x o => s1.free (f' x o)) (own_pure (fun x a => ?_) ho w))
      rcases a with a | a
      · exact (r.am a).mono (s1.trans s')
      · exact w.dom a
  · have hb : ks.any (fun x => x.1.isNone) = false := by
      cases q : ks.any (fun x => x.1.isNone) with
      | false => rfl
      | true => exact absurd q hb
    refine ⟨ZO Z O, fun x a => (r.am a).mono s1, ress_frz (fun z => r.am) rr hb, out_mono h (fun kd' h => ?_) fun x p h cls dd H' s' e => h cls dd H' (s1.trans s') e⟩
    obtain ⟨k, d⟩ := kd'
    have h : aft ec W σ H (if (ks.any (fun x => x.1.isNone) && !ownAll k d) = true then R.stuck else R.ok (kd k d)) (fun k => ∀ v H', Same H H' → Res X.K H H' (ZO Z O) k v → Q v H') := h
    rw [hb] at h
    intro v H' s' ⟨O', f', w⟩
    exact (show ∀ v H', Same H H' → Res X.K H H' (ZO Z O) (kd k d) v → Q v H' from h) v H' (s1.trans s') (kd_res (fun x o => s1.free (f' x o)) w)
/-- a def that takes nothing -/
theorem e_call0 {j : Nat} {c : Cal X.prog X.w X.K X.mg X.base ec} {x : Str} {p : Pos} (hj : F[j]? = some c.m) (gu : X.A.guards = some []) (hr : Room c.k X.A) (tk : Takes X W) (hx : Str.ofString c.name = x) (hl : c.n = 0) (hg : Gl X x) (hn : nmB x = true) :
    PE X (.Call (.Name x p) [] [] pos) (tE X.K ec W F C (.call j [])) := by
  unfold nmB at hn
  simp only [Bool.and_eq_true, Bool.not_eq_true'] at hn
  obtain ⟨⟨h1, h2⟩, h3⟩ := hn
  subst hx
  constructor
  rintro pins s σ H Q I ⟨ρ, B, Z, O, r, h⟩
  unfold ev at h
  rw [show evs F C [] ρ = R.ok [] from by unfold evs; rfl, R.bind_ok] at h
  have h : aft ec W σ H (match F[j]? with | some f => callD f [] | none => R.stuck) _ := h
  rw [hj] at h
  have h : aft ec W σ H (callD c.m []) (fun k => ∀ v H', Same H H' → Res X.K H H' (ZO Z O) k v → Q v H') := h
  have pre : spD X.K ec c.n c.m [] H Q (WE W σ) := by
    refine ⟨hl.symm, [], ZO Z O, fun x => r.am, RepRs.nil, ?_⟩
    unfold callD at h
    rw [aft_bind] at h
    rw [List.map_nil] at h
    refine out_mono h (fun kd' h => ?_) fun x p h => h
    obtain ⟨k, d⟩ := kd'
    have h : ∀ v H', Same H H' → Res X.K H H' (ZO Z O) (kd k d) v → Q v H' := h
    intro v H' s' ⟨O', f', w⟩
    exact h v H' s' (kd_res f' w)
  have hps : c.ps.length = 0 := by have := c.ok.len _ _ _ _ pre; simpa using this.symm
  have bd := c.b s [] I.kIn (by rw [List.append_nil]; exact hps.symm)
  refine wpAny_Call_Name_kw (ld_glob I hg c.gm (PySem.W.callWith_K0 I.kIn c.kp (wpAny_call (codeAny_mono (c.ok.run X.A X.stack s H [] [] Q (WE W σ) gu hr I.env0 bd .nil pre) ?_))) h1)
  intro r s' done
  match r, done with
  | .error e, d => exact passAt tk σ pins H s e s' I d
  | .ok (.ret u), d => exact I.after d
end
end Px

/-! PxKz: min(xs, key=f), sorted(xs, key=f), f an own def, texts. -/
namespace Px
open PySem PySem.Spec PyProof.Rows L2
theorem keysOf_ok {f : Fn} : ∀ {cs : List (List Nat)} {ds : List D}, keysOf f cs = some ds → ds.length = cs.length ∧ ∀ (i : Nat) (c : List Nat) (d : D), cs[i]? = some c → ds[i]? = some d → ∃ k', f [.str c] = .ok (k', d)
  | [], ds, h => by
    unfold keysOf at h
    cases h
    exact ⟨rfl, fun i c d h => by simp at h⟩
  | c :: cs, ds, h => by
    unfold keysOf at h
    split at h
    · rename_i k d es e1 e2
      cases h
      obtain ⟨l, q⟩ := keysOf_ok e2
      refine ⟨by rw [List.length_cons, List.length_cons, l], fun i c' d' h1 h2 => ?_⟩
      cases i with
      | zero =>
        simp only [List.getElem?_cons_zero, Option.some.injEq] at h1 h2
        subst h1; subst h2
        exact ⟨k, e1⟩
      | succ i => exact q i c' d' (by simpa using h1) (by simpa using h2)
    · cases h
theorem strs_own {K : PySem.W.Frag} {H : Hp} {A : AS} {k : Nat} : ∀ cs : List (List Nat), Owns (Own K H A k) (cs.map D.str) (cs.map fun c => V.str (mkS c)) (fun _ => False)
  | [] => ⟨rfl, fun _ z => z⟩
  | n :: ns => ⟨_, _, fun _ => False, fun _ => False, rfl, fun x => by simp, fun _ z => z.elim, (Own.flat rfl).mpr ⟨fun _ z => z, by unfold RepR; rfl⟩, strs_own ns⟩
theorem keyed_calm (mn : Bool) (f : Fn) (ks : List Kd) : ¬ wild (keyedD mn f ks) := by
  intro h
  unfold keyedD at h
  split at h
  · split at h
    · split at h
      · unfold keyedS at h
        repeat' split at h
        all_goals cases h
      · cases h
    · cases h
  · cases h
section
variable {X : Cx} {ec : EC} {W : WX} {F : List Fn} {C : List D} {pos : Pos}
theorem keyed_core {mn : Bool} {j : Nat} {cs : List Ex} {fa : Addr} {m : Fn} (hj : F[j]? = some m) {σ : L2.St} {H : Hp} {Q : VK} (h : tE X.K ec W F C (.keyed mn j cs) σ H Q) :
    tCKw (if mn = true then rMinK X.K fa m else rSortK X.K fa m) (tEs X.K ec W F C cs) (tCons (tC (.ref fa)) tNil) σ H Q := by
  obtain ⟨ρ, B, Z, O, r, h⟩ := h
  unfold ev at h
  rw [aft_bind] at h
  refine use_Es r (aft_mono (Same.refl _) h fun ks hk vs H1 s1 rr => ?_)
  have hk : aft ec W σ H (match F[j]? with | some f => keyedD mn f ks | none => R.stuck) (fun k => ∀ v H', Same H H' → Res X.K H H' (ZO Z O) k v → Q v H') := hk
  rw [hj] at hk
  have hk : aft ec W σ H (keyedD mn m ks) (fun k => ∀ v H', Same H H' → Res X.K H H' (ZO Z O) k v → Q v H') := hk
  obtain ⟨k', e, q⟩ := aft_calm hk (keyed_calm mn m ks)
  show (if mn = true then rMinK X.K fa m else rSortK X.K fa m) vs [V.ref fa] H1 Q
  unfold keyedD at e
  split at e
  case h_2 => cases e
  rename_i k0 xs
  split at e
  case h_2 => cases e
  rename_i ts ht
  split at e
  case h_2 => cases e
  rename_i ds hd
  obtain ⟨x, rfl, rx1⟩ := ress1 rr
  obtain ⟨a, ys, ex, sx, w⟩ := rx1.rep.lst
  subst ex
  have hy : ys = ts.map fun c => V.str (mkS c) := by rw [strs_rep ht w, List.map_map]; rfl
  rw [hy] at sx
  obtain ⟨l1, l2⟩ := keysOf_ok hd
  unfold keyedS at e
  split at e
  case isFalse => cases e
  rename_i ok
  cases mn with
  | true =>
    rw [if_pos rfl] at e ⊢
    split at e
    case h_2 => cases e
    rename_i c hc
    cases e
    refine ⟨a, ts, ds, rfl, rfl, sx, fun z => ?_, ⟨l1, l2, ok⟩, fun c' H' e' s' => ?_⟩
    · rw [z] at hc; simp at hc
    · rw [hc] at e'
      cases e'
      exact q _ _ (s1.trans s') Res.str
  | false =>
    rw [if_neg (by decide)] at e ⊢
    split at e
    case isFalse => cases e
    rename_i sb
    cases e
    refine ⟨a, ts, ds, rfl, rfl, sx, ⟨l1, l2, ok⟩, sb, fun p H' s' n1 n2 => ?_⟩
    exact q _ _ ((s1.trans s').trans (same_new n1)) (Res.newL (O := fun _ => False) n1 (s1.trans s') (fun _ z => z.elim) (fun z a => (r.am a).mono (s1.trans s')) (strs_own _))
theorem e_keyed {mn : Bool} {j : Nat} {cs : List Ex} {c : Cal X.prog X.w X.K X.mg X.base ec} {x f kw : Str} {y : Expr} {p fp kp : Pos} (hj : F[j]? = some c.m) (gu : X.A.guards = some []) (hr : Room c.k X.A.in1.in1) (hx : Str.ofString (if mn then "min" else "sorted") = x) (hg : Gl X x) (hm : X.mg x = none)
    (hf : Str.ofString c.name = f) (hl : c.n = 1) (hgf : Gl X f) (hnf : nmB f = true) (hs : noStar y = true) (hkw : kw = Str.ofString "key") (ha : PA X [y] (tEs X.K ec W F C cs)) (hlen : cs.length = [y].length) :
    PE X (.Call (.Name x p) [y] [⟨some kw, .Name f fp, kp⟩] pos) (tE X.K ec W F C (.keyed mn j cs)) := by
  subst hf; subst hkw
  have F1 : FnG X.prog X.w X.K X.mg X.base c.k c.f c.fd c.ps (spD X.K ec 1 c.m) := by rw [← hl]; exact c.ok
  have he : backTo pos (starEach [y] X.env) = (false, eval y X.env) :: backTo pos (starEach [] X.env) := by rw [starEach_of hs]; rfl
  have hpl : (backTo pos (starEach [y] X.env)).any (·.1) = false := by rw [he]; rfl
  have hd : (Str.ofString c.name == ("__debug__" : Str)) = false := by
    unfold nmB at hnf
    simp only [Bool.and_eq_true, Bool.not_eq_true'] at hnf
    exact hnf.1.1
  have hk : PK X [⟨some (Str.ofString "key"), .Name (Str.ofString c.name) fp, kp⟩] (tCons (tC (.ref c.f)) tNil) := pk_cons (pe_glob hgf c.gm rfl hd) pk_nil
  cases mn with
  | true =>
    have hx : Str.ofString "min" = x := hx
    subst hx
    exact PE.imp (pe_callBK (id := "min") (ks := [Str.ofString "key"]) (cr_minK F1 c.b gu (room_of1 hr)) hg hm (by decide +kernel) ha hk (by decide) (by decide) he hpl rfl rfl rfl) fun σ H Q h => keyed_core hj h
  | false =>
    have hx : Str.ofString "sorted" = x := hx
    subst hx
    exact PE.imp (pe_callBK (id := "sorted") (ks := [Str.ofString "key"]) (cr_sortK F1 c.b gu hr) hg hm (by decide +kernel) ha hk (by decide) (by decide) he hpl rfl rfl rfl) fun σ H Q h => keyed_core hj h
end
end Px

/-! PxD: a written dict that is asked at once. -/
namespace Px
open PySem PySem.Spec L2
section
variable {K : PySem.W.Frag} {ec : EC} {W : WX} {F : List Fn} {C : List D} {X : Cx} {pos : Pos}
def vOf : D → V
  | .bl b => .bl b
  | .int i => .int i
  | .str s => .str (mkS s)
  | _ => .non
def kOf : D → Key
  | .int i => .inl i
  | .str s => .inr (mkS s)
  | _ => .inl 0
theorem e_litC {d : D} {c : Const} {j : Nat} (h : litB d c = true) : PE X (.Constant c j pos) (tC (vOf d)) := by
  unfold litB at h
  split at h
  · exact pe_non
  · rename_i a b
    have e : a = b := eq_of_beq h
    subst e
    exact pe_bl
  · rename_i a b
    have e : a = b := of_decide_eq_true h
    subst e
    exact pe_int
  · rename_i s z
    have e : z.cps.toList = s := of_decide_eq_true h
    subst e
    have := pe_str (X := X) (x := z) (j := j) (pos := pos)
    show PE X _ (tC (.str (mkS z.cps.toList)))
    rw [mkS_list]
    exact this
  · cases h
theorem rep_lit {H : Hp} {d : D} {c : Const} (h : litB d c = true) : RepR K H d (vOf d) ∧ d.cont = false := by
  unfold litB at h
  split at h
  · exact ⟨by unfold RepR vOf; rfl, rfl⟩
  · exact ⟨by unfold RepR vOf; rfl, rfl⟩
  · exact ⟨by unfold RepR vOf; rfl, rfl⟩
  · exact ⟨by unfold RepR vOf; rfl, rfl⟩
  · cases h
theorem key_v {d : D} (h : keyD d = true) : vOf d = kV (kOf d) := by
  cases d <;> first | (cases h; done) | rfl
abbrev kvs (ps : List (D × D)) : List (Key × V) := ps.map fun p => (kOf p.1, vOf p.2)
abbrev trs (ps : List (D × D)) : List (TE × TE) := ps.map fun p => (tC (vOf p.1), tC (vOf p.2))
theorem kv_ok : ∀ {ps : List (D × D)} {ks : List (Option Expr)} {vs : List Expr}, okKV ps ks vs = true → PPs X pos ks vs (trs ps) ∧ ks.all (·.isSome) = true ∧ ks.length = vs.length ∧ ks.length = ps.length ∧ (∀ p ∈ ps, keyD p.1 = true ∧ ∀ H, RepR X.K H p.2 (vOf p.2) ∧ p.2.cont = false)
  | [], [], [], _ => ⟨pps_nil, rfl, rfl, rfl, fun _ m => by cases m⟩
  | [], [], _ :: _, h => by unfold okKV at h; cases h
  | [], _ :: _, _, h => by unfold okKV at h; cases h
  | _ :: _, [], _, h => by unfold okKV at h; cases h
  | _ :: _, none :: _, _, h => by unfold okKV at h; cases h
  | p :: ps, some k :: ks, [], h => by
    cases k <;> (unfold okKV at h; cases h)
  | p :: ps, some k :: ks, v :: vs, h => by
    cases k <;> first | (unfold okKV at h; cases h; done) | skip
    cases v <;> first | (unfold okKV at h; cases h; done) | skip
    unfold okKV at h
    simp only [Bool.and_eq_true] at h
    obtain ⟨⟨⟨h1, h2⟩, h3⟩, h4⟩ := h
    obtain ⟨q1, q2, q3, q4, q5⟩ := kv_ok h4
    refine ⟨pps_cons (e_litC h1) (e_litC h3) q1, ?_, by simp [q3], by simp [q4], fun x m => ?_⟩
    · rw [List.all_cons, q2]; rfl
    · rcases List.mem_cons.mp m with e | m
      · subst e; exact ⟨h2, fun H => rep_lit h3⟩
      · exact q5 x m
theorem tPairs_run : ∀ (ps : List (D × D)) (σ : L2.St) (H : Hp) (Q : List (V × V) → Hp → Prop), Q (ps.map fun p => (vOf p.1, vOf p.2)) H → tPairs (trs ps) σ H Q
  | [], σ, H, Q, h => h
  | p :: ps, σ, H, Q, h => tPairs_run ps σ H (fun r H3 => Q ((vOf p.1, vOf p.2) :: r) H3) h
theorem key_eq {a b : D} (ha : keyD a = true) (hb : keyD b = true) : eqK a b = decide (kOf b = kOf a) := by
  cases a <;> cases b <;> first | (cases ha; done) | (cases hb; done) | skip
  · rename_i i j
    show decide (i = j) = decide ((Sum.inl j : Key) = Sum.inl i)
    by_cases e : i = j
    · subst e; simp
    · rw [decide_eq_false e, decide_eq_false (fun z => e (Sum.inl.inj z).symm)]
  · rename_i i j
    show false = decide ((Sum.inr _ : Key) = Sum.inl _)
    rw [decide_eq_false (fun z => by cases z)]
  · rename_i i j
    show false = decide ((Sum.inl _ : Key) = Sum.inr _)
    rw [decide_eq_false (fun z => by cases z)]
  · rename_i s t
    show decide (s = t) = decide ((Sum.inr (mkS t) : Key) = Sum.inr (mkS s))
    by_cases e : s = t
    · subst e; simp
    · rw [decide_eq_false e, decide_eq_false (fun z => e (mkS_inj (Sum.inr.inj z)).symm)]
theorem val_merge {y : D} (hy : keyD y = true) : ∀ (ps : List (D × D)) (acc : List (Key × V)) (o : Option D), (∀ p ∈ ps, keyD p.1 = true) → valV acc (kOf y) = o.map vOf → valV (mergeK acc (kvs ps)) (kOf y) = (ps.foldl (fun a p => if eqK p.1 y then some p.2 else a) o).map vOf
  | [], acc, o, _, h => h
  | p :: ps, acc, o, hk, h => by
    show valV (mergeK (putK acc (kOf p.1) (vOf p.2)) (kvs ps)) (kOf y) = _
    rw [List.foldl_cons]
    refine val_merge hy ps _ _ (fun q m => hk q (by simp [m])) ?_
    rw [valV_put, key_eq (hk p (by simp)) hy]
    by_cases e : kOf y = kOf p.1
    · rw [if_pos e, decide_eq_true e, if_pos rfl]; rfl
    · rw [if_neg e, decide_eq_false e, if_neg Bool.false_ne_true]; exact h
theorem dget_mem {y d : D} : ∀ {ps : List (D × D)} {o : Option D}, ps.foldl (fun a p => if eqK p.1 y then some p.2 else a) o = some d → o = some d ∨ ∃ p ∈ ps, p.2 = d ∧ eqK p.1 y = true
  | [], o, h => .inl h
  | p :: ps, o, h => by
    rw [List.foldl_cons] at h
    rcases dget_mem h with h | ⟨q, m, e, k⟩
    · by_cases e : eqK p.1 y = true
      · rw [if_pos e] at h; cases h; exact .inr ⟨p, by simp, rfl, e⟩
      · rw [if_neg e] at h; exact .inl h
    · exact .inr ⟨q, by simp [m], e, k⟩
theorem eqK_key {a b : D} (h : eqK a b = true) : keyD b = true := by
  cases a <;> cases b <;> first | (cases h; done) | rfl
theorem e_dlk {ps : List (D × D)} {a : Ex} {keys : List (Option Expr)} {vals : List Expr} {s : Expr} {p1 : Pos} (hu : X.A.units + 1 < cLine) (h1 : okKV ps keys vals = true) (h2 : ps.isEmpty = false) (h3 : ps.length ≤ 15) (h4 : plainIx s = true) (ha : PE X s (tE X.K ec W F C a)) :
    PE X (.Subscript (.Dict keys vals p1) s pos) (tE X.K ec W F C (.dlk ps a)) := by
  obtain ⟨q1, q2, q3, q4, q5⟩ := kv_ok (X := X) (pos := p1) h1
  have hne : keys ≠ [] := fun e => by
    rw [e] at q4
    cases ps with
    | nil => cases h2
    | cons p ps => cases q4
  refine PE.imp (pe_dget hu (pe_disp q1 q2 q3 hne (by omega)) ha (by intro ov iv; cases s <;> first | rfl | cases h4)) fun σ H Q ⟨ρ, B, Z, O, r, h⟩ => ?_
  intro p hp
  refine tPairs_run ps σ _ _ ⟨upd_same, kvs ps, ?_, by simpa using h3, ?_⟩
  · rw [List.map_map]
    refine List.map_congr_left fun x m => ?_
    show _ = (kV (kOf x.1), vOf x.2)
    rw [key_v (q5 x m).1]
  · rw [upd_upd]
    have s1 : Same H (upd H p (.dK (mergeK [] (kvs ps)))) := same_new hp
    unfold ev at h
    rw [aft_bind] at h
    refine use_E (r.mono s1) (aft_mono s1 h fun x hx v H2 s2 res => ?_)
    split at hx
    · rename_i d hd
      have hm := dget_mem hd
      rcases hm with hm | ⟨w, m, ew, ek⟩
      · cases hm
      have hk := eqK_key ek
      have hv : v = kV (kOf x.2) := by
        have rp := res.rep
        generalize x.2 = y at hk rp
        cases y <;> first | (cases hk; done) | skip
        · rw [rp.int]; rfl
        · rw [rp.str]; rfl
      have ev := val_merge hk ps [] none (fun q m => (q5 q m).1) rfl
      rw [show ps.foldl (fun a p => if eqK p.1 x.2 then some p.2 else a) none = some d from hd] at ev
      refine ⟨p, vOf d, rfl, .inl ⟨_, kOf x.2, .inl (s2 _ _ upd_same), hv, ev.symm⟩, ?_⟩
      obtain ⟨rd, cd⟩ := (q5 w m).2 (cut H2 (ZO Z O))
      rw [ew] at rd cd
      have hx : ∀ v H', Same H H' → Res X.K H H' (ZO Z O) (at9 d) v → Q v H' := hx
      exact hx _ _ (s1.trans s2) ⟨fun _ => False, fun _ z => z.elim, (Own.flat cd).mpr ⟨fun _ z => z, rd.mono (cut_set fun x z => z.elim id False.elim)⟩⟩
    · exact hx.elim
theorem few_one {e f : Expr} {env : PySem.Env} {cpos : Pos} (hs : noStars [e, f] = true) : ((backTo cpos (starEach [e, f] env)).all (fun x => !x.1) && (backToKw cpos (keywordEach [] env)).all (fun x => x.1.isSome) && decide (([e, f] : List Expr).length + ([] : List Keyword).length + (if ([] : List Keyword).isEmpty then 0 else 1) < 30)) = true := by
  rw [plainAll hs]; rfl
/-- {k: v, ..}.get(y, d) -/
theorem e_dlg {ps : List (D × D)} {a : Ex} {dd : D} {keys : List (Option Expr)} {vals : List Expr} {s : Expr} {c : Const} {j : Nat} {p1 p2 apos cpos : Pos} (hu : X.A.units + 1 < cLine) (h1 : okKV ps keys vals = true) (h2 : ps.isEmpty = false) (h3 : ps.length ≤ 15) (hs : noStar s = true) (hd : litB dd c = true) (hline : (apos.endLine == cpos.line) = true) (ha : PE X s (tE X.K ec W F C a)) :
    PE X (.Call (.Attribute (.Dict keys vals p1) "get" apos) [s, .Constant c j p2] [] cpos) (tE X.K ec W F C (.dlg ps a dd)) := by
  obtain ⟨q1, q2, q3, q4, q5⟩ := kv_ok (X := X) (pos := p1) h1
  have hne : keys ≠ [] := fun e => by
    rw [e] at q4
    cases ps with
    | nil => cases h2
    | cons p ps => cases q4
  have hs2 : noStars [s, .Constant c j p2] = true := by unfold noStars; rw [hs]; rfl
  have m : M2 X (.Dict keys vals p1) "get" apos s (.Constant c j p2) cpos := ⟨rfl, few_one hs2, hline, by rw [starEach_of hs]; rfl⟩
  refine PE.imp (pe_dget2 hu (pe_disp q1 q2 q3 hne (by omega)) ha (e_litC hd) m) fun σ H Q ⟨ρ, B, Z, O, r, h⟩ => ?_
  intro p hp
  refine tPairs_run ps σ _ _ ⟨upd_same, kvs ps, ?_, by simpa using h3, ?_⟩
  · rw [List.map_map]
    refine List.map_congr_left fun x m => ?_
    show _ = (kV (kOf x.1), vOf x.2)
    rw [key_v (q5 x m).1]
  · rw [upd_upd]
    have s1 : Same H (upd H p (.dK (mergeK [] (kvs ps)))) := same_new hp
    refine ⟨p, rfl, .inl ⟨_, .inl upd_same⟩, ?_⟩
    unfold ev at h
    rw [aft_bind] at h
    refine use_E (r.mono s1) (aft_mono s1 h fun x hx v H2 s2 res => ?_)
    split at hx
    · rename_i hk
      have hv : v = kV (kOf x.2) := by
        have rp := res.rep
        generalize x.2 = y at hk rp
        cases y <;> first | (cases hk; done) | skip
        · rw [rp.int]; rfl
        · rw [rp.str]; rfl
      have ev := val_merge hk ps [] none (fun q m => (q5 q m).1) rfl
      refine ⟨_, .inl ⟨_, kOf x.2, .inl (s2 _ _ upd_same), hv, ev.symm⟩, ?_⟩
      have rc : RepR X.K (cut H2 (ZO Z O)) ((dget ps x.2).getD dd) (((dget ps x.2).map vOf).getD (vOf dd)) ∧ ((dget ps x.2).getD dd).cont = false := by
        cases e : dget ps x.2 with
        | none => exact rep_lit hd
        | some d =>
          rcases dget_mem (show ps.foldl (fun a p => if eqK p.1 x.2 then some p.2 else a) none = some d from e) with hm | ⟨w, m, ew, ek⟩
          · cases hm
          · have := (q5 w m).2 (cut H2 (ZO Z O))
            rw [ew] at this
            exact this
      have hx : ∀ v H', Same H H' → Res X.K H H' (ZO Z O) (at9 ((dget ps x.2).getD dd)) v → Q v H' := hx
      exact hx _ _ (s1.trans s2) ⟨fun _ => False, fun _ z => z.elim, (Own.flat rc.2).mpr ⟨fun _ z => z, rc.1.mono (cut_set fun x z => z.elim id False.elim)⟩⟩
    · exact hx.elim
/-- {} -/
theorem e_dnw : PE X (.Dict [] [] pos) (tE X.K ec W F C .dnw) := by
  refine PE.imp pe_dnewK fun σ H Q ⟨ρ, B, Z, O, r, h⟩ => ?_
  intro p hp
  unfold ev at h
  have h : ∀ v H', Same H H' → Res X.K H H' (ZO Z O) (some 9, .dct [] []) v → Q v H' := h
  refine h _ _ (same_new hp) ⟨fun x => x = p, fun x e => by rw [e]; exact hp, ?_⟩
  show Own X.K (upd H p (.dK [])) _ 9 (.dct [] []) (.ref p) _
  unfold Own
  exact ⟨p, [], fun _ => False, rfl, upd_same, rfl, fun x => by simp, id, rfl, fun _ z => z⟩
theorem tup2_calm (x y z : Kd) : ¬ wild (tup2 x y z) := by
  intro h
  unfold tup2 at h
  repeat' split at h
  all_goals cases h
/-- (a, b, *c) -/
theorem e_tupS {a b c : Ex} {x y z : Expr} {k : Nat} {p1 : Pos} (hx : noStar x = true) (hy : noStar y = true) (ha : PE X x (tE X.K ec W F C a)) (hb : PE X y (tE X.K ec W F C b)) (hc : PE X z (tE X.K ec W F C c)) :
    PE X (.Tuple [x, y, .Starred z p1] k pos) (tE X.K ec W F C (.tupS a b c)) := by
  refine PE.imp (pe_tupN (pa_cons ha (pa_cons hb (StX.pa_star hc pa_nil) (starEach_of hy)) (starEach_of hx))) fun σ H Q ⟨ρ, B, Z, O, r, h⟩ => ?_
  unfold ev at h
  rw [aft_bind] at h
  refine use_E r (aft_mono (Same.refl _) h fun ka ha v1 H1 s1 ⟨O1, f1, r1⟩ => ?_)
  rw [aft_bind] at ha
  have rel1 := r.past s1 f1 r1
  refine use_E rel1 (aft_mono s1 ha fun kb hb v2 H2 s2 ⟨O2, f2, r2⟩ => ?_)
  rw [aft_bind] at hb
  have rel2 := rel1.past s2 f2 r2
  refine use_E rel2 (aft_mono (s1.trans s2) hb fun kc hz v3 H3 s3 r3 => ?_)
  obtain ⟨k', e', q⟩ := aft_calm hz (tup2_calm ka kb kc)
  unfold tup2 at e'
  split at e'
  case h_2 => cases e'
  rename_i xx kz zs
  obtain ⟨O3, f3, r3⟩ := r3
  split at e'
  · cases e'
  rename_i hcc
  split at e' <;> cases e'
  rename_i hl
  simp only [Bool.or_eq_true, not_or, Bool.not_eq_true] at hcc
  obtain ⟨t, us, et, st, wt⟩ := RepR.tup (Res1.flat (k := kz) (d := .tup zs) rfl r3)
  have lt := wt.length
  have rr1 : RepR X.K (cut H3 (ZO Z O)) ka.2 v1 := (Res1.flat (k := ka.1) hcc.1 r1).mono ((cut_heap (s2.trans s3)).trans (cut_set fun x a => .inl a))
  have rr2 : RepR X.K (cut H3 (ZO Z O)) kb.2 v2 := (Res1.flat (k := kb.1) hcc.2 r2).mono ((cut_heap s3).trans (cut_set fun x a => .inl (by rw [zo_res]; exact .inl a)))
  have rr3 : RepRs X.K (cut H3 (ZO Z O)) zs us := wt.mono (cut_set fun x a => .inl (by rw [zo_res]; exact .inl (by rw [zo_res]; exact .inl a)))
  refine ⟨t, us, et, .inl (Same.seqT cut_same st), ?_⟩
  show (([v1, v2] ++ (us ++ [])).length ≤ sizeLine) ∧ _
  refine ⟨by rw [List.append_nil]; simp only [List.length_append, List.length_cons, List.length_nil, sizeLine_eq]; rw [lt]; unfold line at hl; omega, fun p o hp hd => ?_⟩
  refine q _ _ ((s1.trans (s2.trans s3)).trans (same_new hp)) (Res.tupN hp hd (fun z a => (r.am a).mono (s1.trans (s2.trans s3))) ?_)
  rw [List.append_nil]
  exact RepRs.cons rr1 (RepRs.cons rr2 rr3)
end
end Px

/-! PxX: a dict of one pair; what a dict holds, or another value. -/
namespace Px
open PySem PySem.Spec L2
section
variable {K : PySem.W.Frag} {ec : EC} {W : WX} {F : List Fn} {C : List D} {X : Cx} {pos : Pos}
/-- {k: v} -/
theorem e_dsp {k v : Ex} {x y : Expr} (hk : PE X x (tE X.K ec W F C k)) (hv : PE X y (tE X.K ec W F C v)) : PE X (.Dict [some x] [y] pos) (tE X.K ec W F C (.dsp k v)) := by
  refine PE.imp (pe_disp (pps_cons hk hv pps_nil) rfl rfl (by simp) (by simp)) fun σ H Q ⟨ρ, B, Z, O, r, h⟩ => ?_
  intro p hp
  have s0 : Same H (upd H p (.dK [])) := same_new hp
  have own0 : Own X.K (upd H p (.dK [])) (fun z => ZO Z O z ∨ z = p) 9 (.dct [] []) (.ref p) (fun z => z = p) := by
    unfold Own
    exact ⟨p, [], fun _ => False, rfl, upd_same, rfl, fun x => by simp, id, rfl, fun _ z => z⟩
  have rel0 := r.past (k := (some 9, .dct [] [])) (v := .ref p) (O1 := fun z => z = p) s0 (fun z e => by rw [e]; exact hp) own0
  unfold ev at h
  rw [aft_bind] at h
  show tE X.K ec W F C k σ (upd H p (.dK [])) _
  refine use_E rel0 (aft_mono s0 h fun kx hx u H2 s2 res => ?_)
  obtain ⟨O1, f1, r1⟩ := res
  have rel1 := rel0.past s2 f1 r1
  rw [aft_bind] at hx
  refine use_E rel1 (aft_mono (s0.trans s2) hx fun ky hy w H3 s3 res => ?_)
  obtain ⟨O2, f2, r2⟩ := res
  split at hy
  case isFalse => exact hy.elim
  rename_i hc
  rw [Bool.and_eq_true, Bool.not_eq_true'] at hc
  have hq : ∀ v H', Same H H' → Res X.K H H' (ZO Z O) (some 9, .dct [kx.2] [ky.2]) v → Q v H' := hy
  have e3 : H3 p = some (.dK []) := s3 _ _ (s2 _ _ upd_same)
  have hu := ky_val hc.1 r1.rep
  refine ⟨e3, [(kyOf kx.2, w)], by rw [hu]; rfl, by simp, ?_⟩
  show Q (.ref p) (upd H3 p (.dK [(kyOf kx.2, w)]))
  have sT : Same H (upd H3 p (.dK [(kyOf kx.2, w)])) := fun b o q => by
    rw [upd_ne (ne_of_none q hp)]
    exact (s0.trans (s2.trans s3)) b o q
  refine hq _ _ sT ⟨fun z => z = p, fun z e => by rw [e]; exact hp, ?_⟩
  show Own X.K _ _ 9 (.dct [kx.2] [ky.2]) (.ref p) _
  have rw0 : RepR X.K (cut H3 (fun z => ZO Z O z ∨ z = p)) ky.2 w := by
    have := Res1.flat (k := ky.1) (d := ky.2) hc.2 r2
    refine this.mono (cut_set fun z a => ?_)
    refine .inl ?_
    rw [zo_res]
    refine .inl ?_
    rw [zo_res]
    exact a
  unfold Own
  refine ⟨p, [(kyOf kx.2, w)], fun _ => False, rfl, upd_same, by simp [ky_of hc.1], fun z => by simp, id, ?_⟩
  refine ⟨w, [], fun _ => False, fun _ => False, rfl, fun z => by simp, fun _ z => z.elim, (Own.flat hc.2).mpr ⟨fun _ z => z, ?_⟩, rfl, fun _ z => z⟩
  rw [cut_upd (.inr rfl)]
  exact rw0
theorem dct_res {H : Hp} {A : AS} {k : Option Nat} {ks vs : List D} {x : V} {O1 : AS} (h : Res1 K H A (k, .dct ks vs) x O1) : ∃ a kvs j P, x = .ref a ∧ Rd H a (.dK kvs) ∧ ks.map keyOf = kvs.map (fun p => some p.1) ∧ Owns (Own K H A j) vs (kvs.map (·.2)) P := by
  have own : ∃ (j : Nat) (P : AS), Own K H A j (.dct ks vs) x P := by
    unfold Res1 at h
    cases k with
    | none => obtain ⟨n, j, P, hp, w⟩ := h; exact ⟨j, P, w⟩
    | some m => exact ⟨m, O1, h⟩
  obtain ⟨j, P, w⟩ := own
  cases j with
  | zero =>
    have w2 := w.2
    unfold RepR at w2
    obtain ⟨a, kvs, e1, e2, e3, e4⟩ := w2
    exact ⟨a, kvs, 0, fun _ => False, e1, Same.rd cut_same e2, e3, Owns.frz (fun _ _ _ n r => ⟨n, r⟩) (fun _ z => z) e4⟩
  | succ j =>
    unfold Own at w
    obtain ⟨a, kvs, P', e1, e2, e3, e4, e5, e6⟩ := w
    exact ⟨a, kvs, j, P', e1, .inl e2, e3, e6⟩
/-- d.get(y, x) -/
theorem e_dgt {a y x : Ex} {d s z : Expr} {apos cpos : Pos} (hu : X.A.units + 1 < cLine) (hs : noStars [s, z] = true) (hline : (apos.endLine == cpos.line) = true) (hb : attributeBase d "get" X.env (eval d X.env) = eval d X.env)
    (ha : PE X d (tE X.K ec W F C a)) (hy : PE X s (tE X.K ec W F C y)) (hx : PE X z (tE X.K ec W F C x)) : PE X (.Call (.Attribute d "get" apos) [s, z] [] cpos) (tE X.K ec W F C (.dgt a y x)) := by
  have tr : backTo cpos (starEach [s, z] X.env) = [(false, eval s X.env), (false, eval z X.env)] := by
    unfold noStars at hs
    rw [Bool.and_eq_true] at hs
    have h2 := hs.2
    unfold noStars at h2
    rw [Bool.and_eq_true] at h2
    rw [starEach_of hs.1, starEach_of h2.1]; rfl
  have m : M2 X d "get" apos s z cpos := ⟨hb, few_one hs, hline, tr⟩
  refine PE.imp (pe_dget2 hu ha hy hx m) fun σ H Q ⟨ρ, B, Z, O, r, h⟩ => ?_
  unfold ev at h
  rw [aft_bind] at h
  refine use_E r (aft_mono (Same.refl _) h fun kd hd u H1 s1 ⟨O1, f1, r1⟩ => ?_)
  obtain ⟨k0, d0⟩ := kd
  split at hd
  case h_2 => exact hd.elim
  rename_i k0 ks vs heq
  cases heq
  obtain ⟨p, kvs, j, P, eu, rd, hks, ow⟩ := dct_res r1
  refine ⟨p, eu, .inl ⟨kvs, rd⟩, ?_⟩
  have rel1 := r.past s1 f1 r1
  rw [aft_bind] at hd
  refine use_E rel1 (aft_mono s1 hd fun ky hk v H2 s2 ⟨O2, f2, r2⟩ => ?_)
  have rel2 := rel1.past s2 f2 r2
  rw [aft_bind] at hk
  refine use_E rel2 (aft_mono (s1.trans s2) hk fun kx hq w H3 s3 ⟨O3, f3, r3⟩ => ?_)
  unfold dgtD at hq
  split at hq
  case isFalse => exact hq.elim
  rename_i hc
  rw [Bool.and_eq_true, Bool.not_eq_true'] at hc
  have hv := ky_val hc.1 r2.rep
  have sub : ∀ z, ZO Z O z → ZO Z O z ∨ O1 z := fun z a => .inl a
  have get3 : Rd H3 p (.dK kvs) := Same.rd (s2.trans s3) rd
  refine ⟨valV kvs (kyOf ky.2), .inl ⟨kvs, _, get3, hv, rfl⟩, ?_⟩
  have sT : Same H H3 := s1.trans (s2.trans s3)
  rcases dct_own hc.1 hks ow with ⟨d', w', O4, e1, e2, rz⟩ | ⟨e1, e2⟩
  · rw [e1] at hq
    dsimp only at hq
    split at hq
    · exact hq.elim
    rename_i hcc
    have hcc : d'.cont = false := by simpa using hcc
    have hq : ∀ v H', Same H H' → Res X.K H H' (ZO Z O) (at9 d') v → Q v H' := hq
    rw [e2]
    refine hq _ _ sT ⟨fun _ => False, fun _ z => z.elim, (Own.flat hcc).mpr ⟨fun _ z => z, ?_⟩⟩
    exact ((Own.flat hcc).mp rz).2.mono ((cut_heap (s2.trans s3)).trans (cut_set fun z a => .inl (a.elim id False.elim)))
  · rw [e1] at hq
    have hq : ∀ v H', Same H H' → Res X.K H H' (ZO Z O) (at9 kx.2) v → Q v H' := hq
    rw [e2]
    refine hq _ _ sT ⟨fun _ => False, fun _ z => z.elim, (Own.flat hc.2).mpr ⟨fun _ z => z, ?_⟩⟩
    have := Res1.flat (k := kx.1) (d := kx.2) hc.2 r3
    refine this.mono (cut_set fun z a => .inl ?_)
    rw [zo_res]
    refine .inl ?_
    rw [zo_res]
    exact .inl (a.elim id False.elim)
/-- t.index(n), whole numbers -/
theorem e_tix {a i : Ex} {o y : Expr} {nm : Str} {apos cpos : Pos} (hx : nm = "index") (hb : plainBase o = true) (hs : noStar y = true) (hline : (apos.endLine == cpos.line) = true)
    (ha : PE X o (tE X.K ec W F C a)) (hy : PE X y (tE X.K ec W F C i)) : PE X (.Call (.Attribute o nm apos) [y] [] cpos) (tE X.K ec W F C (.tix a i)) := by
  subst hx
  have tr : backTo cpos (starEach [y] X.env) = [(false, eval y X.env)] := by rw [starEach_of hs]; rfl
  have hs1 : noStars [y] = true := by unfold noStars noStars; rw [hs]; rfl
  have m : M1 X o "index" apos y cpos := ⟨base_of hb, by rw [plainAll hs1]; rfl, hline, tr⟩
  refine PE.imp (pe_tix ha hy m) fun σ H Q ⟨ρ, B, Z, O, r, h⟩ => ?_
  unfold ev at h
  rw [aft_bind] at h
  refine use_E r (aft_mono (Same.refl _) h fun kd hd u H1 s1 ⟨O1, f1, r1⟩ => ?_)
  obtain ⟨k0, d0⟩ := kd
  split at hd
  case h_2 => exact hd.elim
  rename_i k0 xs heq
  cases heq
  obtain ⟨p, vs, eu, pt, wx⟩ := RepR.tupP (Res1.flat rfl r1)
  refine ⟨p, vs, eu, Same.pt cut_same pt, ?_⟩
  have rel1 := r.past s1 f1 r1
  rw [aft_bind] at hd
  refine use_E rel1 (aft_mono s1 hd fun ky hk v H2 s2 ⟨O2, f2, r2⟩ => ?_)
  unfold tixD at hk
  split at hk
  case h_2 => exact hk.elim
  rename_i ns c hns hc
  split at hk
  case isFalse => exact hk.elim
  rename_i hm
  have hk : ∀ v H', Same H H' → Res X.K H H' (ZO Z O) (at9 (.int (ns.idxOf c))) v → Q v H' := hk
  have ry := r2.rep
  rw [hc] at ry
  exact ⟨ns, c, ints_rep hns wx, ry.int, List.contains_iff_mem.mp hm, Same.pt s2 (Same.pt cut_same pt), hk _ _ (s1.trans s2) Res.int⟩
end
end Px

/-! Px10: what is walked; targets. -/
namespace Px
open PySem PySem.Spec L2
section
variable {K : PySem.W.Frag} {ec : EC} {W : WX} {F : List Fn} {C : List D} {X : Cx} {pos : Pos}
variable {σ : L2.St} {H H' H0 H1 H2 : Hp} {A : AS} {ρ : Env} {B G : Hp} {Z : AS} {O : Nat → AS}
/-- a value that a target takes: a pair that is taken apart at once may be of the weaker form -/
def RepW (K : PySem.W.Frag) (H : Hp) (w : Bool) (d : D) (v : V) : Prop := RepR K H d v ∨ (w = true ∧ ∃ xs a vs, d = .tup xs ∧ v = .ref a ∧ SqT K H a vs ∧ RepRs K H xs vs)
theorem RepW.mono {w : Bool} {d : D} {v : V} (s : Same H H') (h : RepW K H w d v) : RepW K H' w d v := by
  rcases h with h | ⟨e, xs, a, vs, e1, e2, h1, h2⟩
  · exact .inl (h.mono s)
  · exact .inr ⟨e, xs, a, vs, e1, e2, Same.seqT s h1, h2.mono s⟩
theorem RepW.up {w w' : Bool} {d : D} {v : V} (g : w = true → w' = true) (h : RepW K H w d v) : RepW K H w' d v := by
  rcases h with h | ⟨e, r⟩
  · exact .inl h
  · exact .inr ⟨g e, r⟩
theorem RepW.str {d : D} {v : V} (h : RepW K H false d v) : RepR K H d v := by
  rcases h with h | ⟨e, _⟩
  · exact h
  · cases e
theorem RepW.tup {w : Bool} {xs : List D} {v : V} (h : RepW K H w (.tup xs) v) : ∃ a vs, v = .ref a ∧ SqT K H a vs ∧ RepRs K H xs vs := by
  rcases h with h | ⟨_, ys, a, vs, e1, e2, h1, h2⟩
  · exact h.tup
  · cases e1; exact ⟨a, vs, e2, h1, h2⟩
theorem RepW.lst {w : Bool} {xs : List D} {v : V} (h : RepW K H w (.lst xs) v) : ∃ a vs, v = .ref a ∧ SqL K H a vs ∧ RepRs K H xs vs := by
  rcases h with h | ⟨_, ys, a, vs, e1, _⟩
  · exact h.lst
  · cases e1
/-- are pairs walked -/
def wkI : Ix → Bool
  | .enum _ => true
  | .zip _ _ => true
  | _ => false
/-- J walks these items, as long as what stands in B stands; G: what is frozen -/
def IsIt (K : PySem.W.Frag) (B G : Hp) (J : It) (w : Bool) (xs : List D) : Prop := ∀ H, Same B H → ∀ i : Nat,
  (∀ d, xs[i]? = some d → J.go i H ∧ ∀ x H', J.yld i H x H' → Same H H' ∧ ∀ A : AS, (∀ y, A y → H y ≠ none) → Same G (cut H A) → RepW K (cut H' A) w d x) ∧ (xs.length = i → J.stop i H)
noncomputable def Bb (bor : Bool) (H : Hp) (O : Nat → AS) : Hp := if bor then H else cut H fun x => ∃ i, O i x
theorem bb_same {bor : Bool} : Same (Bb bor H O) H := by
  unfold Bb; split
  · exact Same.refl _
  · exact cut_same
theorem bb_cut {bor : Bool} : Same (cut H (ZO Z O)) (Bb bor H O) := by
  unfold Bb; split
  · exact cut_same
  · exact cut_set fun x h => .inr h
def tI (K : PySem.W.Frag) (ec : EC) (W : WX) (F : List Fn) (C : List D) (bor : Bool) (c : Ix) : TI := fun σ H Q => ∃ (ρ : Env) (B : Hp) (Z : AS) (O : Nat → AS), Rel K B Z O σ H ρ ∧
  aft ec W σ H (evI F C bor c ρ) (fun xs => ∀ J H', Same H H' → IsIt K (Bb bor H' O) (cut H' (ZO Z O)) J (wkI c) xs → Q J H')
theorem PI.imp {tg e : Expr} {t t' : TI} (h : PI X tg e t) (w : ∀ σ H Q, t' σ H Q → t σ H Q) : PI X tg e t' := ⟨fun pins s σ H Q I q => h.run pins s σ H Q I (w σ H Q q)⟩
/-! the walks themselves -/
theorem isIt_list {w : Bool} {a : Addr} {vs : List V} {xs : List D} (hB : SqL K B a vs) (r : RepRs K G xs vs) : IsIt K B G (Itl K a) w xs := by
  intro H sB i
  have hs : SqL K H a vs := L2.Same.seq sB hB
  refine ⟨fun d e => ?_, fun h => ⟨vs, hs, by rw [r.length]; exact Nat.le_of_eq h⟩⟩
  obtain ⟨v, ev, rv⟩ := r.get e
  refine ⟨⟨vs, v, hs, ev⟩, fun x H' ⟨eH, hx⟩ => ?_⟩
  subst eH
  have := hx vs hs
  rw [ev] at this
  cases this
  exact ⟨Same.refl _, fun A _ sG => .inl (rv.mono sG)⟩
theorem isIt_tup {w : Bool} {a : Addr} {vs : List V} {xs : List D} (hB : SqT K B a vs) (r : RepRs K G xs vs) : IsIt K B G (Itt K a) w xs := by
  intro H sB i
  have hs : SqT K H a vs := Same.seqT sB hB
  refine ⟨fun d e => ?_, fun h => ⟨vs, hs, by rw [r.length]; exact Nat.le_of_eq h⟩⟩
  obtain ⟨v, ev, rv⟩ := r.get e
  refine ⟨⟨vs, v, hs, ev⟩, fun x H' ⟨eH, hx⟩ => ?_⟩
  subst eH
  have := hx vs hs
  rw [ev] at this
  cases this
  exact ⟨Same.refl _, fun A _ sG => .inl (rv.mono sG)⟩
theorem isIt_str {w : Bool} {s : List Nat} : IsIt K B G (Its (mkS s)) w (s.map fun c => .str [c]) := by
  intro H sB i
  refine ⟨fun d e => ?_, fun h => by
    show (mkS s).cps.size ≤ i
    exact Nat.le_of_eq (by simpa using h)⟩
  rw [List.getElem?_map] at e
  cases q : s[i]? with
  | none => rw [q] at e; cases e
  | some c =>
    rw [q] at e
    cases e
    have hl : i < s.length := (List.getElem?_eq_some_iff.mp q).1
    refine ⟨by
      show i < (mkS s).cps.size
      simpa using hl, fun x H' ⟨eH, c', ec, ex⟩ => ?_⟩
    subst eH
    have : c' = c := by
      have ec : s[i]? = some c' := by simpa using ec
      rw [q] at ec; cases ec; rfl
    subst this
    subst ex
    exact ⟨Same.refl _, fun A _ sG => .inl (by unfold RepR; rfl)⟩
theorem isIt_rng1 {w : Bool} {lo hi : Int} : IsIt K B G (Itr lo (hi - lo).toNat) w (rng1 lo hi) := by
  intro H sB i
  unfold rng1
  refine ⟨fun d e => ?_, fun h => by
    show (hi - lo).toNat ≤ i
    rw [List.length_map, List.length_range] at h
    exact Nat.le_of_eq h⟩
  rw [List.getElem?_map] at e
  by_cases hi' : i < (hi - lo).toNat
  · rw [List.getElem?_range hi'] at e
    cases e
    refine ⟨hi', fun x H' ⟨eH, ex⟩ => ?_⟩
    subst eH; subst ex
    exact ⟨Same.refl _, fun A _ sG => .inl (by unfold RepR; rfl)⟩
  · rw [List.getElem?_eq_none (by simpa using hi')] at e
    cases e
theorem isIt_rngL {w : Bool} {lo hi st : Int} : IsIt K B G (Itc lo st (Builtin.Range.rangeSize lo hi st).toNat) w (rngL lo hi st) := by
  intro H sB i
  unfold rngL
  refine ⟨fun d e => ?_, fun h => by
    show (Builtin.Range.rangeSize lo hi st).toNat ≤ i
    rw [List.length_map, List.length_range] at h
    exact Nat.le_of_eq h⟩
  rw [List.getElem?_map] at e
  by_cases hi' : i < (Builtin.Range.rangeSize lo hi st).toNat
  · rw [List.getElem?_range hi'] at e
    cases e
    refine ⟨hi', fun x H' ⟨eH, ex⟩ => ?_⟩
    subst eH; subst ex
    exact ⟨Same.refl _, fun A _ sG => .inl (by unfold RepR; rfl)⟩
  · rw [List.getElem?_eq_none (by simpa using hi')] at e
    cases e
/-- a new pair of what is frozen -/
theorem pair_new {T : Addr} {x y : V} {d e : D} (hT : H T = none) (hA : ∀ y, A y → H y ≠ none) (r1 : RepR K (cut H A) d x) (r2 : RepR K (cut H A) e y) : RepW K (cut (upd H T (.tup [x, y])) A) true (.tup [d, e]) (.ref T) := by
  have s : Same (cut H A) (cut (upd H T (.tup [x, y])) A) := cut_heap (same_new hT)
  exact .inr ⟨rfl, [d, e], T, [x, y], rfl, rfl, SqT.of (cut_of upd_same fun a => hA T a hT), RepRs.cons (r1.mono s) (RepRs.cons (r2.mono s) RepRs.nil)⟩
theorem enumL_get {xs : List D} : ∀ {n i : Nat} {d : D}, (enumL n xs)[i]? = some d → ∃ e, xs[i]? = some e ∧ d = .tup [.int ((n + i : Nat) : Int), e] := by
  induction xs with
  | nil => intro n i d h; simp [enumL] at h
  | cons a xs ih =>
    intro n i d h
    unfold enumL at h
    cases i with
    | zero => simp at h; exact ⟨a, rfl, h.symm⟩
    | succ i =>
      obtain ⟨e, h1, h2⟩ := ih (n := n + 1) (by simpa using h)
      exact ⟨e, by simpa using h1, by rw [h2]; congr 3; congr 1; omega⟩
theorem enumL_len {xs : List D} : ∀ {n : Nat}, (enumL n xs).length = xs.length := by
  induction xs with
  | nil => intro n; rfl
  | cons a xs ih => intro n; unfold enumL; rw [List.length_cons, ih, List.length_cons]
theorem isIt_enum {a : Addr} {vs : List V} {xs : List D} (hB : SqL K B a vs) (r : RepRs K G xs vs) : IsIt K B G (Ite K a) true (enumL 0 xs) := by
  intro H sB i
  have hs : SqL K H a vs := L2.Same.seq sB hB
  refine ⟨fun d e => ?_, fun h => ⟨vs, hs, by rw [enumL_len] at h; rw [r.length]; exact Nat.le_of_eq h⟩⟩
  obtain ⟨d', e', ed⟩ := enumL_get e
  obtain ⟨v, ev, rv⟩ := r.get e'
  refine ⟨⟨vs, v, hs, ev⟩, fun x H' ⟨T, y, ex, hT, eH, hx⟩ => ?_⟩
  subst ex; subst eH; subst ed
  have := hx vs hs
  rw [ev] at this
  cases this
  refine ⟨same_new hT, fun A hA sG => pair_new hT hA ?_ (rv.mono sG)⟩
  unfold RepR
  rw [Nat.zero_add]
theorem zipL_get : ∀ {xs ys : List D} {i : Nat} {d : D}, (zipL xs ys)[i]? = some d → ∃ e f, xs[i]? = some e ∧ ys[i]? = some f ∧ d = .tup [e, f]
  | [], _, i, d, h => by simp [zipL] at h
  | a :: xs, [], i, d, h => by simp [zipL] at h
  | a :: xs, b :: ys, 0, d, h => by
    unfold zipL at h
    simp at h
    exact ⟨a, b, rfl, rfl, h.symm⟩
  | a :: xs, b :: ys, i + 1, d, h => by
    unfold zipL at h
    obtain ⟨e, f, h1, h2, h3⟩ := zipL_get (xs := xs) (ys := ys) (i := i) (by simpa using h)
    exact ⟨e, f, by simpa using h1, by simpa using h2, h3⟩
theorem zipL_len : ∀ {xs ys : List D}, (zipL xs ys).length = min xs.length ys.length
  | [], _ => by simp [zipL]
  | a :: xs, [] => by simp [zipL]
  | a :: xs, b :: ys => by
    unfold zipL
    rw [List.length_cons, zipL_len, List.length_cons, List.length_cons]
    omega
theorem isIt_zip {a b : Addr} {vs us : List V} {xs ys : List D} (hB : SqL K B a vs) (hC : SqL K B b us) (r : RepRs K G xs vs) (q : RepRs K G ys us) : IsIt K B G (Itz K a b) true (zipL xs ys) := by
  intro H sB i
  have hs : SqL K H a vs := L2.Same.seq sB hB
  have ht : SqL K H b us := L2.Same.seq sB hC
  refine ⟨fun d e => ?_, fun h => ⟨vs, us, hs, ht, by rw [zipL_len] at h; rw [r.length, q.length]; omega⟩⟩
  obtain ⟨d', f', e1, e2, ed⟩ := zipL_get e
  obtain ⟨v, ev, rv⟩ := r.get e1
  obtain ⟨u, eu, ru⟩ := q.get e2
  refine ⟨⟨vs, us, v, u, hs, ht, ev, eu⟩, fun x H' ⟨T, y, z, ex, hT, eH, hx, hy⟩ => ?_⟩
  subst ex; subst eH; subst ed
  have h1 := hx vs hs
  have h2 := hy us ht
  rw [ev] at h1; rw [eu] at h2
  cases h1; cases h2
  exact ⟨same_new hT, fun A hA sG => pair_new hT hA (rv.mono sG) (ru.mono sG)⟩
/-! a walked value, whatever it is -/
def iAny (K : PySem.W.Frag) (te : TE) : TI := fun σ H R => te σ H fun x H1 => (∃ a, x = .ref a ∧ (∃ xs, SqL K H1 a xs) ∧ R (Itl K a) H1) ∨ (∃ a, x = .ref a ∧ (∃ xs, SqT K H1 a xs) ∧ R (Itt K a) H1) ∨ ∃ z, x = .str z ∧ R (Its z) H1
theorem iter_new {tg : Expr} {pins : List (Addr × Obj)} {s : Shared} {J : It} {R : It → Hp → Prop} {o : Obj} {tn : Nat → Heap → Prop} (I : L2.Inv X pins σ H s) (T : Turn X.prog X.w X.K tg J [s.heap.objs.size] s.heap.objs.size tn) (t0 : tn 0 (s.heap.push o)) (q : R J H) :
    PIE X pins σ tg R (.ref s.heap.objs.size) { s with heap := s.heap.push o } := by
  refine ⟨_, [s.heap.objs.size], tn, J, H, rfl, I.kept (t' := s.toks) fun b o e => Heap.get?_push_of_some _ e, T, t0, fun b hb => ?_, q⟩
  have e : b = s.heap.objs.size := by simpa using hb
  rw [e]
  exact I.fpOk (Nat.le_refl _) (I.hok.fresh (Nat.le_refl _))
theorem pi_any {tg l : Expr} {tl : TE} (hl : PE X l tl) : PI X tg l (iAny X.K tl) := by
  refine ⟨fun pins s σ H R I h => thn (hl.run pins s σ H _ I h) fun v s1 ⟨x, H1, I1, r1, q1⟩ => ?_⟩
  rcases q1 with ⟨a, ex, ⟨xs, hs⟩, q⟩ | ⟨a, ex, ⟨xs, hs⟩, q⟩ | ⟨z, ex, q⟩ <;> subst ex
  · cases r1
    obtain ⟨its, rv, p, _⟩ := I1.list hs
    exact wpAny_pyIter_list p.isList (iter_new I1 (turn_list a _) ⟨_, Heap.get?_push_size _ rfl, rfl, rfl⟩ q)
  · cases r1
    obtain ⟨its, rv, p, _⟩ := I1.tuple hs
    exact wpAny_pyIter_tuple (show s1.heap.IsTuple a its.toArray from p) (iter_new I1 (turn_tuple a _) ⟨_, Heap.get?_push_size _ rfl, rfl, rfl⟩ q)
  · obtain ⟨t, rfl⟩ := r1
    cases ha : z.cps.all (· < 128)
    · exact wpAny_pyIter_wide ha (iter_new I1 (turn_str _ z t "str_iterator" (.inr rfl)) ⟨_, Heap.get?_push_size _ rfl, rfl, rfl⟩ q)
    · exact wpAny_pyIter_ascii ha (iter_new I1 (turn_str _ z t "str_ascii_iterator" (.inl rfl)) ⟨_, Heap.get?_push_size _ rfl, rfl, rfl⟩ q)
/-! the readings of what is walked -/
theorem items_calm (bor : Bool)  (k : Kd) : ¬ wild (itemsD bor k) := by
  intro h
  unfold itemsD at h
  split at h
  · split at h
    · cases h
    · unfold chd at h
      repeat' split at h
      all_goals cases h
  · cases h
  · cases h
  · cases h
theorem own_list {j : Nat} {xs : List D} {v : V} {P : AS} (w : Own K H A j (D.lst xs) v P) : ∃ a vs, v = .ref a ∧ SqL K H a vs ∧ (j = 0 → SqL K (cut H A) a vs) ∧ (j ≠ 0 → P a ∧ H a = some (.lst vs)) ∧
    ∃ P' : AS, (∀ x, P' x → P x) ∧ Owns (Own K H A (j - 1)) xs vs P' := by
  cases j with
  | zero =>
    obtain ⟨a, vs, e, s, q⟩ := RepR.lst w.2
    exact ⟨a, vs, e, L2.Same.seq cut_same s, fun _ => s, fun h => absurd rfl h, fun _ => False, fun _ z => z.elim, Owns.frz (fun d v O n r => ⟨n, r⟩) (fun _ z => z) q⟩
  | succ j =>
    unfold Own at w
    obtain ⟨a, vs, P', e, ea, h1, h2, q⟩ := w
    exact ⟨a, vs, e, SqL.of ea, fun h => (by cases h), fun _ => ⟨(h1 a).mpr (.inl rfl), ea⟩, P', fun x z => (h1 x).mpr (.inr z), q⟩
/-- the items of a list stand frozen, the list stays -/
theorem items_list {bor : Bool} {k : Option Nat} {xs ys : List D} {v : V} {O1 O2 : AS} (r : Rel K B Z O σ H ρ) (s : Same H H1) (f2 : ∀ x, O2 x → H x = none) (sub : ∀ x, O1 x → O2 x) (r1 : Res1 K H1 (fun x => ZO Z O x ∨ O2 x) (k, .lst xs) v O1)
    (e : itemsD bor (k, .lst xs) = .ok ys) : ys = xs ∧ ∃ a vs, v = .ref a ∧ SqL K H1 a vs ∧ SqL K (Bb bor H1 O) a vs ∧ RepRs K (cut H1 (ZO Z O)) xs vs := by
  have f : ∀ x, O1 x → H x = none := fun x o => f2 x (sub x o)
  unfold itemsD at e
  have e : (if (k.isNone && !bor) = true then R.stuck else do let _ ← chd k xs; R.ok xs) = R.ok ys := e
  split at e
  · cases e
  · rename_i hb
    cases e1 : chd k xs with
    | exc x p => rw [e1] at e; cases e
    | stuck => rw [e1] at e; cases e
    | draw _ => rw [e1] at e; cases e
    | ok c =>
      rw [e1] at e
      cases e
      refine ⟨rfl, ?_⟩
      cases k with
      | none =>
        have hbor : bor = true := by cases bor <;> first | rfl | exact absurd rfl hb
        obtain ⟨n, j, P, hp, w⟩ := r1
        obtain ⟨a, vs, ex, sx, _, _, P', sP, q⟩ := own_list w
        have hc : xs.any D.cont = false := by
          cases q : xs.any D.cont with
          | false => rfl
          | true => unfold chd at e1; rw [q] at e1; cases e1
        refine ⟨a, vs, ex, sx, ?_, ?_⟩
        · unfold Bb; rw [if_pos hbor]; exact sx
        · have q' := Owns.none_of (cont_of hc) q
          have q2 : Owns (Own K H1 (fun x => ZO Z O x ∨ O2 x) 0) xs vs (fun _ => False) := q'.impIn fun d m v O3 _ r => (Own.flat (cont_of hc d m)).mpr ((Own.flat (cont_of hc d m)).mp r)
          exact (q2.rep (R := Own K H1 (fun x => ZO Z O x ∨ O2 x) 0) (K := K) (H := cut H1 (fun x => ZO Z O x ∨ O2 x)) fun d v O r => r.2).mono (cut_set fun x h => .inl h)
      | some j =>
        have r1 : Own K H1 _ j (.lst xs) v O1 := r1
        obtain ⟨a, vs, ex, sx, h0, h1, P', sP, q⟩ := own_list r1
        obtain ⟨P2, sP2, g⟩ := owns_lower q 0 (Nat.zero_le _)
        have g := (g (ZO Z O) (fun x a => .inl a) fun x a p => absurd (f x (sP x p)) (r.am a).ne).rep (K := K) (H := cut H1 (ZO Z O)) fun _ _ _ r => r.2
        refine ⟨a, vs, ex, sx, ?_, g⟩
        unfold Bb
        split
        · exact sx
        · by_cases hj : j = 0
          · exact L2.Same.seq (cut_set fun x h => .inl (.inr h)) (h0 hj)
          · obtain ⟨ha, ea⟩ := h1 hj
            exact SqL.of (cut_of ea fun h => absurd (f a ha) (r.am (.inr h)).ne)
theorem i_ex {bor : Bool} {c : Ex} {tg e : Expr} (hc : PE X e (tE X.K ec W F C c)) : PI X tg e (tI X.K ec W F C bor (.val c)) := by
  refine PI.imp (pi_any hc) fun σ H Q ⟨ρ, B, Z, O, r, h⟩ => ?_
  unfold evI at h
  rw [aft_bind] at h
  refine use_E r (aft_mono (Same.refl _) h fun k hk v H1 s1 ⟨O1, f1, r1⟩ => ?_)
  obtain ⟨ys, e', q⟩ := aft_calm hk (items_calm bor k)
  obtain ⟨o, d⟩ := k
  cases d with
  | lst xs =>
    obtain ⟨e2, a, vs, ex, sx, sB, w⟩ := items_list r s1 f1 (fun _ o => o) r1 e'
    subst e2
    exact .inl ⟨a, ex, ⟨vs, sx⟩, q _ _ s1 (isIt_list sB w)⟩
  | tup xs =>
    unfold itemsD at e'
    cases e'
    obtain ⟨a, vs, ex, sx, wx⟩ := RepR.tup (Res1.flat rfl r1)
    have sG : Same (cut H1 (fun x => ZO Z O x ∨ O1 x)) (cut H1 (ZO Z O)) := cut_set fun x h => .inl h
    exact .inr (.inl ⟨a, ex, ⟨vs, Same.seqT cut_same sx⟩, q _ _ s1 (isIt_tup (Same.seqT (sG.trans bb_cut) sx) (wx.mono sG))⟩)
  | str s =>
    unfold itemsD at e'
    cases e'
    exact .inr (.inr ⟨mkS s, r1.rep.str, q _ _ s1 isIt_str⟩)
  | non => cases e'
  | bl _ => cases e'
  | int _ => cases e'
  | dct _ _ => cases e'
  | ext _ => cases e'
end
end Px

/-! PxZ: zip of a tuple and a list. -/
namespace Px
open PySem PySem.Spec PyProof.Rows L2
section
variable {prog : Program} {w : World} {A : Around}
/-- a tuple's iterator, drawn from -/
theorem drawT (hh : A.handled = none) (it l : Addr) (ne : l ≠ it) (items : Array Value) : Draws prog w A it [it, l] items.size (fun i v => items[i]? = some v) (fun i h => h.IsTupleIter it l i ∧ h.IsTuple l items) where
  live := fun _ _ st => let ⟨o, ho, _⟩ := st.1; ⟨o, ho⟩
  frame := fun _ _ _ st k => by
    obtain ⟨o, ho, r⟩ := st.2
    exact ⟨st.1.at fun o e => k it (by simp) o e, ⟨o, k l (by simp) o ho, r⟩⟩
  item := fun i s Q E hi st q => RZ.nextOf_tuple_item st.1 st.2 (x := items[i]) (by simp [hi]) fun h' a b => q _ h' s.toks (by simp [hi]) ⟨a, st.2.extBut b.extBut ne⟩ b
  done := fun s Q E st e => RZ.nextOf_tuple_end hh st.1 st.2 (by simp) e
end
/-- the tuple at a and the list at b as they stand at each turn, the items in new pairs -/
def ItzM (K : PySem.W.Frag) (a b : Addr) : It where
  go := fun i H => ∃ (xs ys : List V) (x y : V), SqT K H a xs ∧ SqL K H b ys ∧ xs[i]? = some x ∧ ys[i]? = some y
  yld := fun i H v H' => ∃ T x y, v = .ref T ∧ H T = none ∧ H' = upd H T (.tup [x, y]) ∧ (∀ xs, SqT K H a xs → xs[i]? = some x) ∧ ∀ ys, SqL K H b ys → ys[i]? = some y
  stop := fun i H => ∃ xs ys : List V, SqT K H a xs ∧ SqL K H b ys ∧ (xs.length ≤ i ∨ ys.length ≤ i) ∧ i ≤ xs.length ∧ i ≤ ys.length
abbrev StM (z TI TO i1 i2 a b : Addr) (i : Nat) (h : Heap) : Prop := IsZip h z TI TO .none ∧ IsPair h TI (.ref i1) (.ref i2) ∧ (∃ x y, IsPair h TO x y) ∧ h.IsTupleIter i1 a i ∧ h.IsListIter i2 b i
theorem sepM {z TI TO i1 i2 a b : Addr} (D : ZipApart z TI TO i1 i2 a b) : ZipSep2 z TI TO i1 i2 [i1, a] [i2, b] where
  TIz := D.TIz
  TOz := D.TOz
  TITO := D.TITO
  TIi1 := D.TIi1
  mem1 := by simp
  zf1 := by simp [D.i1z.symm, D.l1z.symm]
  Tf1 := by simp [D.TOi1, D.l1TO.symm]
  TIi2 := D.TIi2
  mem2 := by simp
  zf2 := by simp [D.i2z.symm, D.l2z.symm]
  Tf2 := by simp [D.TOi2, D.l2TO.symm]
  sep1_2 := by simp [D.i12, D.l2i1.symm]
  sep2_1 := by simp [D.i12.symm, D.l1i2.symm]
theorem five {P : Addr → Prop} {z TI TO i1 i2 : Addr} (h1 : P z) (h2 : P TI) (h3 : P TO) (h4 : P i1) (h5 : P i2) : ∀ c ∈ [z, TI, TO, i1, i2], P c := by
  intro c m
  simp only [List.mem_cons, List.not_mem_nil, or_false] at m
  rcases m with e | e | e | e | e <;> rw [e] <;> assumption
theorem turnM {P : Program} {w : World} {K : PySem.W.Frag} {elts : List Expr} {kk : Nat} {tpos : Pos} {a b z TI TO i1 i2 : Addr} (D : ZipApart z TI TO i1 i2 a b) : Turn P w K (.Tuple elts kk tpos) (ItzM K a b) [z, TI, TO, i1, i2] z (StM z TI TO i1 i2 a b) where
  mem := by simp
  obj := fun i h st => by
    obtain ⟨hz, hI, ⟨x, y, hO⟩, ⟨o1, e1, _, d1⟩, ⟨o2, e2, _, d2⟩⟩ := st
    exact five ⟨_, hz, fun v q => nomatch q⟩ ⟨_, hI, fun v q => nomatch q⟩ ⟨_, hO, fun v q => nomatch q⟩ ⟨o1, e1, fun v q => by rw [d1] at q; cases q⟩ ⟨o2, e2, fun v q => by rw [d2] at q; cases q⟩
  keep := fun i h h' st k => by
    obtain ⟨hz, hI, ⟨x, y, hO⟩, t1, t2⟩ := st
    exact ⟨k z (by simp) _ hz, k TI (by simp) _ hI, ⟨x, y, k TO (by simp) _ hO⟩, t1.at fun o q => k i1 (by simp) o q, t2.at fun o q => k i2 (by simp) o q⟩
  item := by
    intro X hP hw hK hc i pins s σ H E I hf st hg
    subst hP hw hK
    obtain ⟨hz, hI, ⟨x0, y0, hO⟩, t1, t2⟩ := st
    obtain ⟨xs, ys, x, y, sx, sy, hx, hy⟩ := hg
    obtain ⟨us, r1, p1, _⟩ := I.tuple sx
    obtain ⟨vs, r2, p2, _⟩ := I.list sy
    obtain ⟨u, hu, ru⟩ := r1.get hx
    obtain ⟨v, hv, rv⟩ := r2.get hy
    have hd := I.ok.hd hc
    have zl : z < s.heap.objs.size := Heap.lt_size hz
    have l1 : i < us.toArray.size := by simpa using (List.getElem?_eq_some_iff.mp hu).1
    have l2 : i < vs.toArray.size := by simpa using (List.getElem?_eq_some_iff.mp hv).1
    refine wpAny_pyNext_zipD2_item (sepM D) (drawT (prog := X.prog) (w := X.w) (A := X.A.in1) hd i1 a D.l1i1 us.toArray) (Draws.list (prog := X.prog) (w := X.w) (A := X.A.in1) hd i2 b D.l2i2 vs.toArray) hz hI hO ⟨t1, p1⟩ ⟨t2, p2.isList⟩ l1 l2 ?_
    intro u' v' h' tk eu ev z' O' n1 n2 hT hs keep
    have eu : u = u' := by
      have : us[i]? = some u' := by simpa using eu
      rw [hu] at this; cases this; rfl
    have ev : v = v' := by
      have : vs[i]? = some v' := by simpa using ev
      rw [hv] at this; cases this; rfl
    subst eu; subst ev
    refine ⟨_, rfl, wpAny_letOwnedTupleGo_zip (s := { s with heap := h', toks := tk }) z' fun g z'' sb => ?_⟩
    have at_ : g.get? s.heap.objs.size = some { cls := .type "tuple", data := .seq #[u, v] } := (sb.2 _ (Nat.ne_of_gt zl)).trans hT
    have old : ∀ c o, c ∉ [z, TI, TO, i1, i2] → s.heap.get? c = some o → g.get? c = some o := by
      intro c o n e
      simp only [List.mem_cons, List.not_mem_nil, or_false, not_or] at n
      exact (sb.2 c n.1).trans (keep c o n.1 n.2.2.1 n.2.2.2.1 n.2.2.2.2 e)
    have J : Inv X pins σ (upd H s.heap.objs.size (.tup [x, y])) { s with heap := g, toks := tk } :=
      I.turnedNew (t' := tk) (ch := [z, TI, TO, i1, i2]) old hf (Nat.le_refl _) ⟨by show 2 ≤ sizeLine; decide, [u, v], .cons ru (.cons rv .nil), ⟨_, at_, rfl, _, rfl⟩⟩
    refine ⟨.ref s.heap.objs.size, _, J, rfl, ⟨_, x, y, rfl, I.hok.fresh (Nat.le_refl _), rfl, fun l hl => by rw [I.tuple_inj hl sx]; exact hx, fun l hl => by rw [I.list_inj hl sy]; exact hy⟩, ⟨z'', (sb.2 _ D.TIz).trans (keep _ _ D.TIz D.TITO D.TIi1 D.TIi2 hI), ⟨u, v, (sb.2 _ D.TOz).trans O'⟩, n1.1.at fun o q => (sb.2 _ D.i1z).trans q, n2.1.at fun o q => (sb.2 _ D.i2z).trans q⟩, ?_⟩
    have below : ∀ c ∈ [z, TI, TO, i1, i2], c < s.heap.objs.size := by
      obtain ⟨_, e1, _⟩ := id t1
      obtain ⟨_, e2, _⟩ := id t2
      exact five zl (Heap.lt_size hI) (Heap.lt_size hO) (Heap.lt_size e1) (Heap.lt_size e2)
    intro c m
    rw [upd_ne (Nat.ne_of_lt (below c m))]
    exact (hf c m).1
  done := by
    intro X hP hw hK hc i pins s σ H E I hf st hg
    subst hP hw hK
    obtain ⟨hz, hI, ⟨x0, y0, hO⟩, t1, t2⟩ := st
    obtain ⟨xs, ys, sx, sy, e, b1, b2⟩ := hg
    obtain ⟨us, r1, p1, _⟩ := I.tuple sx
    obtain ⟨vs, r2, p2, _⟩ := I.list sy
    have hd := I.ok.hd hc
    have l1 := r1.length
    have l2 := r2.length
    refine wpAny_pyNext_zipD2_end (sepM D) (drawT (prog := X.prog) (w := X.w) (A := X.A.in1) hd i1 a D.l1i1 us.toArray) (Draws.list (prog := X.prog) (w := X.w) (A := X.A.in1) hd i2 b D.l2i2 vs.toArray) hz hI hO ⟨t1, p1⟩ ⟨t2, p2.isList⟩ (by simp; omega) (by simp; omega) (by simp; omega) ?_
    intro h' tk keep
    refine ⟨rfl, I.turnedL (t' := tk) (ch := [z, TI, TO, i1, i2]) (fun c o n q => ?_) hf⟩
    simp only [List.mem_cons, List.not_mem_nil, or_false, not_or] at n
    exact keep c o n.1 n.2.2.1 n.2.2.2.1 n.2.2.2.2 q
  self := fun A i s Q E st h => wpAny_pyIter_zip st.1 h
section
variable {prog : Program} {w : World} {A : Around} {E : Value → Shared → Prop} {s : Shared}
abbrev zM1 (h : Heap) (a : Addr) : Heap := h.push { cls := .type "tuple_iterator", data := .fields #[.ref a, .int 0 0] }
abbrev zM2 (h : Heap) (a b : Addr) : Heap := (zM1 h a).push { cls := .type "list_iterator", data := .fields #[.ref b, .int 0 0] }
abbrev zM3 (h : Heap) (a b : Addr) : Heap := (zM2 h a b).push { cls := .type "tuple", data := .seq #[.ref h.objs.size, .ref (zM1 h a).objs.size] }
abbrev zM4 (h : Heap) (a b : Addr) : Heap := (zM3 h a b).push { cls := .type "tuple", data := .seq #[.none, .none] }
abbrev zM5 (h : Heap) (a b : Addr) : Heap := (zM4 h a b).push { cls := .type "zip", data := .fields #[.none, .bool false, .bool false, .ref (zM2 h a b).objs.size, .ref (zM3 h a b).objs.size] }
theorem meetsM (a b : Addr) (xs ys : Array Value) : Meets (Builtin.«zip.__new__» ⟨[.type "zip", .ref a, .ref b], []⟩) (fun _ R s => s.heap.IsTuple a xs ∧ s.heap.IsList b ys ∧ R (.ok (.ret (.ref (zM4 s.heap a b).objs.size))) { s with heap := zM5 s.heap a b }) :=
  .of_wp fun prog w A R s h => by
    obtain ⟨hp, g, d, tk, os⟩ := s
    obtain ⟨ha, hb, h⟩ := h
    have zs := sub_zip
    have hA : Heap.IsTuple (Shared.heap ⟨hp, g, d, tk, os⟩) a xs := ha
    have hB : Heap.IsList (Shared.heap ⟨hp.push { cls := .type "tuple_iterator", data := .fields #[.ref a, .int 0 0] }, g, d, tk, os⟩) b ys := Heap.IsList.push hb _
    wp_walk using wpAny_pyIter_tuple hA, wpAny_pyIter_list hB
    exact ⟨_, rfl, h⟩
theorem callM {a b : Addr} {xs ys : Array Value} {Q : Value → Shared → Prop} (ha : s.heap.IsTuple a xs) (hb : s.heap.IsList b ys)
    (h : ∀ g, StM (s.heap.objs.size + 4) (s.heap.objs.size + 2) (s.heap.objs.size + 3) s.heap.objs.size (s.heap.objs.size + 1) a b 0 g → (∀ c o, s.heap.get? c = some o → g.get? c = some o) → Q (.ref (s.heap.objs.size + 4)) { s with heap := g }) :
    wpAny (model prog w) A (call (.type "zip") [.ref a, .ref b]) Q E s := by
  have n1 : (zM1 s.heap a).objs.size = s.heap.objs.size + 1 := Heap.size_push ..
  have n2 : (zM2 s.heap a b).objs.size = s.heap.objs.size + 2 := by rw [Heap.size_push, n1]
  have n3 : (zM3 s.heap a b).objs.size = s.heap.objs.size + 3 := by rw [Heap.size_push, n2]
  have n4 : (zM4 s.heap a b).objs.size = s.heap.objs.size + 4 := by rw [Heap.size_push, n3]
  have up1 : ∀ {c o}, (zM1 s.heap a).get? c = some o → (zM2 s.heap a b).get? c = some o := Heap.get?_push_of_some _
  have up2 : ∀ {c o}, (zM2 s.heap a b).get? c = some o → (zM3 s.heap a b).get? c = some o := Heap.get?_push_of_some _
  have up3 : ∀ {c o}, (zM3 s.heap a b).get? c = some o → (zM4 s.heap a b).get? c = some o := Heap.get?_push_of_some _
  have up4 : ∀ {c o}, (zM4 s.heap a b).get? c = some o → (zM5 s.heap a b).get? c = some o := Heap.get?_push_of_some _
  have g1 : (zM5 s.heap a b).get? s.heap.objs.size = some _ := up4 (up3 (up2 (up1 (Heap.get?_push_size _ rfl))))
  have g2 : (zM5 s.heap a b).get? (zM1 s.heap a).objs.size = some _ := up4 (up3 (up2 (Heap.get?_push_size _ rfl)))
  have g3 : (zM5 s.heap a b).get? (zM2 s.heap a b).objs.size = some _ := up4 (up3 (Heap.get?_push_size _ rfl))
  have g4 : (zM5 s.heap a b).get? (zM3 s.heap a b).objs.size = some _ := up4 (Heap.get?_push_size _ rfl)
  have g5 : (zM5 s.heap a b).get? (zM4 s.heap a b).objs.size = some _ := Heap.get?_push_size _ rfl
  refine callType_new F.called_zip (by decide) (F.typeCall_zip_2 _ _) (F.newCall_zip_2 _ _) (fun obj => F.args_object_init_3 obj _ _) F.entry_zip_new (meetsM a b xs ys) ⟨ha, hb, ?_⟩
  show _ ∧ _
  rw [n1] at g2
  rw [n1, n2] at g3
  rw [n3] at g4
  rw [n2, n3, n4] at g5
  rw [n4]
  exact ⟨⟨_, g5, rfl⟩, h _ ⟨g5, g3, ⟨_, _, g4⟩, ⟨_, g1, rfl, rfl⟩, ⟨_, g2, rfl, rfl⟩⟩ fun c o e => up4 (up3 (up2 (up1 (Heap.get?_push_of_some _ e))))⟩
end
/-- zip of two lists, or of a tuple and a list -/
def iZipM (K : PySem.W.Frag) (ta : TA) : TI := fun σ H R => ta σ H fun vs H1 => ∃ a b xs ys, vs = [.ref a, .ref b] ∧ SqL K H1 b ys ∧ ((SqL K H1 a xs ∧ R (Itz K a b) H1) ∨ (SqT K H1 a xs ∧ R (ItzM K a b) H1))
theorem pi_zipM {X : Cx} {e e2 : Expr} {ta : TA} {p pos tpos : Pos} {elts : List Expr} {kk : Nat} (hg : Gl X "zip") (hm : X.mg "zip" = none) (ha : PA X [e, e2] ta)
    (hs : starEach [e, e2] X.env = (false, eval e X.env) :: starEach [e2] X.env) (hpl : (backTo pos (starEach [e2] X.env)).any (·.1) = false) :
    PI X (.Tuple elts kk tpos) (.Call (.Name "zip" p) [e, e2] [] pos) (iZipM X.K ta) := by
  constructor
  intro pins s σ H R I h
  refine Call_ (ld_blt I hg hm PyProof.Rows.boot_zip (PyProof.Rows.callWith_type1 (thn (ha.run pos pins s σ H _ I h) ?_) hs hpl))
  rintro us s1 ⟨vs, H1, J, rv, a, b, xs, ys, ev, sy, q⟩
  subst ev
  cases rv with
  | cons ra rv =>
    cases rv with
    | cons rb rv =>
      cases rv; cases ra; cases rb
      have new : ∀ c ∈ [s1.heap.objs.size + 4, s1.heap.objs.size + 2, s1.heap.objs.size + 3, s1.heap.objs.size, s1.heap.objs.size + 1], FpOk X pins H1 c := by
        have go : ∀ k, FpOk X pins H1 (s1.heap.objs.size + k) := fun k => J.fpOk (Nat.le_add_right _ _) (J.hok.fresh (Nat.le_add_right _ _))
        exact five (go 4) (go 2) (go 3) (go 0) (go 1)
      obtain ⟨ws, r2, p2, _⟩ := J.list sy
      rcases q with ⟨sx, q⟩ | ⟨sx, q⟩
      · obtain ⟨us, r1, p1, _⟩ := J.list sx
        refine call_zip_2 p1.isList p2.isList fun g hz hI hO t1 t2 _ k => wpAny_pyIter_zip hz ?_
        exact ⟨_, _, _, _, H1, rfl, J.kept (t' := s1.toks) k, turn_zip (PySem.W.ktu_apart s1.heap.objs.size a b p1.lt p2.lt), ⟨hz, hI, ⟨_, _, hO⟩, t1, t2⟩, new, q⟩
      · obtain ⟨us, r1, p1, _⟩ := J.tuple sx
        have la : a < s1.heap.objs.size := by obtain ⟨o, ho, _⟩ := id p1; exact Heap.lt_size ho
        refine callM (xs := us.toArray) (ys := ws.toArray) p1 p2.isList fun g st k => wpAny_pyIter_zip st.1 ?_
        exact ⟨_, _, _, _, H1, rfl, J.kept (t' := s1.toks) k, turnM (PySem.W.ktu_apart s1.heap.objs.size a b la p2.lt), st, new, q⟩
end Px

/-! PxE: enumerate over a tuple. -/
namespace Px
open PySem PySem.Spec PyProof.Rows L2
/-- the tuple at a as it stands at each turn, each item in a new pair -/
def IteT (K : PySem.W.Frag) (a : Addr) : It :=
  ⟨fun i H => ∃ (xs : List V) (x : V), SqT K H a xs ∧ xs[i]? = some x, fun i H v H' => ∃ T x, v = .ref T ∧ H T = none ∧ H' = upd H T (.tup [.int (i : Nat), x]) ∧ ∀ xs, SqT K H a xs → xs[i]? = some x, fun i H => ∃ xs : List V, SqT K H a xs ∧ i = xs.length⟩
theorem turn_enumT {P : Program} {w : World} {K : PySem.W.Frag} {elts : List Expr} {kk : Nat} {tpos : Pos} (a e it : Addr) (nai : a ≠ it) (nea : e ≠ a) :
    Turn P w K (.Tuple elts kk tpos) (IteT K a) [e, it] e (fun i h => (∃ old, IsEnum h e it ((i : Nat) : Int) old) ∧ h.IsTupleIter it a i ∧ e ≠ it) where
  mem := by simp
  obj := fun i h st b hb => by
    obtain ⟨⟨old, he⟩, ⟨o, ho, hc, hd⟩, _⟩ := st
    have e' : b = e ∨ b = it := by simpa using hb
    rcases e' with z | z
    · rw [z]; exact ⟨_, he, fun v q => nomatch q⟩
    · rw [z]; exact ⟨o, ho, fun v q => by rw [hd] at q; cases q⟩
  keep := fun i h h' st k => let ⟨⟨old, he⟩, hi, hne⟩ := st; ⟨⟨old, k e (by simp) _ he⟩, hi.at fun o q => k it (by simp) o q, hne⟩
  item := by
    intro X hP hw hK hc i pins s σ H E I hf st hg
    subst hP hw hK
    obtain ⟨⟨old, he⟩, hit, hne⟩ := st
    obtain ⟨xs, x, hq, hx⟩ := hg
    obtain ⟨its, rv, p, hz⟩ := I.tuple hq
    obtain ⟨u, hu, ru⟩ := rv.get hx
    have hd := I.ok.hd hc
    have hel : e < s.heap.objs.size := Heap.lt_size he
    have hil : it < s.heap.objs.size := by obtain ⟨_, q, _⟩ := id hit; exact Heap.lt_size q
    have l1 : i < its.toArray.size := by simpa using (List.getElem?_eq_some_iff.mp hu).1
    refine wpAny_pyNext_enum_itemC (drawT (prog := X.prog) (w := X.w) (A := X.A.in1) hd it a nai its.toArray) he ⟨hit, p⟩ l1 hne (by simp [hne, nea]) fun x' h' tk ex ho hst' hT hsz hk => ?_
    have ex : u = x' := by
      have : its[i]? = some x' := by simpa using ex
      rw [hu] at this; cases this; rfl
    subst ex
    obtain ⟨hit', _⟩ := hst'
    refine ⟨_, rfl, wpAny_letOwnedTupleGo_enum (s := { s with heap := h', toks := tk + 1 }) ho fun h'' he' sb => ?_⟩
    have hT2 : h''.get? s.heap.objs.size = some { cls := .type "tuple", data := .seq #[.int i tk, u] } := (sb.2 _ (Nat.ne_of_gt hel)).trans hT
    have new : ObjOk X.prog X.w (upd H s.heap.objs.size (.tup [.int (i : Nat), x])) h'' s.heap.objs.size (.tup [.int (i : Nat), x]) :=
      ⟨by show 2 ≤ sizeLine; decide, [.int i tk, u], .cons ⟨_, rfl⟩ (.cons ru .nil), ⟨_, hT2, rfl, _, rfl⟩⟩
    have I1 : Inv X pins σ (upd H s.heap.objs.size (.tup [.int (i : Nat), x])) { s with heap := h'', toks := tk + 1 } :=
      I.turnedNew (ch := [e, it]) (fun b ob hb q => (sb.2 b (fun z => hb (by simp [z]))).trans (hk b ob (fun z => hb (by simp [z])) (fun z => hb (by simp [z])) q)) hf (Nat.le_refl _) new
    refine ⟨.ref s.heap.objs.size, _, I1, rfl, ⟨_, x, rfl, I.hok.fresh (Nat.le_refl _), rfl, fun ys hy => by rw [I.tuple_inj hy hq]; exact hx⟩, ⟨⟨u, ?_⟩, hit'.at fun o q => (sb.2 it (Ne.symm hne)).trans q, hne⟩, fun b hb => ?_⟩
    · have e1 : ((i + 1 : Nat) : Int) = (i : Int) + 1 := by omega
      rw [e1]; exact he'
    · have hb' : b < s.heap.objs.size := by
        have e' : b = e ∨ b = it := by simpa using hb
        rcases e' with z | z
        · rw [z]; exact hel
        · rw [z]; exact hil
      rw [upd_ne (Nat.ne_of_lt hb')]
      exact (hf b hb).1
  done := by
    intro X hP hw hK hc i pins s σ H E I hf st hg
    subst hP hw hK
    obtain ⟨⟨old, he⟩, hit, hne⟩ := st
    obtain ⟨xs, hq, hx⟩ := hg
    obtain ⟨its, rv, p, hz⟩ := I.tuple hq
    obtain ⟨f0, f1, f2, f3, f4, f5⟩ := hf it (by simp)
    have hl := rv.length
    have hd := I.ok.hd hc
    have hi : its.toArray.size = i := by simp; omega
    refine wpAny_pyNext_enum_endD (drawT (prog := X.prog) (w := X.w) (A := X.A.in1) hd it a nai its.toArray) he ⟨by rw [hi]; exact hit, p⟩ fun h' eb => ⟨rfl, I.turned (t' := s.toks) (fun b o hb q => eb b o hb q) f0 f1 f3 f4 f5⟩
  self := fun A i s Q E st h => let ⟨⟨_, he⟩, _⟩ := st; wpAny_pyIter_enum he h
theorem meets_enumT (l : Addr) (items : Array Value) :
    Meets (Builtin.«enumerate.__new__» ⟨[.type "enumerate", .ref l], []⟩) (fun _ R s => s.heap.IsTuple l items ∧
      R (.ok (.ret (.ref (s.heap.push { cls := .type "tuple_iterator", data := .fields #[.ref l, .int 0 0] }).objs.size)))
        { s with heap := (s.heap.push { cls := .type "tuple_iterator", data := .fields #[.ref l, .int 0 0] }).push { cls := .type "enumerate", data := .fields #[.none, .bool false, .ref s.heap.objs.size, rawInt 0, .none, .none] } }) :=
  .of_wp fun prog w A R s h => by
    obtain ⟨hp, g, d, tk, os⟩ := s; obtain ⟨hl, h⟩ := h
    have hsub := sub_enumerate
    have hL : Heap.IsTuple (Shared.heap ⟨hp, g, d, tk, os⟩) l items := hl
    obtain ⟨o, ho, _⟩ := id hl
    wp_walk using AutoSeq1.wpAny_loadPart' ho
    refine wpAny_stack_any fun st => wpAny_pure ?_
    split
    · rename_i c _ _ _ _ _
      cases (c == Value.type "enumerate")
      · wp_walk using AutoSeq1.wpAny_loadPart' ho, wpAny_pyIter_tuple hL
        exact ⟨_, rfl, h⟩
      · wp_walk using AutoSeq1.wpAny_loadPart' ho, wpAny_pyIter_tuple hL
        exact ⟨_, rfl, h⟩
    · wp_walk using AutoSeq1.wpAny_loadPart' ho, wpAny_pyIter_tuple hL
      exact ⟨_, rfl, h⟩
section
variable {prog : Program} {w : World} {A : Around} {E : Value → Shared → Prop} {s : Shared}
theorem call_enumT {l : Addr} {items : Array Value} {Q : Value → Shared → Prop} (hL : s.heap.IsTuple l items)
    (h : ∀ h', IsEnum h' (s.heap.objs.size + 1) s.heap.objs.size 0 .none → h'.IsTupleIter s.heap.objs.size l 0 → h'.objs.size = s.heap.objs.size + 2 →
      (∀ b o, s.heap.get? b = some o → h'.get? b = some o) → Q (.ref (s.heap.objs.size + 1)) { s with heap := h' }) :
    wpAny (model prog w) A (call (.type "enumerate") [.ref l]) Q E s := by
  refine callType_new F.called_enumerate (by decide) (F.typeCall_enumerate_1 _) (F.newCall_enumerate_1 _) (fun obj => F.args_object_init_2 obj _) F.entry_enumerate_new
    (meets_enumT l items) ⟨hL, ?_⟩
  have hz : (s.heap.push { cls := .type "tuple_iterator", data := .fields #[.ref l, .int 0 0] }).objs.size = s.heap.objs.size + 1 := Heap.size_push ..
  show _ ∧ _
  rw [hz]
  have he : IsEnum ((s.heap.push { cls := .type "tuple_iterator", data := .fields #[.ref l, .int 0 0] }).push
      { cls := .type "enumerate", data := .fields #[.none, .bool false, .ref s.heap.objs.size, rawInt 0, .none, .none] }) (s.heap.objs.size + 1) s.heap.objs.size 0 .none := by
    have := Heap.get?_push_size (s.heap.push { cls := .type "tuple_iterator", data := .fields #[.ref l, .int 0 0] })
      (o := { cls := .type "enumerate", data := .fields #[.none, .bool false, .ref s.heap.objs.size, rawInt 0, .none, .none] }) rfl
    rw [hz] at this; exact this
  refine ⟨⟨_, he, rfl⟩, h _ he ⟨_, Heap.get?_push_of_some _ (Heap.get?_push_size _ rfl), rfl, rfl⟩ (by rw [Heap.size_push, hz]) fun b o x => Heap.get?_push_of_some _ (Heap.get?_push_of_some _ x)⟩
end
def iEnumM (K : PySem.W.Frag) (ta : TA) : TI := fun σ H R => ta σ H fun vs H1 => ∃ a xs, vs = [.ref a] ∧ ((SqL K H1 a xs ∧ R (Ite K a) H1) ∨ (SqT K H1 a xs ∧ R (IteT K a) H1))
theorem pi_enumM {X : Cx} {e : Expr} {ta : TA} {p pos tpos : Pos} {elts : List Expr} {kk : Nat} (hg : Gl X "enumerate") (hm : X.mg "enumerate" = none) (ha : PA X [e] ta) (hs : starEach [e] X.env = [(false, eval e X.env)] := by rfl) :
    PI X (.Tuple elts kk tpos) (.Call (.Name "enumerate" p) [e] [] pos) (iEnumM X.K ta) := by
  refine ⟨fun pins s σ H R I h => ?_⟩
  refine Call_ (ld_blt I hg hm boot_enumerate (PyProof.Rows.callWith_type1 (thn (ha.run pos pins s σ H _ I h) fun us s1 ⟨vs, H1, I1, r1, q1⟩ => ?_) hs rfl))
  obtain ⟨a, xs, ex, q1⟩ := q1
  subst ex
  cases r1 with
  | cons r rr =>
    cases rr
    cases r
    have fp : ∀ b ∈ [s1.heap.objs.size + 1, s1.heap.objs.size], FpOk X pins H1 b := fun b hb => by
      have e' : b = s1.heap.objs.size + 1 ∨ b = s1.heap.objs.size := by simpa using hb
      have hle : s1.heap.objs.size ≤ b := by
        rcases e' with z | z
        · rw [z]; exact Nat.le_add_right _ _
        · rw [z]; exact Nat.le_refl _
      exact I1.fpOk hle (I1.hok.fresh hle)
    rcases q1 with ⟨hq, q⟩ | ⟨hq, q⟩
    · obtain ⟨its, rv, p', hz⟩ := I1.list hq
      refine call_enumerate_list p'.isList fun h' he hit hsz hk => wpAny_pyIter_enum he ?_
      exact ⟨s1.heap.objs.size + 1, [s1.heap.objs.size + 1, s1.heap.objs.size], _, _, H1, rfl, I1.kept (t' := s1.toks) hk, turn_enum a (s1.heap.objs.size + 1) s1.heap.objs.size, ⟨⟨.none, he⟩, hit, Nat.succ_ne_self _⟩, fp, q⟩
    · obtain ⟨its, rv, p', hz⟩ := I1.tuple hq
      have la : a < s1.heap.objs.size := by obtain ⟨o, ho, _⟩ := id p'; exact Heap.lt_size ho
      refine call_enumT p' fun h' he hit hsz hk => wpAny_pyIter_enum he ?_
      exact ⟨s1.heap.objs.size + 1, [s1.heap.objs.size + 1, s1.heap.objs.size], _, _, H1, rfl, I1.kept (t' := s1.toks) hk, turn_enumT a (s1.heap.objs.size + 1) s1.heap.objs.size (Nat.ne_of_lt la) (Nat.ne_of_gt (Nat.lt_succ_of_lt la)), ⟨⟨.none, he⟩, hit, Nat.succ_ne_self _⟩, fp, q⟩
theorem isIt_enumT {K : PySem.W.Frag} {B G : Hp} {a : Addr} {vs : List V} {xs : List D} (hB : SqT K B a vs) (r : RepRs K G xs vs) : IsIt K B G (IteT K a) true (enumL 0 xs) := by
  intro H sB i
  have hs : SqT K H a vs := Same.seqT sB hB
  refine ⟨fun d e => ?_, fun h => ⟨vs, hs, by have := r.length; rw [enumL_len] at h; omega⟩⟩
  obtain ⟨d', e', ed⟩ := enumL_get e
  obtain ⟨v, ev, rv⟩ := r.get e'
  refine ⟨⟨vs, v, hs, ev⟩, fun x H' ⟨T, y, ex, hT, eH, hx⟩ => ?_⟩
  subst ex; subst eH; subst ed
  have := hx vs hs
  rw [ev] at this
  cases this
  refine ⟨same_new hT, fun A hA sG => pair_new hT hA ?_ (rv.mono sG)⟩
  unfold RepR
  rw [Nat.zero_add]
end Px

/-! Px11: ranges, pairs; targets; comprehensions. -/
namespace Px
open PySem PySem.Spec L2
section
variable {K : PySem.W.Frag} {ec : EC} {W : WX} {F : List Fn} {C : List D} {X : Cx} {pos : Pos}
variable {σ : L2.St} {H H' H0 H1 H2 : Hp} {A : AS} {ρ : Env} {B G : Hp} {Z : AS} {O : Nat → AS}
theorem nmB_of {x : Str} (h : nmB x = true) : (x == ("__debug__" : Str)) = false ∧ (x == ("__classdict__" : Str)) = false ∧ x ≠ "__name__" := by
  unfold nmB at h
  simp only [Bool.and_eq_true, Bool.not_eq_true'] at h
  exact ⟨h.1.1, h.1.2, fun e => by rw [e] at h; have := h.2; simp at this⟩
theorem noStars1 {e : Expr} (h : noStar e = true) : noStars [e] = true := by unfold noStars noStars; rw [h]; rfl
theorem noStars2 {e e' : Expr} (h : noStar e = true) (h' : noStar e' = true) : noStars [e, e'] = true := by unfold noStars; rw [h, noStars1 h']; rfl
theorem i_rng1 {bor : Bool} {a : Ex} {tg e : Expr} {x : Str} {p : Pos} (hx : Str.ofString "range" = x) (hg : Gl X x) (hm : X.mg x = none) (hs : noStar e = true) (ha : PE X e (tE X.K ec W F C a)) : PI X tg (.Call (.Name x p) [e] [] pos) (tI X.K ec W F C bor (.rng1 a)) := by
  subst hx
  refine PI.imp (pi_range1 hg hm (a_cons hs ha a_nil) (starEach_of hs)) fun σ H Q ⟨ρ, B, Z, O, r, h⟩ => ?_
  unfold evI at h
  rw [aft_bind] at h
  refine use_Es r ?_
  unfold evs evs
  rw [aft_bind]
  refine aft_mono (Same.refl _) h fun k hk vs H1 s1 rr => ?_
  split at hk
  · rename_i n
    split at hk
    · rename_i hb
      unfold inBig big at hb
      simp only [Bool.and_eq_true, decide_eq_true_eq] at hb
      have rp := rr.rep
      obtain ⟨v, ev, rv⟩ := RepRs.one rp
      refine ⟨n, by rw [ev, rv.int], by omega, by omega, ?_⟩
      have q := (show ∀ J H', Same H H' → IsIt X.K (Bb bor H' O) (cut H' (ZO Z O)) J false (rng1 0 n) → Q J H' from hk) (Itr 0 n.toNat) H1 s1
      have i := isIt_rng1 (w := false) (K := X.K) (B := Bb bor H1 O) (G := cut H1 (ZO Z O)) (lo := 0) (hi := n)
      rw [Int.sub_zero] at i
      exact q i
    · exact hk.elim
  · exact hk.elim
theorem i_rng2 {bor : Bool} {a b : Ex} {tg e e' : Expr} {x : Str} {p : Pos} (hx : Str.ofString "range" = x) (hg : Gl X x) (hm : X.mg x = none) (hs : noStar e = true) (hs' : noStar e' = true) (ha : PE X e (tE X.K ec W F C a)) (hb : PE X e' (tE X.K ec W F C b)) :
    PI X tg (.Call (.Name x p) [e, e'] [] pos) (tI X.K ec W F C bor (.rng2 a b)) := by
  subst hx
  refine PI.imp (pi_range2 hg hm (a_cons hs ha (a_cons hs' hb a_nil)) (by rw [starEach_of hs, starEach_of hs']; rfl) (by rw [starEach_of hs']; rfl)) fun σ H Q ⟨ρ, B, Z, O, r, h⟩ => ?_
  unfold evI at h
  rw [aft_bind] at h
  refine use_Es r ?_
  unfold evs evs evs
  rw [aft_bind]
  refine aft_mono (Same.refl _) h fun k hk => ?_
  rw [aft_bind] at hk ⊢
  rw [aft_bind]
  refine aft_mono (Same.refl _) hk fun l hl vs H1 s1 rr => ?_
  split at hl
  · rename_i n _ m
    split at hl
    · rename_i hb
      unfold inBig big at hb
      simp only [Bool.and_eq_true, decide_eq_true_eq] at hb
      have rp := rr.rep
      have : RepRs X.K H1 [.int n, .int m] vs := rp
      unfold RepRs at this
      obtain ⟨v, vs', ev, rv, rp⟩ := this
      obtain ⟨u, eu, ru⟩ := RepRs.one rp
      refine ⟨n, m, by rw [ev, eu, rv.int, ru.int], ⟨by omega, by omega, by omega, by omega⟩, ?_⟩
      exact (show ∀ J H', Same H H' → IsIt X.K (Bb bor H' O) (cut H' (ZO Z O)) J false (rng1 n m) → Q J H' from hl) _ H1 s1 isIt_rng1
    · exact hl.elim
  · exact hl.elim
theorem i_rng3 {bor : Bool} {a b c : Ex} {tg e e' e2 : Expr} {x : Str} {p : Pos} (hx : Str.ofString "range" = x) (hg : Gl X x) (hm : X.mg x = none) (hs : noStar e = true) (hs' : noStar e' = true) (hs2 : noStar e2 = true) (ha : PE X e (tE X.K ec W F C a)) (hb : PE X e' (tE X.K ec W F C b)) (hc : PE X e2 (tE X.K ec W F C c)) :
    PI X tg (.Call (.Name x p) [e, e', e2] [] pos) (tI X.K ec W F C bor (.rng3 a b c)) := by
  subst hx
  refine PI.imp (pi_range3 hg hm (a_cons hs ha (a_cons hs' hb (a_cons hs2 hc a_nil))) (starEach_of hs) (plainTail (noStars2 hs' hs2))) fun σ H Q ⟨ρ, B, Z, O, r, h⟩ => ?_
  unfold evI at h
  rw [aft_bind] at h
  refine use_Es r ?_
  unfold evs evs evs evs
  rw [aft_bind]
  refine aft_mono (Same.refl _) h fun k hk => ?_
  rw [aft_bind] at hk ⊢
  rw [aft_bind]
  refine aft_mono (Same.refl _) hk fun l hl => ?_
  rw [aft_bind] at hl
  show aft ec W σ H (do let ks ← (do let k ← ev F C c ρ; let ks ← R.ok []; R.ok (k :: ks)); R.ok (l :: ks)) _
  rw [aft_bind, aft_bind]
  refine aft_mono (Same.refl _) hl fun w hw vs H1 s1 rr => ?_
  split at hw
  · rename_i n _ m _ st
    split at hw
    · rename_i hb
      unfold inBig big at hb
      simp only [Bool.and_eq_true, decide_eq_true_eq] at hb
      obtain ⟨⟨⟨h1, h2⟩, h3⟩, h4⟩ := hb
      have : RepRs X.K H1 [.int n, .int m, .int st] vs := rr.rep
      unfold RepRs RepRs at this
      obtain ⟨v, vs', ev, rv, v2, vs2, ev2, rv2, rp⟩ := this
      obtain ⟨u, eu, ru⟩ := RepRs.one rp
      refine ⟨n, m, st, (Builtin.Range.rangeSize n m st).toNat, by rw [ev, ev2, eu, rv.int, rv2.int, ru.int], ⟨by simpa using h1.2, h2, h3, (Int.toNat_of_nonneg h4).symm⟩, ?_⟩
      exact (show ∀ J H', Same H H' → IsIt X.K (Bb bor H' O) (cut H' (ZO Z O)) J false (rngL n m st) → Q J H' from hw) _ H1 s1 isIt_rngL
    · exact hw.elim
  · exact hw.elim
theorem itemsL_calm (bor : Bool)  (k : Kd) : ¬ wild (itemsL bor k) := by
  intro h
  unfold itemsL at h
  split at h
  · exact items_calm bor _ h
  · cases h
theorem itemsL_list {bor : Bool} {k : Kd} {ys : List D} (e : itemsL bor k = .ok ys) : ∃ o xs, k = (o, .lst xs) ∧ itemsD bor (o, .lst xs) = .ok ys := by
  unfold itemsL at e
  split at e
  · exact ⟨_, _, rfl, e⟩
  · cases e
theorem itemsM_calm (bor : Bool)  (k : Kd) : ¬ wild (itemsM bor k) := by
  intro h
  unfold itemsM at h
  split at h
  · exact items_calm bor _ h
  · exact items_calm bor _ h
  · cases h
theorem i_enum {bor : Bool} {a : Ex} {tg e : Expr} {x : Str} {p : Pos} (hx : Str.ofString "enumerate" = x) (hg : Gl X x) (hm : X.mg x = none) (hs : noStar e = true) (ht : isTupE tg = true) (ha : PE X e (tE X.K ec W F C a)) : PI X tg (.Call (.Name x p) [e] [] pos) (tI X.K ec W F C bor (.enum a)) := by
  subst hx
  cases tg <;> first | (cases ht; done) | skip
  refine PI.imp (pi_enumM hg hm (a_cons hs ha a_nil) (starEach_of hs)) fun σ H Q ⟨ρ, B, Z, O, r, h⟩ => ?_
  unfold evI at h
  rw [aft_bind] at h
  refine use_Es r ?_
  unfold evs evs
  rw [aft_bind]
  refine aft_mono (Same.refl _) h fun k hk vs H1 s1 ⟨OO, f, v, vs', O1, O2, ev, h1, h2, r1, q⟩ => ?_
  obtain ⟨e1, _⟩ := q
  subst e1
  rw [aft_bind] at hk
  obtain ⟨ys, e', hz⟩ := aft_calm hk (itemsM_calm bor k)
  clear hk
  have hz : ∀ J H', Same H H' → IsIt X.K (Bb bor H' O) (cut H' (ZO Z O)) J true (enumL 0 ys) → Q J H' := hz
  obtain ⟨o, d⟩ := k
  cases d with
  | lst xs =>
    obtain ⟨e2, a, us, ex, sx, sB, w⟩ := items_list r s1 f (fun x o => (h1 x).mpr (.inl o)) r1 e'
    subst e2; subst ex
    exact ⟨a, us, ev, .inl ⟨sx, hz _ H1 s1 (isIt_enum sB w)⟩⟩
  | tup xs =>
    unfold itemsM itemsD at e'
    cases e'
    obtain ⟨a, us, ex, sx, wx⟩ := RepR.tup (Res1.flat rfl r1)
    have sG : Same (cut H1 fun x => ZO Z O x ∨ OO x) (cut H1 (ZO Z O)) := cut_set fun x h => .inl h
    subst ex
    exact ⟨a, us, ev, .inr ⟨Same.seqT cut_same sx, hz _ H1 s1 (isIt_enumT (Same.seqT (sG.trans bb_cut) sx) (wx.mono sG))⟩⟩
  | _ => cases e'
theorem isIt_zipM {a b : Addr} {vs us : List V} {xs ys : List D} (hB : SqT K B a vs) (hC : SqL K B b us) (r : RepRs K G xs vs) (q : RepRs K G ys us) : IsIt K B G (ItzM K a b) true (zipL xs ys) := by
  intro H sB i
  have hs : SqT K H a vs := Same.seqT sB hB
  have ht : SqL K H b us := L2.Same.seq sB hC
  refine ⟨fun d e => ?_, fun h => ?_⟩
  · obtain ⟨d', f', e1, e2, ed⟩ := zipL_get e
    obtain ⟨v, ev, rv⟩ := r.get e1
    obtain ⟨u, eu, ru⟩ := q.get e2
    refine ⟨⟨vs, us, v, u, hs, ht, ev, eu⟩, fun x H' ⟨T, y, z, ex, hT, eH, hx, hy⟩ => ?_⟩
    subst ex; subst eH; subst ed
    have h1 := hx vs hs
    have h2 := hy us ht
    rw [ev] at h1; rw [eu] at h2
    cases h1; cases h2
    exact ⟨same_new hT, fun A hA sG => pair_new hT hA (rv.mono sG) (ru.mono sG)⟩
  · rw [zipL_len] at h
    have l1 := r.length
    have l2 := q.length
    exact ⟨vs, us, hs, ht, by omega, by omega, by omega⟩
theorem i_zip {bor : Bool} {a b : Ex} {tg e e' : Expr} {x : Str} {p : Pos} (hx : Str.ofString "zip" = x) (hg : Gl X x) (hm : X.mg x = none) (hs : noStar e = true) (hs' : noStar e' = true) (ht : isTupE tg = true) (ha : PE X e (tE X.K ec W F C a)) (hb : PE X e' (tE X.K ec W F C b)) :
    PI X tg (.Call (.Name x p) [e, e'] [] pos) (tI X.K ec W F C bor (.zip a b)) := by
  subst hx
  cases tg <;> first | (cases ht; done) | skip
  refine PI.imp (pi_zipM hg hm (a_cons hs ha (a_cons hs' hb a_nil)) (starEach_of hs) (plainTail (noStars1 hs'))) fun σ H Q ⟨ρ, B, Z, O, r, h⟩ => ?_
  unfold evI at h
  rw [aft_bind] at h
  refine use_Es r ?_
  unfold evs evs evs
  rw [aft_bind]
  refine aft_mono (Same.refl _) h fun k hk => ?_
  rw [aft_bind] at hk ⊢
  rw [aft_bind]
  refine aft_mono (Same.refl _) hk fun l hl vs H1 s1 ⟨OO, f, v, vs', O1, O2, ev, h1, h2, r1, u, us', O3, O4, ev2, h3, h4, r2, e5, _⟩ => ?_
  rw [aft_bind] at hl
  obtain ⟨ys, ey, hz⟩ := aft_calm hl (itemsM_calm bor k)
  clear hl
  rw [aft_bind] at hz
  obtain ⟨ys2, ey2, hy⟩ := aft_calm hz (itemsL_calm bor l)
  clear hz
  obtain ⟨o2, xs2, ek2, ey2⟩ := itemsL_list ey2
  subst ek2
  obtain ⟨e3, b, ws, ex2, sx2, sB2, w2⟩ := items_list r s1 f (fun x o => (h1 x).mpr (.inr ((h3 x).mpr (.inl o)))) r2 ey2
  subst e3; subst ex2; subst e5; subst ev2
  have hy : ∀ J H', Same H H' → IsIt X.K (Bb bor H' O) (cut H' (ZO Z O)) J true (zipL ys ys2) → Q J H' := hy
  obtain ⟨o, d⟩ := k
  cases d with
  | lst xs =>
    obtain ⟨e2, a, us, ex, sx, sB, w⟩ := items_list r s1 f (fun x o => (h1 x).mpr (.inl o)) r1 ey
    subst e2; subst ex
    exact ⟨a, b, us, ws, ev, sx2, .inl ⟨sx, hy _ H1 s1 (isIt_zip sB sB2 w w2)⟩⟩
  | tup xs =>
    unfold itemsM itemsD at ey
    cases ey
    obtain ⟨a, us, ex, sx, wx⟩ := RepR.tup (Res1.flat rfl r1)
    have sG : Same (cut H1 fun x => ZO Z O x ∨ OO x) (cut H1 (ZO Z O)) := cut_set fun x h => .inl h
    subst ex
    exact ⟨a, b, us, ws, ev, sx2, .inr ⟨Same.seqT cut_same sx, hy _ H1 s1 (isIt_zipM (Same.seqT (sG.trans bb_cut) sx) sB2 (wx.mono sG) w2)⟩⟩
  | _ => cases ey
end
end Px

/-! Px12: environments that change; targets. -/
namespace Px
open PySem PySem.Spec L2
section
variable {K : PySem.W.Frag} {ec : EC} {W : WX} {F : List Fn} {C : List D} {X : Cx} {pos : Pos}
variable {σ σ' : L2.St} {H H' H0 H1 H2 : Hp} {A : AS} {ρ ρ' : Env} {B B' G : Hp} {Z : AS} {O : Nat → AS}
def setO (O : Nat → AS) (i : Nat) (P : AS) : Nat → AS := fun j => if j = i then P else O j
theorem setO_same {i : Nat} {P : AS} : setO O i P i = P := if_pos rfl
theorem setO_ne {i j : Nat} {P : AS} (h : j ≠ i) : setO O i P j = O j := if_neg h
/-- slot i takes what owns P, reserved so far -/
theorem Rel.put {i : Nat} {P : AS} {k : Nat} {d : D} {v : V} (r : Rel K B (fun x => Z x ∨ P x) O σ H ρ) (hi : i < ρ.length) (hP : ∀ x, P x → B x = none ∧ ¬ Z x) (w : Own K H (fun x => ZO Z O x ∨ P x) k d v P) :
    Rel K B Z (setO O i P) (σ.set i (some v)) H (ρ.set i (some (k, d))) := by
  have sub : ∀ x, ZO Z (setO O i P) x → ZO Z O x ∨ P x := by
    rintro x (z | ⟨j, z⟩)
    · exact .inl (.inl z)
    · by_cases e : j = i
      · subst e; rw [setO_same] at z; exact .inr z
      · rw [setO_ne e] at z; exact .inl (.inr ⟨j, z⟩)
  refine ⟨by rw [List.length_set, List.length_set, r.len], fun x z => r.zm x (.inl z), ?_, ?_, r.base, ?_, ?_⟩
  · intro j j' x h1 h2
    by_cases e : j = i <;> by_cases e' : j' = i
    · rw [e, e']
    · subst e; rw [setO_same] at h1; rw [setO_ne e'] at h2; exact absurd (Or.inr h1) (r.fr j' x h2).1
    · subst e'; rw [setO_same] at h2; rw [setO_ne e] at h1; exact absurd (Or.inr h2) (r.fr j x h1).1
    · rw [setO_ne e] at h1; rw [setO_ne e'] at h2; exact r.dj j j' x h1 h2
  · intro j x h
    by_cases e : j = i
    · subst e; rw [setO_same] at h; exact ⟨(hP x h).2, (hP x h).1⟩
    · rw [setO_ne e] at h; exact ⟨fun z => (r.fr j x h).1 (.inl z), (r.fr j x h).2⟩
  · intro j k' d' e
    by_cases ej : j = i
    · subst ej
      rw [List.getElem?_set_self hi] at e
      cases e
      refine ⟨v, by rw [List.getElem?_set_self (by rw [r.len]; exact hi)], ?_⟩
      rw [setO_same]
      exact w.mono (Same.refl _) fun x z => .inl (sub x z)
    · rw [List.getElem?_set_ne (Ne.symm ej)] at e
      obtain ⟨u, e1, w'⟩ := r.own j k' d' e
      refine ⟨u, by rw [List.getElem?_set_ne (Ne.symm ej)]; exact e1, ?_⟩
      rw [setO_ne ej]
      refine w'.mono (Same.refl _) fun x z => .inl ?_
      rcases sub x z with (z | z) | z
      · exact .inl (.inl z)
      · exact .inr z
      · exact .inl (.inr z)
  · intro j h x
    by_cases ej : j = i
    · subst ej
      exact absurd (List.getElem?_set_self hi) (h k d)
    · rw [setO_ne ej]
      exact r.non j (fun k' d' e => h k' d' (by rw [List.getElem?_set_ne (Ne.symm ej)]; exact e)) x
/-- slot i is forgotten -/
theorem Rel.drop {i : Nat} {o : Option V} (r : Rel K B Z O σ H ρ) : Rel K B Z (setO O i fun _ => False) (σ.set i o) H (ρ.set i none) := by
  have sub : ∀ x, ZO Z (setO O i fun _ => False) x → ZO Z O x := by
    rintro x (z | ⟨j, z⟩)
    · exact .inl z
    · by_cases e : j = i
      · subst e; rw [setO_same] at z; exact z.elim
      · rw [setO_ne e] at z; exact .inr ⟨j, z⟩
  have sb : ∀ j x, setO O i (fun _ => False) j x → O j x := fun j x h => by
    by_cases e : j = i
    · subst e; rw [setO_same] at h; exact h.elim
    · rw [setO_ne e] at h; exact h
  refine ⟨by rw [List.length_set, List.length_set, r.len], r.zm, fun j j' x h1 h2 => r.dj j j' x (sb _ _ h1) (sb _ _ h2), fun j x h => r.fr j x (sb _ _ h), r.base, ?_, ?_⟩
  · intro j k' d' e
    have ej : j ≠ i := fun ej => by
      subst ej
      rw [List.getElem?_set] at e
      split at e
      · split at e <;> cases e
      · rename_i h; exact h rfl
    rw [List.getElem?_set_ne (Ne.symm ej)] at e
    obtain ⟨u, e1, w'⟩ := r.own j k' d' e
    refine ⟨u, by rw [List.getElem?_set_ne (Ne.symm ej)]; exact e1, ?_⟩
    rw [setO_ne ej]
    exact w'.mono (Same.refl _) fun x z => .inl (sub x z)
  · intro j h x
    by_cases ej : j = i
    · subst ej; rw [setO_same]; exact id
    · rw [setO_ne ej]
      exact r.non j (fun k' d' e => h k' d' (by rw [List.getElem?_set_ne (Ne.symm ej)]; exact e)) x
theorem Rel.wipe (r : Rel K B Z O σ H ρ) : ∀ vs : List Nat, ∃ O', (∀ i x, O' i x → O i x) ∧ Rel K B Z O' (wipe σ vs) H (wipeE ρ vs)
  | [] => ⟨O, fun _ _ h => h, r⟩
  | v :: vs => by
    obtain ⟨O', h, q⟩ := Rel.wipe r vs
    refine ⟨_, fun i x z => ?_, q.drop (i := v) (o := none)⟩
    by_cases e : i = v
    · subst e; rw [setO_same] at z; exact z.elim
    · rw [setO_ne e] at z; exact h i x z
/-- .. what they owned stays reserved -/
theorem Rel.dropZ {i : Nat} {o : Option V} (r : Rel K B Z O σ H ρ) : Rel K B (fun x => Z x ∨ O i x) (setO O i fun _ => False) (σ.set i o) H (ρ.set i none) := by
  have q := r.drop (i := i) (o := o)
  have eq : ∀ x, ZO (fun x => Z x ∨ O i x) (setO O i fun _ => False) x → ZO Z O x := by
    rintro x ((z | z) | ⟨j, z⟩)
    · exact .inl z
    · exact .inr ⟨i, z⟩
    · by_cases e : j = i
      · subst e; rw [setO_same] at z; exact z.elim
      · rw [setO_ne e] at z; exact .inr ⟨j, z⟩
  refine ⟨q.len, fun x z => z.elim (r.zm x) r.om, q.dj, fun j x z => ⟨fun z' => ?_, (q.fr j x z).2⟩, q.base, fun j k d e => ?_, q.non⟩
  · by_cases e : j = i
    · subst e; rw [setO_same] at z; exact z.elim
    · have z2 := z
      rw [setO_ne e] at z2
      rcases z' with z' | z'
      · exact (q.fr j x z).1 z'
      · exact e (r.dj j i x z2 z')
  · have ej : j ≠ i := fun ej => by
      subst ej
      rw [List.getElem?_set] at e
      split at e
      · split at e <;> cases e
      · rename_i h; exact h rfl
    rw [List.getElem?_set_ne (Ne.symm ej)] at e
    obtain ⟨u, e1, w'⟩ := r.own j k d e
    refine ⟨u, by rw [List.getElem?_set_ne (Ne.symm ej)]; exact e1, ?_⟩
    rw [setO_ne ej]
    exact w'.mono (Same.refl _) fun x z => .inl (eq x z)
theorem Rel.wipeZ (r : Rel K B Z O σ H ρ) : ∀ vs : List Nat, ∃ Z' O', (∀ x, ZO Z' O' x ↔ ZO Z O x) ∧ (∀ i ∈ vs, ∀ x, ¬ O' i x) ∧ Rel K B Z' O' (L2.wipe σ vs) H (wipeE ρ vs)
  | [] => ⟨Z, O, fun _ => Iff.rfl, (fun _ h => by cases h), r⟩
  | v :: vs => by
    obtain ⟨Z', O', h, n, q⟩ := Rel.wipeZ r vs
    refine ⟨_, _, fun x => ?_, fun i hi x z => ?_, q.dropZ (i := v) (o := none)⟩
    · rw [← h x]
      constructor
      · rintro ((z | z) | ⟨j, z⟩)
        · exact .inl z
        · exact .inr ⟨v, z⟩
        · by_cases e : j = v
          · subst e; rw [setO_same] at z; exact z.elim
          · rw [setO_ne e] at z; exact .inr ⟨j, z⟩
      · rintro (z | ⟨j, z⟩)
        · exact .inl (.inl z)
        · by_cases e : j = v
          · subst e; exact .inl (.inr z)
          · exact .inr ⟨j, by rw [setO_ne e]; exact z⟩
    · by_cases e : i = v
      · subst e; rw [setO_same] at z; exact z
      · rw [setO_ne e] at z
        rcases List.mem_cons.mp hi with hi | hi
        · exact e hi
        · exact n i hi x z
/-- another beginning -/
theorem Rel.rebase (r : Rel K B Z O σ H ρ) (h : Same B' H) (n : ∀ i x, O i x → B' x = none) : Rel K B' Z O σ H ρ := ⟨r.len, r.zm, r.dj, fun i x o => ⟨(r.fr i x o).1, n i x o⟩, h, r.own, r.non⟩
theorem wipe_in {i : Nat} : ∀ {vs : List Nat}, i ∈ vs → (wipe σ vs)[i]? = if i < σ.length then some none else none
  | [], h => by cases h
  | v :: vs, h => by
    show ((wipe σ vs).set v none)[i]? = _
    by_cases e : v = i
    · subst e
      rw [List.getElem?_set, if_pos rfl, wipe_length]
    · rw [List.getElem?_set_ne e]
      rcases List.mem_cons.mp h with h | h
      · exact absurd h.symm e
      · exact wipe_in h
theorem wipe_eq {vs : List Nat} (hl : σ'.length = σ.length) (h : ∀ i, i ∉ vs → σ'[i]? = σ[i]?) : wipe σ' vs = wipe σ vs := by
  apply List.ext_getElem?
  intro i
  by_cases e : i ∈ vs
  · rw [wipe_in e, wipe_in e, hl]
  · rw [wipe_out e, wipe_out e, h i e]
theorem wipe_idem {vs : List Nat} : wipe (wipe σ vs) vs = wipe σ vs := wipe_eq (wipe_length _ _) fun i h => wipe_out h
/-! ### targets -/
theorem PG.or {tg : Expr} {t u : TG} (h1 : PG X tg t) (h2 : PG X tg u) : PG X tg (fun v σ H Q => t v σ H Q ∨ u v σ H Q) :=
  ⟨fun pins s σ H v w Q I r q => q.elim (h1.run pins s σ H v w Q I r) (h2.run pins s σ H v w Q I r)⟩
theorem PG.imp {tg : Expr} {t t' : TG} (h : PG X tg t) (w : ∀ v σ H Q, t' v σ H Q → t v σ H Q) : PG X tg t' := ⟨fun pins s σ H v u Q I r q => h.run pins s σ H v u Q I r (w v σ H Q q)⟩
theorem PGs.imp {tg : List Expr} {t t' : TGs} (h : PGs X tg t) (w : ∀ v σ H Q, t' v σ H Q → t v σ H Q) : PGs X tg t' := ⟨fun pins s σ H v u Q I r q => h.run pins s σ H v u Q I r (w v σ H Q q)⟩
/-- behind a store into some slots -/
def Bound (K : PySem.W.Frag) (B : Hp) (Z : AS) (O : Nat → AS) (sl : List Nat) (σ : L2.St) (H : Hp) (ρ' : Env) (Q : L2.St → Hp → Prop) : Prop := ∀ σ' O', Rel K B Z O' σ' H ρ' → (∀ i, i ∉ sl → σ'[i]? = σ[i]?) → σ'.length = σ.length → (∀ i x, O' i x → O i x) → (∀ i x, O i x → i ∉ sl → O' i x) → Q σ' H
def isTp : Pat → Bool
  | .nm _ => false
  | .tp _ => true
def tP (K : PySem.W.Frag) (p : Pat) : TG := fun v σ H Q => ∃ (ρ : Env) (B : Hp) (Z : AS) (O : Nat → AS) (d : D) (ρ' : Env), Rel K B Z O σ H ρ ∧ RepW K (cut H (ZO Z O)) (isTp p) d v ∧ bindP p d ρ = .ok ρ' ∧ Bound K B Z O p.slots σ H ρ' Q
def tPs (K : PySem.W.Frag) (ps : List Pat) : TGs := fun vs σ H Q => ∃ (ρ : Env) (B : Hp) (Z : AS) (O : Nat → AS) (ds : List D) (ρ' : Env), Rel K B Z O σ H ρ ∧ RepRs K (cut H (ZO Z O)) ds vs ∧ bindPs ps ds ρ = .ok ρ' ∧ Bound K B Z O (slotsL ps) σ H ρ' Q
theorem assignEach_of {e : Expr} {es : List Expr} {env : PySem.Env} (h : noStar e = true) : assignEach (e :: es) env = (false, assign e env) :: assignEach es env := by
  cases e <;> first | rfl | cases h
theorem okPs_len {cf : Cf} {lv : Option Scope} {sc : Scope} {env : PySem.Env} : ∀ {ps : List Pat} {es : List Expr}, okPs cf lv sc ps es = true → (assignEach es env).length = ps.length ∧ (assignEach es env).findIdx? (·.1) = none
  | [], [], _ => ⟨rfl, rfl⟩
  | [], _ :: _, h => by unfold okPs at h; cases h
  | _ :: _, [], h => by unfold okPs at h; cases h
  | p :: ps, e :: es, h => by
    unfold okPs at h
    simp only [Bool.and_eq_true] at h
    obtain ⟨l, f⟩ := okPs_len (env := env) h.1.2
    rw [assignEach_of h.2]
    refine ⟨by simp [l], ?_⟩
    rw [List.findIdx?_cons]
    simp [f]
theorem bindPs_len : ∀ {ps : List Pat} {ds : List D} {ρ ρ' : Env}, bindPs ps ds ρ = .ok ρ' → ds.length = ps.length
  | [], [], _, _, _ => rfl
  | [], _ :: _, _, _, h => by unfold bindPs at h; cases h
  | _ :: _, [], _, _, h => by unfold bindPs at h; cases h
  | p :: ps, d :: ds, ρ, ρ', h => by
    unfold bindPs at h
    cases q : bindP p d ρ with
    | ok ρ1 => rw [q] at h; simp [bindPs_len h]
    | exc x p => rw [q] at h; cases h
    | stuck => rw [q] at h; cases h
    | draw _ => rw [q] at h; cases h
theorem cut_sub {A A' : AS} (h : ∀ x, A' x → A x) : Same (cut H A) (cut H A') := cut_set h
mutual
theorem p_ok {cf : Cf} {lv : Option Scope} {sc : Scope} (hc : X.calm = true) (hnd : X.N.Nodup) (hN : X.N = cf.N) (hsc : X.env.scope = sc) (hf : ∀ x, fnB lv x = true → X.fn x = true) : ∀ {p : Pat} {e : Expr}, okP cf lv sc p e = true → PG X e (tP X.K p)
  | .nm i, e, h => by
    cases e <;> unfold okP at h <;> first | (cases h; done) | skip
    rename_i x px
    rw [Bool.and_eq_true] at h
    obtain ⟨h1, h2⟩ := h
    have h1 := of_decide_eq_true h1
    have hl : Loc X.env.scope x ∧ (X.fn x = true ∨ X.env.scope.names.lookup x = some .local) := by
      rw [hsc]
      unfold locB at h2
      split at h2
      · rename_i e; exact ⟨.inl e, .inr e⟩
      · rename_i e; exact ⟨.inr e, .inl (hf x h2)⟩
      · cases h2
    refine PG.imp (pg_name (i := i) hnd (by rw [hN]; exact h1) hl.1 hl.2) fun v σ H Q ⟨ρ, B, Z, O, d, ρ', r, rv, hb, q⟩ => ?_
    have rv := RepW.str (show RepW X.K _ false d v from rv)
    unfold bindP at hb
    split at hb <;> cases hb
    rename_i hi
    have r0 : Rel X.K B (fun x => Z x ∨ False) O σ H ρ := by
      have e : (fun x => Z x ∨ False) = Z := by funext x; simp
      rw [e]; exact r
    have w : Own X.K H (fun x => ZO Z O x ∨ False) ((kd 0 d).1.getD 0) d v (fun _ => False) := by
      have w0 : Own X.K H (fun x => ZO Z O x ∨ False) 0 d v (fun _ => False) := ⟨fun _ z => z, rv.mono (cut_sub fun x z => z.elim id False.elim)⟩
      unfold kd
      split
      · exact w0
      · rename_i hd
        exact (Own.flat (by simpa using hd)).mpr w0
    refine q _ _ (r0.put hi (fun x z => z.elim) w) (fun j hj => ?_) (by rw [List.length_set]) (fun j x z => ?_) fun j x z hj => ?_
    · unfold Pat.slots at hj
      rw [List.getElem?_set_ne (fun e => hj (by simp [e]))]
    · by_cases e : j = i
      · subst e; rw [setO_same] at z; exact z.elim
      · rw [setO_ne e] at z; exact z
    · unfold Pat.slots at hj
      rw [setO_ne (fun e => hj (by simp [e]))]; exact z
  | .tp ps, e, h => by
    cases e <;> unfold okP at h <;> first | (cases h; done) | skip
    rename_i es k px
    obtain ⟨l, f⟩ := okPs_len (env := X.env) h
    have hh := ps_ok hc hnd hN hsc hf h
    refine PG.imp (PG.or (pg_tup hc hh l f) (pg_unl hc hh l f)) fun v σ H Q ⟨ρ, B, Z, O, d, ρ', r, rv, hb, q⟩ => ?_
    unfold bindP at hb
    cases d with
    | tup ds =>
      obtain ⟨a, vs, e, s, w⟩ := rv.tup
      exact .inl ⟨a, vs, e, Same.seqT cut_same s, by rw [w.length]; exact bindPs_len hb, ρ, B, Z, O, ds, ρ', r, w, hb, by unfold Pat.slots at q; exact q⟩
    | lst ds =>
      obtain ⟨a, vs, e, s, w⟩ := rv.lst
      exact .inr ⟨a, vs, e, L2.Same.seq cut_same s, by rw [w.length]; exact bindPs_len hb, ρ, B, Z, O, ds, ρ', r, w, hb, by unfold Pat.slots at q; exact q⟩
    | non => cases hb
    | bl _ => cases hb
    | int _ => cases hb
    | str _ => cases hb
    | dct _ _ => cases hb
    | ext _ => cases hb
theorem ps_ok {cf : Cf} {lv : Option Scope} {sc : Scope} (hc : X.calm = true) (hnd : X.N.Nodup) (hN : X.N = cf.N) (hsc : X.env.scope = sc) (hf : ∀ x, fnB lv x = true → X.fn x = true) : ∀ {ps : List Pat} {es : List Expr}, okPs cf lv sc ps es = true → PGs X es (tPs X.K ps)
  | [], [], _ => PGs.imp pgs_nil fun v σ H Q ⟨ρ, B, Z, O, ds, ρ', r, rv, hb, q⟩ => by
    cases ds with
    | nil =>
      unfold bindPs at hb
      cases hb
      unfold RepRs at rv
      exact ⟨rv, q σ O r (fun _ _ => rfl) rfl (fun _ _ z => z) fun _ _ z _ => z⟩
    | cons d ds => unfold bindPs at hb; cases hb
  | [], _ :: _, h => by unfold okPs at h; cases h
  | _ :: _, [], h => by unfold okPs at h; cases h
  | p :: ps, e :: es, h => by
    unfold okPs at h
    simp only [Bool.and_eq_true] at h
    refine PGs.imp (pgs_cons (p_ok hc hnd hN hsc hf h.1.1) (ps_ok hc hnd hN hsc hf h.1.2) (by rw [assignEach_of h.2]; rfl)) fun v σ H Q ⟨ρ, B, Z, O, ds, ρ', r, rv, hb, q⟩ => ?_
    cases ds with
    | nil => unfold bindPs at hb; cases hb
    | cons d ds =>
      unfold RepRs at rv
      obtain ⟨x, xs, ex, r1, r2⟩ := rv
      unfold bindPs at hb
      cases q1 : bindP p d ρ with
      | exc x p => rw [q1] at hb; cases hb
      | stuck => rw [q1] at hb; cases hb
      | draw _ => rw [q1] at hb; cases hb
      | ok ρ1 =>
        rw [q1] at hb
        refine ⟨x, xs, ex, ρ, B, Z, O, d, ρ1, r, .inl r1, q1, fun σ1 O1 rel1 same1 len1 sub1 sup1 => ?_⟩
        refine ⟨ρ1, B, Z, O1, ds, ρ', rel1, r2.mono (cut_sub fun x z => z.elim .inl fun ⟨i, z⟩ => .inr ⟨i, sub1 i x z⟩), hb, fun σ2 O2 rel2 same2 len2 sub2 sup2 => ?_⟩
        refine q σ2 O2 rel2 (fun i hi => ?_) (len2.trans len1) (fun i x z => sub1 i x (sub2 i x z)) fun i x z hi => ?_
        · unfold slotsL at hi
          rw [List.mem_append, not_or] at hi
          rw [same2 i hi.2, same1 i hi.1]
        · unfold slotsL at hi
          rw [List.mem_append, not_or] at hi
          exact sup2 i x (sup1 i x z hi.1) hi.2
end
end
end Px

/-! Px13: comprehensions. -/
namespace Px
open PySem PySem.Spec L2
section
variable {K : PySem.W.Frag} {ec : EC} {W : WX} {F : List Fn} {C : List D} {X : Cx} {pos : Pos}
variable {σ σ' : L2.St} {H H' H0 H1 H2 : Hp} {A : AS} {ρ ρ' : Env} {B B' G : Hp} {Z : AS} {O : Nat → AS}
abbrev Wn : WX := fun _ _ _ _ => False
abbrev no : String → List (String × Int) → Prop := fun _ _ => False
theorem noExc_out {α : Type} {r : R α} {k : α → Prop} {e : String → List (String × Int) → Prop} (h : out (noExc r) k e) : out r k no := by
  induction r with
  | ok a => exact h
  | exc x p => exact h.elim
  | stuck => exact h.elim
  | draw g ih => exact fun n h1 h2 => ih n (h n h1 h2)
theorem out_some {α : Type} {r : R α} {k : α → Prop} (h : out r k no) : ∃ a, k a := by
  induction r with
  | ok a => exact ⟨a, h⟩
  | exc x p => exact h.elim
  | stuck => exact h.elim
  | draw g ih => exact ih 0 (h 0 (by decide) (by decide))
theorem out_calm {α : Type} {r : R α} {k : α → Prop} {e : String → List (String × Int) → Prop} (h : out r k e) (c : ¬ wild r) : ∃ a, r = .ok a ∧ k a := by
  cases r with
  | ok a => exact ⟨a, rfl, h⟩
  | exc x p => exact absurd trivial c
  | draw _ => exact absurd trivial c
  | stuck => exact h.elim
mutual
theorem bindP_calm : ∀ {p : Pat} {d : D} {ρ : Env}, ¬ wild (bindP p d ρ)
  | .nm i, d, ρ, h => by unfold bindP at h; split at h <;> cases h
  | .tp ps, d, ρ, h => by
    cases d <;> unfold bindP at h <;> first | (cases h; done) | exact bindPs_calm h
theorem bindPs_calm : ∀ {p : List Pat} {d : List D} {ρ : Env}, ¬ wild (bindPs p d ρ)
  | [], [], ρ, h => by unfold bindPs at h; cases h
  | [], _ :: _, ρ, h => by unfold bindPs at h; cases h
  | _ :: _, [], ρ, h => by unfold bindPs at h; cases h
  | p :: ps, d :: ds, ρ, h => by
    unfold bindPs at h
    cases e : bindP p d ρ with
    | exc y z => exact bindP_calm (by rw [e]; trivial)
    | draw _ => exact bindP_calm (by rw [e]; trivial)
    | stuck => rw [e] at h; cases h
    | ok ρ1 => rw [e] at h; exact bindPs_calm h
end
def tTs (K : PySem.W.Frag) (ec : EC) (W : WX) (F : List Fn) (C : List D) (cs : List Tx) : TT := fun σ H Q => ∃ (ρ : Env) (B : Hp) (Z : AS) (O : Nat → AS), Rel K B Z O σ H ρ ∧
  aft ec W σ H (tsts F C cs ρ) (fun b => ∀ H', Same H H' → Q b H')
theorem PTs.imp {e : List Expr} {t t' : TT} (h : PTs X e t) (w : ∀ σ H Q, t' σ H Q → t σ H Q) : PTs X e t' := ⟨fun pins s σ H Q I q => h.run pins s σ H Q I (w σ H Q q)⟩
theorem ts_nil : PTs X [] (tTs X.K ec W F C []) := PTs.imp pts_nil fun σ H Q ⟨ρ, B, Z, O, r, h⟩ => by
  unfold tsts at h
  exact (show ∀ H', Same H H' → Q true H' from h) H (Same.refl _)
theorem ts_one {c : Tx} {e : Expr} (hc : PT X e (tT X.K ec W F C c)) : PTs X [e] (tTs X.K ec W F C [c]) := PTs.imp (pts_one hc) fun σ H Q ⟨ρ, B, Z, O, r, h⟩ => by
  unfold tsts at h
  rw [aft_bind] at h
  refine use_T r (aft_mono (Same.refl _) h fun b hb H1 s1 => ?_)
  cases b with
  | true => unfold tsts at hb; exact (show ∀ H', Same H H' → Q true H' from hb) H1 s1
  | false => exact (show ∀ H', Same H H' → Q false H' from hb) H1 s1
theorem compR_cons {f : D → R (Option (Nat × D))} {d : D} {ds : List D} {k : List (Nat × D) → Prop} (h : out (compR f (d :: ds)) k no) : out (f d) (fun b => out (compR f ds) (fun bs => k (b.toList ++ bs)) no) no := by
  unfold compR at h
  rw [out_bind] at h
  refine out_mono h (fun b h => ?_) fun _ _ z => z
  rw [out_bind] at h
  refine out_mono h (fun bs h => ?_) fun _ _ z => z
  cases b <;> exact h
theorem OwnsK.append {R' : Kd → V → AS → Prop} : ∀ {ds es : List Kd} {vs us : List V} {O1 O2 O : AS}, (∀ x, O x ↔ O1 x ∨ O2 x) → (∀ x, O1 x → ¬ O2 x) → OwnsK R' ds vs O1 → OwnsK R' es us O2 → OwnsK R' (ds ++ es) (vs ++ us) O
  | [], [], _, _, O1, O2, O, e, _, h, q => by
    obtain ⟨rfl, n1⟩ := h; obtain ⟨rfl, n2⟩ := q
    exact ⟨rfl, fun x z => by rcases (e x).mp z with k | k; exact n1 x k; exact n2 x k⟩
  | [], d :: es, _, _, O1, O2, O, e, _, h, q => by
    obtain ⟨rfl, n1⟩ := h
    obtain ⟨v, vs', P1, P2, e', h1, h2, r, q⟩ := q
    exact ⟨v, vs', P1, P2, e', fun x => by rw [e x, h1 x]; constructor; (rintro (z | z); exact (n1 x z).elim; exact z); exact .inr, h2, r, q⟩
  | d :: ds, es, _, _, O1, O2, O, e, dj, h, q => by
    obtain ⟨v, vs', P1, P2, e', h1, h2, r, h⟩ := h
    subst e'
    refine ⟨v, _, P1, fun x => P2 x ∨ O2 x, rfl, fun x => by rw [e x, h1 x]; constructor; (rintro ((z | z) | z); exact .inl z; exact .inr (.inl z); exact .inr (.inr z)); (rintro (z | z | z); exact .inl (.inl z); exact .inl (.inr z); exact .inr z), fun x z1 z2 => ?_, r, OwnsK.append (fun x => Iff.rfl) (fun x z => dj x ((h1 x).mpr (.inr z))) h q⟩
    rcases z2 with z2 | z2
    · exact h2 x z1 z2
    · exact dj x ((h1 x).mpr (.inl z1)) z2
theorem OwnsK.impIn {R R' : Kd → V → AS → Prop} : ∀ {ds : List Kd} {vs : List V} {O : AS}, OwnsK R ds vs O → (∀ d ∈ ds, ∀ v O1, (∀ x, O1 x → O x) → R d v O1 → R' d v O1) → OwnsK R' ds vs O
  | [], _, _, h, _ => h
  | d :: ds, _, _, ⟨v, vs', O1, O2, e, h1, h2, r, q⟩, f => ⟨v, vs', O1, O2, e, h1, h2, f _ (by simp) _ _ (fun x z => (h1 x).mpr (.inl z)) r,
      OwnsK.impIn q fun d' m v' O' s => f d' (by simp [m]) v' O' fun x z => (h1 x).mpr (.inr (s x z))⟩
abbrev kss (ps : List (Nat × D)) : List Kd := ps.map fun p => (some p.1, p.2)
/-- the list at T so far: these items, what they own at P -/
def Acc (K : PySem.W.Frag) (H1 : Hp) (A : AS) (T : Addr) (done : List (Nat × D)) (P : AS) (H : Hp) : Prop := ∃ accV, Same H1 H ∧ H T = some (.lst accV) ∧ (∀ x, P x → H1 x = none ∧ x ≠ T) ∧ OwnsK (Res1 K H (fun x => (A x ∨ x = T) ∨ P x)) (kss done) accV P
theorem Acc.start {T : Addr} (hT : H1 T = none) : Acc K H1 A T [] (fun _ => False) (upd H1 T (.lst [])) := ⟨[], same_new hT, upd_same, fun _ z => z.elim, rfl, fun _ z => z⟩
theorem Acc.mono {T : Addr} {done : List (Nat × D)} {P : AS} (a : Acc K H1 A T done P H) (s : Same H H') : Acc K H1 A T done P H' := by
  obtain ⟨accV, s0, e, hP, w⟩ := a
  exact ⟨accV, s0.trans s, s _ _ e, hP, w.imp fun d v O r => r.mono s (fun x z => .inl z) fun x z => z⟩
theorem Acc.more {T : Addr} {done : List (Nat × D)} {P P2 : AS} {k : Nat} {d : D} {y : V} (a : Acc K H1 A T done P H) (hT : H1 T = none) (hA : ∀ x, A x → IsM H1 x) (s : Same H H') (f : ∀ x, P2 x → H x = none) (w2 : Own K H' (fun x => ((A x ∨ x = T) ∨ P x) ∨ P2 x) k d y P2) :
    ∃ acc, H' T = some (.lst acc) ∧ acc.length = done.length ∧ Acc K H1 A T (done ++ [(k, d)]) (fun x => P x ∨ P2 x) (upd H' T (.lst (acc ++ [y]))) := by
  obtain ⟨accV, s0, e, hP, w⟩ := a
  have nT : ¬ P2 T := fun z => by rw [f T z] at e; cases e
  refine ⟨accV, s _ _ e, by rw [w.len]; simp, accV ++ [y], fun b o q => ?_, upd_same, fun x z => ?_, ?_⟩
  · rw [upd_ne (fun z => by subst z; rw [hT] at q; cases q)]
    exact (s0.trans s) b o q
  · rcases z with z | z
    · exact hP x z
    · exact ⟨s0.free (f x z), fun ex => nT (ex ▸ z)⟩
  · have hsame : ∀ x, ((A x ∨ x = T) ∨ (P x ∨ P2 x)) ↔ (((A x ∨ x = T) ∨ P x) ∨ P2 x) := fun x => by
      constructor
      · rintro (z | z | z)
        · exact .inl (.inl z)
        · exact .inl (.inr z)
        · exact .inr z
      · rintro ((z | z) | z)
        · exact .inl z
        · exact .inr (.inl z)
        · exact .inr (.inr z)
    have hin : (A T ∨ T = T) ∨ (P T ∨ P2 T) := .inl (.inr rfl)
    have upd1 : ∀ {j : Nat} {d : D} {v : V} {O1 : AS}, ¬ O1 T → Own K H' (fun x => (A x ∨ x = T) ∨ (P x ∨ P2 x)) j d v O1 → Own K (upd H' T (.lst (accV ++ [y]))) (fun x => (A x ∨ x = T) ∨ (P x ∨ P2 x)) j d v O1 := fun n w => w.upd hin n
    have e1 : kss (done ++ [(k, d)]) = kss done ++ [(some k, d)] := by simp [kss]
    rw [e1]
    refine OwnsK.append (fun x => Iff.rfl) (fun x z z2 => ?_) (w.impIn fun d' m v O1 sO r => ?_) ⟨y, [], P2, fun _ => False, rfl, fun x => by simp, fun _ _ z => z, ?_, rfl, fun _ z => z⟩
    · have h1 : H x = none := f x z2
      exact (w.dom z).ne h1
    · obtain ⟨p, _, ep⟩ := List.mem_map.mp m
      subst ep
      have r : Own K H _ p.1 p.2 v O1 := r
      refine upd1 (fun z => (hP T (sO T z)).2 rfl) (r.mono s fun x z => ?_)
      rcases (hsame x).mp z with z | z
      · exact .inl z
      · exact .inr (f x z)
    · exact upd1 nT (w2.mono (Same.refl _) fun x z => .inl ((hsame x).mp z))
theorem Acc.res {T : Addr} {done : List (Nat × D)} {P : AS} {kk : Kd} (a : Acc K H1 A T done P H) (hA : ∀ x, A x → IsM H0 x) (s1 : Same H0 H1) (hT : H1 T = none) (e : listV done = .ok kk) : Res K H0 H A kk (.ref T) := by
  obtain ⟨accV, s0, eT, hP, w⟩ := a
  unfold listV at e
  split at e <;> cases e
  obtain ⟨P', s', g⟩ := ownsK_lower (dmin (done.map (·.1))) w fun q m => dmin_le (List.mem_map.mpr ⟨q, m, rfl⟩)
  refine ⟨fun x => x = T ∨ P' x, fun x z => ?_, ?_⟩
  · rcases z with z | z
    · subst z; exact s1.free hT
    · exact s1.free (hP x (s' x z)).1
  · show Own K _ _ (_ + 1) (.lst _) (.ref T) _
    unfold Own
    refine ⟨T, accV, P', rfl, eT, fun x => Iff.rfl, fun z => (hP T (s' T z)).2 rfl, g _ (fun x z => ?_) fun x z p => ?_⟩
    · rcases z with z | z | z
      · exact .inl (.inl z)
      · exact .inl (.inr z)
      · exact .inr (s' x z)
    · rcases z with z | z | z
      · exact absurd (s1.free (hP x p).1) (hA x z).ne
      · exact absurd z (hP x p).2
      · exact z
/-- pairs are taken apart -/
theorem wk_of {cf : Cf} {lv : Option Scope} {sc sc' : Scope} {p : Pat} {it : Ix} {tg e : Expr} (hi : okI cf it sc tg e = true) (hp : okP cf lv sc' p tg = true) : wkI it = true → isTp p = true := by
  intro w
  have ht : isTupE tg = true := by
    cases it <;> first | (cases w; done) | skip
    all_goals
      unfold okI at hi
      split at hi <;> first | (cases hi; done) | skip
      simp only [Bool.and_eq_true] at hi
      first | exact hi.1.2 | exact hi.1.1.2
  cases p with
  | nm i => cases tg <;> unfold isTupE at ht <;> first | (cases ht; done) | (unfold okP at hp; cases hp)
  | tp ps => rfl
/-- the reading of a comprehension, by that of its parts -/
theorem comp_core {p : Pat} {it : Ix} {cs : List Tx} {e : Ex} {Q : VK} (hw : wkI it = true → isTp p = true) (r : Rel K B Z O σ H ρ) (h : aft ec W σ H (ev F C (.comp p it cs e) ρ) (fun k => ∀ v H', Same H H' → Res K H H' (ZO Z O) k v → Q v H')) :
    tLc (tI K ec W F C true it) (tP K p) (tTs K ec Wn F C cs) (tE K ec Wn F C e) p.slots σ H Q := by
  unfold ev at h
  rw [aft_bind] at h
  refine ⟨ρ, B, Z, O, r, aft_mono (Same.refl _) h fun xs hx J H1 s1 hit T hT => ?_⟩
  rw [aft_bind] at hx
  have hks := noExc_out hx
  generalize hKK : (fun ks => aft ec W σ H (listV ks) fun k => ∀ v H', Same H H' → Res K H H' (ZO Z O) k v → Q v H' : List (Nat × D) → Prop) = KK at hks
  generalize hf : (fun d => do
      let ρ' ← bindP p d (wipeE ρ p.slots)
      let r ← tsts F C cs ρ'
      if r then do let k ← ev F C e ρ'; let k ← needV k; R.ok (some k) else R.ok none : D → R (Option (Nat × D))) = f at hks
  have hB : Bb true H1 O = H1 := by unfold Bb; rw [if_pos rfl]
  rw [hB] at hit
  have hA : ∀ x, ZO Z O x → IsM H1 x := fun x z => (r.am z).mono s1
  refine ⟨fun i m H2 => m = xs.length - i ∧ i ≤ xs.length ∧ ∃ done P, out (compR f (xs.drop i)) (fun rest => KK (done ++ rest)) no ∧ Acc K H1 (ZO Z O) T done P H2, ⟨xs.length, by simp, Nat.zero_le _, [], _, hks, Acc.start hT⟩, ?_⟩
  rintro i m H2 ⟨rfl, hi, done, P, hr, acc⟩
  have s2 : Same H1 H2 := by obtain ⟨_, s, _⟩ := acc; exact s
  by_cases hlt : i < xs.length
  · refine .inr ?_
    have ed : xs[i]? = some xs[i] := List.getElem?_eq_getElem hlt
    generalize xs[i] = d at ed
    have edrop : xs.drop i = d :: xs.drop (i + 1) := by
      rw [List.drop_eq_getElem_cons hlt]
      have := List.getElem?_eq_getElem hlt
      rw [ed] at this
      cases this; rfl
    rw [edrop] at hr
    have hb := compR_cons hr
    obtain ⟨go, hy⟩ := (hit H2 s2 i).1 d ed
    refine ⟨go, fun H' => (fun i m H2 => m = xs.length - i ∧ i ≤ xs.length ∧ ∃ done P, out (compR f (xs.drop i)) (fun rest => KK (done ++ rest)) no ∧ Acc K H1 (ZO Z O) T done P H2) (i + 1) (xs.length - (i + 1)) H', fun H' w => ⟨_, by omega, w⟩, fun x H3 y3 => ?_⟩
    obtain ⟨s3, rv⟩ := hy x H3 y3
    obtain ⟨accV, _, eT, hP, w⟩ := id acc
    have mm : ∀ y, (ZO Z O y ∨ (y = T ∨ P y)) → IsM H2 y := fun y z => by
      rcases z with z | z | z
      · exact (hA y z).mono s2
      · subst z; exact .inl ⟨_, eT⟩
      · exact w.dom z
    have rv := rv (fun y => ZO Z O y ∨ (y = T ∨ P y)) (fun y z => (mm y z).ne) fun b o q => by
      obtain ⟨q1, q2⟩ := cut_some q
      refine cut_of (s2 _ _ q1) fun z => ?_
      rcases z with z | z | z
      · exact q2 z
      · subst z; rw [hT] at q1; cases q1
      · rw [(hP b z).1] at q1; cases q1
    have s13 := s2.trans s3
    -- the block's environment
    have rel3 : Rel K B (fun x => Z x ∨ (x = T ∨ P x)) O σ H3 ρ := r.res (s1.trans s13) (T := fun x => x = T ∨ P x) (fun x z => by
      rcases z with z | z
      · subst z; exact s1.free hT
      · exact s1.free (hP x z).1) fun x z => (mm x (.inr z)).mono s3
    obtain ⟨Z', O', hZ, hn, relW⟩ := rel3.wipeZ p.slots
    have hZ' : ∀ x, ZO Z' O' x ↔ ZO Z O x ∨ (x = T ∨ P x) := fun x => by
      rw [hZ x, zo_res]
    subst hf
    have hb : out (do
      let ρ' ← bindP p d (wipeE ρ p.slots)
      let r ← tsts F C cs ρ'
      if r then do let k ← ev F C e ρ'; let k ← needV k; R.ok (some k) else R.ok none : R (Option (Nat × D))) _ no := hb
    rw [out_bind] at hb
    obtain ⟨ρ1, q1, hb⟩ := out_calm hb bindP_calm
    · rw [out_bind] at hb
      refine ⟨wipeE ρ p.slots, B, Z', O', d, ρ1, relW, (rv.mono (cut_set fun x z => (hZ' x).mp z)).up hw, q1, fun σ4 O4 rel4 same4 len4 sub4 sup4 => ⟨(wipe_eq len4 same4).trans wipe_idem, ?_⟩⟩
      have hZ4 : ∀ x, ZO Z' O4 x ↔ ZO Z O x ∨ (x = T ∨ P x) := fun x => by
        rw [← hZ' x]
        constructor
        · rintro (z | ⟨j, z⟩)
          · exact .inl z
          · exact .inr ⟨j, sub4 j x z⟩
        · rintro (z | ⟨j, z⟩)
          · exact .inl z
          · exact .inr ⟨j, sup4 j x z fun hj => hn j hj x z⟩
      refine ⟨ρ1, B, Z', O4, rel4, out_mono hb (fun t hb H4 s4 => ?_) fun _ _ z => z.elim⟩
      cases t with
      | false =>
        have hb : out (compR _ (xs.drop (i + 1))) (fun bs => KK (done ++ ((none : Option (Nat × D)).toList ++ bs))) no := hb
        exact ⟨rfl, hlt, done, P, hb, acc.mono (s3.trans s4)⟩
      | true =>
        rw [if_pos rfl] at hb ⊢
        rw [out_bind] at hb
        refine ⟨ρ1, B, Z', O4, rel4.mono s4, out_mono hb (fun k hb => ?_) fun _ _ z => z.elim⟩
        obtain ⟨o, dd⟩ := k
        cases o with
        | none => exact hb.elim
        | some j =>
          have hb : out (compR _ (xs.drop (i + 1))) (fun bs => KK (done ++ ((j, dd) :: bs))) no := hb
          intro y H5 s5 ⟨P2, f2, w2⟩
          have w2 : Own K H5 (fun x => ZO Z' O4 x ∨ P2 x) j dd y P2 := w2
          have acc4 := acc.mono (s3.trans s4)
          have w3 : Own K H5 (fun x => ((ZO Z O x ∨ x = T) ∨ P x) ∨ P2 x) j dd y P2 := w2.mono (Same.refl _) fun x z => by
            rcases z with ((z | z) | z) | z
            · exact .inl (.inl ((hZ4 x).mpr (.inl z)))
            · exact .inl (.inl ((hZ4 x).mpr (.inr (.inl z))))
            · exact .inl (.inl ((hZ4 x).mpr (.inr (.inr z))))
            · exact .inl (.inr z)
          obtain ⟨av, e5, l5, acc5⟩ := acc4.more (P2 := P2) (k := j) (d := dd) (y := y) hT hA s5 f2 w3
          obtain ⟨bs, hkk⟩ := out_some hb
          have hlen : (done ++ ((j, dd) :: bs)).length ≤ line := by
            subst hKK
            have hkk : aft ec W σ H (if (done ++ ((j, dd) :: bs)).length ≤ line then R.ok (newL (dmin ((done ++ ((j, dd) :: bs)).map (·.1))) ((done ++ ((j, dd) :: bs)).map (·.2))) else R.stuck) (fun k => ∀ v H', Same H H' → Res K H H' (ZO Z O) k v → Q v H') := hkk
            split at hkk
            · assumption
            · exact hkk.elim
          refine ⟨av, e5, ?_, rfl, hlt, done ++ [(j, dd)], _, out_mono hb (fun bs q => ?_) fun _ _ z => z, acc5⟩
          · rw [List.length_append, List.length_cons] at hlen
            rw [l5, line_eq]
            omega
          · rw [List.append_assoc]
            exact q
  · refine .inl ?_
    have ei : i = xs.length := by omega
    refine ⟨(hit H2 s2 i).2 (by omega), ?_⟩
    rw [ei, List.drop_length] at hr
    unfold compR at hr
    have hr : KK (done ++ []) := hr
    rw [List.append_nil] at hr
    subst hKK
    obtain ⟨kk, hkk, q⟩ := aft_calm (show aft ec W σ H (listV done) (fun k => ∀ v H', Same H H' → Res K H H' (ZO Z O) k v → Q v H') from hr) (fun h => by unfold listV at h; split at h <;> cases h)
    exact (show ∀ v H', Same H H' → Res K H H' (ZO Z O) kk v → Q v H' from q) _ _ (s1.trans s2) (acc.res (fun x z => r.am z) s1 hT hkk)
end
end Px

/-! PxG: list(range(..)), tuple(range(..)). -/
namespace Px
open PySem PySem.Spec L2
section
variable {ec : EC} {W : WX} {F : List Fn} {C : List D} {X : Cx} {pos : Pos}
theorem rgV_rep {K : PySem.W.Frag} {H : Hp} {lo hi : Int} : RepRs K H (rng1 lo hi) (rgV lo hi) := by
  unfold rng1 rgV
  generalize List.range (hi - lo).toNat = l
  induction l with
  | nil => exact RepRs.nil
  | cons i l ih => exact RepRs.cons (by unfold RepR; rfl) ih
theorem rgV_own {K : PySem.W.Frag} {H : Hp} {A : AS} {k : Nat} {lo hi : Int} : Owns (Own K H A k) (rng1 lo hi) (rgV lo hi) (fun _ => False) := by
  unfold rng1 rgV
  generalize List.range (hi - lo).toNat = l
  induction l with
  | nil => exact ⟨rfl, fun _ z => z⟩
  | cons i l ih => exact ⟨_, _, fun _ => False, fun _ => False, rfl, fun x => by simp, fun _ z => z.elim, (Own.flat rfl).mpr ⟨fun _ z => z, by unfold RepR; rfl⟩, ih⟩
/-- what follows a range -/
theorem rgl_post {K : PySem.W.Frag} {H H1 : Hp} {A : AS} {t : Bool} {lo hi : Int} {Q : VK} (s1 : Same H H1) (hA : ∀ z, A z → IsM H z) (hq : aft ec W σ H (rglD t lo hi) (fun k => ∀ v H', Same H H' → Res K H H' A k v → Q v H')) :
    (t = false → RgOk lo hi ∧ ∀ q, H1 q = none → Q (.ref q) (upd H1 q (.lst (rgV lo hi)))) ∧ (t = true → RgOk lo hi ∧ ∀ (q : Addr) (o : Obj), H1 q = none → o.dict = none → Q (.ref q) (upd H1 q (.frz o (.tup (rgV lo hi))))) := by
  unfold rglD at hq
  split at hq
  · rename_i hb
    obtain ⟨h1, h2, h3, h4⟩ := hb
    have ok : RgOk lo hi := RgOk.of_le h1 h4 h2 h3
    cases t with
    | false =>
      refine ⟨fun _ => ⟨ok, fun q hn => ?_⟩, fun e => by cases e⟩
      refine (show ∀ v H', Same H H' → Res K H H' A (newL 8 (rng1 lo hi)) v → Q v H' from hq) _ _ (s1.trans (same_new hn)) ?_
      exact Res.newL (O := fun _ => False) hn s1 (fun _ z => z.elim) (fun z a => (hA z a).mono s1) rgV_own
    | true =>
      refine ⟨fun e => by (cases e), fun _ => ⟨ok, fun q o hn hd => ?_⟩⟩
      refine (show ∀ v H', Same H H' → Res K H H' A (at9 (.tup (rng1 lo hi))) v → Q v H' from hq) _ _ (s1.trans (same_new hn)) ?_
      have := Res.tupN (K := K) (H0 := H) hn hd (fun z a => (hA z a).mono s1) (rgV_rep (K := K) (H := cut H1 A) (lo := lo) (hi := hi))
      exact this
  · exact hq.elim
theorem e_rgl1 {t : Bool} {a : Ex} {x y : Str} {e : Expr} {p1 p2 pos2 : Pos} (hc : X.calm = true) (hx : Str.ofString (if t then "tuple" else "list") = x) (hy : Str.ofString "range" = y) (gx : Gl X x) (gy : Gl X y) (mx : X.mg x = none) (my : X.mg y = none) (hs : noStar e = true) (ha : PE X e (tE X.K ec W F C a)) :
    PE X (.Call (.Name x p1) [.Call (.Name y p2) [e] [] pos2] [] pos) (tE X.K ec W F C (.rgl1 t a)) := by
  subst hx; subst hy
  have pr := prg_1 (p := p2) (pos := pos2) gy my ha (starEach_of hs)
  cases t with
  | false =>
    refine PE.imp (pe_listRg hc gx mx pr (starEach_of rfl)) fun σ H Q ⟨ρ, B, Z, O, r, h⟩ => ?_
    unfold ev at h
    rw [aft_bind] at h
    refine use_E r (aft_mono (Same.refl _) h fun k hk v H1 s1 res => ?_)
    split at hk
    · rename_i n
      exact ⟨n, res.rep.int, (rgl_post s1 (fun z a => r.am a) hk).1 rfl⟩
    · exact hk.elim
  | true =>
    refine PE.imp (pe_tupRgN hc gx mx pr (starEach_of rfl)) fun σ H Q ⟨ρ, B, Z, O, r, h⟩ => ?_
    unfold ev at h
    rw [aft_bind] at h
    refine use_E r (aft_mono (Same.refl _) h fun k hk v H1 s1 res => ?_)
    split at hk
    · rename_i n
      exact ⟨n, res.rep.int, (rgl_post s1 (fun z a => r.am a) hk).2 rfl⟩
    · exact hk.elim
theorem e_rgl2 {t : Bool} {a b : Ex} {x y : Str} {e e' : Expr} {p1 p2 pos2 : Pos} (hc : X.calm = true) (hx : Str.ofString (if t then "tuple" else "list") = x) (hy : Str.ofString "range" = y) (gx : Gl X x) (gy : Gl X y) (mx : X.mg x = none) (my : X.mg y = none) (hs : noStar e = true) (hs' : noStar e' = true) (ha : PE X e (tE X.K ec W F C a)) (hb : PE X e' (tE X.K ec W F C b)) :
    PE X (.Call (.Name x p1) [.Call (.Name y p2) [e, e'] [] pos2] [] pos) (tE X.K ec W F C (.rgl2 t a b)) := by
  subst hx; subst hy
  have pr := prg_2 (p := p2) (pos := pos2) gy my ha hb (starEach_of hs) (starEach_of hs') (plainTail (noStars1 hs'))
  have go : ∀ {σ : L2.St} {H : Hp} {ρ : Env} {B : Hp} {Z : AS} {O : Nat → AS} {Q : VK} {P : Int → Int → Hp → Prop}, Rel X.K B Z O σ H ρ → aft ec W σ H (ev F C (.rgl2 t a b) ρ) (fun k => ∀ v H', Same H H' → Res X.K H H' (ZO Z O) k v → Q v H') →
      (∀ n m H1, Same H H1 → aft ec W σ H (rglD t n m) (fun k => ∀ v H', Same H H' → Res X.K H H' (ZO Z O) k v → Q v H') → P n m H1) → tRg2 (tE X.K ec W F C a) (tE X.K ec W F C b) σ H P := by
    intro σ H ρ B Z O Q P r h hp
    unfold ev at h
    rw [aft_bind] at h
    refine two (P := fun ka kb => aft ec W σ H (match ka, kb with | (_, .int n), (_, .int m) => rglD t n m | _, _ => .stuck) (fun k => ∀ v H', Same H H' → Res X.K H H' (ZO Z O) k v → Q v H')) r (aft_mono (Same.refl _) h fun x hx => ?_) fun ka kb v u H2 hk s2 rr => ?_
    · rw [aft_bind] at hx; exact hx
    · split at hk
      · rename_i n _ m
        have rp := rr.rep
        have : RepRs X.K H2 [.int n, .int m] [v, u] := rp
        unfold RepRs at this
        obtain ⟨v1, vs', ev, rv, rp⟩ := this
        obtain ⟨u1, eu, ru⟩ := RepRs.one rp
        cases ev
        cases eu
        exact ⟨n, m, rv.int, ru.int, hp n m H2 s2 hk⟩
      · exact hk.elim
  cases t with
  | false => exact PE.imp (pe_listRg hc gx mx pr (starEach_of rfl)) fun σ H Q ⟨ρ, B, Z, O, r, h⟩ => go r h fun n m H1 s1 hk => (rgl_post s1 (fun z a => r.am a) hk).1 rfl
  | true => exact PE.imp (pe_tupRgN hc gx mx pr (starEach_of rfl)) fun σ H Q ⟨ρ, B, Z, O, r, h⟩ => go r h fun n m H1 s1 hk => (rgl_post s1 (fun z a => r.am a) hk).2 rfl
end
end Px

/-! Px14: a code that stands for an expression is sound. -/
namespace Px
open PySem PySem.Spec L2
/-- what a code leans on -/
structure Good (ec : EC) (cf : Cf) (F : List Fn) (C : List D) (X : Cx) (W : WX) : Prop where
  calm : X.calm = true
  nd : X.N.Nodup
  hN : X.N = cf.N
  un : X.A.units + 65 < cLine
  bn : ∀ n : String, cf.bn.contains n = true → X.mg (Str.ofString n) = none
  fs : ∀ (j : Nat) (y : String) (n : Nat), cf.fs[j]? = some (y, n) → ∃ c : Cal X.prog X.w X.K X.mg X.base ec, c.name = y ∧ c.n = n ∧ F[j]? = some c.m ∧ Room c.k X.A.in1.in1
  gc : ∀ (j : Nat) (y : String), cf.gc[j]? = some y → ∃ c : Con1 X.K X.mg, c.name = y ∧ C[j]? = some c.d
  gu : X.A.guards = some []
  tk : Takes X W
section
variable {ec : EC} {cf : Cf} {F : List Fn} {C : List D} {X : Cx} {W : WX} {sc : Scope} {pos : Pos}
theorem Good.blk (g : Good ec cf F C X W) {s : Shared} {H : Hp} {scope : Scope} {ce : PySem.Env} {fp : List Addr} : Good ec cf F C (X.blk s H scope ce fp) Wn :=
  ⟨g.calm, g.nd, g.hN, g.un, g.bn, g.fs, g.gc, g.gu, takes0⟩
theorem vis_of {x : Str} (hsc : X.env.scope = sc) (h : visB sc x = true) : Vis X.env.scope x := by
  rw [hsc]
  unfold visB at h
  split at h
  · exact .inl (by assumption)
  · exact .inr (.inl (by assumption))
  · exact .inr (.inr (by assumption))
  · cases h
theorem gl_of {x : Str} (hsc : X.env.scope = sc) (h : glB sc x = true) : Gl X x := by
  unfold glB at h
  show X.env.scope.names.lookup x = _
  rw [hsc]; exact of_decide_eq_true h
theorem plainIx_of {b : Expr} (h : plainIx b = true) : PlainIxT b := by
  intro o i
  cases b <;> first | rfl | cases h
theorem one_of {x : Str} {want : String} (g : Good ec cf F C X W) (hsc : X.env.scope = sc) (h : one1 cf sc x want = true) : Str.ofString want = x ∧ X.mg x = none ∧ Gl X x ∧ nmB x = true := by
  unfold one1 at h
  simp only [Bool.and_eq_true] at h
  obtain ⟨⟨⟨h1, h2⟩, h3⟩, h4⟩ := h
  have h1 := of_decide_eq_true h1
  exact ⟨h1, h1 ▸ g.bn _ h2, gl_of hsc h3, h4⟩
theorem folded_of {e : Expr} (h : notSet e = true) : ∀ (env : PySem.Env) (x : Value), foldedSetIterable e env x = pure x := by
  intro env x
  cases e <;> first | rfl | cases h
theorem e_glob {j : Nat} {x : Str} (g : Good ec cf F C X W) (hsc : X.env.scope = sc) (h : glX cf sc j x = true) : PE X (.Name x pos) (tE X.K ec W F C (.glob j)) := by
  unfold glX at h
  simp only [Bool.and_eq_true] at h
  obtain ⟨⟨h1, h2⟩, h3⟩ := h
  split at h1
  · rename_i y hy
    obtain ⟨c, e1, e2⟩ := g.gc j y hy
    have h1 := of_decide_eq_true h1
    subst e1
    subst h1
    refine PE.imp (pe_glob (gl_of hsc h2) c.gm c.r (nmB_of h3).1) fun σ H Q ⟨ρ, B, Z, O, r, h⟩ => ?_
    unfold ev at h
    rw [e2] at h
    have h : ∀ v H', Same H H' → Res X.K H H' (ZO Z O) (kd 0 c.d) v → Q v H' := h
    exact h _ _ (Same.refl _) (kd_res (O := fun _ => False) (fun _ z => z.elim) ⟨fun _ z => z, c.rep _⟩)
  · cases h1
theorem okEs_len : ∀ {cs : List Ex} {es : List Expr}, okEs cf cs sc es = true → cs.length = es.length
  | [], [], _ => rfl
  | [], _ :: _, h => by unfold okEs at h; cases h
  | _ :: _, [], h => by unfold okEs at h; cases h
  | c :: cs, e :: es, h => by
    unfold okEs at h
    simp only [Bool.and_eq_true] at h
    simp [okEs_len h.2]
theorem and1 {op : PySem.BoolOp} {e : Expr} {a : Ex} (h : PE X e (tE X.K ec W F C a)) : PE X (.BoolOp op [e] pos) (tE X.K ec W F C a) := pe_one h
mutual
theorem e_ok : ∀ {c : Ex} {X : Cx} {W : WX} {sc : Scope} {e : Expr}, Good ec cf F C X W → X.env.scope = sc → okE cf c sc e = true → PE X e (tE X.K ec W F C c)
  | .var i, X, W, sc, e, g, hsc, h => by
    unfold okE at h
    split at h <;> first | (cases h; done) | skip
    simp only [Bool.and_eq_true] at h
    obtain ⟨⟨h1, h2⟩, h3⟩ := h
    exact e_var (by rw [g.hN]; exact of_decide_eq_true h1) (vis_of hsc h2) (nmB_of h3).1 (nmB_of h3).2.1
  | .lit d, X, W, sc, e, g, hsc, h => by
    unfold okE at h
    split at h <;> first | (cases h; done) | skip
    exact e_lit h
  | .glob j, X, W, sc, e, g, hsc, h => by
    unfold okE at h
    split at h <;> first | (cases h; done) | skip
    exact e_glob g hsc h
  | .tupS a b c, X, W, sc, e, g, hsc, h => by
    unfold okE at h
    split at h <;> first | (cases h; done) | skip
    simp only [Bool.and_eq_true] at h
    obtain ⟨⟨⟨⟨h1, h2⟩, h3⟩, h4⟩, h5⟩ := h
    exact e_tupS h1 h2 (e_ok g hsc h3) (e_ok g hsc h4) (e_ok g hsc h5)
  | .dlk ps a, X, W, sc, e, g, hsc, h => by
    unfold okE at h
    split at h <;> first | (cases h; done) | skip
    simp only [Bool.and_eq_true, Bool.not_eq_true', decide_eq_true_eq] at h
    obtain ⟨⟨⟨⟨h1, h2⟩, h3⟩, h4⟩, h5⟩ := h
    exact e_dlk (by have := g.un; omega) h1 h2 h3 h4 (e_ok g hsc h5)
  | .dnw, X, W, sc, e, g, hsc, h => by
    unfold okE at h
    split at h <;> first | (cases h; done) | skip
    exact e_dnw
  | .tix a i, X, W, sc, e, g, hsc, h => by
    unfold okE at h
    split at h <;> first | (cases h; done) | skip
    simp only [Bool.and_eq_true] at h
    obtain ⟨⟨⟨⟨⟨h1, h2⟩, h3⟩, h4⟩, h5⟩, h6⟩ := h
    exact e_tix (of_decide_eq_true h1) h2 h3 h4 (e_ok g hsc h5) (e_ok g hsc h6)
  | .dsp k v, X, W, sc, e, g, hsc, h => by
    unfold okE at h
    split at h <;> first | (cases h; done) | skip
    rw [Bool.and_eq_true] at h
    exact e_dsp (e_ok g hsc h.1) (e_ok g hsc h.2)
  | .dgt a k d, X, W, sc, e, g, hsc, h => by
    unfold okE at h
    split at h <;> first | (cases h; done) | skip
    simp only [Bool.and_eq_true, decide_eq_true_eq] at h
    obtain ⟨⟨⟨⟨⟨h0, h1⟩, h2⟩, h3⟩, h4⟩, h5⟩ := h
    subst h0
    exact e_dgt (by have := g.un; omega) h2 h3 rfl (e_ok g hsc h1) (e_ok g hsc h4) (e_ok g hsc h5)
  | .dlg ps a d, X, W, sc, e, g, hsc, h => by
    unfold okE at h
    split at h <;> first | (cases h; done) | skip
    simp only [Bool.and_eq_true, Bool.not_eq_true', decide_eq_true_eq] at h
    obtain ⟨⟨⟨⟨⟨⟨⟨h0, h1⟩, h2⟩, h3⟩, h4⟩, h5⟩, h6⟩, h7⟩ := h
    subst h0
    exact e_dlg (by have := g.un; omega) h1 h2 h3 h4 h5 h6 (e_ok g hsc h7)
  | .bin o a b, X, W, sc, e, g, hsc, h => by
    unfold okE at h
    split at h <;> first | (cases h; done) | skip
    simp only [Bool.and_eq_true] at h
    obtain ⟨⟨h1, h2⟩, h3⟩ := h
    have h1 := of_decide_eq_true h1
    subst h1
    exact e_bin (e_ok g hsc h2) (e_ok g hsc h3)
  | .un o a, X, W, sc, e, g, hsc, h => by
    unfold okE at h
    split at h <;> first | (cases h; done) | skip
    simp only [Bool.and_eq_true] at h
    obtain ⟨h1, h2⟩ := h
    have h1 := of_decide_eq_true h1
    subst h1
    exact e_un (e_ok g hsc h2)
  | .cmp o a b, X, W, sc, e, g, hsc, h => by
    unfold okE at h
    split at h <;> first | (cases h; done) | skip
    simp only [Bool.and_eq_true, Bool.not_eq_true'] at h
    obtain ⟨⟨⟨h1, h2⟩, h3⟩, h4⟩ := h
    have h1 := of_decide_eq_true h1
    subst h1
    exact e_cmp g.un (e_ok g hsc h2) (e_ok g hsc h3) h4
  | .chain o o' a b c, X, W, sc, e, g, hsc, h => by
    unfold okE at h
    split at h <;> first | (cases h; done) | skip
    simp only [Bool.and_eq_true, Bool.not_eq_true'] at h
    obtain ⟨⟨⟨⟨⟨h1, h1'⟩, h2⟩, h3⟩, h4⟩, h5⟩ := h
    have h1 := of_decide_eq_true h1
    have h1' := of_decide_eq_true h1'
    subst h1
    subst h1'
    exact e_chain g.un (e_ok g hsc h2) (e_ok g hsc h3) (e_ok g hsc h4) h5
  | .and a b, X, W, sc, e, g, hsc, h => by
    unfold okE at h
    split at h <;> first | (cases h; done) | skip
    · rw [Bool.and_eq_true] at h
      exact e_and (e_ok g hsc h.1) (and1 (e_ok g hsc h.2))
    · rw [Bool.and_eq_true] at h
      exact e_and (e_ok g hsc h.1) (e_ok g hsc h.2)
  | .or a b, X, W, sc, e, g, hsc, h => by
    unfold okE at h
    split at h <;> first | (cases h; done) | skip
    · rw [Bool.and_eq_true] at h
      exact e_or (e_ok g hsc h.1) (and1 (e_ok g hsc h.2))
    · rw [Bool.and_eq_true] at h
      exact e_or (e_ok g hsc h.1) (e_ok g hsc h.2)
  | .not a, X, W, sc, e, g, hsc, h => by
    unfold okE at h
    split at h <;> first | (cases h; done) | skip
    exact e_not (e_ok g hsc h)
  | .ite c a b, X, W, sc, e, g, hsc, h => by
    unfold okE at h
    split at h <;> first | (cases h; done) | skip
    simp only [Bool.and_eq_true] at h
    obtain ⟨⟨h1, h2⟩, h3⟩ := h
    exact e_ite (t_ok g hsc h1).1 (e_ok g hsc h2) (e_ok g hsc h3)
  | .idx a i, X, W, sc, e, g, hsc, h => by
    unfold okE at h
    split at h <;> first | (cases h; done) | skip
    simp only [Bool.and_eq_true] at h
    obtain ⟨⟨h1, h2⟩, h3⟩ := h
    exact e_idx (by have := g.un; omega) (e_ok g hsc h1) (e_ok g hsc h2) (plainIx_of h3)
  | .sl a lo hi, X, W, sc, e, g, hsc, h => by
    unfold okE at h
    split at h <;> first | (cases h; done) | skip
    simp only [Bool.and_eq_true] at h
    obtain ⟨⟨h1, h2⟩, h3⟩ := h
    exact e_sl (e_ok g hsc h1) (o_ok g hsc h2) (o_ok g hsc h3)
  | .rev a, X, W, sc, e, g, hsc, h => by
    unfold okE at h
    split at h <;> first | (cases h; done) | skip
    simp only [Bool.and_eq_true] at h
    obtain ⟨h1, h2⟩ := h
    have h1 := of_decide_eq_true h1
    subst h1
    exact e_rev (e_ok g hsc h2)
  | .call j es, X, W, sc, e, g, hsc, h => by
    unfold okE at h
    split at h <;> first | (cases h; done) | skip
    simp only [Bool.and_eq_true] at h
    obtain ⟨⟨h1, h2⟩, h3⟩ := h
    unfold fnX at h1
    simp only [Bool.and_eq_true] at h1
    obtain ⟨⟨h1, h4⟩, h5⟩ := h1
    split at h1
    · rename_i y n hy
      simp only [Bool.and_eq_true, decide_eq_true_eq] at h1
      obtain ⟨c, e1, e2, e3, e4⟩ := g.fs j y n hy
      refine e_call e3 g.gu (room_of2 e4) g.tk (by rw [e1]; exact h1.1) (by rw [e2]; exact h1.2) (gl_of hsc h4) h5 h2 (es_ok g hsc h3) (okEs_len h3)
    · cases h1
    simp only [Bool.and_eq_true] at h
    obtain ⟨h1, h2⟩ := h
    unfold fnX at h1
    simp only [Bool.and_eq_true] at h1
    obtain ⟨⟨h1, h4⟩, h5⟩ := h1
    split at h1
    · rename_i y n hy
      simp only [Bool.and_eq_true, decide_eq_true_eq] at h1
      obtain ⟨c, e1, e2, e3, e4⟩ := g.fs j y n hy
      cases es with
      | nil => exact e_call0 e3 g.gu (room_of2 e4) g.tk (by rw [e1]; exact h1.1) (by rw [e2]; exact h1.2.symm) (gl_of hsc h4) h5
      | cons _ _ => cases h2
    · cases h1
  | .keyed mn j es, X, W, sc, e, g, hsc, h => by
    unfold okE at h
    split at h <;> first | (cases h; done) | skip
    simp only [Bool.and_eq_true, decide_eq_true_eq] at h
    obtain ⟨⟨⟨⟨h1, h2⟩, h3⟩, h4⟩, h5⟩ := h
    obtain ⟨o1, o2, o3, o4⟩ := one_of g hsc h1
    unfold fnX at h3
    simp only [Bool.and_eq_true] at h3
    obtain ⟨⟨h3, h6⟩, h7⟩ := h3
    split at h3
    · rename_i y n hy
      simp only [Bool.and_eq_true, decide_eq_true_eq] at h3
      obtain ⟨c, e1, e2, e3, e4⟩ := g.fs j y n hy
      exact e_keyed e3 g.gu e4 o1 o3 o2 (by rw [e1]; exact h3.1) (by rw [e2]; exact h3.2.symm) (gl_of hsc h6) h7 h4 h2 (es_ok g hsc h5) (okEs_len h5)
    · cases h3
  | .bi b es, X, W, sc, e, g, hsc, h => by
    unfold okE at h
    split at h <;> first | (cases h; done) | skip
    simp only [Bool.and_eq_true] at h
    obtain ⟨⟨h1, h2⟩, h3⟩ := h
    obtain ⟨o1, o2, o3, o4⟩ := one_of g hsc h1
    exact e_bi g.calm g.gu g.un o1 o3 o2 o4 h2 (es_ok g hsc h3)
  | .me m a es, X, W, sc, e, g, hsc, h => by
    unfold okE at h
    split at h <;> first | (cases h; done) | skip
    simp only [Bool.and_eq_true] at h
    obtain ⟨⟨⟨⟨⟨⟨h1, h2⟩, h3⟩, h4⟩, h5⟩, h6⟩, h7⟩ := h
    exact e_me (of_decide_eq_true h1) h2 (of_decide_eq_true h3) h4 h5 (e_ok g hsc h6) (es_ok g hsc h7)
  | .tup es, X, W, sc, e, g, hsc, h => by
    unfold okE at h
    split at h <;> first | (cases h; done) | skip
    rw [Bool.and_eq_true] at h
    exact e_tup (es_ok g hsc h.2)
  | .list es, X, W, sc, e, g, hsc, h => by
    unfold okE at h
    split at h <;> first | (cases h; done) | skip
    rw [Bool.and_eq_true] at h
    exact e_list (es_ok g hsc h.2)
  | .isTy a t, X, W, sc, e, g, hsc, h => by
    unfold okE at h
    split at h <;> first | (cases h; done) | skip
    simp only [Bool.and_eq_true] at h
    obtain ⟨⟨⟨⟨h1, h2⟩, h3⟩, h4⟩, h5⟩ := h
    obtain ⟨o1, o2, o3, o4⟩ := one_of g hsc h1
    obtain ⟨p1, p2, p3, p4⟩ := one_of g hsc h2
    exact e_isTy o1 p1 o3 o2 o4 p3 p2 p4 h3 h4 (e_ok g hsc h5)
  | .rgl1 t a, X, W, sc, e, g, hsc, h => by
    unfold okE at h
    split at h <;> first | (cases h; done) | skip
    simp only [Bool.and_eq_true] at h
    obtain ⟨⟨⟨h1, h2⟩, h3⟩, h4⟩ := h
    obtain ⟨o1, o2, o3, o4⟩ := one_of g hsc h1
    obtain ⟨p1, p2, p3, p4⟩ := one_of g hsc h2
    exact e_rgl1 g.calm o1 p1 o3 p3 o2 p2 h3 (e_ok g hsc h4)
  | .rgl2 t a b, X, W, sc, e, g, hsc, h => by
    unfold okE at h
    split at h <;> first | (cases h; done) | skip
    simp only [Bool.and_eq_true] at h
    obtain ⟨⟨⟨⟨⟨h1, h2⟩, h3⟩, h4⟩, h5⟩, h6⟩ := h
    obtain ⟨o1, o2, o3, o4⟩ := one_of g hsc h1
    obtain ⟨p1, p2, p3, p4⟩ := one_of g hsc h2
    exact e_rgl2 g.calm o1 p1 o3 p3 o2 p2 h3 h4 (e_ok g hsc h5) (e_ok g hsc h6)
  | .comp p it cs el, X, W, sc, e, g, hsc, h => by
    unfold okE at h
    split at h <;> first | (cases h; done) | skip
    rename_i elt tg iter ifs as scope cpos
    simp only [Bool.and_eq_true] at h
    obtain ⟨⟨⟨⟨⟨⟨h1, h2⟩, h3⟩, h4⟩, h5⟩, h6⟩, h7⟩ := h
    have h1 := of_decide_eq_true h1
    subst h1
    have hv : (ownB cf.N p.slots).map (·.2) = p.slots := by
      unfold ownB; rw [List.map_map]; exact List.map_id _
    have hb := blkOk_by h4
    rw [← g.hN, ← hsc] at hb
    have gb : ∀ (s : Shared) (H : Hp) (D : Addr) (cl : List (Str × Addr)) (fp : List Addr), Good ec cf F C (X.blk s H scope (compEnvC scope cl D X.env) fp) Wn := fun s H D cl fp => g.blk
    have hsb : ∀ (s : Shared) (H : Hp) (D : Addr) (cl : List (Str × Addr)) (fp : List Addr), (X.blk s H scope (compEnvC scope cl D X.env) fp).env.scope = relS scope sc := fun s H D cl fp => by rw [← hsc]; rfl
    have q := pe_lc (X := X) (elt := elt) (tg := tg) (iter := iter) (ifs := ifs) (scope := scope) (pos := cpos) (own := ownB X.N p.slots) (wi := tI X.K ec W F C true it) (g := tP X.K p) (tt := tTs X.K ec Wn F C cs) (te := tE X.K ec Wn F C el) g.calm g.nd (i_ok g hsc h2) hb
      (fun s H D cl fp => p_ok (X := X.blk s H scope (compEnvC scope cl D X.env) fp) (cf := cf) (lv := some scope) g.calm g.nd g.hN (hsb s H D cl fp) (fun x hx => by
        unfold fnB at hx
        show (scope.names.lookup x == some .cell) = true
        rw [of_decide_eq_true hx]; rfl) h5)
      (fun s H D cl fp => ts_ok (gb s H D cl fp) (hsb s H D cl fp) h6) (fun s H D cl fp => e_ok (gb s H D cl fp) (hsb s H D cl fp) h7) (folded_of h3 _)
    rw [g.hN, hv] at q
    exact PE.imp q fun σ H Q ⟨ρ, B, Z, O, r, h⟩ => comp_core (wk_of h2 h5) r h
theorem o_ok : ∀ {c : Ox} {X : Cx} {W : WX} {sc : Scope} {e : Option Expr}, Good ec cf F C X W → X.env.scope = sc → okO cf c sc e = true → PO X e (tO X.K ec W F C c)
  | .no, X, W, sc, e, g, hsc, h => by
    unfold okO at h
    cases e with
    | none => exact o_none
    | some e => cases h
  | .yes a, X, W, sc, e, g, hsc, h => by
    unfold okO at h
    split at h
    · exact o_some (e_ok g hsc h)
    · cases h
theorem t_ok : ∀ {c : Tx} {X : Cx} {W : WX} {sc : Scope} {e : Expr}, Good ec cf F C X W → X.env.scope = sc → okT cf c sc e = true → PT X e (tT X.K ec W F C c) ∧ ∀ op xs pos, e = .BoolOp op xs pos → PW X e (tT X.K ec W F C c)
  | .and a b, X, W, sc, e, g, hsc, h => by
    unfold okT at h
    split at h <;> first | (cases h; done) | skip
    · rw [Bool.and_eq_true] at h
      have q := t_and (pos := (by assumption)) (t_ok g hsc h.1).1 (pw_and1 (t_ok g hsc h.2).1)
      exact ⟨q.pt, fun _ _ _ _ => q⟩
    · rw [Bool.and_eq_true] at h
      have q := t_and (t_ok g hsc h.1).1 ((t_ok g hsc h.2).2 _ _ _ rfl)
      exact ⟨q.pt, fun _ _ _ _ => q⟩
  | .or a b, X, W, sc, e, g, hsc, h => by
    unfold okT at h
    split at h <;> first | (cases h; done) | skip
    · rw [Bool.and_eq_true] at h
      have q := t_or (pos := (by assumption)) (t_ok g hsc h.1).1 (pw_or1 (t_ok g hsc h.2).1)
      exact ⟨q.pt, fun _ _ _ _ => q⟩
    · rw [Bool.and_eq_true] at h
      have q := t_or (t_ok g hsc h.1).1 ((t_ok g hsc h.2).2 _ _ _ rfl)
      exact ⟨q.pt, fun _ _ _ _ => q⟩
  | .not a, X, W, sc, e, g, hsc, h => by
    unfold okT at h
    split at h <;> first | (cases h; done) | skip
    exact ⟨t_not (t_ok g hsc h).1, fun _ _ _ e => by cases e⟩
  | .cmp o a b, X, W, sc, e, g, hsc, h => by
    unfold okT at h
    split at h <;> first | (cases h; done) | skip
    simp only [Bool.and_eq_true, Bool.not_eq_true'] at h
    obtain ⟨⟨⟨h1, h2⟩, h3⟩, h4⟩ := h
    have h1 := of_decide_eq_true h1
    subst h1
    exact ⟨t_cmp g.un (e_ok g hsc h2) (e_ok g hsc h3) h4, fun _ _ _ e => by cases e⟩
  | .chain o o' a b c, X, W, sc, e, g, hsc, h => by
    unfold okT at h
    split at h <;> first | (cases h; done) | skip
    simp only [Bool.and_eq_true, Bool.not_eq_true'] at h
    obtain ⟨⟨⟨⟨⟨h1, h1'⟩, h2⟩, h3⟩, h4⟩, h5⟩ := h
    have h1 := of_decide_eq_true h1
    have h1' := of_decide_eq_true h1'
    subst h1
    subst h1'
    exact ⟨t_chain g.un (e_ok g hsc h2) (e_ok g hsc h3) (e_ok g hsc h4) h5, fun _ _ _ e => by cases e⟩
  | .val c, X, W, sc, e, g, hsc, h => by
    unfold okT at h
    rw [Bool.and_eq_true] at h
    exact ⟨t_truth (e_ok g hsc h.1) h.2, fun op xs pos q => by subst q; cases h.2⟩
theorem i_ok : ∀ {c : Ix} {X : Cx} {W : WX} {sc : Scope} {bor : Bool} {tg e : Expr}, Good ec cf F C X W → X.env.scope = sc → okI cf c sc tg e = true → PI X tg e (tI X.K ec W F C bor c)
  | .rng1 a, X, W, sc, bor, tg, e, g, hsc, h => by
    unfold okI at h
    split at h <;> first | (cases h; done) | skip
    simp only [Bool.and_eq_true] at h
    obtain ⟨⟨h1, h2⟩, h3⟩ := h
    obtain ⟨o1, o2, o3, o4⟩ := one_of g hsc h1
    exact i_rng1 o1 o3 o2 h2 (e_ok g hsc h3)
  | .rng2 a b, X, W, sc, bor, tg, e, g, hsc, h => by
    unfold okI at h
    split at h <;> first | (cases h; done) | skip
    simp only [Bool.and_eq_true] at h
    obtain ⟨⟨⟨⟨h1, h2⟩, h3⟩, h4⟩, h5⟩ := h
    obtain ⟨o1, o2, o3, o4⟩ := one_of g hsc h1
    exact i_rng2 o1 o3 o2 h2 h3 (e_ok g hsc h4) (e_ok g hsc h5)
  | .rng3 a b c, X, W, sc, bor, tg, e, g, hsc, h => by
    unfold okI at h
    split at h <;> first | (cases h; done) | skip
    simp only [Bool.and_eq_true] at h
    obtain ⟨⟨⟨⟨⟨⟨h1, h2⟩, h3⟩, h4⟩, h5⟩, h6⟩, h7⟩ := h
    obtain ⟨o1, o2, o3, o4⟩ := one_of g hsc h1
    exact i_rng3 o1 o3 o2 h2 h3 h4 (e_ok g hsc h5) (e_ok g hsc h6) (e_ok g hsc h7)
  | .enum a, X, W, sc, bor, tg, e, g, hsc, h => by
    unfold okI at h
    split at h <;> first | (cases h; done) | skip
    simp only [Bool.and_eq_true] at h
    obtain ⟨⟨⟨h1, h2⟩, h3⟩, h4⟩ := h
    obtain ⟨o1, o2, o3, o4⟩ := one_of g hsc h1
    exact i_enum o1 o3 o2 h2 h3 (e_ok g hsc h4)
  | .zip a b, X, W, sc, bor, tg, e, g, hsc, h => by
    unfold okI at h
    split at h <;> first | (cases h; done) | skip
    simp only [Bool.and_eq_true] at h
    obtain ⟨⟨⟨⟨⟨h1, h2⟩, h3⟩, h4⟩, h5⟩, h6⟩ := h
    obtain ⟨o1, o2, o3, o4⟩ := one_of g hsc h1
    exact i_zip o1 o3 o2 h2 h3 h4 (e_ok g hsc h5) (e_ok g hsc h6)
  | .val c, X, W, sc, bor, tg, e, g, hsc, h => by
    unfold okI at h
    exact i_ex (e_ok g hsc h)
theorem es_ok : ∀ {cs : List Ex} {X : Cx} {W : WX} {sc : Scope} {es : List Expr}, Good ec cf F C X W → X.env.scope = sc → okEs cf cs sc es = true → PA X es (tEs X.K ec W F C cs)
  | [], X, W, sc, es, g, hsc, h => by
    unfold okEs at h
    cases es with
    | nil => exact a_nil
    | cons e es => cases h
  | c :: cs, X, W, sc, es, g, hsc, h => by
    unfold okEs at h
    split at h
    · simp only [Bool.and_eq_true] at h
      exact a_cons h.1.1 (e_ok g hsc h.1.2) (es_ok g hsc h.2)
    · cases h
theorem ts_ok : ∀ {cs : List Tx} {X : Cx} {W : WX} {sc : Scope} {es : List Expr}, Good ec cf F C X W → X.env.scope = sc → okTs cf cs sc es = true → PTs X es (tTs X.K ec W F C cs)
  | [], X, W, sc, es, g, hsc, h => by
    unfold okTs at h
    cases es with
    | nil => exact ts_nil
    | cons e es => cases h
  | c :: cs, X, W, sc, es, g, hsc, h => by
    unfold okTs at h
    split at h
    · rw [Bool.and_eq_true] at h
      cases cs with
      | nil => exact ts_one (t_ok g hsc h.1).1
      | cons c' cs => cases h.2
    · cases h
end
end
end Px

/-! Px15: the code of statements, and what it computes. -/
namespace Px
open PySem PySem.Spec L2

/-- what an except suite may say of the error it holds -/
inductive Hx where
  | kind (f : String) (n : Kn) | cat (a b : Hx)
  | var (j : Nat) | neg (n : Int) | eqs (n : Bool) (a b : Hx)
  | lit (d : D) | isIn (c : String) | isAny (cs : List String) | fld (c f : String) | and (a b : Hx) | or (a b : Hx) | not (a : Hx) | ite (c a b : Hx) | tup (es : List Hx)
inductive Hs where
  | ret (e : Hx) | ifs (c : Hx) (a b : List Hs) | set (i : Nat) (e : Hx) | pass | brk | cont
/-- a statement -/
inductive Cm where
  | pass | brk | cont
  | set (i : Nat) (e : Ex) | mov (i j : Nat) | unp (p : Pat) (e : Ex) | par (i j : Nat) (a b : Ex) | par3 (i j l : Nat) (a b c : Ex) | aug (i : Nat) (o : Operator) (e : Ex)
  | app (i : Nat) (e : Ex) | ext (i : Nat) (e : Ex) | pop (i : Nat) | popS (j i : Nat) | popI (j i : Nat) (e : Ex) | popX (i : Nat) (e : Ex) | rev (i : Nat) | ins (i : Nat) (a e : Ex) | put (i : Nat) (x e : Ex) | put2 (i : Nat) (x y e : Ex) | app2 (i : Nat) (x e : Ex) | dput (i : Nat) (y e : Ex) | daug (i : Nat) (y : Ex) (o : Operator) (e : Ex) | dpop (i : Nat) (y : Ex) | augAt (i : Nat) (x : Ex) (o : Operator) (e : Ex)
  | exp (e : Ex)
  | ifs (c : Tx) (a b : List Cm) | whl (n : Nat) (c : Tx) (b : List Cm) | for (p : Pat) (it : Ix) (b els : List Cm)
  | ret (e : Ex) | retn | retv (i : Nat) | raise (x : String) | raiseF (x fl : String) (e : Ex)
  | try (n : Option Nat) (b : List Cm) (hs : List (String × List Hs)) | tryM (b : List Cm) (hs : List (Option Nat × String × List Hs))
  | frz (i : Nat) | tok (i : Nat)

inductive Rs where
  | nx (ρ : Env) | ret (k : Nat) (d : D) | bk (ρ : Env) | ct (ρ : Env) | exc (x : String) (p : List (String × Int)) (ρ : Env) | stuck
  | draw (f : Int → Rs)
def liftR {α : Type} (r : R α) (ρ : Env) (f : α → Rs) : Rs := match r with
  | .ok a => f a
  | .exc x p => .exc x p ρ
  | .stuck => .stuck
  | .draw g => .draw fun n => liftR (g n) ρ f
def Rs.seq (r : Rs) (f : Env → Rs) : Rs := match r with
  | .nx ρ => f ρ
  | .draw g => .draw fun n => Rs.seq (g n) f
  | r => r
/-- every end goes on -/
def Rs.turn (r : Rs) (f : Rs → Rs) : Rs := match r with
  | .draw g => .draw fun n => Rs.turn (g n) f
  | r => f r
/-- what a def gives -/
def Rs.fin (r : Rs) : R (Nat × D) := match r with
  | .ret k d => .ok (k, d)
  | .nx _ => .ok (9, .non)
  | .exc x p _ => .exc x p
  | .draw g => .draw fun n => Rs.fin (g n)
  | _ => .stuck
def setR (i k : Nat) (d : D) (ρ : Env) : Rs := if i < ρ.length then .nx (ρ.set i (some (k, d))) else .stuck
/-- the list that slot i owns -/
def lstAt (ρ : Env) (i : Nat) (f : Nat → List D → Rs) : Rs := match ρ[i]? with
  | some (some (k + 1, .lst xs)) => f k xs
  | _ => .stuck
/-- the dict of flat values that slot i owns -/
def dctAt (ρ : Env) (i : Nat) (f : List D → List D → Rs) : Rs := match ρ[i]? with
  | some (some (_ + 1, .dct ks vs)) => if vs.any D.cont then .stuck else f ks vs
  | _ => .stuck
abbrev Tab := List (String × List String)
def isA (T : Tab) (x c : String) : Option Bool := (T.lookup x).map (·.contains c)
/-- the number beside a word -/
def ktD (x : String) (p : List (String × Int)) : Kt → Option Int
  | .lit n => some n
  | .fld c f => if x = c then (match p with
    | [(g, n)] => if g = f then some n else none
    | _ => none) else none
/-- a word, or a pair -/
def kwD (x : String) (p : List (String × Int)) : Kw → Option D
  | .w s => some (.str s)
  | .p s t => (ktD x p t).map fun n => .tup [.str s, .int n]
/-- what such a def tells: the word of the only class that fits -/
def kGo (T : Tab) (x : String) (p : List (String × Int)) (top : String) (o : Kw) : List (String × Kw) → List D → Option D
  | [], hs => match hs with
    | [h] => match isA T x top with
      | some true => some h
      | some false => kwD x p o
      | none => none
    | _ => kwD x p o
  | (c, s) :: r, hs => match isA T x c with
    | some true => (kwD x p s).bind fun d => kGo T x p top o r (hs ++ [d])
    | some false => kGo T x p top o r hs
    | none => none
def kOfX (T : Tab) (q : Kn) (x : String) (p : List (String × Int)) : Option D := if (T.lookup x).isSome then kGo T x p q.top q.o q.es [] else none
/-- values without a place on the heap -/
def scD : D → Bool
  | .non => true
  | .bl _ => true
  | .int _ => true
  | .str _ => true
  | _ => false
mutual
def hev (T : Tab) (x : String) (p : List (String × Int) × Env) : Hx → Option D
  | .lit d => some d
  | .neg n => some (.int (-n))
  | .isIn c => (isA T x c).map D.bl
  | .isAny cs => (T.lookup x).map fun l => D.bl (cs.any fun c => l.contains c)
  | .fld c f => if x = c then (match p.1 with
    | [(g, n)] => if g = f then some (.int n) else none
    | _ => none) else none
  | .var j => match p.2[j]? with
    | some (some (_, d)) => if scD d then some d else none
    | _ => none
  | .eqs n a b => match hev T x p a, hev T x p b with
    | some u, some v => (scalB u v).map fun r => .bl (if n then !r else r)
    | _, _ => none
  | .and a b => match hev T x p a with
    | some (.bl true) => hev T x p b
    | some (.bl false) => some (.bl false)
    | _ => none
  | .or a b => match hev T x p a with
    | some (.bl true) => some (.bl true)
    | some (.bl false) => hev T x p b
    | _ => none
  | .not a => match hev T x p a with
    | some (.bl b) => some (.bl (!b))
    | _ => none
  | .ite c a b => match hev T x p c with
    | some (.bl true) => hev T x p a
    | some (.bl false) => hev T x p b
    | _ => none
  | .tup es => (hevs T x p es).map D.tup
  | .kind _ n => kOfX T n x p.1
  | .cat a b => match hev T x p a, hev T x p b with
    | some (.str s), some (.str t) => if s.length + t.length ≤ line then some (.str (s ++ t)) else none
    | _, _ => none
def hevs (T : Tab) (x : String) (p : List (String × Int) × Env) : List Hx → Option (List D)
  | [] => some []
  | e :: es => match hev T x p e, hevs T x p es with
    | some d, some ds => some (d :: ds)
    | _, _ => none
end
mutual
def hrun (T : Tab) (x : String) (p : List (String × Int)) : Hs → Env → Rs
  | .ret e, ρ => match hev T x (p, ρ) e with
    | some d => if d.cont then .stuck else .ret 9 d
    | none => .stuck
  | .ifs c a b, ρ => match hev T x (p, ρ) c with
    | some (.bl true) => hruns T x p a ρ
    | some (.bl false) => hruns T x p b ρ
    | _ => .stuck
  | .set i e, ρ => match hev T x (p, ρ) e with
    | some d => if d.cont then .stuck else setR i 9 d ρ
    | none => .stuck
  | .pass, ρ => .nx ρ
  | .brk, ρ => .bk ρ
  | .cont, ρ => .ct ρ
def hruns (T : Tab) (x : String) (p : List (String × Int)) : List Hs → Env → Rs
  | [], ρ => .nx ρ
  | c :: cs, ρ => (hrun T x p c ρ).seq (hruns T x p cs)
end
def wipe1 (n : Option Nat) (ρ : Env) : Env := match n with
  | some i => ρ.set i none
  | none => ρ
def Rs.wipe (n : Option Nat) : Rs → Rs
  | .nx ρ => .nx (wipe1 n ρ)
  | .bk ρ => .bk (wipe1 n ρ)
  | .ct ρ => .ct (wipe1 n ρ)
  | .draw g => .draw fun i => Rs.wipe n (g i)
  | r => r
def lenOk (n : Option Nat) (ρ : Env) : Bool := match n with
  | some i => decide (i < ρ.length)
  | none => true
/-- the clauses of a try, one after the other -/
def handle (T : Tab) (n : Option Nat) (x : String) (p : List (String × Int)) (ρ : Env) : List (String × List Hs) → Rs
  | [] => .exc x p ρ
  | (c, su) :: r => match isA T x c with
    | some true => if lenOk n ρ then (hruns T x p su (wipe1 n ρ)).wipe n else .stuck
    | some false => handle T n x p ρ r
    | none => .stuck
/-- clauses of which each has a name of its own, or none -/
def handleM (T : Tab) (x : String) (p : List (String × Int)) (ρ : Env) : List (Option Nat × String × List Hs) → Rs
  | [] => .exc x p ρ
  | (n, c, su) :: r => match isA T x c with
    | some true => if lenOk n ρ then (hruns T x p su (wipe1 n ρ)).wipe n else .stuck
    | some false => handleM T x p ρ r
    | none => .stuck
def loopW (c : Env → R Bool) (b : Env → Rs) : Nat → Env → Rs
  | 0, _ => .stuck
  | n + 1, ρ => liftR (c ρ) ρ fun t => if t then (b ρ).turn (fun r => match r with
      | .nx ρ' => loopW c b n ρ'
      | .ct ρ' => loopW c b n ρ'
      | .bk ρ' => .nx ρ'
      | r => r) else .nx ρ
def loopF (p : Pat) (b e : Env → Rs) : List D → Env → Rs
  | [], ρ => e ρ
  | d :: ds, ρ => match bindP p d ρ with
    | .ok ρ1 => (b ρ1).turn (fun r => match r with
      | .nx ρ' => loopF p b e ds ρ'
      | .ct ρ' => loopF p b e ds ρ'
      | .bk ρ' => .nx ρ'
      | r => r)
    | _ => .stuck
/-- these are draws -/
def drwOk (xs : List D) : Bool := match intsOf xs with
  | some ns => ns.all fun n => decide (0 ≤ n) && decide (n < 1000)
  | none => false
/-- the depth that a value has in a list of depth k -/
def inD (k k2 : Nat) : Nat := min k k2
section
variable (F : List Fn) (C : List D) (T : Tab)
mutual
def run1 : Cm → Env → Rs
  | .pass, ρ => .nx ρ
  | .brk, ρ => .bk ρ
  | .cont, ρ => .ct ρ
  | .set i e, ρ => liftR (ev F C e ρ) ρ fun k => liftR (needV k) ρ fun v => setR i v.1 v.2 ρ
  | .mov i j, ρ => match ρ[j]? with
    | some (some (k, d)) => setR i k d (ρ.set j none)
    | _ => .stuck
  | .unp p e, ρ => liftR (ev F C e ρ) ρ fun k => liftR (needV k) ρ fun v => liftR (bindP p v.2 ρ) ρ fun ρ' => .nx ρ'
  | .par i j a b, ρ => if i = j then .stuck else liftR (ev F C a ρ) ρ fun k => liftR (ev F C b ρ) ρ fun l => liftR (needV k) ρ fun v => liftR (needV l) ρ fun w => if v.2.cont || w.2.cont then .stuck else (setR i v.1 v.2 ρ).seq (setR j w.1 w.2)
  | .par3 i j l a b c, ρ => if i = j ∨ i = l ∨ j = l then .stuck else liftR (ev F C a ρ) ρ fun k => liftR (ev F C b ρ) ρ fun m => liftR (ev F C c ρ) ρ fun n => liftR (needV k) ρ fun u => liftR (needV m) ρ fun v => liftR (needV n) ρ fun w => if u.2.cont || (v.2.cont || w.2.cont) then .stuck else ((setR i u.1 u.2 ρ).seq (setR j v.1 v.2)).seq (setR l w.1 w.2)
  | .aug i o e, ρ => match ρ[i]? with
    | some (some (_, .int a)) => liftR (ev F C e ρ) ρ fun k => (match o, k with
      | .Add, (_, .int b) => setR i 9 (.int (a + b)) ρ
      | .Sub, (_, .int b) => setR i 9 (.int (a - b)) ρ
      | _, _ => .stuck)
    | _ => .stuck
  | .app i e, ρ => lstAt ρ i fun j xs => liftR (ev F C e ρ) ρ fun k => liftR (needV k) ρ fun v => if xs.length < line then setR i (min j v.1 + 1) (.lst (xs ++ [v.2])) ρ else .stuck
  | .ext i e, ρ => lstAt ρ i fun j xs => liftR (ev F C e ρ) ρ fun k => match k with
    | (some (l + 1), .lst ys) => if xs.length + ys.length ≤ line then setR i (min j l + 1) (.lst (xs ++ ys)) ρ else .stuck
    | _ => .stuck
  | .pop i, ρ => lstAt ρ i fun j xs => if xs.isEmpty then .stuck else setR i (j + 1) (.lst xs.dropLast) ρ
  | .popS t i, ρ => lstAt ρ i fun j xs => match xs[xs.length - 1]? with
    | some d => if t = i then .stuck else (setR i (j + 1) (.lst xs.dropLast) ρ).seq (setR t (if d.cont then j else 9) d)
    | none => .stuck
  | .popI t i e, ρ => lstAt ρ i fun j xs => liftR (ev F C e ρ) ρ fun k => (match k with
    | (_, .int n) => if 9223372036854775808 ≤ n ∨ n < -9223372036854775808 then .stuck else (match ixN xs.length n with
      | some m => (match xs[m]? with
        | some d => if t = i then .stuck else (setR i (j + 1) (.lst (xs.eraseIdx m)) ρ).seq (setR t (if d.cont then j else 9) d)
        | none => .stuck)
      | none => .stuck)
    | _ => .stuck)
  | .popX i e, ρ => lstAt ρ i fun j xs => liftR (ev F C e ρ) ρ fun k => (match k with
    | (_, .int n) => if 9223372036854775808 ≤ n ∨ n < -9223372036854775808 then .stuck else (match ixN xs.length n with
      | some m => (match xs[m]? with
        | some _ => setR i (j + 1) (.lst (xs.eraseIdx m)) ρ
        | none => .stuck)
      | none => .stuck)
    | _ => .stuck)
  | .rev i, ρ => lstAt ρ i fun j xs => setR i (j + 1) (.lst xs.reverse) ρ
  | .ins i a e, ρ => lstAt ρ i fun j xs => liftR (ev F C a ρ) ρ fun a => liftR (ev F C e ρ) ρ fun k => liftR (needV k) ρ fun v => (match a with
    | (_, .int n) => if xs.length < line ∧ 0 ≤ n ∧ n < 9223372036854775808 then setR i (min j v.1 + 1) (.lst (xs.take n.toNat ++ [v.2] ++ xs.drop n.toNat)) ρ else .stuck
    | _ => .stuck)
  | .put i x e, ρ => liftR (ev F C e ρ) ρ fun k => liftR (needV k) ρ fun v => lstAt ρ i fun j xs => liftR (ev F C x ρ) ρ fun y => (match y with
    | (_, .int n) => (match ixN xs.length n with
      | some m => setR i (min j v.1 + 1) (.lst (xs.set m v.2)) ρ
      | none => .stuck)
    | _ => .stuck)
  | .put2 i x y e, ρ => liftR (ev F C e ρ) ρ fun k => liftR (needV k) ρ fun v => if v.2.cont then .stuck else lstAt ρ i fun j xs => liftR (ev F C x ρ) ρ fun a => (match j, a with
    | j + 1, (_, .int n) => (match ixN xs.length n with
      | some m => (match xs[m]? with
        | some (.lst ys) => liftR (ev F C y ρ) ρ fun b => (match b with
          | (_, .int n2) => (match ixN ys.length n2 with
            | some m2 => setR i (j + 2) (.lst (xs.set m (.lst (ys.set m2 v.2)))) ρ
            | none => .stuck)
          | _ => .stuck)
        | _ => .stuck)
      | none => .stuck)
    | _, _ => .stuck)
  | .app2 i x e, ρ => lstAt ρ i fun j xs => liftR (ev F C x ρ) ρ fun a => (match j, a with
    | j + 1, (_, .int n) => (match ixN xs.length n with
      | some m => (match xs[m]? with
        | some (.lst ys) => liftR (ev F C e ρ) ρ fun k => liftR (needV k) ρ fun v => if v.2.cont then .stuck else if ys.length < line then setR i (j + 2) (.lst (xs.set m (.lst (ys ++ [v.2])))) ρ else .stuck
        | _ => .stuck)
      | none => .stuck)
    | _, _ => .stuck)
  | .dput i y e, ρ => liftR (ev F C e ρ) ρ fun k => liftR (needV k) ρ fun v => if v.2.cont then .stuck else dctAt ρ i fun ks vs => liftR (ev F C y ρ) ρ fun y => if keyD y.2 && decide (ks.length < line) then setR i 1 (.dct (dctPut ks vs y.2 v.2).1 (dctPut ks vs y.2 v.2).2) ρ else .stuck
  | .daug i y o e, ρ => dctAt ρ i fun ks vs => liftR (ev F C y ρ) ρ fun y => (match dctGet ks vs y.2 with
    | some (.int a) => if keyD y.2 && decide (ks.length < line) then liftR (ev F C e ρ) ρ fun k => (match k with
      | (_, .int b) => setR i 1 (.dct (dctPut ks vs y.2 (.int (if o = .Add then a + b else a - b))).1 (dctPut ks vs y.2 (.int (if o = .Add then a + b else a - b))).2) ρ
      | _ => .stuck) else .stuck
    | _ => .stuck)
  | .dpop i y, ρ => dctAt ρ i fun ks vs => liftR (ev F C y ρ) ρ fun y => if keyD y.2 && (dctGet ks vs y.2).isSome then setR i 1 (.dct (dropKs ks y.2) (dropVs ks vs y.2)) ρ else .stuck
  | .augAt i x o e, ρ => lstAt ρ i fun j xs => liftR (ev F C x ρ) ρ fun y => (match y with
    | (_, .int n) => if 0 ≤ n then (match xs[n.toNat]? with
        | some (.int a) => liftR (ev F C e ρ) ρ fun k => (match k with
          | (_, .int b) => setR i (min j 9 + 1) (.lst (xs.set n.toNat (.int (if o = .Add then a + b else a - b)))) ρ
          | _ => .stuck)
        | _ => .stuck) else .stuck
    | _ => .stuck)
  | .exp e, ρ => liftR (ev F C e ρ) ρ fun _ => .nx ρ
  | .ifs c a b, ρ => liftR (tst F C c ρ) ρ fun t => if t then runs a ρ else runs b ρ
  | .whl n c b, ρ => loopW (tst F C c) (runs b) n ρ
  | .for p it b els, ρ => liftR (evI F C false it ρ) ρ fun xs => loopF p (runs b) (runs els) xs ρ
  | .ret e, ρ => liftR (ev F C e ρ) ρ fun k => liftR (needV k) ρ fun v => .ret v.1 v.2
  | .retn, _ => .ret 9 .non
  | .retv i, ρ => match ρ[i]? with
    | some (some (k, d)) => .ret k d
    | _ => .stuck
  | .raise x, ρ => .exc x [] ρ
  | .raiseF x fl e, ρ => liftR (ev F C e ρ) ρ fun k => match k with
    | (_, .int n) => .exc x [(fl, n)] ρ
    | _ => .stuck
  | .try n b hs, ρ => (runs b ρ).turn fun r => match r with
    | .exc x p ρ' => handle T n x p ρ' hs
    | r => r
  | .tryM b hs, ρ => (runs b ρ).turn fun r => match r with
    | .exc x p ρ' => handleM T x p ρ' hs
    | r => r
  | .frz i, ρ => match ρ[i]? with
    | some (some (_, d)) => if d.cont then setR i 0 d ρ else .nx ρ
    | _ => .stuck
  | .tok i, ρ => lstAt ρ i fun _ xs => if drwOk xs then setR i 9 (.ext .draws) ρ else .stuck
def runs : List Cm → Env → Rs
  | [], ρ => .nx ρ
  | c :: cs, ρ => (run1 c ρ).seq (runs cs)
end
end
/-- a def: its parameters first among the slots -/
def runFd (F : List Fn) (C : List D) (T : Tab) (np n : Nat) (code : List Cm) : Fn := fun ds => if ds.length = np then (runs F C T code (ds.map (fun d => some ((kd 0 d).1.getD 0, d)) ++ List.replicate (n - np) none)).fin else .stuck
end Px

/-! Px16: readings of statements; what is mutated. -/
namespace Px
open PySem PySem.Spec L2
/-- the value stands alone -/
def Alone (K : PySem.W.Frag) (H H' : Hp) (d : D) (v : V) : Prop := ∀ A : AS, (∀ y, A y → H y ≠ none) → RepR K (cut H' A) d v
/-- what is promised of it, an error being handled -/
structure FnK (P : Program) (w : World) (K : PySem.W.Frag) (mg : Str → Option Value) (base : Heap) (ec : EC) (T : Tab) (k : Nat) (f : Addr) (fd : FuncData) (ps : List Str) (n : Kn) : Prop where
  one : ps.length = 1
  run : ∀ (A : Around) (outer : List PySem.Env) (s : Shared) (H : Hp) (q : Addr × Obj) (x : String) (r : D) (p : List (String × Int)) (dd : Option Addr) (Q : VK), L2H.RoomH k A → L2H.PinOk outer H s q → Env0 P w K mg base A outer s H → BindsTo s fd ⟨[.ref q.1], []⟩ (ps.zip [.ref q.1]) →
    Zc (ec x) dd q.2 → (∃ vs, q.2.data = .fields vs) → IsExc ec x p (ec x) dd H → kOfX T n x p = some r → (∀ v H', Same H H' → Alone K H H' r v → Q v H') →
    codeAny (model P w) A (.call (.ref f) ⟨[.ref q.1], []⟩) (CR (L2.CX P w) outer P w H s Q (fun _ _ _ => False)) s
/-- .. a def that is called by its name -/
structure CalK (P : Program) (w : World) (K : PySem.W.Frag) (mg : Str → Option Value) (base : Heap) (ec : EC) (T : Tab) where
  name : String
  n : Kn
  k : Nat
  f : Addr
  fd : FuncData
  ps : List Str
  ok : FnK P w K mg base ec T k f fd ps n
  gm : mg (Str.ofString name) = some (.ref f)
  kp : PySem.W.keepIn K (.ref f) = true
  b : Binds K fd ps []
section
variable {K : PySem.W.Frag} {ec : EC} {W : WX} {F : List Fn} {C : List D} {T : Tab} {X : Cx} {pos : Pos}
variable {σ σ' : L2.St} {H H' H0 H1 H2 : Hp} {A : AS} {ρ ρ' : Env} {B B' G : Hp} {Z P : AS} {O : Nat → AS} {En : Ends}
def post (K : PySem.W.Frag) (ec : EC) (W : WX) (B : Hp) (Z : AS) (En : Ends) : Rs → Prop
  | .nx ρ' => ∀ σ' H' O', Rel K B Z O' σ' H' ρ' → En.nx σ' H'
  | .bk ρ' => ∀ σ' H' O', Rel K B Z O' σ' H' ρ' → En.bk σ' H'
  | .ct ρ' => ∀ σ' H' O', Rel K B Z O' σ' H' ρ' → En.ct σ' H'
  | .ret k d => ∀ v H', Same B H' → RetR K B H' Z k d v → En.rt v H'
  | .exc x p ρ' => ∀ σ' H' O' cls dd, Rel K B Z O' σ' H' ρ' → IsExc ec x p cls dd H' → W cls dd σ' H'
  | .stuck => False
  | .draw f => ∀ n, 0 ≤ n → n < 1000 → post K ec W B Z En (f n)
theorem post_mono {W' : WX} {En' : Ends} {r : Rs} (h : post K ec W B Z En r) (h1 : ∀ σ H, En.nx σ H → En'.nx σ H) (h2 : ∀ v H, En.rt v H → En'.rt v H) (h3 : ∀ σ H, En.bk σ H → En'.bk σ H) (h4 : ∀ σ H, En.ct σ H → En'.ct σ H) (h5 : ∀ c d σ H, W c d σ H → W' c d σ H) : post K ec W' B Z En' r := by
  induction r with
  | nx ρ' => exact fun σ' H' O' rel => h1 _ _ (h σ' H' O' rel)
  | bk ρ' => exact fun σ' H' O' rel => h3 _ _ (h σ' H' O' rel)
  | ct ρ' => exact fun σ' H' O' rel => h4 _ _ (h σ' H' O' rel)
  | ret k d => exact fun v H' s w => h2 _ _ (h v H' s w)
  | exc x p ρ' => exact fun σ' H' O' cls dd rel ix => h5 _ _ _ _ (h σ' H' O' cls dd rel ix)
  | stuck => exact h
  | draw g ih => exact fun n z1 z2 => ih n (h n z1 z2)
/-- every end goes on -/
theorem post_turn {r : Rs} {f : Rs → Rs} {W' : WX} {B1 : Hp} {En' : Ends} (h : post K ec W B Z En (r.turn f)) (hl : ∀ r : Rs, (∀ g, r ≠ .draw g) → post K ec W B Z En (f r) → post K ec W' B1 Z En' r) : post K ec W' B1 Z En' r := by
  induction r with
  | draw g ih => exact fun n z1 z2 => ih n (h n z1 z2)
  | nx ρ' => exact hl _ (fun g e => by cases e) h
  | bk ρ' => exact hl _ (fun g e => by cases e) h
  | ct ρ' => exact hl _ (fun g e => by cases e) h
  | ret k d => exact hl _ (fun g e => by cases e) h
  | exc x p ρ' => exact hl _ (fun g e => by cases e) h
  | stuck => exact hl _ (fun g e => by cases e) h
def tS (K : PySem.W.Frag) (ec : EC) (W : WX) (F : List Fn) (C : List D) (T : Tab) (c : Cm) : TS := fun En σ H => ∃ (ρ : Env) (B : Hp) (Z : AS) (O : Nat → AS), Rel K B Z O σ H ρ ∧ post K ec W B Z En (run1 F C T c ρ)
def tSs (K : PySem.W.Frag) (ec : EC) (W : WX) (F : List Fn) (C : List D) (T : Tab) (c : List Cm) : TS := fun En σ H => ∃ (ρ : Env) (B : Hp) (Z : AS) (O : Nat → AS), Rel K B Z O σ H ρ ∧ post K ec W B Z En (runs F C T c ρ)
theorem PS.imp {st : Stmt} {t t' : TS} (h : PS X st t) (w : ∀ D σ H, t' D σ H → t D σ H) : PS X st t' := ⟨fun pins s σ H D I q => h.run pins s σ H D I (w D σ H q)⟩
theorem PSs.imp {st : List Stmt} {t t' : TS} (h : PSs X st t) (w : ∀ D σ H, t' D σ H → t D σ H) : PSs X st t' := ⟨fun pins s σ H D I q => h.run pins s σ H D I (w D σ H q)⟩
theorem post_lift {α : Type} {r : R α} {f : α → Rs} (rel : Rel K B Z O σ H ρ) (h : post K ec W B Z En (liftR r ρ f)) : aft ec W σ H r (fun a => post K ec W B Z En (f a)) := by
  induction r with
  | ok a => exact h
  | exc x p => exact fun cls d H' s e => h σ H' O cls d (rel.mono s) e
  | stuck => exact h
  | draw g ih => exact fun n z1 z2 => ih n (h n z1 z2)
theorem post_need {k : Kd} {f : Nat × D → Rs} (h : post K ec W B Z En (liftR (needV k) ρ f)) : ∃ j d, k = (some j, d) ∧ post K ec W B Z En (f (j, d)) := by
  obtain ⟨o, d⟩ := k
  cases o with
  | none => exact h.elim
  | some j => exact ⟨j, d, rfl, h⟩
theorem post_set {i k : Nat} {d : D} (h : post K ec W B Z En (setR i k d ρ)) : i < ρ.length ∧ ∀ σ' H' O', Rel K B Z O' σ' H' (ρ.set i (some (k, d))) → En.nx σ' H' := by
  unfold setR at h
  split at h
  · exact ⟨by assumption, h⟩
  · exact h.elim
theorem post_lst {i : Nat} {f : Nat → List D → Rs} (h : post K ec W B Z En (lstAt ρ i f)) : ∃ k xs, ρ[i]? = some (some (k + 1, .lst xs)) ∧ post K ec W B Z En (f k xs) := by
  unfold lstAt at h
  split at h
  · exact ⟨_, _, by assumption, h⟩
  · exact h.elim
theorem post_seq {r : Rs} {f : Env → Rs} (h : post K ec W B Z En (r.seq f)) : post K ec W B Z { En with nx := fun σ' H' => ∃ ρ' O', Rel K B Z O' σ' H' ρ' ∧ post K ec W B Z En (f ρ') } r := by
  induction r with
  | draw g ih => exact fun n z1 z2 => ih n (h n z1 z2)
  | nx ρ' => exact fun σ' H' O' rel => ⟨ρ', O', rel, h⟩
  | bk ρ' => exact h
  | ct ρ' => exact h
  | ret k d => exact h
  | exc x p ρ' => exact h
  | stuck => exact h
theorem s_nil : PSs X [] (tSs X.K ec W F C T []) := PSs.imp pss_nil fun En σ H ⟨ρ, B, Z, O, r, h⟩ => by
  unfold runs at h
  exact (show ∀ σ' H' O', Rel X.K B Z O' σ' H' ρ → En.nx σ' H' from h) σ H O r
theorem s_cons {c : Cm} {cs : List Cm} {st : Stmt} {sts : List Stmt} (h1 : PS X st (tS X.K ec W F C T c)) (h2 : PSs X sts (tSs X.K ec W F C T cs)) : PSs X (st :: sts) (tSs X.K ec W F C T (c :: cs)) :=
  PSs.imp (pss_cons h1 h2) fun En σ H ⟨ρ, B, Z, O, r, h⟩ => by
    unfold runs at h
    have q := post_seq h
    exact ⟨ρ, B, Z, O, r, post_mono q (fun σ' H' ⟨ρ2, O2, rel, p2⟩ => ⟨ρ2, B, Z, O2, rel, p2⟩) (fun _ _ z => z) (fun _ _ z => z) (fun _ _ z => z) fun _ _ _ _ z => z⟩
/-! ### values go into slots -/
theorem fresh_of (r : Rel K B Z O σ H ρ) (f : ∀ x, P x → H x = none) : ∀ x, P x → B x = none ∧ ¬ Z x := fun x p => ⟨r.base.free (f x p), fun z => (r.zm x z).ne (f x p)⟩
/-- a value of an expression goes into slot i -/
theorem Rel.store {i k : Nat} {d : D} {v : V} (r : Rel K B Z O σ H ρ) (s : Same H H1) (res : Res K H H1 (ZO Z O) (some k, d) v) (hi : i < ρ.length) : ∃ O', Rel K B Z O' (σ.set i (some v)) H1 (ρ.set i (some (k, d))) := by
  obtain ⟨P, f, w⟩ := res
  exact ⟨_, (r.past s f w).put hi (fresh_of r f) w⟩
/-! ### slot i forgets what it owns, its value stands frozen -/
theorem Rel.freeze {i k : Nat} {d : D} (r : Rel K B Z O σ H ρ) (e : ρ[i]? = some (some (k, d))) : ∃ O', Rel K B Z O' σ H (ρ.set i (some (0, d))) := by
  obtain ⟨v, ev, w⟩ := r.own i k d e
  obtain ⟨O', s, g⟩ := Own.lower w 0 (Nat.zero_le _)
  have hi : i < ρ.length := (List.getElem?_eq_some_iff.mp e).1
  have sub : ∀ j x, setO O i O' j x → O j x := fun j x h => by
    by_cases e : j = i
    · subst e; rw [setO_same] at h; exact s x h
    · rw [setO_ne e] at h; exact h
  have subZ : ∀ x, ZO Z (setO O i O') x → ZO Z O x := fun x h => h.elim .inl fun ⟨j, h⟩ => .inr ⟨j, sub j x h⟩
  refine ⟨setO O i O', by rw [List.length_set]; exact r.len, r.zm, fun j j' x h1 h2 => r.dj j j' x (sub j x h1) (sub j' x h2), fun j x h => r.fr j x (sub j x h), r.base, fun j k' d' q => ?_, fun j h x hx => ?_⟩
  · by_cases ej : j = i
    · subst ej
      rw [List.getElem?_set_self hi] at q
      cases q
      refine ⟨v, ev, ?_⟩
      rw [setO_same]
      refine g _ subZ fun x z o => ?_
      rcases z with z | ⟨j', z⟩
      · exact absurd z (r.fr j x o).1
      · have := r.dj j' j x (sub j' x z) o
        subst this
        rw [setO_same] at z; exact z
    · rw [List.getElem?_set_ne (Ne.symm ej)] at q
      obtain ⟨u, e1, w'⟩ := r.own j k' d' q
      refine ⟨u, e1, ?_⟩
      rw [setO_ne ej]
      exact w'.mono (Same.refl _) fun x z => .inl (subZ x z)
  · by_cases ej : j = i
    · subst ej
      exact absurd (List.getElem?_set_self hi) (h 0 d)
    · exact r.non j (fun k' d' q => h k' d' (by rw [List.getElem?_set_ne (Ne.symm ej)]; exact q)) x (sub j x hx)
/-! ### what slot j holds goes into slot i -/
theorem set_self {α : Type} : ∀ {l : List α} {i : Nat} {a : α}, l[i]? = some a → l.set i a = l := fun {l i a} h => by
  apply List.ext_getElem?
  intro j
  by_cases e : i = j
  · subst e; rw [List.getElem?_set_self (List.getElem?_eq_some_iff.mp h).1, h]
  · rw [List.getElem?_set_ne e]
theorem Rel.move {i j k : Nat} {d : D} {v : V} (r : Rel K B Z O σ H ρ) (e : ρ[j]? = some (some (k, d))) (ev : σ[j]? = some (some v)) (hi : i < ρ.length) : ∃ O', Rel K B Z O' (σ.set i (some v)) H ((ρ.set j none).set i (some (k, d))) := by
  obtain ⟨v', ev', w⟩ := r.own j k d e
  rw [ev] at ev'; cases ev'
  have q := r.dropZ (i := j) (o := some v)
  rw [set_self ev] at q
  refine ⟨_, q.put (by rw [List.length_set]; exact hi) (fun x o => ⟨(r.fr j x o).2, (r.fr j x o).1⟩) (w.mono (Same.refl _) fun x z => .inl ?_)⟩
  rcases z with (z | ⟨j', z⟩) | z
  · exact .inl z
  · by_cases e : j' = j
    · subst e; rw [setO_same] at z; exact z.elim
    · rw [setO_ne e] at z; exact .inr ⟨j', z⟩
  · exact .inr ⟨j, z⟩
/-! ### a list that slot i owns changes -/
theorem Rel.lstAt {i k : Nat} {xs : List D} (r : Rel K B Z O σ H ρ) (e : ρ[i]? = some (some (k + 1, .lst xs))) : ∃ a vs O1, σ[i]? = some (some (.ref a)) ∧ H a = some (.lst vs) ∧ (∀ x, O i x ↔ x = a ∨ O1 x) ∧ ¬ O1 a ∧ Owns (Own K H (ZO Z O) k) xs vs O1 := by
  obtain ⟨v, ev, w⟩ := r.own i _ _ e
  unfold Own at w
  obtain ⟨a, vs, O1, e1, e2, e3, e4, q⟩ := w
  subst e1
  exact ⟨a, vs, O1, ev, e2, e3, e4, q⟩
theorem Rel.mutL {i k k' : Nat} {xs xs' : List D} {a : Addr} {vs vs' : List V} {O1 O2 : AS} (r : Rel K B (fun x => Z x ∨ P x) O σ H ρ) (hP : ∀ x, P x → B x = none ∧ ¬ Z x) (e : ρ[i]? = some (some (k, .lst xs))) (ea : σ[i]? = some (some (.ref a))) (eH : H a = some (.lst vs)) (eO : ∀ x, O i x ↔ x = a ∨ O1 x) (na : ¬ O1 a)
    (sO : ∀ x, O2 x → O1 x ∨ P x) (q : Owns (Own K H (ZO Z (setO O i fun x => x = a ∨ O2 x)) k') xs' vs' O2) : Rel K B Z (setO O i fun x => x = a ∨ O2 x) σ (upd H a (.lst vs')) (ρ.set i (some (k' + 1, .lst xs'))) := by
  have hi : i < ρ.length := (List.getElem?_eq_some_iff.mp e).1
  have oa : O i a := (eO a).mpr (.inl rfl)
  have sub : ∀ j x, setO O i (fun x => x = a ∨ O2 x) j x → O j x ∨ (j = i ∧ P x) := fun j x h => by
    by_cases ej : j = i
    · subst ej; rw [setO_same] at h
      rcases h with h | h
      · exact .inl ((eO x).mpr (.inl h))
      · rcases sO x h with h | h
        · exact .inl ((eO x).mpr (.inr h))
        · exact .inr ⟨rfl, h⟩
    · rw [setO_ne ej] at h; exact .inl h
  have up : ∀ x, IsM H x → IsM (upd H a (.lst vs')) x := fun x m => by
    by_cases ex : x = a
    · subst ex; exact .inl ⟨_, upd_same⟩
    · rcases m with ⟨u, m⟩ | ⟨u, m⟩
      · exact .inl ⟨u, by rw [upd_ne ex]; exact m⟩
      · exact .inr ⟨u, by rw [upd_ne ex]; exact m⟩
  have nP : ¬ P a := fun p => (r.fr i a oa).1 (.inr p)
  have n2 : ¬ O2 a := fun h => (sO a h).elim na nP
  have aIn : ZO Z (setO O i fun x => x = a ∨ O2 x) a := .inr ⟨i, by rw [setO_same]; exact .inl rfl⟩
  refine ⟨by rw [List.length_set]; exact r.len, fun x z => up x (r.zm x (.inl z)), ?_, ?_, ?_, ?_, ?_⟩
  · intro j j' x h1 h2
    rcases sub j x h1 with h1 | ⟨e1, p1⟩ <;> rcases sub j' x h2 with h2 | ⟨e2, p2⟩
    · exact r.dj j j' x h1 h2
    · exact absurd (.inr p2) (r.fr j x h1).1
    · exact absurd (.inr p1) (r.fr j' x h2).1
    · rw [e1, e2]
  · intro j x h
    rcases sub j x h with h | ⟨_, p⟩
    · exact ⟨fun z => (r.fr j x h).1 (.inl z), (r.fr j x h).2⟩
    · exact ⟨(hP x p).2, (hP x p).1⟩
  · intro b o eb
    have : b ≠ a := fun h => by subst h; rw [(r.fr i b oa).2] at eb; cases eb
    rw [upd_ne this]; exact r.base b o eb
  · intro j kk d eq
    by_cases ej : j = i
    · subst ej
      rw [List.getElem?_set_self hi] at eq
      cases eq
      refine ⟨_, ea, ?_⟩
      rw [setO_same]
      unfold Own
      exact ⟨a, vs', O2, rfl, upd_same, fun x => Iff.rfl, n2, q.impIn fun d m v O3 s w => w.upd aIn fun z => n2 (s a z)⟩
    · rw [List.getElem?_set_ne (Ne.symm ej)] at eq
      obtain ⟨u, e1, w⟩ := r.own j kk d eq
      refine ⟨u, e1, ?_⟩
      rw [setO_ne ej]
      have na' : ¬ O j a := fun h => ej (r.dj j i a h oa)
      refine (w.mono (Same.refl _) fun x z => .inl ?_).upd aIn na'
      rcases z with z | ⟨j', z⟩
      · exact .inl (.inl z)
      · rcases sub j' x z with z | ⟨_, p⟩
        · exact .inr ⟨j', z⟩
        · exact .inl (.inr p)
  · intro j h x hx
    by_cases ej : j = i
    · subst ej
      exact absurd (List.getElem?_set_self hi) (h _ _)
    · rw [setO_ne ej] at hx
      exact r.non j (fun k' d' q => h k' d' (by rw [List.getElem?_set_ne (Ne.symm ej)]; exact q)) x hx
/-- some of its things go, some new ones come -/
theorem Rel.mix {i k l : Nat} {xs ys xs' : List D} {a : Addr} {vs us vs' : List V} {O1 : AS} (r : Rel K B (fun x => Z x ∨ P x) O σ H ρ) (hP : ∀ x, P x → B x = none ∧ ¬ Z x) (e : ρ[i]? = some (some (k + 1, .lst xs))) (ea : σ[i]? = some (some (.ref a))) (eH : H a = some (.lst vs)) (eO : ∀ x, O i x ↔ x = a ∨ O1 x) (na : ¬ O1 a)
    (q : Owns (Own K H (ZO (fun x => Z x ∨ P x) O) k) xs vs O1) (q2 : Owns (Own K H (ZO (fun x => Z x ∨ P x) O) l) ys us P)
    (hG : ∀ (R : D → V → AS → Prop) (O1 P1 : AS), (∀ x, O1 x → ¬ P1 x) → Owns R xs vs O1 → Owns R ys us P1 → ∃ O2 : AS, (∀ x, O2 x → O1 x ∨ P1 x) ∧ Owns R xs' vs' O2) : ∃ O', Rel K B Z O' σ (upd H a (.lst vs')) (ρ.set i (some (min k l + 1, .lst xs'))) := by
  obtain ⟨O3, s3, g3⟩ := owns_lower q (min k l) (Nat.min_le_left _ _)
  obtain ⟨P3, t3, h3⟩ := owns_lower q2 (min k l) (Nat.min_le_right _ _)
  have dis : ∀ x, O1 x → ¬ P x := fun x o p => (r.fr i x ((eO x).mpr (.inr o))).1 (.inr p)
  let A1 : AS := ZO Z (setO O i fun x => x = a ∨ O3 x ∨ P3 x)
  have inA : ∀ x, A1 x → ZO (fun x => Z x ∨ P x) O x := by
    rintro x (z | ⟨j, z⟩)
    · exact .inl (.inl z)
    · by_cases ej : j = i
      · subst ej; rw [setO_same] at z
        rcases z with z | z | z
        · exact .inr ⟨j, (eO x).mpr (.inl z)⟩
        · exact .inr ⟨j, (eO x).mpr (.inr (s3 x z))⟩
        · exact .inl (.inr (t3 x z))
      · rw [setO_ne ej] at z; exact .inr ⟨j, z⟩
  have w1 := g3 A1 inA fun x z o => by
    have oi : O i x := (eO x).mpr (.inr o)
    rcases z with z | ⟨j, z⟩
    · exact absurd (.inl z) (r.fr i x oi).1
    · by_cases ej : j = i
      · subst ej; rw [setO_same] at z
        rcases z with z | z | z
        · subst z; exact absurd o na
        · exact z
        · exact absurd (t3 x z) (dis x o)
      · rw [setO_ne ej] at z
        exact absurd (r.dj j i x z oi) ej
  have w2 := h3 A1 inA fun x z p => by
    rcases z with z | ⟨j, z⟩
    · exact absurd z (hP x p).2
    · by_cases ej : j = i
      · subst ej; rw [setO_same] at z
        rcases z with z | z | z
        · subst z; exact absurd (.inr p) (r.fr j x ((eO x).mpr (.inl rfl))).1
        · exact absurd p (dis x (s3 x z))
        · exact z
      · rw [setO_ne ej] at z
        exact absurd (.inr p) (r.fr j x z).1
  obtain ⟨O2, sO, w⟩ := hG _ O3 P3 (fun x o p => dis x (s3 x o) (t3 x p)) w1 w2
  refine ⟨_, r.mutL hP e ea eH eO na (O2 := O2) (fun x o => (sO x o).elim (fun o => .inl (s3 x o)) fun p => .inr (t3 x p)) (w.imp fun d v O4 w4 => w4.mono (Same.refl _) fun x z => .inl ?_)⟩
  rcases z with z | ⟨j, z⟩
  · exact .inl z
  · refine .inr ⟨j, ?_⟩
    by_cases ej : j = i
    · subst ej; rw [setO_same] at z ⊢
      exact z.imp id fun z => sO x z
    · rw [setO_ne ej] at z ⊢; exact z
end
end Px

/-! PxR: an error with its own __init__, that keeps one number. -/
namespace Px
open PySem PySem.Spec PyProof.Rows L2
/-- what such an __init__ does to a new error of the class C -/
def spInit (C : Addr) (fl : String) : Sp := fun vs H Q _ => ∃ (a : Addr) (n : Int), vs = [.ref a, .int n] ∧ H a = some (exo a C none) ∧ ∀ d, H d = none → d ≠ a → Q .non (upd (upd H d (exd d [(Str.ofString fl, .int n)])) a (exo a C (some d)))
/-- .. known of a class -/
structure CalI (P : Program) (w : World) (K : PySem.W.Frag) (mg : Str → Option Value) (base : Heap) where
  name : String
  fl : String
  C : Addr
  fI : Addr
  k : Nat
  fd : FuncData
  ps : List Str
  T : OexC K C
  iC : PySem.W.findIn K (.ref C) "__init__" = some (some (.ref fI))
  tI : PySem.W.typeIn K (.ref fI) = some (.type "function")
  ok : FnOk P w K mg base (L2.CX P w) k fI fd ps (spInit C fl)
  b : Binds K fd ps []
  gm : mg (Str.ofString name) = some (.ref C)
  xf : XfC K C
  no : PySem.W.findIn K (.ref C) (Str.ofString fl) = some none
/-- base.__init__(self, ..), the base a class of the program without an own one -/
theorem pe_basei {X : Cx} {x : Str} {Db : Addr} {p1 p2 pos : Pos} {e : Expr} {es : List Expr} {ta : TA} {pl : Sem Bool} (hg : Gl X x) (hm : X.mg x = some (.ref Db)) (hd : (x == ("__debug__" : Str)) = false)
    (h1 : PySem.W.specialIn X.K (.ref Db) "__getattribute__" = some (some (.builtin "type.__getattribute__"))) (h2 : PySem.W.readsIn X.K Db (.type "type") = true) (h3 : PySem.W.findCls X.K (.ref Db) (.type "type") "__init__" = some (.val (.builtin "ValueError.__init__"))) (ha : PA X (e :: es) ta)
    (hc : eval (.Call (.Attribute (.Name x p1) "__init__" p2) (e :: es) [] pos) X.env = (do
      let ov ← eval (.Name x p1) X.env
      standAt p2.atName
      let (f, first) ← holding [ov] (getMethod ov "__init__" pl)
      callWith pos f first (backTo pos (starEach (e :: es) X.env)) (backToKw pos (keywordEach [] X.env))))
    (he : starEach (e :: es) X.env = (false, eval e X.env) :: starEach es X.env) (hpl : (backTo pos (starEach es X.env)).any (·.1) = false) :
    PE X (.Call (.Attribute (.Name x p1) "__init__" p2) (e :: es) [] pos) (tVeI X.K ta) := by
  refine ⟨fun pins s σ H Q I h => ?_⟩
  refine PySem.W.methodCall_KW (ld_glob I hg hm ?_ hd) hc
  refine PySem.W.method_cls I.kIn h1 (PySem.W.cls_value I.kIn h2 h3 (by decide +kernel) ?_)
  show wpAny _ _ (callWith pos (Value.builtin "ValueError.__init__") [] (backTo pos (starEach (e :: es) X.env)) []) _ _ _
  refine PyProof.Rows.callWith_method1 (thn (ha.run pos pins _ σ H _ (I.tok _) h) fun us s1 ⟨vs, H1, I1, r1, a, C, ws, ev, hl, T, ea, q⟩ => ?_) he hpl
  subst ev
  cases r1 with
  | @cons _ u0 _ ur ra rw' =>
    obtain rfl : u0 = Value.ref a := ra
    have hlen : ur.length ≤ sizeLine := by
      rw [← Paired.length rw', sizeLine_eq]
      omega
    exact oinit_ok T I1 ea hlen fun s' J => ⟨.non, H1, J, rfl, q⟩
theorem call_form {x : Str} {p1 p2 pos : Pos} {args : List Expr} {env : PySem.Env} {nm : Str} (h : (p2.endLine == pos.line) = true) (few : methodCallForm (args.length + ([] : List Keyword).length) (backTo pos (starEach args env)) (backToKw pos (keywordEach [] env)) = true) :
    eval (.Call (.Attribute (.Name x p1) nm p2) args [] pos) env = (do
      let ov ← eval (.Name x p1) env
      standAt p2.atName
      let (f, first) ← holding [ov] (getMethod ov nm (do return (← importBound (.Name x p1) env).getD true))
      callWith pos f first (backTo pos (starEach args env)) (backToKw pos (keywordEach [] env))) := by
  show (do
    let ov ← attributeBase (.Name x p1) nm env (eval (.Name x p1) env)
    standAt p2.atName
    methodCall (.Name x p1) nm p2 pos env ov (args.length + ([] : List Keyword).length) (backTo pos (starEach args env)) (backToKw pos (keywordEach [] env))) = _
  unfold methodCall
  rw [few]
  unfold methodCallPos calleeOf
  rw [h]
  rfl
/-- the text of such an __init__ -/
def isInit (y n : Str) (sc : Scope) (base fl : String) : List Stmt → Bool
  | [.Expr (.Call (.Attribute (.Name x _) nm p2) [.Name y1 _, .Constant (.str _) _ _] [] p5) _, .Assign [.Attribute (.Name y2 _) f _] (.Name n1 _) _] =>
    decide (Str.ofString base = x) && decide (nm = "__init__") && glB sc x && nmB x && decide (y1 = y) && decide (y2 = y) && decide (n1 = n) && decide (f = Str.ofString fl) && visB sc y && nmB y && visB sc n && nmB n && !(decide (n = y)) && (p2.endLine == p5.line)
  | _ => false
theorem init_ok {P : Program} {w : World} {K : PySem.W.Frag} {mg : Str → Option Value} {base : Heap} {k : Nat} {f C Db : Addr} {name qual y n : Str} {params : Arguments} {body : List Stmt} {scope : Scope} {dV kV doc pm cdv ct oc : Value} {an od : Option Addr} {osl : Array (Option Value)} {bs fl : String}
    (lk : K.lookup f = some ⟨oc, od, .func (PySem.W.fnOf name qual params body scope dV kV doc pm an cdv ct), osl⟩) (hcd : PySem.W.codeIn K cdv qual = true) (S : FnScope [y, n] [y, n] scope) (T : OexC K C) (hno : PySem.W.findIn K (.ref C) (Str.ofString fl) = some none)
    (gm : mg (Str.ofString bs) = some (.ref Db)) (h1 : PySem.W.specialIn K (.ref Db) "__getattribute__" = some (some (.builtin "type.__getattribute__"))) (h2 : PySem.W.readsIn K Db (.type "type") = true) (h3 : PySem.W.findCls K (.ref Db) (.type "type") "__init__" = some (.val (.builtin "ValueError.__init__")))
    (ok : isInit y n scope bs fl body = true) : FnOk P w K mg base (L2.CX P w) (k + 1) f (PySem.W.fnOf name qual params body scope dV kV doc pm an cdv ct) [y, n] (spInit C fl) := by
  refine fn_of lk hcd S (fun vs H Q E ⟨a, m, e, _⟩ => by rw [e]; rfl) fun A outer s H vs Q E hr h => ?_
  unfold isInit at ok
  split at ok
  case h_2 => cases ok
  rename_i x p1 nm p2 y1 p3 str j p4 p5 p6 y2 p7 f' p8 n1 p9 p10
  simp only [Bool.and_eq_true, decide_eq_true_eq, Bool.not_eq_true', decide_eq_false_iff_not] at ok
  obtain ⟨⟨⟨⟨⟨⟨⟨⟨⟨⟨⟨⟨⟨o1, o2⟩, o3⟩, o4⟩, o5⟩, o6⟩, o7⟩, o8⟩, o9⟩, o10⟩, o11⟩, o12⟩, o13⟩, o14⟩ := ok
  subst o1; subst o2; subst o8
  have o5 := o5.symm
  have o6 := o6.symm
  have o7 := o7.symm
  subst o5
  have o6 := o6
  obtain ⟨a, m, rfl, eH, hq⟩ := h
  have py : ∀ {X : Cx} {p : Pos}, X.N = [y, n] → X.env.scope = scope → PE X (.Name y p) (tVar 0) := fun a b => pe_var (by rw [a]; rfl) (vis_of b o9) (nmB_of o10).1 (nmB_of o10).2.1
  have pn : ∀ {X : Cx} {p : Pos}, X.N = [y, n] → X.env.scope = scope → PE X (.Name n p) (tVar 1) := fun a b => pe_var (by rw [a]; rfl) (vis_of b o11) (nmB_of o12).1 (nmB_of o12).2.1
  subst o6
  subst o7
  refine ⟨_, pss_cons (ps_expr (pe_basei (gl_of (sc := scope) rfl o3) gm (nmB_of o4).1 h1 h2 h3 (pa_cons (py rfl rfl) (pa_cons pe_str pa_nil)) (call_form (by simpa using o14) (by rfl)) rfl rfl) rfl) (pss_cons (ps_ost (py rfl rfl) (pn rfl rfl)) pss_nil), ?_⟩
  refine ⟨.ref a, rfl, a, C, [.str str], rfl, by simp, T, eH, ?_⟩
  exact ⟨.int m, rfl, .ref a, rfl, a, C, rfl, T, hno, .inl ⟨eH, fun d hd ne => hq d hd ne⟩⟩
/-- the heap behind such an error's making: only its dict is new -/
theorem same_made {H : Hp} {a d : Addr} {o u v w : HO} (ha : H a = none) (hd : H d = none) : Same H (upd (del (upd (upd (upd H a o) d u) a v) a) d w) := fun b q e => by
  have h1 : b ≠ a := fun z => by rw [z, ha] at e; cases e
  have h2 : b ≠ d := fun z => by rw [z, hd] at e; cases e
  rw [upd_ne h2, del_ne h1, upd_ne h1, upd_ne h2, upd_ne h1]
  exact e
end Px

/-! Px17: statements, one by one. -/
namespace Px
open PySem PySem.Spec L2
/-- what is known of an error class of the program's own -/
def XcOk (K : PySem.W.Frag) (mg : Str → Option Value) (ec : EC) (x : String) : Prop := ∃ D : Addr, ec x = .ref D ∧ mg (Str.ofString x) = some (.ref D) ∧ PySem.W.keepIn K (.ref D) = true ∧ PySem.W.subIn K (.ref D) (.type "BaseException") = some true ∧
  PySem.W.typeIn K (.ref D) = some (.type "type") ∧ ExcC K D
def chainVE : List Value := [.type "ValueError", .type "Exception", .type "BaseException", .type "object"]
/-- .. that is made with a text -/
def XcMk (K : PySem.W.Frag) (ec : EC) (x : String) : Prop := ∃ D : Addr, ec x = .ref D ∧ PySem.W.excIn K D chainVE "ValueError.__new__" = true
/-- what the statements of a def lean on -/
structure GoodS (ec : EC) (cf : Cf) (F : List Fn) (C : List D) (T : Tab) (X : Cx) (W : WX) : Prop where
  g : Good ec cf F C X W
  fn : ∀ x, X.fn x = true
  kind : X.env.scope.kind = .function
  pass : PassesOwn (model X.prog X.w) X.A X.env X.xe
  stk : X.stack = X.env :: X.outer
  frm : X.env.frame = some X.env.locals
  xc : ∀ (x : String) l, T.lookup x = some l → XcOk X.K X.mg ec x
  rm : ∀ x : String, cf.rs.contains x = true → (T.lookup x).isSome = true ∧ XcMk X.K ec x
  sub : ∀ (x c : String) b l, isA T x c = some b → T.lookup c = some l → PySem.W.exmOne X.K (ec x) (ec c) = some b ∧ PySem.W.kitOne X.K (ec x) (ec c) = some b
  bsub : ∀ (x c : String) b, isA T x c = some b → cf.bx.contains c = true → PySem.W.kitOne X.K (ec x) (.type c) = some b ∧ bootBuiltins (Str.ofString c) = some (.type c) ∧ X.mg (Str.ofString c) = none
  ks : ∀ (f : String) (n : Kn), cf.ks.contains (f, n) = true → ∃ c : CalK X.prog X.w X.K X.mg X.base ec T, c.name = f ∧ c.n = n ∧ L2H.RoomH c.k X.A
  ri : ∀ x fl : String, cf.ri.contains (x, fl) = true → ∃ c : CalI X.prog X.w X.K X.mg X.base, c.name = x ∧ c.fl = fl ∧ Room (c.k + 1) X.A ∧ (T.lookup x).isSome = true
section
variable {ec : EC} {W : WX} {F : List Fn} {C : List D} {T : Tab} {cf : Cf} {X : Cx} {sc : Scope} {pos : Pos}
variable {σ σ' : L2.St} {H H' H0 H1 H2 : Hp} {A : AS} {ρ ρ' : Env} {B B' : Hp} {Z P : AS} {O : Nat → AS} {En : Ends}
def nmI (cf : Cf) (sc : Scope) (i : Nat) (x : Str) : Bool := decide (cf.N[i]? = some x) && locB none sc x
def vrI (cf : Cf) (sc : Scope) (i : Nat) (x : Str) : Bool := decide (cf.N[i]? = some x) && visB sc x && nmB x
theorem nm_of {i : Nat} {x : Str} (g : GoodS ec cf F C T X W) (hsc : X.env.scope = sc) (h : nmI cf sc i x = true) : X.N[i]? = some x ∧ Loc X.env.scope x ∧ (X.fn x = true ∨ X.env.scope.names.lookup x = some .local) := by
  unfold nmI at h
  rw [Bool.and_eq_true] at h
  refine ⟨by rw [g.g.hN]; exact of_decide_eq_true h.1, ?_, .inl (g.fn x)⟩
  rw [hsc]
  have h2 := h.2
  unfold locB at h2
  split at h2
  · exact .inl (by assumption)
  · exact .inr (by assumption)
  · cases h2
theorem pe_slot {i : Nat} {x : Str} (g : Good ec cf F C X W) (hsc : X.env.scope = sc) (h : vrI cf sc i x = true) : PE X (.Name x pos) (tVar i) := by
  unfold vrI at h
  simp only [Bool.and_eq_true] at h
  exact pe_var (by rw [g.hN]; exact of_decide_eq_true h.1.1) (vis_of hsc h.1.2) (nmB_of h.2).1 (nmB_of h.2).2.1
/-! name = value -/
def isComp : Expr → Bool
  | .ListComp _ _ _ _ => true
  | .SetComp _ _ _ _ => true
  | .DictComp _ _ _ _ _ => true
  | _ => false
theorem swaps_no {e : Expr} {tg : Option Expr} {l : Nat} {env : PySem.Env} (h : isComp e = false) : swapsWith e tg l env = pure false := by
  cases e <;> first | rfl | cases h
/-- one line, the name a local, none of the block's own -/
def swB (sc : Scope) (x : Str) (px : Pos) : Expr → Bool
  | .ListComp _ _ s p => decide (sc.names.lookup x = some .local) && (px.line == p.line) && !(s.names.any fun (n, k) => n == x && (k == .local || k == .cell))
  | _ => false
def isLC : Expr → Bool
  | .ListComp _ _ _ _ => true
  | _ => false
theorem swaps_of {e : Expr} {x : Str} {px : Pos} {l : Nat} (hk : X.env.scope.kind = .function) (hsc : X.env.scope = sc) (he : isLC e = true) : swapsWith e (some (.Name x px)) l X.env = pure (swB sc x px e) := by
  cases e <;> first | (cases he; done) | skip
  rename_i elt gs s p
  have hb : X.env.blockKind = .function := by unfold PySem.Env.blockKind; rw [hk]; rfl
  unfold swapsWith swB
  simp only [hb, Expr.pos]
  have hkk : X.env.kindOf x = sc.names.lookup x := by rw [← hsc]; rfl
  rw [hkk]
  cases sc.names.lookup x with
  | none => rfl
  | some k => cases k <;> rfl
theorem set_comp {i : Nat} {x : Str} {px spos : Pos} {c : Ex} {e : Expr} (g : GoodS ec cf F C T X W) (hsc : X.env.scope = sc) (hx : nmI cf sc i x = true) (he : okE cf c sc e = true) (hlc : isLC e = true) (hsw : swB sc x px e = true) :
    PS X (.Assign [.Name x px] e spos) (tAsg (tE X.K ec W F C c) (gName i)) := by
  have hs := swaps_of (x := x) (px := px) (l := spos.line) g.kind hsc hlc
  rw [hsw] at hs
  obtain ⟨n1, n2, _⟩ := nm_of g hsc hx
  have hl : X.env.scope.names.lookup x = some .local := by
    unfold swB at hsw
    split at hsw
    · simp only [Bool.and_eq_true] at hsw
      rw [hsc]; exact of_decide_eq_true hsw.1.1
    · cases hsw
  have none_of : ∀ {b : Bool}, b = false → b = true → False := fun h1 h2 => by rw [h1] at h2; cases h2
  cases c with
  | comp p it cs el => ?_
  | _ =>
    exfalso
    cases e <;> first | (cases hlc; done) | (unfold okE at he; simp at he; done)
  unfold okE at he
  split at he <;> first | (cases he; done) | skip
  rename_i elt tg iter ifs as scope cpos
  simp only [Bool.and_eq_true] at he
  obtain ⟨⟨⟨⟨⟨⟨h1, h2⟩, h3⟩, h4⟩, h5⟩, h6⟩, h7⟩ := he
  have h1 := of_decide_eq_true h1
  subst h1
  have hv : (ownB cf.N p.slots).map (·.2) = p.slots := by
    unfold ownB; rw [List.map_map]; exact List.map_id _
  have hb := blkOk_by h4
  have G := g.g
  rw [← G.hN, ← hsc] at hb
  have gb : ∀ (s : Shared) (H : Hp) (D : Addr) (cl : List (Str × Addr)) (fp : List Addr), Good ec cf F C (X.blk s H scope (compEnvC scope cl D X.env) fp) Wn := fun s H D cl fp => G.blk
  have hsb : ∀ (s : Shared) (H : Hp) (D : Addr) (cl : List (Str × Addr)) (fp : List Addr), (X.blk s H scope (compEnvC scope cl D X.env) fp).env.scope = relS scope sc := fun s H D cl fp => by rw [← hsc]; rfl
  have q := ps_setLc (X := X) (i := i) (y := x) (py := px) (elt := elt) (tg := tg) (iter := iter) (ifs := ifs) (scope := scope) (pos := cpos) (spos := spos) (own := ownB X.N p.slots) (wi := tI X.K ec W F C true it) (g := tP X.K p) (tt := tTs X.K ec Wn F C cs) (te := tE X.K ec Wn F C el) G.calm G.nd n1 hl hs (i_ok G hsc h2) hb
    (fun s H D cl fp => p_ok (X := X.blk s H scope (compEnvC scope cl D X.env) fp) (cf := cf) (lv := some scope) G.calm G.nd G.hN (hsb s H D cl fp) (fun x hx => by
      unfold fnB at hx
      show (scope.names.lookup x == some .cell) = true
      rw [of_decide_eq_true hx]; rfl) h5)
    (fun s H D cl fp => ts_ok (gb s H D cl fp) (hsb s H D cl fp) h6) (fun s H D cl fp => e_ok (gb s H D cl fp) (hsb s H D cl fp) h7) (folded_of h3 _)
  rw [G.hN, hv] at q
  exact PS.imp q fun En σ H ⟨ρ, B, Z, O, r, h⟩ => comp_core (wk_of h2 h5) r h
/-- both ways -/
def setB (sc : Scope) (x : Str) (px : Pos) (e : Expr) : Bool := !(isComp e) || isLC e
theorem set_any {i : Nat} {x : Str} {px spos : Pos} {c : Ex} {e : Expr} (g : GoodS ec cf F C T X W) (hsc : X.env.scope = sc) (hx : nmI cf sc i x = true) (he : okE cf c sc e = true) (hb : setB sc x px e = true) :
    PS X (.Assign [.Name x px] e spos) (tAsg (tE X.K ec W F C c) (gName i)) := by
  obtain ⟨n1, n2, n3⟩ := nm_of g hsc hx
  unfold setB at hb
  rw [Bool.or_eq_true] at hb
  cases hc : isComp e with
  | false => exact ps_set g.g.nd n1 n2 (e_ok g.g hsc he) (swaps_no hc) n3
  | true =>
    rw [hc] at hb
    have hlc : isLC e = true := hb.elim (fun z => by cases z) id
    cases hw : swB sc x px e with
    | true => exact set_comp g hsc hx he hlc hw
    | false => exact ps_set g.g.nd n1 n2 (e_ok g.g hsc he) (by rw [swaps_of g.kind hsc hlc, hw]) n3
theorem s_set {i : Nat} {x : Str} {px spos : Pos} {c : Ex} {e : Expr} (g : GoodS ec cf F C T X W) (hsc : X.env.scope = sc) (hx : nmI cf sc i x = true) (he : okE cf c sc e = true) (hb : setB sc x px e = true) :
    PS X (.Assign [.Name x px] e spos) (tS X.K ec W F C T (.set i c)) := by
  refine PS.imp (set_any g hsc hx he hb) fun En σ H ⟨ρ, B, Z, O, r, h⟩ => ?_
  unfold run1 at h
  refine use_E r (aft_mono (Same.refl _) (post_lift r h) fun k hk v H1 s1 res => ?_)
  obtain ⟨j, d, ek, hk⟩ := post_need hk
  subst ek
  obtain ⟨hi, hk⟩ := post_set hk
  obtain ⟨O', r'⟩ := r.store s1 res hi
  exact hk _ _ _ r'
theorem s_mov {i j : Nat} {x y : Str} {px py spos : Pos} (g : GoodS ec cf F C T X W) (hsc : X.env.scope = sc) (hx : nmI cf sc i x = true) (hy : vrI cf sc j y = true) :
    PS X (.Assign [.Name x px] (.Name y py) spos) (tS X.K ec W F C T (.mov i j)) := by
  obtain ⟨n1, n2, n3⟩ := nm_of g hsc hx
  refine PS.imp (ps_set g.g.nd n1 n2 (pe_slot g.g hsc hy) rfl n3) fun En σ H ⟨ρ, B, Z, O, r, h⟩ => ?_
  unfold run1 at h
  split at h
  · rename_i k d e
    obtain ⟨hi, h⟩ := post_set h
    obtain ⟨v, ev, _⟩ := r.own j k d e
    rw [List.length_set] at hi
    obtain ⟨O', r'⟩ := r.move e ev hi
    exact ⟨v, ev, h _ _ _ r'⟩
  · exact h.elim
/-! (a, b, ..) = value -/
def notTup : Expr → Bool
  | .Tuple _ _ _ => false
  | _ => true
theorem s_unp {p : Pat} {es : List Expr} {k : Nat} {tp spos : Pos} {c : Ex} {e : Expr} (g : GoodS ec cf F C T X W) (hsc : X.env.scope = sc) (hp : okP cf none sc p (.Tuple es k tp) = true) (he : okE cf c sc e = true) (hn : notTup e = true) :
    PS X (.Assign [.Tuple es k tp] e spos) (tS X.K ec W F C T (.unp p c)) := by
  have hg := p_ok (X := X) g.g.calm g.g.nd g.g.hN hsc (lv := none) (fun x _ => g.fn x) hp
  refine PS.imp (ps_asg (e_ok g.g hsc he) hg (by cases e <;> rfl) (by cases e <;> first | rfl | cases hn) (by rfl)) fun En σ H ⟨ρ, B, Z, O, r, h⟩ => ?_
  unfold run1 at h
  refine use_E r (aft_mono (Same.refl _) (post_lift r h) fun k hk v H1 s1 ⟨O1, f1, r1⟩ => ?_)
  obtain ⟨j, d, ek, hq⟩ := post_need hk
  clear hk
  subst ek
  have r1 : Own X.K H1 (fun x => ZO Z O x ∨ O1 x) j d v O1 := r1
  obtain ⟨O2, s2, g2⟩ := Own.lower r1 0 (Nat.zero_le _)
  have w := g2 (ZO Z O) (fun x z => .inl z) fun x z o => absurd (f1 x o) (r.am z).ne
  have hq : post X.K ec W B Z En (liftR (bindP p d ρ) ρ fun ρ' => Rs.nx ρ') := hq
  obtain ⟨ρ1, hb, hq⟩ := aft_calm (post_lift (r.mono s1) hq) bindP_calm
  · clear h
    exact ⟨ρ, B, Z, O, d, ρ1, r.mono s1, .inl w.2, hb, fun σ' O' r' _ _ _ _ => hq σ' H1 O' r'⟩
end
end Px

/-! Px18: statements that change lists. -/
namespace Px
open PySem PySem.Spec L2
section
variable {ec : EC} {W : WX} {F : List Fn} {C : List D} {T : Tab} {cf : Cf} {X : Cx} {sc : Scope} {pos : Pos}
variable {σ σ' : L2.St} {H H' H0 H1 H2 : Hp} {A : AS} {ρ ρ' : Env} {B B' : Hp} {Z P : AS} {O : Nat → AS} {En : Ends}
theorem few_of {e : Expr} {es : List Expr} {env : PySem.Env} {cpos : Pos} (hs : noStars (e :: es) = true) (hl : es.length < 20) : ((backTo cpos (starEach (e :: es) env)).all (fun x => !x.1) && (backToKw cpos (keywordEach [] env)).all (fun x => x.1.isSome) && decide ((e :: es).length + ([] : List Keyword).length + (if ([] : List Keyword).isEmpty then 0 else 1) < 30)) = true := by
  rw [plainAll hs]
  show (true && true && decide (es.length + 1 + 0 + 0 < 30)) = true
  rw [decide_eq_true (by omega)]; rfl
theorem Res.own1 {j : Nat} {d : D} {v : V} (h : Res X.K H H1 A (some j, d) v) : ∃ P : AS, (∀ x, P x → H x = none) ∧ Own X.K H1 (fun x => A x ∨ P x) j d v P := h
theorem one_owns {K : PySem.W.Frag} {j : Nat} {d : D} {v : V} {P : AS} (w : Own K H A j d v P) : Owns (Own K H A j) [d] [v] P := ⟨v, [], P, fun _ => False, rfl, fun x => by simp, fun _ _ z => z, w, rfl, fun _ z => z⟩
theorem zo_past (Z P : AS) (O : Nat → AS) : (ZO (fun x => Z x ∨ P x) O) = fun x => ZO Z O x ∨ P x := zo_res Z P O
theorem Owns.append' {R : D → V → AS → Prop} : ∀ {ds es : List D} {vs us : List V} {O1 O2 O : AS}, (∀ x, O x ↔ O1 x ∨ O2 x) → (∀ x, O1 x → ¬ O2 x) → Owns R ds vs O1 → Owns R es us O2 → Owns R (ds ++ es) (vs ++ us) O
  | [], [], _, _, O1, O2, O, e, _, h, q => by
    obtain ⟨rfl, n1⟩ := h; obtain ⟨rfl, n2⟩ := q
    exact ⟨rfl, fun x z => by rcases (e x).mp z with k | k; exact n1 x k; exact n2 x k⟩
  | [], d :: es, _, _, O1, O2, O, e, _, h, q => by
    obtain ⟨rfl, n1⟩ := h
    obtain ⟨v, vs', P1, P2, e', h1, h2, r, q⟩ := q
    exact ⟨v, vs', P1, P2, e', fun x => by rw [e x, h1 x]; constructor; (rintro (z | z); exact (n1 x z).elim; exact z); exact .inr, h2, r, q⟩
  | d :: ds, es, _, _, O1, O2, O, e, dj, h, q => by
    obtain ⟨v, vs', P1, P2, e', h1, h2, r, h⟩ := h
    subst e'
    refine ⟨v, _, P1, fun x => P2 x ∨ O2 x, rfl, fun x => by rw [e x, h1 x]; constructor; (rintro ((z | z) | z); exact .inl z; exact .inr (.inl z); exact .inr (.inr z)); (rintro (z | z | z); exact .inl (.inl z); exact .inl (.inr z); exact .inr z), fun x z1 z2 => ?_, r, Owns.append' (fun x => Iff.rfl) (fun x z => dj x ((h1 x).mpr (.inr z))) h q⟩
    rcases z2 with z2 | z2
    · exact h2 x z1 z2
    · exact dj x ((h1 x).mpr (.inl z1)) z2
/-- x.append(e) -/
theorem s_app {i : Nat} {x : Str} {px apos cpos epos : Pos} {c : Ex} {e : Expr} (g : GoodS ec cf F C T X W) (hsc : X.env.scope = sc) (hx : vrI cf sc i x = true) (he : okE cf c sc e = true) (hs : noStar e = true) (hline : (apos.endLine == cpos.line) = true) :
    PS X (.Expr (.Call (.Attribute (.Name x px) "append" apos) [e] [] cpos) epos) (tS X.K ec W F C T (.app i c)) := by
  refine PS.imp (ps_expr (pe_bm PySem.F.plainAttrs_list PySem.F.slot_list_append PySem.F.type_list_append mt_append (pe_slot g.g hsc hx) (pa_cons (e_ok g.g hsc he) pa_nil (starEach_of hs)) rfl (few_of (noStars1 hs) (by decide)) hline (starEach_of hs) rfl) rfl) fun En σ H ⟨ρ, B, Z, O, r, h⟩ => ?_
  unfold run1 at h
  obtain ⟨k, xs, e0, h⟩ := post_lst h
  obtain ⟨a, vs, O1, ea, eH, eO, na, q⟩ := r.lstAt e0
  refine ⟨_, ea, .inl ⟨rfl, vs, SqL.of eH⟩, use_E r (aft_mono (Same.refl _) (post_lift r h) fun k2 hk v H1 s1 res => ?_)⟩
  obtain ⟨j, d, ek, hq⟩ := post_need hk
  clear hk
  subst ek
  obtain ⟨P, f, w⟩ := res.own1
  split at hq
  · rename_i hl
    obtain ⟨hi, hn⟩ := post_set hq
    have lv : vs.length = xs.length := q.length
    refine ⟨a, vs, v, rfl, rfl, s1 _ _ eH, by rw [lv, line_eq]; exact hl, ?_⟩
    have r2 := r.past (k := (some j, d)) s1 f w
    have q2 : Owns (Own X.K H1 (ZO (fun x => Z x ∨ P x) O) k) xs vs O1 := by
      rw [zo_past]
      exact q.imp fun d v O3 w3 => w3.mono s1 fun x z => z.elim .inl fun z => .inr (f x z)
    obtain ⟨O', r3⟩ := r2.mix (fresh_of r f) e0 ea (s1 _ _ eH) eO na q2 (by rw [zo_past]; exact one_owns w) (xs' := xs ++ [d]) (vs' := vs ++ [v]) fun R O3 P3 dj h1 h2 => ⟨fun x => O3 x ∨ P3 x, fun x z => z, Owns.append' (fun x => Iff.rfl) dj h1 h2⟩
    exact hn _ _ _ r3
  · exact hq.elim
/-- the general step: slot i's list changes, some of what it owned may be reserved -/
theorem Rel.mutG {K : PySem.W.Frag} {Z' Zr : AS} {i k k' : Nat} {xs xs' : List D} {a : Addr} {vs vs' : List V} {O2 : AS} (r : Rel K B Zr O σ H ρ) (e : ρ[i]? = some (some (k, .lst xs))) (ea : σ[i]? = some (some (.ref a))) (eH : H a = some (.lst vs)) (oa : O i a)
    (hz : ∀ x, Z' x → IsM H x) (hin : ∀ x, ZO Z' (setO O i fun x => x = a ∨ O2 x) x → ZO Zr O x) (hj : ∀ j x, j ≠ i → O j x → ¬ Z' x) (h2 : ∀ x, O2 x → ¬ Z' x ∧ B x = none ∧ ∀ j, j ≠ i → ¬ O j x) (za : ¬ Z' a) (n2 : ¬ O2 a)
    (q : Owns (Own K H (ZO Z' (setO O i fun x => x = a ∨ O2 x)) k') xs' vs' O2) : Rel K B Z' (setO O i fun x => x = a ∨ O2 x) σ (upd H a (.lst vs')) (ρ.set i (some (k' + 1, .lst xs'))) := by
  have hi : i < ρ.length := (List.getElem?_eq_some_iff.mp e).1
  have up : ∀ x, IsM H x → IsM (upd H a (.lst vs')) x := fun x m => by
    by_cases ex : x = a
    · subst ex; exact .inl ⟨_, upd_same⟩
    · rcases m with ⟨u, m⟩ | ⟨u, m⟩
      · exact .inl ⟨u, by rw [upd_ne ex]; exact m⟩
      · exact .inr ⟨u, by rw [upd_ne ex]; exact m⟩
  have aIn : ZO Z' (setO O i fun x => x = a ∨ O2 x) a := .inr ⟨i, by rw [setO_same]; exact .inl rfl⟩
  have sub : ∀ j x, setO O i (fun x => x = a ∨ O2 x) j x → (j ≠ i ∧ O j x) ∨ (j = i ∧ (x = a ∨ O2 x)) := fun j x h => by
    by_cases ej : j = i
    · subst ej; rw [setO_same] at h; exact .inr ⟨rfl, h⟩
    · rw [setO_ne ej] at h; exact .inl ⟨ej, h⟩
  refine ⟨by rw [List.length_set]; exact r.len, fun x z => up x (hz x z), ?_, ?_, ?_, ?_, ?_⟩
  · intro j j' x p1 p2
    rcases sub j x p1 with ⟨n1, g1⟩ | ⟨e1, g1⟩ <;> rcases sub j' x p2 with ⟨n2, g2⟩ | ⟨e2, g2⟩
    · exact r.dj j j' x g1 g2
    · rcases g2 with g2 | g2
      · exact absurd (r.dj j i x g1 (g2 ▸ oa)) n1
      · exact absurd g1 ((h2 x g2).2.2 j n1)
    · rcases g1 with g1 | g1
      · exact absurd (r.dj j' i x g2 (g1 ▸ oa)) n2
      · exact absurd g2 ((h2 x g1).2.2 j' n2)
    · rw [e1, e2]
  · intro j x h
    rcases sub j x h with ⟨n1, h⟩ | ⟨_, h | h⟩
    · exact ⟨hj j x n1 h, (r.fr j x h).2⟩
    · subst h; exact ⟨za, (r.fr i x oa).2⟩
    · exact ⟨(h2 x h).1, (h2 x h).2.1⟩
  · intro b o eb
    have : b ≠ a := fun h => by subst h; rw [(r.fr i b oa).2] at eb; cases eb
    rw [upd_ne this]; exact r.base b o eb
  · intro j kk d eq
    by_cases ej : j = i
    · subst ej
      rw [List.getElem?_set_self hi] at eq
      cases eq
      refine ⟨_, ea, ?_⟩
      rw [setO_same]
      unfold Own
      exact ⟨a, vs', O2, rfl, upd_same, fun x => Iff.rfl, n2, q.impIn fun d m v O3 s w => w.upd aIn fun z => n2 (s a z)⟩
    · rw [List.getElem?_set_ne (Ne.symm ej)] at eq
      obtain ⟨u, e1, w⟩ := r.own j kk d eq
      refine ⟨u, e1, ?_⟩
      rw [setO_ne ej]
      exact (w.mono (Same.refl _) fun x z => .inl (hin x z)).upd aIn fun h => ej (r.dj j i a h oa)
  · intro j h x hx
    rcases sub j x hx with ⟨n1, hx⟩ | ⟨e1, _⟩
    · exact r.non j (fun k' d' q => h k' d' (by rw [List.getElem?_set_ne (Ne.symm n1)]; exact q)) x hx
    · subst e1
      exact absurd (List.getElem?_set_self hi) (h _ _)
/-- fewer things in it -/
theorem Rel.less {K : PySem.W.Frag} {i k : Nat} {xs xs' : List D} {a : Addr} {vs vs' : List V} {O1 : AS} (r : Rel K B Z O σ H ρ) (e : ρ[i]? = some (some (k + 1, .lst xs))) (ea : σ[i]? = some (some (.ref a))) (eH : H a = some (.lst vs)) (eO : ∀ x, O i x ↔ x = a ∨ O1 x) (na : ¬ O1 a)
    (q : Owns (Own K H (ZO Z O) k) xs vs O1) (hG : ∀ (R : D → V → AS → Prop) (O1 : AS), Owns R xs vs O1 → ∃ O2 : AS, (∀ x, O2 x → O1 x) ∧ Owns R xs' vs' O2) : ∃ O', Rel K B Z O' σ (upd H a (.lst vs')) (ρ.set i (some (k + 1, .lst xs'))) := by
  obtain ⟨O2, s, w⟩ := hG _ _ q
  have oi : ∀ x, O2 x → O i x := fun x h => (eO x).mpr (.inr (s x h))
  have oa : O i a := (eO a).mpr (.inl rfl)
  have hin : ∀ x, ZO Z (setO O i fun x => x = a ∨ O2 x) x → ZO Z O x := by
    rintro x (z | ⟨j, z⟩)
    · exact .inl z
    · by_cases ej : j = i
      · subst ej; rw [setO_same] at z
        rcases z with z | z
        · subst z; exact .inr ⟨j, oa⟩
        · exact .inr ⟨j, oi x z⟩
      · rw [setO_ne ej] at z; exact .inr ⟨j, z⟩
  exact ⟨_, r.mutG e ea eH oa r.zm hin (fun j x _ o => (r.fr j x o).1) (fun x o => ⟨(r.fr i x (oi x o)).1, (r.fr i x (oi x o)).2, fun j nj oj => nj (r.dj j i x oj (oi x o))⟩) (r.fr i a oa).1 (fun h => na (s a h)) (w.imp fun d v O3 w3 => w3.mono (Same.refl _) fun x z => .inl (hin x z))⟩
/-- one thing goes out of it -/
theorem Rel.out {K : PySem.W.Frag} {i k : Nat} {xs xs' : List D} {a : Addr} {vs vs' : List V} {O1 : AS} {d : D} {v : V} (r : Rel K B Z O σ H ρ) (e : ρ[i]? = some (some (k + 1, .lst xs))) (ea : σ[i]? = some (some (.ref a))) (eH : H a = some (.lst vs)) (eO : ∀ x, O i x ↔ x = a ∨ O1 x) (na : ¬ O1 a)
    (q : Owns (Own K H (ZO Z O) k) xs vs O1) (hG : ∀ (R : D → V → AS → Prop) (O1 : AS), Owns R xs vs O1 → ∃ O2 O3 : AS, (∀ x, O2 x → O1 x) ∧ (∀ x, O3 x → O1 x) ∧ (∀ x, O2 x → ¬ O3 x) ∧ Owns R xs' vs' O2 ∧ R d v O3) :
    ∃ O' P, Rel K B (fun x => Z x ∨ P x) O' σ (upd H a (.lst vs')) (ρ.set i (some (k + 1, .lst xs'))) ∧ (∀ x, P x → B x = none ∧ ¬ Z x) ∧ Own K (upd H a (.lst vs')) (fun x => ZO Z O' x ∨ P x) k d v P := by
  obtain ⟨O2, O3, s2, s3, dj, w, wd⟩ := hG _ _ q
  have oi : ∀ x, O1 x → O i x := fun x h => (eO x).mpr (.inr h)
  have oa : O i a := (eO a).mpr (.inl rfl)
  have hin : ∀ x, ZO (fun x => Z x ∨ O3 x) (setO O i fun x => x = a ∨ O2 x) x → ZO Z O x := by
    rintro x ((z | z) | ⟨j, z⟩)
    · exact .inl z
    · exact .inr ⟨i, oi x (s3 x z)⟩
    · by_cases ej : j = i
      · subst ej; rw [setO_same] at z
        rcases z with z | z
        · subst z; exact .inr ⟨j, oa⟩
        · exact .inr ⟨j, oi x (s2 x z)⟩
      · rw [setO_ne ej] at z; exact .inr ⟨j, z⟩
  have rel := r.mutG (Z' := fun x => Z x ∨ O3 x) e ea eH oa (fun x z => z.elim (r.zm x) fun z => r.om (oi x (s3 x z))) hin
    (fun j x nj o z => z.elim (r.fr j x o).1 fun z => nj (r.dj j i x o (oi x (s3 x z)))) (fun x o => ⟨fun z => z.elim (r.fr i x (oi x (s2 x o))).1 (dj x o), (r.fr i x (oi x (s2 x o))).2, fun j nj oj => nj (r.dj j i x oj (oi x (s2 x o)))⟩)
    (fun z => z.elim (r.fr i a oa).1 fun z => na (s3 a z)) (fun h => na (s2 a h)) (w.imp fun d v O4 w4 => w4.mono (Same.refl _) fun x z => .inl (hin x z))
  refine ⟨_, O3, rel, fun x p => ⟨(r.fr i x (oi x (s3 x p))).2, (r.fr i x (oi x (s3 x p))).1⟩, ?_⟩
  rw [← zo_past]
  have aIn : ZO (fun x => Z x ∨ O3 x) (setO O i fun x => x = a ∨ O2 x) a := .inr ⟨i, by rw [setO_same]; exact .inl rfl⟩
  exact (wd.mono (Same.refl _) fun x z => .inl (hin x z)).upd aIn fun z => na (s3 a z)
theorem Owns.dropLast {R : D → V → AS → Prop} : ∀ {ds : List D} {vs : List V} {O : AS}, Owns R ds vs O → ∃ O2 : AS, (∀ x, O2 x → O x) ∧ Owns R ds.dropLast vs.dropLast O2
  | [], _, O, h => ⟨O, fun _ z => z, by obtain ⟨e, n⟩ := h; subst e; exact ⟨rfl, n⟩⟩
  | [d], _, O, ⟨v, vs', O1, O2, e, h1, h2, r, e2, n⟩ => by subst e; subst e2; exact ⟨fun _ => False, fun _ z => z.elim, rfl, fun _ z => z⟩
  | d :: d' :: ds, _, O, ⟨v, vs', O1, O2, e, h1, h2, r, q⟩ => by
    obtain ⟨O3, s, w⟩ := Owns.dropLast q
    have : vs' ≠ [] := by
      obtain ⟨v', vs2, _, _, e', _⟩ := q
      rw [e']; exact List.cons_ne_nil _ _
    subst e
    refine ⟨fun x => O1 x ∨ O3 x, fun x z => (h1 x).mpr (z.imp id (s x)), ?_⟩
    rw [List.dropLast_cons_of_ne_nil this, List.dropLast_cons_of_ne_nil (List.cons_ne_nil _ _)]
    exact ⟨v, _, O1, O3, rfl, fun x => Iff.rfl, fun x z1 z2 => h2 x z1 (s x z2), r, w⟩
/-- one item, and the others -/
theorem Owns.erase {R : D → V → AS → Prop} : ∀ {ds : List D} {vs : List V} {O : AS} {m : Nat} {d : D}, Owns R ds vs O → ds[m]? = some d → ∃ v O2 O3, vs[m]? = some v ∧ (∀ x, O2 x → O x) ∧ (∀ x, O3 x → O x) ∧ (∀ x, O2 x → ¬ O3 x) ∧ Owns R (ds.eraseIdx m) (vs.eraseIdx m) O2 ∧ R d v O3
  | [], _, _, _, _, _, e => by simp at e
  | d :: ds, _, O, 0, d', ⟨v, vs', O1, O2, e, h1, h2, r, q⟩, e' => by
    simp at e'
    subst e'; subst e
    exact ⟨v, O2, O1, rfl, fun x z => (h1 x).mpr (.inr z), fun x z => (h1 x).mpr (.inl z), fun x z z' => h2 x z' z, q, r⟩
  | d :: ds, _, O, m + 1, d', ⟨v, vs', O1, O2, e, h1, h2, r, q⟩, e' => by
    subst e
    obtain ⟨u, O3, O4, a1, a2, a3, a4, a5, a6⟩ := Owns.erase (m := m) q (by simpa using e')
    refine ⟨u, fun x => O1 x ∨ O3 x, O4, by simpa using a1, fun x z => (h1 x).mpr (z.imp id (a2 x)), fun x z => (h1 x).mpr (.inr (a3 x z)), fun x z z' => z.elim (fun z => h2 x z (a3 x z')) fun z => a4 x z z', ?_, a6⟩
    exact ⟨v, _, O1, O3, rfl, fun x => Iff.rfl, fun x z1 z2 => h2 x z1 (a2 x z2), r, a5⟩
theorem eraseIdx_last {α : Type} (l : List α) : l.eraseIdx (l.length - 1) = l.dropLast := by
  cases l with
  | nil => rfl
  | cons a l => rw [List.eraseIdx_eq_dropLast]; simp
theorem seq_set {i k : Nat} {d : D} {f : Env → Rs} (hi : i < ρ.length) : (setR i k d ρ).seq f = f (ρ.set i (some (k, d))) := by
  unfold setR; rw [if_pos hi]; rfl
theorem own_flat9 {K : PySem.W.Frag} {k : Nat} {d : D} {v : V} (w : Own K H A k d v P) : Own K H A (if d.cont then k else 9) d v P := by
  split
  · exact w
  · rename_i hc
    exact (Own.flat (by simpa using hc)).mpr ((Own.flat (by simpa using hc)).mp w)
/-- x.pop() -/
theorem s_pop {i : Nat} {x : Str} {px apos cpos epos : Pos} (g : GoodS ec cf F C T X W) (hsc : X.env.scope = sc) (hx : vrI cf sc i x = true) (hline : (apos.endLine == cpos.line) = true) :
    PS X (.Expr (.Call (.Attribute (.Name x px) "pop" apos) [] [] cpos) epos) (tS X.K ec W F C T (.pop i)) := by
  refine PS.imp (ps_expr (pe_bm0 PySem.F.plainAttrs_list PySem.F.slot_list_pop PySem.F.type_list_pop mt_pop (pe_slot g.g hsc hx) rfl hline) rfl) fun En σ H ⟨ρ, B, Z, O, r, h⟩ => ?_
  unfold run1 at h
  obtain ⟨k, xs, e0, h⟩ := post_lst h
  obtain ⟨a, vs, O1, ea, eH, eO, na, q⟩ := r.lstAt e0
  split at h
  · exact h.elim
  · rename_i hne
    obtain ⟨hi, hn⟩ := post_set h
    have lv : vs.length = xs.length := q.length
    have hpos : 0 < xs.length := by
      cases xs with
      | nil => exact absurd rfl hne
      | cons _ _ => simp
    obtain ⟨y, ey⟩ : ∃ y, vs[vs.length - 1]? = some y := ⟨_, List.getElem?_eq_getElem (by omega)⟩
    obtain ⟨O', r3⟩ := r.less e0 ea eH eO na q (xs' := xs.dropLast) (vs' := vs.dropLast) fun R O3 w => w.dropLast
    exact ⟨_, ea, .inl ⟨rfl, vs, SqL.of eH⟩, a, vs, y, rfl, rfl, eH, ey, hn _ _ _ r3⟩
/-- t = x.pop() -/
theorem s_popS {t i : Nat} {x y : Str} {px py apos cpos spos : Pos} (g : GoodS ec cf F C T X W) (hsc : X.env.scope = sc) (hx : vrI cf sc i x = true) (hy : nmI cf sc t y = true) (hline : (apos.endLine == cpos.line) = true) :
    PS X (.Assign [.Name y py] (.Call (.Attribute (.Name x px) "pop" apos) [] [] cpos) spos) (tS X.K ec W F C T (.popS t i)) := by
  obtain ⟨n1, n2, n3⟩ := nm_of g hsc hy
  refine PS.imp (ps_set g.g.nd n1 n2 (pe_bm0 PySem.F.plainAttrs_list PySem.F.slot_list_pop PySem.F.type_list_pop mt_pop (pe_slot g.g hsc hx) rfl hline) rfl n3) fun En σ H ⟨ρ, B, Z, O, r, h⟩ => ?_
  unfold run1 at h
  obtain ⟨k, xs, e0, h⟩ := post_lst h
  obtain ⟨a, vs, O1, ea, eH, eO, na, q⟩ := r.lstAt e0
  split at h
  · rename_i d ed
    split at h
    · exact h.elim
    · rename_i hne
      have lv : vs.length = xs.length := q.length
      have hi : i < ρ.length := (List.getElem?_eq_some_iff.mp e0).1
      rw [seq_set hi] at h
      obtain ⟨ht, hn⟩ := post_set h
      obtain ⟨v, _, _, ev, _⟩ := q.erase ed
      obtain ⟨O', P, r3, hP, w⟩ := r.out (d := d) (v := v) e0 ea eH eO na q (xs' := xs.dropLast) (vs' := vs.dropLast) fun R O3 w => by
        obtain ⟨v', O4, O5, e1, s4, s5, dj, w4, w5⟩ := w.erase ed
        rw [ev] at e1; cases e1
        rw [eraseIdx_last, ← lv, eraseIdx_last] at w4
        exact ⟨O4, O5, s4, s5, dj, w4, w5⟩
      refine ⟨_, ea, .inl ⟨rfl, vs, SqL.of eH⟩, a, vs, v, rfl, rfl, eH, by rw [lv]; exact ev, ?_⟩
      exact hn _ _ _ (r3.put ht hP (own_flat9 w))
  · exact h.elim
/-- t = x.pop(e) -/
theorem s_popI {t i : Nat} {x y : Str} {px py apos cpos spos : Pos} {c : Ex} {e : Expr} (g : GoodS ec cf F C T X W) (hsc : X.env.scope = sc) (hx : vrI cf sc i x = true) (hy : nmI cf sc t y = true) (he : okE cf c sc e = true) (hs : noStar e = true) (hline : (apos.endLine == cpos.line) = true) :
    PS X (.Assign [.Name y py] (.Call (.Attribute (.Name x px) "pop" apos) [e] [] cpos) spos) (tS X.K ec W F C T (.popI t i c)) := by
  obtain ⟨n1, n2, n3⟩ := nm_of g hsc hy
  refine PS.imp (ps_set g.g.nd n1 n2 (pe_bm PySem.F.plainAttrs_list PySem.F.slot_list_pop PySem.F.type_list_pop mt_popAt (pe_slot g.g hsc hx) (pa_cons (e_ok g.g hsc he) pa_nil (starEach_of hs)) rfl (few_of (noStars1 hs) (by decide)) hline (starEach_of hs) rfl) rfl n3) fun En σ H ⟨ρ, B, Z, O, r, h⟩ => ?_
  unfold run1 at h
  obtain ⟨k, xs, e0, h⟩ := post_lst h
  obtain ⟨a, vs, O1, ea, eH, eO, na, q⟩ := r.lstAt e0
  refine ⟨_, ea, .inl ⟨rfl, vs, SqL.of eH⟩, use_E r (aft_mono (Same.refl _) (post_lift r h) fun k2 hk u H1 s1 res => ?_)⟩
  split at hk
  · rename_i n
    split at hk
    · exact hk.elim
    rename_i hb
    split at hk
    · rename_i m em
      split at hk
      · rename_i d ed
        split at hk
        · exact hk.elim
        · have lv : vs.length = xs.length := q.length
          have hi : i < ρ.length := (List.getElem?_eq_some_iff.mp e0).1
          rw [seq_set hi] at hk
          obtain ⟨ht, hn⟩ := post_set hk
          obtain ⟨v, _, _, ev, _⟩ := q.erase ed
          have q1 : Owns (Own X.K H1 (ZO Z O) k) xs vs O1 := q.imp fun d v O3 w3 => w3.mono s1 fun x z => .inl z
          obtain ⟨O', P, r3, hP, w⟩ := (r.mono s1).out (d := d) (v := v) e0 ea (s1 _ _ eH) eO na q1 (xs' := xs.eraseIdx m) (vs' := vs.eraseIdx m) fun R O3 w => by
            obtain ⟨v', O4, O5, e1, s4, s5, dj, w4, w5⟩ := w.erase ed
            rw [ev] at e1; cases e1
            exact ⟨O4, O5, s4, s5, dj, w4, w5⟩
          obtain ⟨i1, i2, i3, i4⟩ := ixN_seq em
          exact ⟨a, vs, n, m, v, rfl, by rw [res.rep.int], s1 _ _ eH, by omega, by omega, by rw [lv]; exact i1, ev, hn _ _ _ (r3.put ht hP (own_flat9 w))⟩
      · exact hk.elim
    · exact hk.elim
  · exact hk.elim
/-- x.pop(e), its value left -/
theorem s_popX {i : Nat} {x : Str} {px apos cpos epos : Pos} {c : Ex} {e : Expr} (g : GoodS ec cf F C T X W) (hsc : X.env.scope = sc) (hx : vrI cf sc i x = true) (he : okE cf c sc e = true) (hs : noStar e = true) (hline : (apos.endLine == cpos.line) = true) :
    PS X (.Expr (.Call (.Attribute (.Name x px) "pop" apos) [e] [] cpos) epos) (tS X.K ec W F C T (.popX i c)) := by
  refine PS.imp (ps_expr (pe_bm PySem.F.plainAttrs_list PySem.F.slot_list_pop PySem.F.type_list_pop mt_popAt (pe_slot g.g hsc hx) (pa_cons (e_ok g.g hsc he) pa_nil (starEach_of hs)) rfl (few_of (noStars1 hs) (by decide)) hline (starEach_of hs) rfl) rfl) fun En σ H ⟨ρ, B, Z, O, r, h⟩ => ?_
  unfold run1 at h
  obtain ⟨k, xs, e0, h⟩ := post_lst h
  obtain ⟨a, vs, O1, ea, eH, eO, na, q⟩ := r.lstAt e0
  refine ⟨_, ea, .inl ⟨rfl, vs, SqL.of eH⟩, use_E r (aft_mono (Same.refl _) (post_lift r h) fun k2 hk u H1 s1 res => ?_)⟩
  split at hk
  · rename_i n
    split at hk
    · exact hk.elim
    rename_i hb
    split at hk
    · rename_i m em
      split at hk
      · rename_i d ed
        obtain ⟨hi, hn⟩ := post_set hk
        have lv : vs.length = xs.length := q.length
        obtain ⟨v, _, _, ev, _⟩ := q.erase ed
        have q1 : Owns (Own X.K H1 (ZO Z O) k) xs vs O1 := q.imp fun d v O3 w3 => w3.mono s1 fun x z => .inl z
        obtain ⟨O', r3⟩ := (r.mono s1).less e0 ea (s1 _ _ eH) eO na q1 (xs' := xs.eraseIdx m) (vs' := vs.eraseIdx m) fun R O3 w => by
          obtain ⟨v', O4, O5, e1, s4, s5, dj, w4, w5⟩ := w.erase ed
          exact ⟨O4, s4, w4⟩
        obtain ⟨i1, i2, i3, i4⟩ := ixN_seq em
        exact ⟨a, vs, n, m, v, rfl, by rw [res.rep.int], s1 _ _ eH, by omega, by omega, by rw [lv]; exact i1, ev, hn _ _ _ r3⟩
      · exact hk.elim
    · exact hk.elim
  · exact hk.elim
theorem Owns.rev' {R : D → V → AS → Prop} : ∀ {ds : List D} {vs : List V} {O : AS}, Owns R ds vs O → Owns R ds.reverse vs.reverse O
  | [], _, _, h => by obtain ⟨e, n⟩ := h; subst e; exact ⟨rfl, n⟩
  | d :: ds, _, O, ⟨v, vs', O1, O2, e, h1, h2, r, q⟩ => by
    subst e
    rw [List.reverse_cons, List.reverse_cons]
    exact Owns.append' (O1 := O2) (O2 := O1) (fun x => by rw [h1 x]; exact Or.comm) (fun x z z' => h2 x z' z) (Owns.rev' q) ⟨v, [], O1, fun _ => False, rfl, fun x => by simp, fun _ _ z => z, r, rfl, fun _ z => z⟩
/-- x.reverse() -/
theorem s_rev {i : Nat} {x : Str} {px apos cpos epos : Pos} (g : GoodS ec cf F C T X W) (hsc : X.env.scope = sc) (hx : vrI cf sc i x = true) (hline : (apos.endLine == cpos.line) = true) :
    PS X (.Expr (.Call (.Attribute (.Name x px) "reverse" apos) [] [] cpos) epos) (tS X.K ec W F C T (.rev i)) := by
  refine PS.imp (ps_expr (pe_bm0 PySem.F.plainAttrs_list PySem.F.slot_list_reverse PySem.F.type_list_reverse mt_reverse (pe_slot g.g hsc hx) rfl hline) rfl) fun En σ H ⟨ρ, B, Z, O, r, h⟩ => ?_
  unfold run1 at h
  obtain ⟨k, xs, e0, h⟩ := post_lst h
  obtain ⟨a, vs, O1, ea, eH, eO, na, q⟩ := r.lstAt e0
  obtain ⟨hi, hn⟩ := post_set h
  obtain ⟨O', r3⟩ := r.less e0 ea eH eO na q (xs' := xs.reverse) (vs' := vs.reverse) fun R O3 w => ⟨O3, fun _ z => z, w.rev'⟩
  exact ⟨_, ea, .inl ⟨rfl, vs, SqL.of eH⟩, a, vs, rfl, rfl, eH, hn _ _ _ r3⟩
/-- x.extend(e), e a new list -/
theorem s_ext {i : Nat} {x : Str} {px apos cpos epos : Pos} {c : Ex} {e : Expr} (g : GoodS ec cf F C T X W) (hsc : X.env.scope = sc) (hx : vrI cf sc i x = true) (he : okE cf c sc e = true) (hs : noStar e = true) (hline : (apos.endLine == cpos.line) = true) :
    PS X (.Expr (.Call (.Attribute (.Name x px) "extend" apos) [e] [] cpos) epos) (tS X.K ec W F C T (.ext i c)) := by
  refine PS.imp (ps_expr (pe_bm PySem.F.plainAttrs_list PySem.F.slot_list_extend PySem.F.type_list_extend mt_extend (pe_slot g.g hsc hx) (pa_cons (e_ok g.g hsc he) pa_nil (starEach_of hs)) rfl (few_of (noStars1 hs) (by decide)) hline (starEach_of hs) rfl) rfl) fun En σ H ⟨ρ, B, Z, O, r, h⟩ => ?_
  unfold run1 at h
  obtain ⟨k, xs, e0, h⟩ := post_lst h
  obtain ⟨a, vs, O1, ea, eH, eO, na, q⟩ := r.lstAt e0
  refine ⟨_, ea, .inl ⟨rfl, vs, SqL.of eH⟩, use_E r (aft_mono (Same.refl _) (post_lift r h) fun k2 hk v H1 s1 res => ?_)⟩
  split at hk
  · rename_i l ys
    split at hk
    · rename_i hl
      obtain ⟨P, f, w⟩ := res.own1
      obtain ⟨hi, hn⟩ := post_set hk
      have w' := w
      unfold Own at w'
      obtain ⟨b, us, P', e1, e2, e3, e4, qy⟩ := w'
      subst e1
      have lv : vs.length = xs.length := q.length
      have lu : us.length = ys.length := qy.length
      have hP' : ∀ x, P' x → H x = none := fun x p => f x ((e3 x).mpr (.inr p))
      have r2 : Rel X.K B (fun x => Z x ∨ P' x) O σ H1 ρ := r.res s1 hP' fun x p => w.dom ((e3 x).mpr (.inr p))
      have q2 : Owns (Own X.K H1 (ZO (fun x => Z x ∨ P' x) O) k) xs vs O1 := by
        rw [zo_past]
        exact q.imp fun d v O3 w3 => w3.mono s1 fun x z => z.elim .inl fun z => .inr (hP' x z)
      have qy2 : Owns (Own X.K H1 (ZO (fun x => Z x ∨ P' x) O) l) ys us P' := by
        rw [zo_past]
        exact qy.imp fun d v O3 w3 => w3.mono (Same.refl _) fun x z => .inl (z.elim .inl fun z => .inr ((e3 x).mpr (.inr z)))
      obtain ⟨O', r3⟩ := r2.mix (fresh_of r hP') e0 ea (s1 _ _ eH) eO na q2 qy2 (xs' := xs ++ ys) (vs' := vs ++ us) fun R O3 P3 dj h1 h2 => ⟨fun x => O3 x ∨ P3 x, fun x z => z, Owns.append' (fun x => Iff.rfl) dj h1 h2⟩
      exact ⟨a, b, vs, us, rfl, rfl, s1 _ _ eH, e2, by rw [lv, lu, line_eq]; exact hl, hn _ _ _ r3⟩
    · exact hk.elim
  · exact hk.elim
theorem Owns.set' {R : D → V → AS → Prop} {e : D} {u : V} {P : AS} : ∀ {ds : List D} {vs : List V} {O : AS} {m : Nat}, Owns R ds vs O → R e u P → (∀ x, O x → ¬ P x) → m < ds.length → ∃ O2, (∀ x, O2 x → O x ∨ P x) ∧ Owns R (ds.set m e) (vs.set m u) O2
  | [], _, _, _, _, _, _, h => by simp at h
  | d :: ds, _, O, 0, ⟨v, vs', O1, O2, e1, h1, h2, r, q⟩, w, dj, _ => by
    subst e1
    exact ⟨fun x => P x ∨ O2 x, fun x z => z.elim .inr fun z => .inl ((h1 x).mpr (.inr z)), u, vs', P, O2, rfl, fun x => Iff.rfl, fun x p o => dj x ((h1 x).mpr (.inr o)) p, w, q⟩
  | d :: ds, _, O, m + 1, ⟨v, vs', O1, O2, e1, h1, h2, r, q⟩, w, dj, hm => by
    subst e1
    obtain ⟨O3, s, w3⟩ := Owns.set' (m := m) q w (fun x o => dj x ((h1 x).mpr (.inr o))) (by simpa using hm)
    refine ⟨fun x => O1 x ∨ O3 x, fun x z => z.elim (fun z => .inl ((h1 x).mpr (.inl z))) fun z => (s x z).imp (fun z => (h1 x).mpr (.inr z)) id, v, _, O1, O3, rfl, fun x => Iff.rfl, fun x z1 z2 => ?_, r, w3⟩
    rcases s x z2 with z | z
    · exact h2 x z1 z
    · exact dj x ((h1 x).mpr (.inl z1)) z
/-- x[i] = e -/
theorem s_put {i : Nat} {x : Str} {px tpos spos : Pos} {c cx : Ex} {e ex : Expr} (g : GoodS ec cf F C T X W) (hsc : X.env.scope = sc) (hx : vrI cf sc i x = true) (hi : okE cf cx sc ex = true) (he : okE cf c sc e = true) (hp : plainIx ex = true) :
    PS X (.Assign [.Subscript (.Name x px) ex tpos] e spos) (tS X.K ec W F C T (.put i cx c)) := by
  refine PS.imp (ps_asg (e_ok g.g hsc he) (pg_sub (pe_slot g.g hsc hx) (e_ok g.g hsc hi) set_list (by intro v; cases ex <;> first | rfl | cases hp)) (by cases e <;> rfl) (by cases e <;> rfl) (by rfl)) fun En σ H ⟨ρ, B, Z, O, r, h⟩ => ?_
  unfold run1 at h
  refine use_E r (aft_mono (Same.refl _) (post_lift r h) fun k2 hk v H1 s1 res => ?_)
  obtain ⟨j, d, ek, hq⟩ := post_need hk
  clear hk
  subst ek
  obtain ⟨P, f, w⟩ := res.own1
  obtain ⟨k, xs, e0, hq⟩ := post_lst hq
  obtain ⟨a, vs, O1, ea, eH, eO, na, q⟩ := r.lstAt e0
  have r2 := r.past (k := (some j, d)) s1 f w
  refine ⟨_, ea, use_E r2 ?_⟩
  have hq2 : aft ec W σ H1 (ev F C cx ρ) _ := post_lift (r.mono s1) hq
  refine aft_mono (Same.refl _) hq2 fun y hy u H2 s2 resy => ?_
  split at hy
  · rename_i n
    split at hy
    · rename_i m em
      obtain ⟨hi, hn⟩ := post_set hy
      have lv : vs.length = xs.length := q.length
      have f2 : ∀ x, P x → H x = none := f
      have q2 : Owns (Own X.K H2 (ZO (fun x => Z x ∨ P x) O) k) xs vs O1 := by
        rw [zo_past]
        exact q.imp fun d v O3 w3 => w3.mono (s1.trans s2) fun x z => z.elim .inl fun z => .inr (f x z)
      obtain ⟨i1, i2, i3, i4⟩ := ixN_seq em
      obtain ⟨O', r3⟩ := (r2.mono s2).mix (fresh_of r f) e0 ea (s2 _ _ (s1 _ _ eH)) eO na q2 (by rw [zo_past]; exact one_owns (w.mono s2 fun x z => .inl z)) (ys := [d]) (us := [v]) (xs' := xs.set m d) (vs' := vs.set m v) fun R O3 P3 dj h1 h2' => by
        obtain ⟨v', vs2, P4, P5, g1, g2, g3, g4, g5, g6⟩ := h2'
        cases g1
        obtain ⟨O4, t1, t2⟩ := h1.set' g4 (fun x o p => dj x o ((g2 x).mpr (.inl p))) i2
        exact ⟨O4, fun x z => (t1 x z).imp id fun z => (g2 x).mpr (.inl z), t2⟩
      exact ⟨a, vs, n, m, rfl, by rw [resy.rep.int], s2 _ _ (s1 _ _ eH), by rw [lv]; exact em, hn _ _ _ r3⟩
    · exact hy.elim
  · exact hy.elim
end
end Px

/-! PxU: a list within an owned list changes: x[i][j] = e, x[i].append(e). -/
namespace Px
open PySem PySem.Spec L2
section
variable {K : PySem.W.Frag} {A : AS}
theorem own_lst {H : Hp} {k : Nat} {ys : List D} {v : V} {O : AS} (w : Own K H A (k + 1) (.lst ys) v O) : ∃ b us O', v = .ref b ∧ H b = some (.lst us) ∧ (∀ x, O x ↔ x = b ∨ O' x) ∧ ¬ O' b ∧ Owns (Own K H A k) ys us O' := by
  unfold Own at w; exact w
theorem Owns.inner {H : Hp} {k : Nat} : ∀ {xs : List D} {vs : List V} {O1 : AS} {m : Nat} {ys : List D}, (∀ x, O1 x → A x) → Owns (Own K H A (k + 1)) xs vs O1 → xs[m]? = some (.lst ys) →
    ∃ b us O3, vs[m]? = some (.ref b) ∧ H b = some (.lst us) ∧ O1 b ∧ Owns (Own K H A k) ys us O3 ∧ (∀ x, O3 x → O1 x) ∧ ¬ O3 b ∧
      ∀ (ys' : List D) (us' : List V) (O4 : AS), (∀ x, O4 x → O3 x) → Owns (Own K (upd H b (.lst us')) A k) ys' us' O4 → ∃ O2 : AS, (∀ x, O2 x → O1 x) ∧ O2 b ∧ Owns (Own K (upd H b (.lst us')) A (k + 1)) (xs.set m (.lst ys')) vs O2
  | [], _, _, _, _, _, _, e => by simp at e
  | d :: ds, _, O1, 0, ys, hA, ⟨v, vs', P1, P2, e1, h1, h2, r, q⟩, e => by
    subst e1
    simp at e
    subst e
    obtain ⟨b, us, O', ev, eH, eO, nb, w⟩ := own_lst r
    subst ev
    have pb : P1 b := (eO b).mpr (.inl rfl)
    refine ⟨b, us, O', rfl, eH, (h1 b).mpr (.inl pb), w, fun x z => (h1 x).mpr (.inl ((eO x).mpr (.inr z))), nb, fun ys' us' O4 s4 w4 => ?_⟩
    refine ⟨fun x => (x = b ∨ O4 x) ∨ P2 x, fun x z => ?_, .inl (.inl rfl), .ref b, vs', fun x => x = b ∨ O4 x, P2, rfl, fun x => Iff.rfl, fun x z1 z2 => ?_, ?_, ?_⟩
    · rcases z with (z | z) | z
      · rw [z]; exact (h1 b).mpr (.inl pb)
      · exact (h1 x).mpr (.inl ((eO x).mpr (.inr (s4 x z))))
      · exact (h1 x).mpr (.inr z)
    · rcases z1 with z | z
      · rw [z] at z2; exact h2 b pb z2
      · exact h2 x ((eO x).mpr (.inr (s4 x z))) z2
    · unfold Own
      exact ⟨b, us', O4, rfl, upd_same, fun x => Iff.rfl, fun z => nb (s4 b z), w4⟩
    · exact q.impIn fun d m v O3 s w => w.upd (hA b ((h1 b).mpr (.inl pb))) fun z => h2 b pb (s b z)
  | d :: ds, _, O1, m + 1, ys, hA, ⟨v, vs', P1, P2, e1, h1, h2, r, q⟩, e => by
    subst e1
    obtain ⟨b, us, O3, g1, g2, g3, g4, g5, g6, g7⟩ := Owns.inner (m := m) (fun x z => hA x ((h1 x).mpr (.inr z))) q (by simpa using e)
    refine ⟨b, us, O3, by simpa using g1, g2, (h1 b).mpr (.inr g3), g4, fun x z => (h1 x).mpr (.inr (g5 x z)), g6, fun ys' us' O4 s4 w4 => ?_⟩
    obtain ⟨O2, t1, t2, t3⟩ := g7 ys' us' O4 s4 w4
    exact ⟨fun x => P1 x ∨ O2 x, fun x z => (h1 x).mpr (z.imp id (t1 x)), .inr t2, v, vs', P1, O2, rfl, fun x => Iff.rfl, fun x z1 z2 => h2 x z1 (t1 x z2), r.upd (hA b ((h1 b).mpr (.inr g3))) (fun z => h2 b z g3), t3⟩
end
section
variable {ec : EC} {W : WX} {F : List Fn} {C : List D} {T : Tab} {cf : Cf} {X : Cx} {sc : Scope} {pos : Pos}
variable {σ σ' : L2.St} {H H' H0 H1 H2 : Hp} {A : AS} {ρ ρ' : Env} {B B' : Hp} {Z P : AS} {O : Nat → AS} {En : Ends}
theorem one_owns2 {K : PySem.W.Frag} {H : Hp} {k : Nat} {d : D} {v : V} {P : AS} (w : Own K H A k d v P) : Owns (Own K H A k) [d] [v] P := ⟨v, [], P, fun _ => False, rfl, fun x => by simp, fun _ _ z => z, w, rfl, fun _ z => z⟩
/-- an object within slot i's list changes -/
theorem Rel.in2 {K : PySem.W.Frag} {i k : Nat} {xs xs' : List D} {a b : Addr} {vs us' : List V} {O1 O2 : AS} (r : Rel K B Z O σ H ρ) (e : ρ[i]? = some (some (k + 2, .lst xs))) (ea : σ[i]? = some (some (.ref a))) (eH : H a = some (.lst vs)) (eO : ∀ x, O i x ↔ x = a ∨ O1 x) (na : ¬ O1 a)
    (ob : O1 b) (s : ∀ x, O2 x → O1 x) (q : Owns (Own K (upd H b (.lst us')) (ZO Z O) (k + 1)) xs' vs O2) : Rel K B Z (setO O i fun x => x = a ∨ O2 x) σ (upd H b (.lst us')) (ρ.set i (some (k + 2, .lst xs'))) := by
  have hi : i < ρ.length := (List.getElem?_eq_some_iff.mp e).1
  have oib : O i b := (eO b).mpr (.inr ob)
  have ab : a ≠ b := fun h => na (h ▸ ob)
  have sub : ∀ j x, setO O i (fun x => x = a ∨ O2 x) j x → O j x := fun j x h => by
    by_cases ej : j = i
    · subst ej; rw [setO_same] at h
      exact (eO x).mpr (h.imp id (s x))
    · rw [setO_ne ej] at h; exact h
  have hin : ∀ x, ZO Z (setO O i fun x => x = a ∨ O2 x) x → ZO Z O x := by
    rintro x (z | ⟨j, z⟩)
    · exact .inl z
    · exact .inr ⟨j, sub j x z⟩
  have up : ∀ x, IsM H x → IsM (upd H b (.lst us')) x := fun x m => by
    by_cases ex : x = b
    · subst ex; exact .inl ⟨_, upd_same⟩
    · rcases m with ⟨u, m⟩ | ⟨u, m⟩
      · exact .inl ⟨u, by rw [upd_ne ex]; exact m⟩
      · exact .inr ⟨u, by rw [upd_ne ex]; exact m⟩
  refine ⟨by rw [List.length_set]; exact r.len, fun x z => up x (r.zm x z), fun j j' x p1 p2 => r.dj j j' x (sub j x p1) (sub j' x p2), fun j x h => r.fr j x (sub j x h), ?_, ?_, ?_⟩
  · intro c o ec
    have : c ≠ b := fun h => by subst h; rw [(r.fr i c oib).2] at ec; cases ec
    rw [upd_ne this]; exact r.base c o ec
  · intro j kk d eq
    by_cases ej : j = i
    · subst ej
      rw [List.getElem?_set_self hi] at eq
      cases eq
      refine ⟨_, ea, ?_⟩
      rw [setO_same]
      unfold Own
      exact ⟨a, vs, O2, rfl, (upd_ne ab).trans eH, fun x => Iff.rfl, fun z => na (s a z), q.imp fun d v O3 w => w.mono (Same.refl _) fun x z => .inl (hin x z)⟩
    · rw [List.getElem?_set_ne (Ne.symm ej)] at eq
      obtain ⟨u, e1, w⟩ := r.own j kk d eq
      refine ⟨u, e1, ?_⟩
      rw [setO_ne ej]
      exact (w.upd (.inr ⟨i, oib⟩) fun h => ej (r.dj j i b h oib)).mono (Same.refl _) fun x z => .inl (hin x z)
  · intro j h x hx
    by_cases ej : j = i
    · subst ej
      exact absurd (List.getElem?_set_self hi) (h _ _)
    · exact r.non j (fun k' d' q => h k' d' (by rw [List.getElem?_set_ne (Ne.symm ej)]; exact q)) x (sub j x hx)
/-- x[i][j] = e, e no container -/
theorem s_put2 {i : Nat} {x : Str} {px tpos tpos2 spos : Pos} {c cx cy : Ex} {e ex ey : Expr} (g : GoodS ec cf F C T X W) (hsc : X.env.scope = sc) (hx : vrI cf sc i x = true) (hi : okE cf cx sc ex = true) (hj : okE cf cy sc ey = true) (he : okE cf c sc e = true) (hp : plainIx ex = true) (hp2 : plainIx ey = true) :
    PS X (.Assign [.Subscript (.Subscript (.Name x px) ex tpos) ey tpos2] e spos) (tS X.K ec W F C T (.put2 i cx cy c)) := by
  refine PS.imp (ps_asg (e_ok g.g hsc he) (pg_sub (pe_ix ix_list (pe_slot g.g hsc hx) (e_ok g.g hsc hi) (plainIx_of hp)) (e_ok g.g hsc hj) set_list (by intro v; cases ey <;> first | rfl | cases hp2)) (by cases e <;> rfl) (by cases e <;> rfl) (by rfl)) fun En σ H ⟨ρ, B, Z, O, r, h⟩ => ?_
  unfold run1 at h
  refine use_E r (aft_mono (Same.refl _) (post_lift r h) fun k2 hk v H1 s1 res => ?_)
  obtain ⟨j, d, ek, hq⟩ := post_need hk
  clear hk
  subst ek
  split at hq
  · exact hq.elim
  rename_i dc
  have dc : d.cont = false := by simpa using dc
  obtain ⟨P, f, w⟩ := res.own1
  obtain ⟨nP, rv⟩ := (Own.flat dc).mp w
  obtain ⟨k, xs, e0, hq⟩ := post_lst hq
  obtain ⟨a, vs, O1, ea, eH, eO, na, q⟩ := r.lstAt e0
  have r1 : Rel X.K B Z O σ H1 ρ := r.mono s1
  refine ⟨_, ea, use_E r1 ?_⟩
  refine aft_mono (Same.refl _) (post_lift r1 hq) fun y hy u H2 s2 resy => ?_
  clear hq
  split at hy
  case h_2 => exact hy.elim
  rename_i k _ n
  split at hy
  case h_2 => exact hy.elim
  rename_i m em
  split at hy
  case h_2 => exact hy.elim
  rename_i ys eys
  have s12 := s1.trans s2
  have r2 : Rel X.K B Z O σ H2 ρ := r.mono s12
  have q2 : Owns (Own X.K H2 (ZO Z O) (k + 1)) xs vs O1 := q.imp fun d v O3 w3 => w3.mono s12 fun x z => .inl z
  have lv : vs.length = xs.length := q.length
  obtain ⟨b, us, O3, g1, g2, g3, g4, g5, g6, g7⟩ := q2.inner (fun x z => .inr ⟨i, (eO x).mpr (.inr z)⟩) eys
  have ai : atI vs n = some (.ref b) := by
    unfold atI
    rw [lv, em]
    exact g1
  refine ⟨a, vs, n, .ref b, rfl, by rw [resy.rep.int], .inl (.inl (s12 _ _ eH)), ai, use_E r2 ?_⟩
  refine aft_mono (Same.refl _) (post_lift r2 hy) fun y2 hy2 u2 H3 s3 resy2 => ?_
  clear hy
  split at hy2
  case h_2 => exact hy2.elim
  rename_i n2
  split at hy2
  case h_2 => exact hy2.elim
  rename_i m2 em2
  obtain ⟨hi', hn⟩ := post_set hy2
  have s123 := s12.trans s3
  have r3 : Rel X.K B Z O σ H3 ρ := r.mono s123
  have q3 : Owns (Own X.K H3 (ZO Z O) (k + 1)) xs vs O1 := q.imp fun d v O3 w3 => w3.mono s123 fun x z => .inl z
  obtain ⟨b', us', O3', g1', g2', g3', g4', g5', g6', g7'⟩ := q3.inner (fun x z => .inr ⟨i, (eO x).mpr (.inr z)⟩) eys
  have eb : b' = b := by rw [g1] at g1'; cases g1'; rfl
  subst eb
  have lu : us'.length = ys.length := g4'.length
  have zb : ZO Z O b' := .inr ⟨i, (eO b').mpr (.inr g3')⟩
  obtain ⟨i1, i2, i3, i4⟩ := ixN_seq em2
  have rv' : Own X.K H3 (ZO Z O) k d v fun _ => False := (Own.flat dc).mpr ⟨fun _ z => z, rv.mono fun b o q => cut_heap (s2.trans s3) b o (cut_set (fun x z => .inl z) b o q)⟩
  obtain ⟨O4, t1, t2⟩ := g4'.set' rv' (fun x o z => z) i2
  have t2' : Owns (Own X.K (upd H3 b' (.lst (us'.set m2 v))) (ZO Z O) k) (ys.set m2 d) (us'.set m2 v) O4 := t2.impIn fun d m v O5 s w => w.upd zb fun z => by
    rcases t1 b' (s b' z) with z | z
    · exact g6' z
    · exact z
  obtain ⟨O2, p1, p2, p3⟩ := g7' (ys.set m2 d) (us'.set m2 v) O4 (fun x z => (t1 x z).elim id False.elim) t2'
  exact ⟨b', us', n2, m2, rfl, by rw [resy2.rep.int], g2', by rw [lu]; exact em2, hn _ _ _ (r3.in2 e0 ea (s123 _ _ eH) eO na g3' p1 p3)⟩
/-- x[i].append(e), e no container -/
theorem s_app2 {i : Nat} {x : Str} {px tpos apos cpos epos : Pos} {c cx : Ex} {e ex : Expr} (g : GoodS ec cf F C T X W) (hsc : X.env.scope = sc) (hx : vrI cf sc i x = true) (hi : okE cf cx sc ex = true) (he : okE cf c sc e = true) (hp : plainIx ex = true) (hs : noStar e = true) (hline : (apos.endLine == cpos.line) = true) :
    PS X (.Expr (.Call (.Attribute (.Subscript (.Name x px) ex tpos) "append" apos) [e] [] cpos) epos) (tS X.K ec W F C T (.app2 i cx c)) := by
  refine PS.imp (ps_expr (pe_bm PySem.F.plainAttrs_list PySem.F.slot_list_append PySem.F.type_list_append mt_append (pe_ix ix_list (pe_slot g.g hsc hx) (e_ok g.g hsc hi) (plainIx_of hp)) (pa_cons (e_ok g.g hsc he) pa_nil (starEach_of hs)) rfl (few_of (noStars1 hs) (by decide)) hline (starEach_of hs) rfl) rfl) fun En σ H ⟨ρ, B, Z, O, r, h⟩ => ?_
  unfold run1 at h
  obtain ⟨k, xs, e0, h⟩ := post_lst h
  obtain ⟨a, vs, O1, ea, eH, eO, na, q⟩ := r.lstAt e0
  refine ⟨_, ea, use_E r ?_⟩
  refine aft_mono (Same.refl _) (post_lift r h) fun y hy u H2 s2 resy => ?_
  clear h
  split at hy
  case h_2 => exact hy.elim
  rename_i k _ n
  split at hy
  case h_2 => exact hy.elim
  rename_i m em
  split at hy
  case h_2 => exact hy.elim
  rename_i ys eys
  have r2 : Rel X.K B Z O σ H2 ρ := r.mono s2
  have q2 : Owns (Own X.K H2 (ZO Z O) (k + 1)) xs vs O1 := q.imp fun d v O3 w3 => w3.mono s2 fun x z => .inl z
  have lv : vs.length = xs.length := q.length
  obtain ⟨b, us, O3, g1, g2, g3, g4, g5, g6, g7⟩ := q2.inner (fun x z => .inr ⟨i, (eO x).mpr (.inr z)⟩) eys
  have ai : atI vs n = some (.ref b) := by
    unfold atI
    rw [lv, em]
    exact g1
  refine ⟨a, vs, n, .ref b, rfl, by rw [resy.rep.int], .inl (.inl (s2 _ _ eH)), ai, .inl ⟨rfl, us, SqL.of g2⟩, use_E r2 (aft_mono (Same.refl _) (post_lift r2 hy) fun k2 hk v H3 s3 res => ?_)⟩
  obtain ⟨j, d, ek, hq⟩ := post_need hk
  clear hk
  subst ek
  split at hq
  · exact hq.elim
  rename_i dc
  have dc : d.cont = false := by simpa using dc
  obtain ⟨P, f, w⟩ := res.own1
  obtain ⟨nP, rv⟩ := (Own.flat dc).mp w
  split at hq
  case isFalse => exact hq.elim
  rename_i hl
  obtain ⟨hi', hn⟩ := post_set hq
  have s23 := s2.trans s3
  have r3 : Rel X.K B Z O σ H3 ρ := r.mono s23
  have q3 : Owns (Own X.K H3 (ZO Z O) (k + 1)) xs vs O1 := q.imp fun d v O3 w3 => w3.mono s23 fun x z => .inl z
  obtain ⟨b', us', O3', g1', g2', g3', g4', g5', g6', g7'⟩ := q3.inner (fun x z => .inr ⟨i, (eO x).mpr (.inr z)⟩) eys
  have eb : b' = b := by rw [g1] at g1'; cases g1'; rfl
  subst eb
  have lu : us'.length = ys.length := g4'.length
  have zb : ZO Z O b' := .inr ⟨i, (eO b').mpr (.inr g3')⟩
  have rv' : Own X.K H3 (ZO Z O) k d v fun _ => False := (Own.flat dc).mpr ⟨fun _ z => z, rv.mono fun b o q => cut_set (fun x z => .inl z) b o q⟩
  have t2 : Owns (Own X.K H3 (ZO Z O) k) (ys ++ [d]) (us' ++ [v]) O3' := Owns.append' (O1 := O3') (O2 := fun _ => False) (fun x => by simp) (fun x _ z => z) g4' (one_owns2 rv')
  have t2' : Owns (Own X.K (upd H3 b' (.lst (us' ++ [v]))) (ZO Z O) k) (ys ++ [d]) (us' ++ [v]) O3' := t2.impIn fun d m v O5 s w => w.upd zb fun z => g6' (s b' z)
  obtain ⟨O2, p1, p2, p3⟩ := g7' (ys ++ [d]) (us' ++ [v]) O3' (fun x z => z) t2'
  exact ⟨b', us', v, rfl, rfl, g2', by rw [lu, line_eq]; exact hl, hn _ _ _ (r3.in2 e0 ea (s23 _ _ eH) eO na g3' p1 p3)⟩
end
end Px

/-! PxY: d[y] = e, flat values. -/
namespace Px
open PySem PySem.Spec L2
section
variable {K : PySem.W.Frag} {H : Hp} {A : AS}
theorem any_ky {y : D} (hy : keyD y = true) : ∀ {ks : List D} {kvs : List (Key × V)}, ks.map keyOf = kvs.map (fun p => some p.1) → (ks.any fun k => eqK k y) = kvs.any fun kv => decide (kv.1 = kyOf y)
  | [], [], _ => rfl
  | [], _ :: _, h => by cases h
  | _ :: _, [], h => by cases h
  | k :: ks, p :: kvs, h => by
    rw [List.map_cons, List.map_cons, List.cons.injEq] at h
    rw [List.any_cons, List.any_cons, any_ky hy h.2, ky_eq h.1 hy]
theorem putV_ok {y d : D} {v : V} (hy : keyD y = true) (rd : RepR K H d v) : ∀ {ks vs : List D} {kvs : List (Key × V)}, ks.map keyOf = kvs.map (fun p => some p.1) → RepRs K H vs (kvs.map (·.2)) →
    RepRs K H (putV ks vs y d) ((kvs.map fun kv => if kv.1 = kyOf y then (kv.1, v) else kv).map (·.2))
  | [], vs, [], _, _ => by cases vs <;> exact RepRs.nil
  | [], _, _ :: _, h, _ => by cases h
  | _ :: _, _, [], h, _ => by cases h
  | k :: ks, vs, p :: kvs, h, r => by
    rw [List.map_cons, List.map_cons, List.cons.injEq] at h
    cases vs with
    | nil => unfold RepRs at r; cases r
    | cons d' vs =>
      rw [List.map_cons] at r
      unfold RepRs at r
      obtain ⟨v', vs', e, r1, r2⟩ := r
      rw [List.cons.injEq] at e
      obtain ⟨rfl, rfl⟩ := e
      have q := ky_eq h.1 hy
      rw [List.map_cons, List.map_cons]
      show RepRs K H ((if eqK k y then d else d') :: putV ks vs y d) _
      rw [q]
      refine RepRs.cons ?_ (putV_ok hy rd h.2 r2)
      by_cases c : p.1 = kyOf y
      · rw [decide_eq_true c, if_pos rfl, if_pos c]; exact rd
      · rw [decide_eq_false c, if_neg Bool.false_ne_true, if_neg c]; exact r1
theorem put_ok {y d : D} {v : V} (hy : keyD y = true) (rd : RepR K H d v) {ks vs : List D} {kvs : List (Key × V)} (h : ks.map keyOf = kvs.map (fun p => some p.1)) (r : RepRs K H vs (kvs.map (·.2))) :
    (dctPut ks vs y d).1.map keyOf = (putK kvs (kyOf y) v).map (fun p => some p.1) ∧ RepRs K H (dctPut ks vs y d).2 ((putK kvs (kyOf y) v).map (·.2)) := by
  unfold dctPut putK
  rw [any_ky hy h]
  split
  · refine ⟨?_, putV_ok hy rd h r⟩
    rw [h, List.map_map]
    refine List.map_congr_left fun p _ => ?_
    show some p.1 = some (if p.1 = kyOf y then (p.1, v) else p).1
    split <;> rfl
  · refine ⟨?_, ?_⟩
    · rw [List.map_append, List.map_append, h, List.map_cons, List.map_nil, List.map_cons, List.map_nil, ky_of hy]
    · rw [List.map_append]
      exact r.append (RepRs.cons rd RepRs.nil)
end
section
variable {ec : EC} {W : WX} {F : List Fn} {C : List D} {T : Tab} {cf : Cf} {X : Cx} {sc : Scope} {pos : Pos} {K : PySem.W.Frag}
variable {σ σ' : L2.St} {H H' H0 H1 H2 : Hp} {A : AS} {ρ ρ' : Env} {B B' : Hp} {Z P : AS} {O : Nat → AS} {En : Ends}
theorem post_dct {i : Nat} {f : List D → List D → Rs} (h : post K ec W B Z En (dctAt ρ i f)) : ∃ k ks vs, ρ[i]? = some (some (k + 1, .dct ks vs)) ∧ vs.any D.cont = false ∧ post K ec W B Z En (f ks vs) := by
  unfold dctAt at h
  split at h
  · split at h
    · exact h.elim
    · rename_i hc
      exact ⟨_, _, _, by assumption, by simpa using hc, h⟩
  · exact h.elim
theorem Rel.dctAt {i k : Nat} {ks vs : List D} (r : Rel K B Z O σ H ρ) (e : ρ[i]? = some (some (k + 1, .dct ks vs))) : ∃ a kvs O1, σ[i]? = some (some (.ref a)) ∧ H a = some (.dK kvs) ∧ ks.map keyOf = kvs.map (fun p => some p.1) ∧ (∀ x, O i x ↔ x = a ∨ O1 x) ∧ ¬ O1 a ∧ Owns (Own K H (ZO Z O) k) vs (kvs.map (·.2)) O1 := by
  obtain ⟨v, ev, w⟩ := r.own i _ _ e
  unfold Own at w
  obtain ⟨a, kvs, O1, e1, e2, e3, e4, e5, q⟩ := w
  subst e1
  exact ⟨a, kvs, O1, ev, e2, e3, e4, e5, q⟩
theorem Rel.mutD {i k : Nat} {ks ks' vs vs' : List D} {a : Addr} {kvs kvs' : List (Key × V)} {O1 : AS} (r : Rel K B (fun x => Z x ∨ P x) O σ H ρ) (e : ρ[i]? = some (some (k + 1, .dct ks vs))) (ea : σ[i]? = some (some (.ref a))) (eH : H a = some (.dK kvs)) (eO : ∀ x, O i x ↔ x = a ∨ O1 x)
    (hk : ks'.map keyOf = kvs'.map (fun p => some p.1)) (q : RepRs K (cut H (ZO Z (setO O i fun x => x = a))) vs' (kvs'.map (·.2))) : Rel K B Z (setO O i fun x => x = a) σ (upd H a (.dK kvs')) (ρ.set i (some (1, .dct ks' vs'))) := by
  have hi : i < ρ.length := (List.getElem?_eq_some_iff.mp e).1
  have oa : O i a := (eO a).mpr (.inl rfl)
  have sub : ∀ j x, setO O i (fun x => x = a) j x → O j x := fun j x h => by
    by_cases ej : j = i
    · subst ej; rw [setO_same] at h
      exact (eO x).mpr (.inl h)
    · rw [setO_ne ej] at h; exact h
  have up : ∀ x, IsM H x → IsM (upd H a (.dK kvs')) x := fun x m => by
    by_cases ex : x = a
    · subst ex; exact .inr ⟨_, upd_same⟩
    · rcases m with ⟨u, m⟩ | ⟨u, m⟩
      · exact .inl ⟨u, by rw [upd_ne ex]; exact m⟩
      · exact .inr ⟨u, by rw [upd_ne ex]; exact m⟩
  have aIn : ZO Z (setO O i fun x => x = a) a := .inr ⟨i, by rw [setO_same]⟩
  refine ⟨by rw [List.length_set]; exact r.len, fun x z => up x (r.zm x (.inl z)), fun j j' x h1 h2 => r.dj j j' x (sub j x h1) (sub j' x h2), fun j x h => ⟨fun z => (r.fr j x (sub j x h)).1 (.inl z), (r.fr j x (sub j x h)).2⟩, ?_, ?_, ?_⟩
  · intro b o eb
    have : b ≠ a := fun h => by subst h; rw [(r.fr i b oa).2] at eb; cases eb
    rw [upd_ne this]; exact r.base b o eb
  · intro j kk d eq
    by_cases ej : j = i
    · subst ej
      rw [List.getElem?_set_self hi] at eq
      cases eq
      refine ⟨_, ea, ?_⟩
      rw [setO_same]
      unfold Own
      refine ⟨a, kvs', fun _ => False, rfl, upd_same, hk, fun x => by simp, id, Owns.frz (fun _ _ _ n r => ⟨n, r⟩) (fun _ z => z) ?_⟩
      rw [cut_upd aIn]
      exact q
    · rw [List.getElem?_set_ne (Ne.symm ej)] at eq
      obtain ⟨u, e1, w⟩ := r.own j kk d eq
      refine ⟨u, e1, ?_⟩
      rw [setO_ne ej]
      have na' : ¬ O j a := fun h => ej (r.dj j i a h oa)
      refine (w.mono (Same.refl _) fun x z => .inl ?_).upd aIn na'
      rcases z with z | ⟨j', z⟩
      · exact .inl (.inl z)
      · exact .inr ⟨j', sub j' x z⟩
  · intro j h x hx
    by_cases ej : j = i
    · subst ej
      exact absurd (List.getElem?_set_self hi) (h _ _)
    · rw [setO_ne ej] at hx
      exact r.non j (fun k' d' q => h k' d' (by rw [List.getElem?_set_ne (Ne.symm ej)]; exact q)) x hx
/-- d[y] = e -/
theorem s_dput {i : Nat} {x : Str} {px tpos spos : Pos} {c cy : Ex} {e ey : Expr} (g : GoodS ec cf F C T X W) (hsc : X.env.scope = sc) (hx : vrI cf sc i x = true) (hi : okE cf cy sc ey = true) (he : okE cf c sc e = true) (hp : plainIx ey = true) :
    PS X (.Assign [.Subscript (.Name x px) ey tpos] e spos) (tS X.K ec W F C T (.dput i cy c)) := by
  refine PS.imp (ps_dput (by have := g.g.un; omega) (pe_slot g.g hsc hx) (e_ok g.g hsc hi) (e_ok g.g hsc he) (by cases e <;> rfl)) fun En σ H ⟨ρ, B, Z, O, r, h⟩ => ?_
  unfold run1 at h
  refine use_E r (aft_mono (Same.refl _) (post_lift r h) fun k2 hk v H1 s1 res => ?_)
  obtain ⟨j, d, ek, hq⟩ := post_need hk
  clear hk
  subst ek
  split at hq
  · exact hq.elim
  rename_i hc
  have hc : d.cont = false := by simpa using hc
  obtain ⟨P, f, w⟩ := res.own1
  obtain ⟨k, ks, vs, e0, hv, hq⟩ := post_dct hq
  obtain ⟨a, kvs, O1, ea, eH, hks, eO, na, q⟩ := r.dctAt e0
  have r2 := r.past (k := (some j, d)) s1 f w
  refine ⟨_, ea, use_E r2 ?_⟩
  have hq2 : aft ec W σ H1 (ev F C cy ρ) _ := post_lift (r.mono s1) hq
  refine aft_mono (Same.refl _) hq2 fun y hy u H2 s2 resy => ?_
  split at hy
  case isFalse => exact hy.elim
  rename_i hh
  rw [Bool.and_eq_true, decide_eq_true_eq] at hh
  obtain ⟨hi, hn⟩ := post_set hy
  have eH2 : H2 a = some (.dK kvs) := s2 _ _ (s1 _ _ eH)
  have hu := ky_val hh.1 resy.rep
  have ln : kvs.length = ks.length := by
    have := congrArg List.length hks
    simpa using this.symm
  have oa : O i a := (eO a).mpr (.inl rfl)
  have sub : ∀ x, ZO Z (setO O i fun x => x = a) x → ZO Z O x := by
    rintro x (z | ⟨j', z⟩)
    · exact .inl z
    · by_cases ej : j' = i
      · subst ej; rw [setO_same] at z; subst z; exact .inr ⟨j', oa⟩
      · rw [setO_ne ej] at z; exact .inr ⟨j', z⟩
  have rv : RepR X.K (cut H2 (ZO Z (setO O i fun x => x = a))) d v := by
    have := (Own.flat hc).mp w
    exact this.2.mono ((cut_heap s2).trans (cut_set fun x z => .inl (sub x z)))
  have rs : RepRs X.K (cut H2 (ZO Z (setO O i fun x => x = a))) vs (kvs.map (·.2)) := by
    have : RepRs X.K (cut H (ZO Z O)) vs (kvs.map (·.2)) := by
      have q0 := Owns.none_of (cont_of hv) q
      exact (q0.impIn (R' := fun d v _ => RepR X.K (cut H (ZO Z O)) d v) fun d m v O' _ r => ((Own.flat (cont_of hv d m)).mp r).2).rep fun _ _ _ r => r
    exact this.mono ((cut_heap (s1.trans s2)).trans (cut_set sub))
  obtain ⟨p1, p2⟩ := put_ok hh.1 rv hks rs
  exact ⟨a, _, rfl, .inl ⟨kvs, _, eH2, hu, by rw [ln, sizeLine_eq]; have := hh.2; unfold line at this; omega, rfl⟩, hn _ _ _ ((r2.mono s2).mutD e0 ea eH2 eO p1 p2)⟩
end
end Px

/-! PxT: d[y] op= e, d.pop(y). -/
namespace Px
open PySem PySem.Spec L2
section
variable {K : PySem.W.Frag} {H : Hp} {A : AS}
theorem drop_ok {y : D} (hy : keyD y = true) : ∀ {ks vs : List D} {kvs : List (Key × V)}, ks.map keyOf = kvs.map (fun p => some p.1) → RepRs K H vs (kvs.map (·.2)) →
    (dropKs ks y).map keyOf = (dropK kvs (kyOf y)).map (fun p => some p.1) ∧ RepRs K H (dropVs ks vs y) ((dropK kvs (kyOf y)).map (·.2))
  | [], vs, [], _, _ => ⟨rfl, by cases vs <;> exact RepRs.nil⟩
  | [], _, _ :: _, h, _ => by cases h
  | _ :: _, _, [], h, _ => by cases h
  | k :: ks, vs, p :: kvs, h, r => by
    rw [List.map_cons, List.map_cons, List.cons.injEq] at h
    cases vs with
    | nil => unfold RepRs at r; cases r
    | cons d' vs =>
      rw [List.map_cons] at r
      unfold RepRs at r
      obtain ⟨v', vs', e, r1, r2⟩ := r
      rw [List.cons.injEq] at e
      obtain ⟨rfl, rfl⟩ := e
      have q := ky_eq h.1 hy
      obtain ⟨i1, i2⟩ := drop_ok hy h.2 r2
      unfold dropKs at i1 ⊢
      unfold dropK at i1 i2 ⊢
      rw [List.filter_cons, List.filter_cons]
      unfold dropVs
      rw [q]
      by_cases c : p.1 = kyOf y
      · simp only [c, decide_true, Bool.not_true, Bool.false_eq_true, if_false, if_true, ne_eq, not_true_eq_false, decide_false]
        exact ⟨i1, i2⟩
      · simp only [c, decide_false, Bool.not_false, if_true, Bool.false_eq_true, if_false, ne_eq, not_false_eq_true, decide_true, List.map_cons]
        exact ⟨by rw [h.1, i1], RepRs.cons r1 i2⟩
end
section
variable {ec : EC} {W : WX} {F : List Fn} {C : List D} {T : Tab} {cf : Cf} {X : Cx} {sc : Scope} {pos : Pos} {K : PySem.W.Frag}
variable {σ σ' : L2.St} {H H' H0 H1 H2 : Hp} {A : AS} {ρ ρ' : Env} {B B' : Hp} {Z P : AS} {O : Nat → AS} {En : Ends}
theorem zo_sub {i : Nat} {a : Addr} (oa : O i a) : ∀ x, ZO Z (setO O i fun x => x = a) x → ZO Z O x := by
  rintro x (z | ⟨j', z⟩)
  · exact .inl z
  · by_cases ej : j' = i
    · subst ej; rw [setO_same] at z; subst z; exact .inr ⟨j', oa⟩
    · rw [setO_ne ej] at z; exact .inr ⟨j', z⟩
theorem flat_reps {k : Nat} {vs : List D} {us : List V} {O1 : AS} (hv : vs.any D.cont = false) (q : Owns (Own K H A k) vs us O1) : RepRs K (cut H A) vs us := by
  have q0 := Owns.none_of (cont_of hv) q
  exact (q0.impIn (R' := fun d v _ => RepR K (cut H A) d v) fun d m v O' _ r => ((Own.flat (cont_of hv d m)).mp r).2).rep fun _ _ _ r => r
theorem Rel.past0 (r : Rel K B Z O σ H ρ) : Rel K B (fun x => Z x ∨ (fun _ => False) x) O σ H ρ := by
  have : (fun x => Z x ∨ (fun _ => False) x) = Z := by funext x; simp
  rw [this]; exact r
/-- d[y] op= e -/
theorem s_daug {i : Nat} {o : Operator} {x : Str} {px tpos spos : Pos} {c cy : Ex} {e ey : Expr} (g : GoodS ec cf F C T X W) (hsc : X.env.scope = sc) (hx : vrI cf sc i x = true) (hi : okE cf cy sc ey = true) (he : okE cf c sc e = true) (ho : o = .Add ∨ o = .Sub) (pl : plainIx ey = true) :
    PS X (.AugAssign (.Subscript (.Name x px) ey tpos) o e spos) (tS X.K ec W F C T (.daug i cy o c)) := by
  have core : ∀ {rd : V → V → Hp → VK → Prop}, (∀ (a b : Int) (H : Hp) (Q : VK), Q (.int (if o = .Add then a + b else a - b)) H → rd (.int a) (.int b) H Q) → InOp X o rd → PS X (.AugAssign (.Subscript (.Name x px) ey tpos) o e spos) (tS X.K ec W F C T (.daug i cy o c)) := by
    intro rd hrd hp
    refine PS.imp (ps_daug (by have := g.g.un; omega) (pe_slot g.g hsc hx) (e_ok g.g hsc hi) (e_ok g.g hsc he) hp (by intro ov iv new; cases ey <;> first | rfl | cases pl)) fun En σ H ⟨ρ, B, Z, O, r, h⟩ => ?_
    unfold run1 at h
    obtain ⟨k, ks, vs, e0, hv, hq⟩ := post_dct h
    obtain ⟨a, kvs, O1, ea, eH, hks, eO, na, q⟩ := r.dctAt e0
    refine ⟨_, ea, use_E r (aft_mono (Same.refl _) (post_lift r hq) fun y hy u H1 s1 resy => ?_)⟩
    split at hy
    case h_2 => exact hy.elim
    rename_i a0 em
    split at hy
    case isFalse => exact hy.elim
    rename_i hh
    rw [Bool.and_eq_true, decide_eq_true_eq] at hh
    have hu := ky_val hh.1 resy.rep
    obtain ⟨v0, e1, rv0⟩ : ∃ v0, valV kvs (kyOf y.2) = some v0 ∧ RepR X.K H (.int a0) v0 := by
      rcases dct_val hh.1 hks (q.rep fun _ _ _ w => w.rep) with ⟨d, v, e1, e2, e3, _⟩ | ⟨e1, _⟩
      · rw [em] at e1; cases e1; exact ⟨v, e2, e3⟩
      · rw [em] at e1; cases e1
    refine ⟨a, v0, rfl, .inl ⟨kvs, _, .inl (s1 _ _ eH), hu, e1.symm⟩, ?_⟩
    refine use_E (r.mono s1) (aft_mono (Same.refl _) (post_lift (r.mono s1) hy) fun k2 hk v H2 s2 res => ?_)
    split at hk
    case h_2 => exact hk.elim
    rename_i b
    rw [rv0.int, res.rep.int]
    refine hrd _ _ _ _ ?_
    obtain ⟨hi, hn⟩ := post_set hk
    have eH2 : H2 a = some (.dK kvs) := s2 _ _ (s1 _ _ eH)
    have ln : kvs.length = ks.length := by
      have := congrArg List.length hks
      simpa using this.symm
    have oa : O i a := (eO a).mpr (.inl rfl)
    have rs : RepRs X.K (cut H2 (ZO Z (setO O i fun x => x = a))) vs (kvs.map (·.2)) := (flat_reps hv q).mono ((cut_heap (s1.trans s2)).trans (cut_set (zo_sub oa)))
    have rv : RepR X.K (cut H2 (ZO Z (setO O i fun x => x = a))) (.int (if o = .Add then a0 + b else a0 - b)) (.int (if o = .Add then a0 + b else a0 - b)) := by unfold RepR; rfl
    obtain ⟨p1, p2⟩ := put_ok hh.1 rv hks rs
    exact ⟨_, .inl ⟨kvs, _, eH2, hu, by rw [ln, sizeLine_eq]; have := hh.2; unfold line at this; omega, rfl⟩, hn _ _ _ ((((r.mono s1).mono s2).past0).mutD e0 ea eH2 eO p1 p2)⟩
  rcases ho with ho | ho
  · subst ho
    exact core (fun a b H Q q => by first | exact ⟨a, b, rfl, rfl, q⟩ | exact .inl ⟨a, b, rfl, rfl, q⟩) in_add
  · subst ho
    exact core (fun a b H Q q => by first | exact ⟨a, b, rfl, rfl, q⟩ | exact .inl ⟨a, b, rfl, rfl, q⟩) in_sub
/-- d.pop(y) -/
theorem s_dpop {i : Nat} {x : Str} {px apos cpos spos : Pos} {cy : Ex} {ey : Expr} (g : GoodS ec cf F C T X W) (hsc : X.env.scope = sc) (hx : vrI cf sc i x = true) (hi : okE cf cy sc ey = true) (hs : noStar ey = true) (hline : (apos.endLine == cpos.line) = true) :
    PS X (.Expr (.Call (.Attribute (.Name x px) "pop" apos) [ey] [] cpos) spos) (tS X.K ec W F C T (.dpop i cy)) := by
  have m : M1 X (.Name x px) "pop" apos ey cpos := ⟨rfl, few_of (noStars1 hs) (by decide), hline, by rw [starEach_of hs]; rfl⟩
  refine PS.imp (ps_expr (pe_dpop1 (pe_slot g.g hsc hx) (e_ok g.g hsc hi) m) rfl) fun En σ H ⟨ρ, B, Z, O, r, h⟩ => ?_
  unfold run1 at h
  obtain ⟨k, ks, vs, e0, hv, hq⟩ := post_dct h
  obtain ⟨a, kvs, O1, ea, eH, hks, eO, na, q⟩ := r.dctAt e0
  refine ⟨_, ea, a, rfl, .inl ⟨kvs, .inl eH⟩, ?_⟩
  refine use_E r (aft_mono (Same.refl _) (post_lift r hq) fun y hy u H1 s1 resy => ?_)
  split at hy
  case isFalse => exact hy.elim
  rename_i hh
  rw [Bool.and_eq_true] at hh
  have hu := ky_val hh.1 resy.rep
  obtain ⟨hi, hn⟩ := post_set hy
  have oa : O i a := (eO a).mpr (.inl rfl)
  have rs : RepRs X.K (cut H1 (ZO Z (setO O i fun x => x = a))) vs (kvs.map (·.2)) := (flat_reps hv q).mono ((cut_heap s1).trans (cut_set (zo_sub oa)))
  obtain ⟨p1, p2⟩ := drop_ok hh.1 hks rs
  rcases dct_val hh.1 hks (q.rep fun _ _ _ w => w.rep) with ⟨d, v, e1, e2, e3, _⟩ | ⟨e1, _⟩
  · exact ⟨kvs, _, v, s1 _ _ eH, hu, e2, hn _ _ _ (((r.mono s1).past0).mutD e0 ea (s1 _ _ eH) eO p1 p2)⟩
  · rw [e1] at hh; cases hh.2
end
end Px

/-! Px19: statements: the others. -/
namespace Px
open PySem PySem.Spec L2
section
variable {ec : EC} {W : WX} {F : List Fn} {C : List D} {T : Tab} {cf : Cf} {X : Cx} {sc : Scope} {pos : Pos}
variable {σ σ' : L2.St} {H H' H0 H1 H2 : Hp} {A : AS} {ρ ρ' : Env} {B B' : Hp} {Z P : AS} {O : Nat → AS} {En : Ends}
theorem s_aug {i : Nat} {o : Operator} {x : Str} {px epos : Pos} {c : Ex} {e : Expr} (g : GoodS ec cf F C T X W) (hsc : X.env.scope = sc) (hx : nmI cf sc i x = true) (he : okE cf c sc e = true) (ho : o = .Add ∨ o = .Sub) :
    PS X (.AugAssign (.Name x px) o e epos) (tS X.K ec W F C T (.aug i o c)) := by
  obtain ⟨n1, n2, n3⟩ := nm_of g hsc hx
  rcases ho with ho | ho2
  · subst ho
    refine PS.imp (ps_aug g.g.nd n1 n2 (e_ok g.g hsc he) ip_add n3) fun En σ H ⟨ρ, B, Z, O, r, h⟩ => ?_
    unfold run1 at h
    split at h
    · rename_i k a e0
      obtain ⟨v, ev, w⟩ := r.own i k _ e0
      refine ⟨v, ev, use_E r (aft_mono (Same.refl _) (post_lift r h) fun k2 hk u H1 s1 res => ?_)⟩
      split at hk
      · rename_i b hs
        obtain ⟨hi, hn⟩ := post_set hk
        obtain ⟨O', r'⟩ := r.store (v := .int (a + b)) s1 Res.int hi
        exact ⟨a, b, w.rep.int, res.rep.int, hn _ _ _ r'⟩
      · rename_i hs; cases hs
      · exact hk.elim
    · exact h.elim
  · subst ho2
    refine PS.imp (ps_aug g.g.nd n1 n2 (e_ok g.g hsc he) ip_sub n3) fun En σ H ⟨ρ, B, Z, O, r, h⟩ => ?_
    unfold run1 at h
    split at h
    · rename_i k a e0
      obtain ⟨v, ev, w⟩ := r.own i k _ e0
      refine ⟨v, ev, use_E r (aft_mono (Same.refl _) (post_lift r h) fun k2 hk u H1 s1 res => ?_)⟩
      split at hk
      · rename_i hs; cases hs
      · rename_i b hs
        obtain ⟨hi, hn⟩ := post_set hk
        obtain ⟨O', r'⟩ := r.store (v := .int (a - b)) s1 Res.int hi
        exact ⟨a, b, w.rep.int, res.rep.int, hn _ _ _ r'⟩
      · exact hk.elim
    · exact h.elim
theorem s_exp {epos : Pos} {c : Ex} {e : Expr} (g : GoodS ec cf F C T X W) (hsc : X.env.scope = sc) (he : okE cf c sc e = true) (hn : isComp e = false) : PS X (.Expr e epos) (tS X.K ec W F C T (.exp c)) := by
  refine PS.imp (ps_expr (e_ok g.g hsc he) (swaps_no hn)) fun En σ H ⟨ρ, B, Z, O, r, h⟩ => ?_
  unfold run1 at h
  exact use_E r (aft_mono (Same.refl _) (post_lift r h) fun k hk v H1 s1 res => hk σ H1 O (r.mono s1))
theorem s_ifs {c : Tx} {t : Expr} {p q : List Cm} {a b : List Stmt} (g : GoodS ec cf F C T X W) (hsc : X.env.scope = sc) (hc : okT cf c sc t = true) (ha : PSs X a (tSs X.K ec W F C T p)) (hb : PSs X b (tSs X.K ec W F C T q)) : PS X (.If t a b pos) (tS X.K ec W F C T (.ifs c p q)) := by
  refine PS.imp (ps_if (t_ok g.g hsc hc).1 ha hb) fun En σ H ⟨ρ, B, Z, O, r, h⟩ => ?_
  unfold run1 at h
  refine use_T r (aft_mono (Same.refl _) (post_lift r h) fun t ht H1 s1 => ?_)
  cases t with
  | true => rw [if_pos rfl] at ht ⊢; exact ⟨ρ, B, Z, O, r.mono s1, ht⟩
  | false => rw [if_neg Bool.false_ne_true] at ht ⊢; exact ⟨ρ, B, Z, O, r.mono s1, ht⟩
theorem s_ret {c : Ex} {e : Expr} (g : GoodS ec cf F C T X W) (hsc : X.env.scope = sc) (he : okE cf c sc e = true) : PS X (.Return (some e) pos) (tS X.K ec W F C T (.ret c)) := by
  refine PS.imp (ps_ret (e_ok g.g hsc he)) fun En σ H ⟨ρ, B, Z, O, r, h⟩ => ?_
  unfold run1 at h
  refine use_E r (aft_mono (Same.refl _) (post_lift r h) fun k hk v H1 s1 res => ?_)
  obtain ⟨j, d, ek, hq⟩ := post_need hk
  clear hk
  subst ek
  obtain ⟨P, f, w⟩ := res.own1
  exact (show ∀ v H', Same B H' → RetR X.K B H' Z j d v → En.rt v H' from hq) v H1 (r.base.trans s1) ⟨P, fun x p => r.base.free (f x p), w.mono (Same.refl _) fun x z => .inl (z.elim (fun z => .inl (.inl z)) .inr)⟩
theorem s_retv {i : Nat} {x : Str} {px : Pos} (g : GoodS ec cf F C T X W) (hsc : X.env.scope = sc) (hx : vrI cf sc i x = true) : PS X (.Return (some (.Name x px)) pos) (tS X.K ec W F C T (.retv i)) := by
  refine PS.imp (ps_ret (pe_slot g.g hsc hx)) fun En σ H ⟨ρ, B, Z, O, r, h⟩ => ?_
  unfold run1 at h
  split at h
  · rename_i k d e0
    obtain ⟨v, ev, w⟩ := r.own i k d e0
    exact ⟨v, ev, (show ∀ v H', Same B H' → RetR X.K B H' Z k d v → En.rt v H' from h) v H r.base ⟨O i, fun x o => (r.fr i x o).2, w.mono (Same.refl _) fun x z => .inl (z.elim .inl fun z => .inr ⟨i, z⟩)⟩⟩
  · exact h.elim
theorem s_retn : PS X (.Return none pos) (tS X.K ec W F C T .retn) := PS.imp ps_retN fun En σ H ⟨ρ, B, Z, O, r, h⟩ => by
  unfold run1 at h
  refine (show ∀ v H', Same B H' → RetR X.K B H' Z 9 .non v → En.rt v H' from h) .non H r.base ⟨fun _ => False, fun _ z => z.elim, (Own.flat rfl).mpr ⟨fun _ z => z, ?_⟩⟩
  unfold RepR; rfl
theorem s_pass : PS X (.Pass pos) (tS X.K ec W F C T .pass) := PS.imp ps_pass fun En σ H ⟨ρ, B, Z, O, r, h⟩ => by
  unfold run1 at h
  exact (show ∀ σ' H' O', Rel X.K B Z O' σ' H' ρ → En.nx σ' H' from h) σ H O r
theorem s_brk : PS X (.Break pos) (tS X.K ec W F C T .brk) := PS.imp ps_break fun En σ H ⟨ρ, B, Z, O, r, h⟩ => by
  unfold run1 at h
  exact (show ∀ σ' H' O', Rel X.K B Z O' σ' H' ρ → En.bk σ' H' from h) σ H O r
theorem s_cont : PS X (.Continue pos) (tS X.K ec W F C T .cont) := PS.imp ps_continue fun En σ H ⟨ρ, B, Z, O, r, h⟩ => by
  unfold run1 at h
  exact (show ∀ σ' H' O', Rel X.K B Z O' σ' H' ρ → En.ct σ' H' from h) σ H O r
theorem Rel.storeF {K : PySem.W.Frag} {i k : Nat} {d : D} {v : V} (r : Rel K B Z O σ H ρ) (c : d.cont = false) (w : RepR K (cut H (ZO Z O)) d v) (hi : i < ρ.length) : ∃ O', (∀ j x, O' j x → O j x) ∧ Rel K B Z O' (σ.set i (some v)) H (ρ.set i (some (k, d))) := by
  have e : (fun x => Z x ∨ False) = Z := by funext x; simp
  have r0 : Rel K B (fun x => Z x ∨ False) O σ H ρ := by rw [e]; exact r
  refine ⟨_, fun j x z => ?_, r0.put (P := fun _ => False) hi (fun _ z => z.elim) ((Own.flat c).mpr ⟨fun _ z => z, w.cutO fun x z => z.elim id False.elim⟩)⟩
  by_cases ej : j = i
  · subst ej; rw [setO_same] at z; exact z.elim
  · rw [setO_ne ej] at z; exact z
/-- a, b = x, y -/
theorem s_par {i j : Nat} {x y : Str} {a b : Ex} {ea eb : Expr} {px py pt pt2 : Pos} {kt k2 : Nat} (g : GoodS ec cf F C T X W) (hsc : X.env.scope = sc) (hx : nmI cf sc i x = true) (hy : nmI cf sc j y = true) (lx : sc.names.lookup x = some .local) (ly : sc.names.lookup y = some .local)
    (hs : noStar ea = true) (hs' : noStar eb = true) (ha : okE cf a sc ea = true) (hb : okE cf b sc eb = true) (hw : swappedStores [.Tuple [.Name x px, .Name y py] kt pt] (.Tuple [ea, eb] k2 pt2) X.env = pure (some [x, y])) :
    PS X (.Assign [.Tuple [.Name x px, .Name y py] kt pt] (.Tuple [ea, eb] k2 pt2) pos) (tS X.K ec W F C T (.par i j a b)) := by
  obtain ⟨n1, n2, _⟩ := nm_of g hsc hx
  obtain ⟨m1, m2, _⟩ := nm_of g hsc hy
  by_cases hij : i = j
  · refine PS.imp ps_never fun En σ H ⟨ρ, B, Z, O, r, h⟩ => ?_
    unfold run1 at h
    rw [if_pos hij] at h
    exact h.elim
  refine PS.imp (ps_par g.g.calm g.g.nd n1 m1 hij (by rw [hsc]; exact lx) (by rw [hsc]; exact ly) (a_cons hs (e_ok g.g hsc ha) (a_cons hs' (e_ok g.g hsc hb) a_nil)) hw) fun En σ H ⟨ρ, B, Z, O, r, h⟩ => ?_
  unfold run1 at h
  rw [if_neg hij] at h
  refine use_Es r ?_
  unfold evs evs evs
  rw [aft_bind]
  refine aft_mono (Same.refl _) (post_lift r h) fun k hk => ?_
  rw [aft_bind, aft_bind]
  refine aft_mono (Same.refl _) (post_lift r hk) fun l hl vs H1 s1 ⟨OO, f, v, vs', O1, O2, ev, h1, h2, r1, u, us', O3, O4, ev2, h3, h4, r2, e5, _⟩ => ?_
  obtain ⟨p, d, ek, hq⟩ := post_need hl
  obtain ⟨p', d', ek', hq⟩ := post_need hq
  subst ek
  subst ek'
  subst e5
  subst ev2
  refine ⟨v, u, ev, ?_⟩
  have hq : post X.K ec W B Z En (if (d.cont || d'.cont) = true then Rs.stuck else (setR i p d ρ).seq (setR j p' d')) := hq
  cases c1 : d.cont with
  | true => rw [c1] at hq; exact hq.elim
  | false =>
    cases c2 : d'.cont with
    | true => rw [c1, c2] at hq; exact hq.elim
    | false =>
      rw [c1, c2, if_neg (by decide)] at hq
      have hi : i < ρ.length := by
        by_cases hi : i < ρ.length
        · exact hi
        · unfold setR at hq; rw [if_neg hi] at hq; exact hq.elim
      rw [seq_set hi] at hq
      obtain ⟨hj, hn⟩ := post_set hq
      have r1 : Own X.K H1 (fun x => ZO Z O x ∨ OO x) p d v O1 := r1
      have r2 : Own X.K H1 (fun x => ZO Z O x ∨ OO x) p' d' u O3 := r2
      obtain ⟨O5, s5, r5⟩ := (r.mono s1).storeF (k := p) c1 (((Own.flat c1).mp r1).2.cutO fun x z => .inl z) hi
      obtain ⟨O6, _, r6⟩ := r5.storeF (k := p') c2 (((Own.flat c2).mp r2).2.cutO fun x z => .inl (z.imp id fun ⟨j, z⟩ => ⟨j, s5 j x z⟩)) hj
      exact hn _ _ _ r6
/-! ### loops -/
theorem Rel.unbase {K : PySem.W.Frag} {B1 : Hp} (s : Same B B1) (r : Rel K B1 Z O σ H ρ) : Rel K B Z O σ H ρ := r.rebase (s.trans r.base) fun i x o => s.free (r.fr i x o).2
theorem s_whl {n : Nat} {c : Tx} {t : Expr} {p : List Cm} {a : List Stmt} (g : GoodS ec cf F C T X W) (hsc : X.env.scope = sc) (hc : okT cf c sc t = true) (ha : PSs X a (tSs X.K ec W F C T p)) : PS X (.While t a [] pos) (tS X.K ec W F C T (.whl n c p)) := by
  refine PS.imp (ps_while g.pass (t_ok g.g hsc hc).1 ha) fun En σ H ⟨ρ, B, Z, O, r, h⟩ => ?_
  unfold run1 at h
  refine ⟨fun m σ H => ∃ ρ O, Rel X.K B Z O σ H ρ ∧ post X.K ec W B Z En (loopW (tst F C c) (runs F C T p) m ρ), ⟨n, ρ, O, r, h⟩, ?_⟩
  rintro m σ H ⟨ρ, O, r, h⟩
  cases m with
  | zero => exact h.elim
  | succ m =>
    unfold loopW at h
    refine use_T r (aft_mono (Same.refl _) (post_lift r h) fun t ht H1 s1 => ?_)
    cases t with
    | false =>
      rw [if_neg Bool.false_ne_true] at ht ⊢
      exact (show ∀ σ' H' O', Rel X.K B Z O' σ' H' ρ → En.nx σ' H' from ht) σ H1 O (r.mono s1)
    | true =>
      rw [if_pos rfl] at ht ⊢
      refine ⟨fun σ H => ∃ ρ O, Rel X.K B Z O σ H ρ ∧ post X.K ec W B Z En (loopW (tst F C c) (runs F C T p) m ρ), fun σ' H' w => ⟨m, Nat.lt_succ_self _, w⟩, ρ, B, Z, O, r.mono s1, ?_⟩
      refine post_turn ht fun q nd ht => ?_
      cases q with
      | nx ρ' => exact fun σ' H' O' rel => ⟨ρ', O', rel, ht⟩
      | ct ρ' => exact fun σ' H' O' rel => ⟨ρ', O', rel, ht⟩
      | bk ρ' => exact ht
      | ret k d => exact ht
      | exc x q ρ' => exact ht
      | stuck => exact ht
      | draw g => exact absurd rfl (nd g)
theorem s_for {p : Pat} {it : Ix} {b els : List Cm} {tg iter : Expr} {body orelse : List Stmt} (g : GoodS ec cf F C T X W) (hsc : X.env.scope = sc) (hp : okP cf none sc p tg = true) (hi : okI cf it sc tg iter = true) (hn : notSet iter = true)
    (hb : PSs X body (tSs X.K ec W F C T b)) (ho : PSs X orelse (tSs X.K ec W F C T els)) : PS X (.For tg iter body orelse pos) (tS X.K ec W F C T (.for p it b els)) := by
  have hwk := wk_of hi hp
  have hg := p_ok (X := X) g.g.calm g.g.nd g.g.hN hsc (lv := none) (fun x _ => g.fn x) hp
  refine PS.imp (ps_forE g.pass g.g.calm (i_ok (bor := false) g.g hsc hi) hg hb ho (folded_of hn _)) fun En σ H ⟨ρ, B, Z, O, r, h⟩ => ?_
  unfold run1 at h
  refine ⟨ρ, B, Z, O, r, aft_mono (Same.refl _) (post_lift r h) fun xs hx J H1 s1 hit => ?_⟩
  have r1 := r.mono s1
  -- within the loop: what no slot owns at its beginning stays
  have sB : Same B (Bb false H1 O) := fun b o e => by
    unfold Bb
    rw [if_neg Bool.false_ne_true]
    exact cut_of (r1.base b o e) fun ⟨i, z⟩ => by rw [(r1.fr i b z).2] at e; cases e
  generalize hB1 : Bb false H1 O = B1 at hit sB
  have rB : Rel X.K B1 Z O σ H1 ρ := r1.rebase (by rw [← hB1]; exact bb_same) fun i x z => by
    rw [← hB1]
    unfold Bb
    rw [if_neg Bool.false_ne_true]
    cases e : cut H1 (fun x => ∃ i, O i x) x with
    | none => rfl
    | some o => exact absurd ⟨i, z⟩ (cut_some e).2
  have sG : Same (cut H1 (ZO Z O)) B1 := by rw [← hB1]; exact bb_cut
  refine ⟨fun i m σ H => m = xs.length - i ∧ i ≤ xs.length ∧ ∃ ρ O, Rel X.K B1 Z O σ H ρ ∧ post X.K ec W B Z En (loopF p (runs F C T b) (runs F C T els) (xs.drop i) ρ), ⟨xs.length, by simp, Nat.zero_le _, ρ, O, rB, hx⟩, ?_⟩
  rintro i m σ2 H2 ⟨rfl, hi, ρ2, O2, r2, h2⟩
  by_cases hlt : i < xs.length
  · refine .inr ?_
    have ed : xs[i]? = some xs[i] := List.getElem?_eq_getElem hlt
    generalize xs[i] = d at ed
    have edrop : xs.drop i = d :: xs.drop (i + 1) := by
      rw [List.drop_eq_getElem_cons hlt]
      have := List.getElem?_eq_getElem hlt
      rw [ed] at this
      cases this; rfl
    rw [edrop] at h2
    unfold loopF at h2
    obtain ⟨go, hy⟩ := (hit H2 r2.base i).1 d ed
    refine ⟨go, fun σ' H' => (fun i m σ H => m = xs.length - i ∧ i ≤ xs.length ∧ ∃ ρ O, Rel X.K B1 Z O σ H ρ ∧ post X.K ec W B Z En (loopF p (runs F C T b) (runs F C T els) (xs.drop i) ρ)) (i + 1) (xs.length - (i + 1)) σ' H', fun σ' H' w => ⟨_, by omega, w⟩, fun x H3 y3 => ?_⟩
    obtain ⟨s3, rv⟩ := hy x H3 y3
    cases e1 : bindP p d ρ2 with
    | exc y q => rw [e1] at h2; exact h2.elim
    | stuck => rw [e1] at h2; exact h2.elim
    | draw g => rw [e1] at h2; exact h2.elim
    | ok ρ3 =>
      rw [e1] at h2
      have rv := rv (ZO Z O2) (fun y z => (r2.am z).ne) fun b o q => by
        refine cut_of (r2.base b o (sG b o q)) fun z => ?_
        rcases z with z | ⟨j, z⟩
        · exact (cut_some q).2 (.inl z)
        · have := (r2.fr j b z).2
          rw [sG b o q] at this; cases this
      refine ⟨ρ2, B1, Z, O2, d, ρ3, r2.mono s3, rv.up (hwk), e1, fun σ4 O4 r4 _ _ _ _ => ⟨ρ3, B1, Z, O4, r4, ?_⟩⟩
      have h2 : post X.K ec W B Z En ((runs F C T b ρ3).turn fun q => match q with
        | .nx ρ' => loopF p (runs F C T b) (runs F C T els) (xs.drop (i + 1)) ρ'
        | .ct ρ' => loopF p (runs F C T b) (runs F C T els) (xs.drop (i + 1)) ρ'
        | .bk ρ' => .nx ρ'
        | r => r) := h2
      refine post_turn h2 fun q nd h2 => ?_
      cases q with
      | nx ρ' => exact fun σ' H' O' rel => ⟨rfl, hlt, ρ', O', rel, h2⟩
      | ct ρ' => exact fun σ' H' O' rel => ⟨rfl, hlt, ρ', O', rel, h2⟩
      | bk ρ' => exact fun σ' H' O' rel => (show ∀ σ' H' O', Rel X.K B Z O' σ' H' ρ' → En.nx σ' H' from h2) σ' H' O' (rel.unbase sB)
      | ret k d => exact fun v H' s ⟨P, f, w⟩ => (show ∀ v H', Same B H' → RetR X.K B H' Z k d v → En.rt v H' from h2) v H' (sB.trans s) ⟨P, fun x p => sB.free (f x p), w⟩
      | exc x q ρ' => exact fun σ' H' O' cls dd rel ix => (show ∀ σ' H' O' cls dd, Rel X.K B Z O' σ' H' ρ' → IsExc ec x q cls dd H' → W cls dd σ' H' from h2) σ' H' O' cls dd (rel.unbase sB) ix
      | stuck => exact h2
      | draw g => exact absurd rfl (nd g)
  · refine .inl ?_
    have ei : i = xs.length := by omega
    rw [ei, List.drop_length] at h2
    unfold loopF at h2
    exact ⟨(hit H2 r2.base i).2 (by omega), ρ2, B, Z, O2, r2.unbase sB, h2⟩
/-- x[i], by values, i not negative -/
def rGetN : V → V → Hp → VK → Prop := fun o i H Q => ∃ p xs k z, o = .ref p ∧ i = .int k ∧ H p = some (.lst xs) ∧ 0 ≤ k ∧ xs[k.toNat]? = some z ∧ Q z H
theorem get_listN : PGet X rGetN := by
  intro pins s σ H o i ov iv Q I ro ri h
  obtain ⟨p, xs, k, z, rfl, rfl, hp, h0, hz, q⟩ := h
  cases ro
  obtain ⟨t, rfl⟩ := ri
  obtain ⟨its, rv, pl, hl⟩ := I.list (.inl (.inl hp))
  obtain ⟨u, eu, ru⟩ := rv.get hz
  have hk : k.toNat < its.length := (List.getElem?_eq_some_iff.mp eu).1
  have h63 := line63
  have hlen := rv.length
  exact wpAny_getItem_list pl.isList h0 (by omega) (by simpa using eu) ⟨z, H, I, ru, q⟩
/-- x[i] += e -/
theorem s_augAt {i : Nat} {o : Operator} {x : Str} {px tpos spos : Pos} {c cx : Ex} {e ex : Expr} (g : GoodS ec cf F C T X W) (hsc : X.env.scope = sc) (hx : vrI cf sc i x = true) (hi : okE cf cx sc ex = true) (he : okE cf c sc e = true) (ho : o = .Add ∨ o = .Sub) (pl : plainIx ex = true) :
    PS X (.AugAssign (.Subscript (.Name x px) ex tpos) o e spos) (tS X.K ec W F C T (.augAt i cx o c)) := by
  have core : ∀ {tip : TIp}, (∀ (a b : Int) (H : Hp) (Q : VK), Q (.int (if o = .Add then a + b else a - b)) H → tip (.int a) (.int b) H Q) → PIp X o tip → PS X (.AugAssign (.Subscript (.Name x px) ex tpos) o e spos) (tS X.K ec W F C T (.augAt i cx o c)) := by
    intro tip htip hp
    refine PS.imp (ps_augS (pe_slot g.g hsc hx) (e_ok g.g hsc hi) get_listN (e_ok g.g hsc he) hp set_list (by intro ov iv new; cases ex <;> first | rfl | cases pl)) fun En σ H ⟨ρ, B, Z, O, r, h⟩ => ?_
    unfold run1 at h
    obtain ⟨k, xs, e0, hq⟩ := post_lst h
    obtain ⟨a, vs, O1, ea, eH, eO, na, q⟩ := r.lstAt e0
    refine ⟨_, ea, use_E r (aft_mono (Same.refl _) (post_lift r hq) fun y hy u H1 s1 resy => ?_)⟩
    split at hy
    case h_2 => exact hy.elim
    rename_i n
    split at hy
    case isFalse => exact hy.elim
    rename_i h0
    split at hy
    case h_2 => exact hy.elim
    rename_i a0 em
    obtain ⟨v0, ev0, rv0⟩ := q.rep (fun _ _ _ w => w.rep) |>.get em
    refine ⟨a, vs, n, v0, rfl, resy.rep.int, s1 _ _ eH, h0, ev0, ?_⟩
    refine use_E (r.mono s1) (aft_mono (Same.refl _) (post_lift (r.mono s1) hy) fun k2 hk v H2 s2 res => ?_)
    split at hk
    case h_2 => exact hk.elim
    rename_i b
    rw [rv0.int, res.rep.int]
    refine htip _ _ _ _ ?_
    obtain ⟨hi, hn⟩ := post_set hk
    have lv : vs.length = xs.length := q.length
    have hlt : n.toNat < xs.length := (List.getElem?_eq_some_iff.mp em).1
    have q2 : Owns (Own X.K H2 (ZO (fun x => Z x ∨ (fun _ => False) x) O) k) xs vs O1 := by
      rw [zo_past]
      exact q.imp fun d v O3 w3 => w3.mono (s1.trans s2) fun x z => z.elim .inl fun z => z.elim
    have w : Own X.K H2 (ZO (fun x => Z x ∨ (fun _ => False) x) O) 9 (.int (if o = .Add then a0 + b else a0 - b)) (.int (if o = .Add then a0 + b else a0 - b)) (fun _ => False) := (Own.flat rfl).mpr ⟨fun _ z => z, by unfold RepR; rfl⟩
    have rr : Rel X.K B (fun x => Z x ∨ (fun _ => False) x) O σ H2 ρ := by
      have : (fun x => Z x ∨ (fun _ => False) x) = Z := by funext x; simp
      rw [this]; exact (r.mono s1).mono s2
    obtain ⟨O', r3⟩ := rr.mix (fun _ z => z.elim) e0 ea (s2 _ _ (s1 _ _ eH)) eO na q2 (one_owns w) (ys := [.int (if o = .Add then a0 + b else a0 - b)]) (us := [.int (if o = .Add then a0 + b else a0 - b)])
        (xs' := xs.set n.toNat (.int (if o = .Add then a0 + b else a0 - b))) (vs' := vs.set n.toNat (.int (if o = .Add then a0 + b else a0 - b))) fun R O3 P3 dj h1 h2' => by
      obtain ⟨v', vs2, P4, P5, g1, g2, g3, g4, g5, g6⟩ := h2'
      cases g1
      obtain ⟨O4, t1, t2⟩ := h1.set' g4 (fun x o p => dj x o ((g2 x).mpr (.inl p))) hlt
      exact ⟨O4, fun x z => (t1 x z).imp id fun z => (g2 x).mpr (.inl z), t2⟩
    have hix : ixN vs.length n = some n.toNat := by
      unfold ixN
      simp only [lv]
      split <;> first | omega | (split <;> first | omega | rfl)
    exact ⟨a, vs, n, n.toNat, rfl, resy.rep.int, s2 _ _ (s1 _ _ eH), hix, hn _ _ _ r3⟩
  rcases ho with ho | ho
  · subst ho
    exact core (fun a b H Q q => ⟨a, b, rfl, rfl, q⟩) ip_add
  · subst ho
    exact core (fun a b H Q q => ⟨a, b, rfl, rfl, q⟩) ip_sub
end
end Px

/-! PxI: isinstance of an error that is held, with or without fields. -/
namespace Px
open PySem PySem.Spec PyProof.Rows L2
section
variable {X : Cx} {ec : EC} {T : Tab} {pos : Pos}
/-- isinstance(e, C), e held -/
def rIsK (K : PySem.W.Frag) (D a : Addr) (dd : Option Addr) : List V → Hp → VK → Prop := fun xs H Q => ∃ (c : V) (cv : Value) (b : Bool), xs = [.ref a, c] ∧ (∀ u, RelV c u → u = cv) ∧ PySem.W.kitOne K (.ref D) cv = some b ∧ (dd = none ∨ ∃ d fs, dd = some d ∧ H d = some (.xd fs)) ∧ Q (.bl b) H
theorem call_isK {D a : Addr} {oe : Obj} {dd : Option Addr} (hp : (a, oe) ∈ X.pn) (C : ExcC X.K D) (hz : Zc (.ref D) dd oe) (hf : ∃ vs, oe.data = .fields vs) : CallR X (.builtin "isinstance") (rIsK X.K D a dd) := by
  intro pins s σ H xs us Q I r h
  obtain ⟨c, cv, b, rfl, hcv, e, hd, q⟩ := h
  cases r with
  | cons rx rr =>
    cases rr with
    | cons rt rr =>
      cases rr
      cases rx
      have ec := hcv _ rt
      subst ec
      obtain ⟨hget, _⟩ := I.pin (a, oe) (List.mem_append_left _ hp)
      obtain ⟨vs, hv⟩ := hf
      have J : ∃ od, PySem.W.InstAt s.heap a oe D od := by
        obtain ⟨oc, oq, oda, osl⟩ := oe
        obtain ⟨h1, h2⟩ := hz
        dsimp only at h1 h2 hv
        subst h1 h2 hv
        rcases hd with hd | ⟨d, fs, hd, hH⟩
        · subst hd
          exact ⟨none, hget, rfl, rfl, trivial⟩
        · subst hd
          obtain ⟨mA, ⟨o, es, ep, ho, _⟩, _⟩ : ObjOk X.prog X.w H s.heap d (.xd fs) := I.hok d _ hH
          exact ⟨some o, hget, rfl, rfl, ho⟩
      obtain ⟨od, J⟩ := J
      obtain ⟨cdD, hcD, _⟩ := PySem.W.any_some C.hd
      exact PySem.W.kia_one (PySem.W.kitx_exc (by rw [hcD]; rfl) C.hg C.hk C.hs C.ha C.hn C.ht C.hm) I.kIn J e (fun z => nomatch z) fun tk => ⟨.bl b, H, I.kept (t' := tk) fun _ _ z => z, rfl, q⟩
/-- isinstance(e, (C1, C2, ..)), e held, the tuple just laid -/
def rIsKT (K : PySem.W.Frag) (D a : Addr) (dd : Option Addr) : List V → Hp → VK → Prop := fun xs H Q => ∃ (tp : Addr) (cs : List V) (us : List Value) (b : Bool), xs = [.ref a, .ref tp] ∧ H tp = some (.tup cs) ∧ (∀ ws, Vals cs ws → ws = us) ∧ PySem.W.kitAny K (.ref D) us = some b ∧ (dd = none ∨ ∃ d fs, dd = some d ∧ H d = some (.xd fs)) ∧ Q (.bl b) H
theorem call_isKT {D a : Addr} {oe : Obj} {dd : Option Addr} (hp : (a, oe) ∈ X.pn) (C : ExcC X.K D) (hz : Zc (.ref D) dd oe) (hf : ∃ vs, oe.data = .fields vs) : CallR X (.builtin "isinstance") (rIsKT X.K D a dd) := by
  intro pins s σ H xs us Q I r h
  obtain ⟨tp, cs, us', b, rfl, hT, hcs, e, hd, q⟩ := h
  cases r with
  | cons rx rr =>
    cases rr with
    | cons rt rr =>
      cases rr
      cases rx
      cases rt
      obtain ⟨hget, _⟩ := I.pin (a, oe) (List.mem_append_left _ hp)
      obtain ⟨vs, hv⟩ := hf
      have J : ∃ od, PySem.W.InstAt s.heap a oe D od := by
        obtain ⟨oc, oq, oda, osl⟩ := oe
        obtain ⟨h1, h2⟩ := hz
        dsimp only at h1 h2 hv
        subst h1 h2 hv
        rcases hd with hd | ⟨d, fs, hd, hH⟩
        · subst hd
          exact ⟨none, hget, rfl, rfl, trivial⟩
        · subst hd
          obtain ⟨mA, ⟨o, es, ep, ho, _⟩, _⟩ : ObjOk X.prog X.w H s.heap d (.xd fs) := I.hok d _ hH
          exact ⟨some o, hget, rfl, rfl, ho⟩
      obtain ⟨od, J⟩ := J
      obtain ⟨cdD, hcD, _⟩ := PySem.W.any_some C.hd
      obtain ⟨_, its, rv, o, h1, h2, n, h3⟩ := (show ObjOk X.prog X.w H s.heap tp (.tup cs) from I.hok tp _ hT)
      have e3 := hcs _ rv
      subst e3
      obtain ⟨oc, od', dt, sl⟩ := o
      simp only at h2 h3
      subst h2 h3
      exact PySem.W.kia_tup (PySem.W.kitx_exc (by rw [hcD]; rfl) C.hg C.hk C.hs C.ha C.hn C.ht C.hm) I.kIn J h1 e (fun z => nomatch z) fun tk => ⟨.bl b, H, I.kept (t' := tk) fun _ _ z => z, rfl, q⟩
end
end Px

/-! PxP: a, b, c = x, y, z. -/
namespace Px
open PySem PySem.Spec PyProof.Rows L2
section
variable {ec : EC} {W : WX} {F : List Fn} {C : List D} {T : Tab} {cf : Cf} {X : Cx} {sc : Scope} {pos : Pos}
def tPar3 (i j l : Nat) (ta : TA) : TS := fun D σ H => ta σ H fun vs H1 => ∃ u v w, vs = [u, v, w] ∧ D.nx (((σ.set i (some u)).set j (some v)).set l (some w)) H1
theorem ps_par3 {i j l : Nat} {x y z : Str} {a b c : Expr} {ta : TA} {px py pz pt : Pos} {kt k2 pt2} (hc : X.calm = true) (hN : X.N.Nodup) (hi : X.N[i]? = some x) (hj : X.N[j]? = some y) (hl : X.N[l]? = some z) (hij : i ≠ j) (hil : i ≠ l) (hjl : j ≠ l)
    (hx : X.env.scope.names.lookup x = some .local) (hy : X.env.scope.names.lookup y = some .local) (hz : X.env.scope.names.lookup z = some .local) (ha : PA X [a, b, c] ta)
    (hw : swappedStores [.Tuple [.Name x px, .Name y py, .Name z pz] kt pt] (.Tuple [a, b, c] k2 pt2) X.env = pure (some [x, y, z]))
    (hs : swapsWithSole [.Tuple [.Name x px, .Name y py, .Name z pz] kt pt] (.Tuple [a, b, c] k2 pt2) pos.line X.env = pure false := by rfl) :
    PS X (.Assign [.Tuple [.Name x px, .Name y py, .Name z pz] kt pt] (.Tuple [a, b, c] k2 pt2) pos) (tPar3 i j l ta) := by
  refine ⟨fun pins s σ H D I h => ?_⟩
  rw [exec_Assign_arm]
  refine wpAny_bind (wpAny_standAt ?_)
  rw [hs]
  refine wpAny_bind (wpAny_pure ?_)
  rw [if_neg (by decide)]
  refine wpAny_bind (Tuple_ (thn (ha.run _ pins s σ H _ I h) fun us s1 ⟨vs, H1, I1, r1, e1⟩ => ?_))
  obtain ⟨u, v, w, e1, q1⟩ := e1
  subst e1
  obtain ⟨u1, u2, u3, rfl, ru, rv, rw'⟩ : ∃ u1 u2 u3, us = [u1, u2, u3] ∧ RelV u u1 ∧ RelV v u2 ∧ RelV w u3 := by
    cases r1 with
    | cons p q => cases q with
      | cons p' q' => cases q' with
        | cons p2 q2 =>
          cases q2
          exact ⟨_, _, _, rfl, p, p', p2⟩
  refine wpAny_newObj_type ?_ (by show 3 ≤ sizeLine; decide)
  have I2 : Inv X pins σ H1 { s1 with heap := s1.heap.push { cls := .type "tuple", data := .seq [u1, u2, u3].toArray } } := I1.kept (t' := s1.toks) fun b o e => Heap.get?_push_of_some _ e
  rw [hw]
  refine wpAny_bind (wpAny_pure ?_)
  refine (show wpAny (model X.prog X.w) X.A (rule "assign.swapped-stores" >>= fun _ => unpackItems (.ref s1.heap.objs.size) 3 none >>= fun items => assignInOrder [fun v => bindName X.env z v, fun v => bindName X.env y v, fun v => bindName X.env x v] items.reverse >>= fun _ => pure Flow.next) _ _ _ from ?_)
  refine wpAny_bind (wpAny_rule (wpAny_bind (unpackItems_tuple (items := #[u1, u2, u3]) (I.ok.hd hc) (IsTup.new s1.heap _) fun h' hx' => ?_)))
  have I3 := I2.kept (h' := h') (t' := s1.toks) fun b o e => hx' b o (Nat.ne_of_lt (Heap.lt_size e)) e
  refine (show wpAny _ _ (assignInOrder [fun v => bindName X.env z v, fun v => bindName X.env y v, fun v => bindName X.env x v] [u3, u2, u1] >>= fun _ => pure Flow.next) _ _ _ from ?_)
  refine wpAny_bind (assignInOrder_cons (wpAny_bindName (store_ok I3 hN hl (.inl hz) rw' (fun s2 I4 => ?_) (.inr hz))))
  refine assignInOrder_cons (wpAny_bindName (store_ok I4 hN hj (.inl hy) rv (fun s3 I5 => ?_) (.inr hy)))
  refine assignInOrder_cons (wpAny_bindName (store_ok I5 hN hi (.inl hx) ru (fun s4 I6 => assignInOrder_nil (wpAny_pure ?_)) (.inr hx)))
  rw [List.set_comm _ _ (Ne.symm hjl), List.set_comm _ _ (Ne.symm hil), List.set_comm _ _ (Ne.symm hij)] at I6
  exact ⟨_, H1, I6, q1⟩
/-- three parts, three names of one line -/
def par3B (sc : Scope) (x y z : Str) (px py pz : Pos) (ea eb ecc : Expr) : Bool :=
  decide (sc.names.lookup x = some .local) && decide (sc.names.lookup y = some .local) && decide (sc.names.lookup z = some .local) && (px.line == py.line) && (px.line == pz.line) && !(x == y) && !(x == z) && !(y == z) && noStar ea && noStar eb && noStar ecc &&
    !(foldedForSure 8 ea && (foldedForSure 8 eb && foldedForSure 8 ecc)) && !(constantsAlone 8 ea && (constantsAlone 8 eb && constantsAlone 8 ecc))
theorem star_any3 {e e' e2 : Expr} (h : noStar e = true) (h' : noStar e' = true) (h2 : noStar e2 = true) : ([e, e', e2].any fun | .Starred .. => true | _ => false) = false := by
  rw [List.any_cons, List.any_cons, List.any_cons, List.any_nil]
  cases e <;> first | (cases h; done) | (cases e' <;> first | (cases h'; done) | (cases e2 <;> first | rfl | cases h2))
theorem par3_of {x y z : Str} {px py pz pt pt2 : Pos} {kt k2 : Nat} {ea eb ecc : Expr} (hk : X.env.scope.kind = .function) (hsc : X.env.scope = sc) (h : par3B sc x y z px py pz ea eb ecc = true) : swappedStores [.Tuple [.Name x px, .Name y py, .Name z pz] kt pt] (.Tuple [ea, eb, ecc] k2 pt2) X.env = pure (some [x, y, z]) := by
  unfold par3B at h
  simp only [Bool.and_eq_true, Bool.not_eq_true', decide_eq_true_eq] at h
  obtain ⟨⟨⟨⟨⟨⟨⟨⟨⟨⟨⟨⟨h1, h2⟩, h3⟩, h4⟩, h5⟩, n1⟩, n2⟩, n3⟩, s1⟩, s2⟩, s3⟩, f1⟩, f2⟩ := h
  have hb : X.env.blockKind = .function := by unfold PySem.Env.blockKind; rw [hk]; rfl
  have k1 : X.env.kindOf x = some .local := by show X.env.scope.names.lookup x = _; rw [hsc]; exact h1
  have k2 : X.env.kindOf y = some .local := by show X.env.scope.names.lookup y = _; rw [hsc]; exact h2
  have k3 : X.env.kindOf z = some .local := by show X.env.scope.names.lookup z = _; rw [hsc]; exact h3
  have hd : ([x, y, z].eraseDups.length != 3) = false := by
    have e1 : (y == x) = false := by rw [Bool.beq_comm]; exact n1
    have e2 : (z == x) = false := by rw [Bool.beq_comm]; exact n2
    have e3 : (z == y) = false := by rw [Bool.beq_comm]; exact n3
    simp [List.eraseDups_cons, e1, e2, e3]
  have h4 : px.line = py.line := by simpa using h4
  have h5 : px.line = pz.line := by simpa using h5
  have g1 : ([ea, eb, ecc].all (foldedForSure 8)) = false := by
    rw [List.all_cons, List.all_cons, List.all_cons, List.all_nil, Bool.and_true]; exact f1
  have g2 : ([ea, eb, ecc].all (constantsAlone 8)) = false := by
    rw [List.all_cons, List.all_cons, List.all_cons, List.all_nil, Bool.and_true]; exact f2
  unfold swappedStores
  simp only [List.length_cons, List.length_nil, hb, star_any3 s1 s2 s3, g1, g2, List.filterMap_cons, List.filterMap_nil, k1, k2, k3, ← h4, ← h5, List.head?_cons, Option.map_some, Option.getD_some, Expr.pos, hd]
  refine (if_neg (by decide)).trans ((if_neg fun h => Bool.false_ne_true ((star_any3 s1 s2 s3).symm.trans h)).trans ?_)
  have e1 : (some NameKind.local == some NameKind.local && px.line == px.line) = true := by simp
  simp only [e1, if_true]
  refine (if_neg ?_).trans ((if_neg Bool.false_ne_true).trans ((if_neg Bool.false_ne_true).trans rfl))
  show ¬ (([x, y, z].length != 3 || [x, y, z].eraseDups.length != 3) = true)
  rw [hd]
  exact Bool.false_ne_true
theorem s_par3 {i j l : Nat} {x y z : Str} {a b c : Ex} {ea eb ecc : Expr} {px py pz pt pt2 : Pos} {kt k2 : Nat} (g : GoodS ec cf F C T X W) (hsc : X.env.scope = sc) (hx : nmI cf sc i x = true) (hy : nmI cf sc j y = true) (hz : nmI cf sc l z = true) (lx : sc.names.lookup x = some .local) (ly : sc.names.lookup y = some .local) (lz : sc.names.lookup z = some .local)
    (hs : noStar ea = true) (hs' : noStar eb = true) (hs2 : noStar ecc = true) (ha : okE cf a sc ea = true) (hb : okE cf b sc eb = true) (hcc : okE cf c sc ecc = true) (hw : swappedStores [.Tuple [.Name x px, .Name y py, .Name z pz] kt pt] (.Tuple [ea, eb, ecc] k2 pt2) X.env = pure (some [x, y, z])) :
    PS X (.Assign [.Tuple [.Name x px, .Name y py, .Name z pz] kt pt] (.Tuple [ea, eb, ecc] k2 pt2) pos) (tS X.K ec W F C T (.par3 i j l a b c)) := by
  obtain ⟨n1, n2, _⟩ := nm_of g hsc hx
  obtain ⟨m1, m2, _⟩ := nm_of g hsc hy
  obtain ⟨o1, o2, _⟩ := nm_of g hsc hz
  by_cases hne : i = j ∨ i = l ∨ j = l
  · refine PS.imp ps_never fun En σ H ⟨ρ, B, Z, O, r, h⟩ => ?_
    unfold run1 at h
    rw [if_pos hne] at h
    exact h.elim
  have hij : i ≠ j := fun e => hne (.inl e)
  have hil : i ≠ l := fun e => hne (.inr (.inl e))
  have hjl : j ≠ l := fun e => hne (.inr (.inr e))
  refine PS.imp (ps_par3 g.g.calm g.g.nd n1 m1 o1 hij hil hjl (by rw [hsc]; exact lx) (by rw [hsc]; exact ly) (by rw [hsc]; exact lz) (a_cons hs (e_ok g.g hsc ha) (a_cons hs' (e_ok g.g hsc hb) (a_cons hs2 (e_ok g.g hsc hcc) a_nil))) hw) fun En σ H ⟨ρ, B, Z, O, r, h⟩ => ?_
  unfold run1 at h
  rw [if_neg hne] at h
  refine use_Es r ?_
  unfold evs evs evs evs
  rw [aft_bind]
  refine aft_mono (Same.refl _) (post_lift r h) fun k hk => ?_
  rw [aft_bind, aft_bind]
  refine aft_mono (Same.refl _) (post_lift r hk) fun k' hk' => ?_
  rw [aft_bind, aft_bind]
  refine aft_mono (Same.refl _) (post_lift r hk') fun l' hl vs H1 s1 ⟨OO, f, v, vs', O1, O2, ev, h1, h2, r1, u, us', O3, O4, ev2, h3, h4, r2, w, ws', O5, O6, ev3, h5, h6, r3, e5, _⟩ => ?_
  obtain ⟨p, d, ek, hq⟩ := post_need hl
  obtain ⟨p', d', ek', hq⟩ := post_need hq
  obtain ⟨p2, d2, ek2, hq⟩ := post_need hq
  subst ek
  subst ek'
  subst ek2
  subst e5
  subst ev3
  subst ev2
  refine ⟨v, u, w, ev, ?_⟩
  have hq : post X.K ec W B Z En (if (d.cont || (d'.cont || d2.cont)) = true then Rs.stuck else ((setR i p d ρ).seq (setR j p' d')).seq (setR l p2 d2)) := hq
  cases c1 : d.cont with
  | true => rw [c1] at hq; exact hq.elim
  | false =>
    cases c2 : d'.cont with
    | true => rw [c1, c2] at hq; exact hq.elim
    | false =>
      cases c3 : d2.cont with
      | true => rw [c1, c2, c3] at hq; exact hq.elim
      | false =>
        rw [c1, c2, c3, if_neg (by decide)] at hq
        have hi : i < ρ.length := by
          by_cases hi : i < ρ.length
          · exact hi
          · unfold setR at hq; rw [if_neg hi] at hq; exact hq.elim
        rw [seq_set hi] at hq
        have hj : j < (ρ.set i (some (p, d))).length := by
          by_cases hj : j < (ρ.set i (some (p, d))).length
          · exact hj
          · unfold setR at hq; rw [if_neg hj] at hq; exact hq.elim
        rw [seq_set hj] at hq
        obtain ⟨hl, hn⟩ := post_set hq
        have r1 : Own X.K H1 (fun x => ZO Z O x ∨ OO x) p d v O1 := r1
        have r2 : Own X.K H1 (fun x => ZO Z O x ∨ OO x) p' d' u O3 := r2
        have r3 : Own X.K H1 (fun x => ZO Z O x ∨ OO x) p2 d2 w O5 := r3
        obtain ⟨O7, s7, r7⟩ := (r.mono s1).storeF (k := p) c1 (((Own.flat c1).mp r1).2.cutO fun x z => .inl z) hi
        obtain ⟨O8, s8, r8⟩ := r7.storeF (k := p') c2 (((Own.flat c2).mp r2).2.cutO fun x z => .inl (z.imp id fun ⟨j, z⟩ => ⟨j, s7 j x z⟩)) hj
        obtain ⟨O9, _, r9⟩ := r8.storeF (k := p2) c3 (((Own.flat c3).mp r3).2.cutO fun x z => .inl (z.imp id fun ⟨j, z⟩ => ⟨j, s7 j x (s8 j x z)⟩)) hl
        exact hn _ _ _ r9
end
end Px

/-! Px20: errors: raise, except suites, try. -/
namespace Px
open PySem PySem.Spec L2
section
variable {ec : EC} {W : WX} {F : List Fn} {C : List D} {T : Tab} {cf : Cf} {X : Cx} {sc : Scope} {pos : Pos}
variable {σ σ' : L2.St} {H H' H0 H1 H2 : Hp} {A : AS} {ρ ρ' : Env} {B B' : Hp} {Z P : AS} {O : Nat → AS} {En : Ends}
theorem IsExc.mono {x : String} {p : List (String × Int)} {cls : Value} {dd : Option Addr} (s : Same H H') (h : IsExc ec x p cls dd H) : IsExc ec x p cls dd H' := ⟨h.1, h.2.1, fun n => let ⟨a, e, q⟩ := h.2.2 n; ⟨a, e, s _ _ q⟩⟩
theorem s_raise {x : String} {nm m : Str} {j : Nat} {p p2 p3 : Pos} (g : GoodS ec cf F C T X W) (hsc : X.env.scope = sc) (hx : Str.ofString x = nm) (hr : cf.rs.contains x = true) (hg : glB sc nm = true) (hn : nmB nm = true) :
    PS X (.Raise (some (.Call (.Name nm p) [.Constant (.str m) j p2] [] p3)) none pos) (tS X.K ec W F C T (.raise x)) := by
  subst hx
  obtain ⟨h1, D, e1, q⟩ := g.rm x hr
  obtain ⟨l, el⟩ := Option.isSome_iff_exists.mp h1
  obtain ⟨D', e2, gm, kp, sb, ty, _⟩ := g.xc x l el
  rw [e1] at e2
  cases e2
  refine PS.imp (ps_raise g.g.calm g.g.tk (pmk_own PySem.F.excBase_ValueError q gm kp (raises_own sb ty) (gl_of hsc hg) (nmB_of hn).1)) fun En σ H ⟨ρ, B, Z, O, r, h⟩ => ?_
  unfold run1 at h
  exact (show ∀ σ' H' O' cls dd, Rel X.K B Z O' σ' H' ρ → IsExc ec x [] cls dd H' → W cls dd σ' H' from h) σ H O _ _ r ⟨e1.symm, fun _ => rfl, fun n => absurd rfl n⟩
theorem s_raiseF {x fl : String} {nm : Str} {c : Ex} {e : Expr} {p p3 : Pos} (g : GoodS ec cf F C T X W) (hsc : X.env.scope = sc) (hx : Str.ofString x = nm) (hr : cf.ri.contains (x, fl) = true) (hg : glB sc nm = true) (hn : nmB nm = true) (hs : noStar e = true) (he : okE cf c sc e = true) :
    PS X (.Raise (some (.Call (.Name nm p) [e] [] p3)) none pos) (tS X.K ec W F C T (.raiseF x fl c)) := by
  subst hx
  obtain ⟨I, i1, i2, room, h1⟩ := g.ri x fl hr
  subst i1; subst i2
  obtain ⟨l, el⟩ := Option.isSome_iff_exists.mp h1
  obtain ⟨D', e2, gm, _⟩ := g.xc I.name l el
  have eC : D' = I.C := by
    have := gm.symm.trans I.gm
    cases this; rfl
  subst eC
  have hps : Passes (L2.CX X.prog X.w) X (fun _ _ _ => False) := fun pins σ H s e s' _ h => by
    obtain ⟨_, _, _, _, _, _, _, _, _, _, _, _, z⟩ := (show L2.CX X.prog X.w X.stack H s (fun _ _ _ => False) e s' from h)
    exact z.elim
  refine PS.imp (ps_raise g.g.calm g.g.tk (pmk_oex I.T I.iC I.tI I.ok room I.b .nil hps (gl_of hsc hg) I.gm (pa_cons (e_ok g.g hsc he) pa_nil (starEach_of hs)) (nmB_of hn).1 (starEach_of hs) rfl)) fun En σ H ⟨ρ, B, Z, O, r, h⟩ => ?_
  unfold run1 at h
  refine use_E r (aft_mono (Same.refl _) (post_lift r h) fun k hk v H1 s1 res => ?_)
  split at hk
  · rename_i n
    have hv := res.rep.int
    subst hv
    refine ⟨by simp, fun a ha => ⟨a, n, rfl, upd_same, fun d hd ne => ⟨rfl, d, [(Str.ofString I.fl, .int n)], upd_same, by rw [upd_ne ne, upd_same], ?_, ?_⟩⟩⟩
    · rw [upd_ne ne] at hd; exact hd
    · have hd1 : H1 d = none := by rw [upd_ne ne] at hd; exact hd
      have sm : Same H1 (upd (del (upd (upd (upd H1 a (exo a I.C none)) d (exd d [(Str.ofString I.fl, .int n)])) a (exo a I.C (some d))) a) d (.xd [(Str.ofString I.fl, .int n)])) := same_made ha hd1
      exact (show ∀ σ' H' O' cls dd, Rel X.K B Z O' σ' H' ρ → IsExc ec I.name [(I.fl, n)] cls dd H' → W cls dd σ' H' from hk) σ _ O _ _ ((r.mono s1).mono sm) ⟨e2.symm, (fun z => by cases z), fun _ => ⟨d, rfl, upd_same⟩⟩
  · exact hk.elim
/-! ### an except suite -/
def isNm (nm : Str) : Expr → Bool
  | .Name y _ => decide (y = nm)
  | _ => false
def noIte : Hx → Bool
  | .ite _ _ _ => false
  | .var _ => false
  | .neg _ => false
  | .fld _ _ => false
  | .kind _ _ => false
  | .cat _ _ => false
  | .and a b => noIte a && noIte b
  | .or a b => noIte a && noIte b
  | .not a => noIte a
  | _ => true
def okCs (T : Tab) : List String → Scope → List Expr → Bool
  | [], _, [] => true
  | c :: cs, sc, .Name z _ :: zs => decide (Str.ofString c = z) && glB sc z && nmB z && (T.lookup c).isSome && okCs T cs sc zs
  | _, _, _ => false
mutual
def okHx (cf : Cf) (T : Tab) (i : Option Nat) : Hx → Scope → Expr → Bool
  | .lit d, _, e => (match e with
    | .Constant c _ _ => litB d c
    | _ => false)
  | .isIn c, sc, e => (match e with
    | .Call (.Name f _) [.Name y _, .Name z _] [] _ => one1 cf sc f "isinstance" && (match i with | some j => vrI cf sc j y | none => false) && decide (Str.ofString c = z) && glB sc z && nmB z && ((T.lookup c).isSome || cf.bx.contains c)
    | _ => false)
  | .isAny cs, sc, e => (match e with
    | .Call (.Name f _) [.Name y _, .Tuple zs _ _] [] _ => one1 cf sc f "isinstance" && (match i with | some j => vrI cf sc j y | none => false) && decide (cs.length ≤ 1000) && okCs T cs sc zs
    | _ => false)
  | .kind f n, sc, e => (match e with
    | .Call (.Name x _) [.Name y _] [] _ => decide (Str.ofString f = x) && cf.ks.contains (f, n) && glB sc x && nmB x && (match i with | some j => vrI cf sc j y | none => false)
    | _ => false)
  | .cat a b, sc, e => (match e with
    | .BinOp l .Add r _ => okHx cf T i a sc l && okHx cf T i b sc r
    | _ => false)
  | .fld c f, sc, e => (match e with
    | .Attribute (.Name y _) nm _ => decide (Str.ofString f = nm) && cf.ri.contains (c, f) && (match i with | some j => vrI cf sc j y | none => false)
    | _ => false)
  | .neg n, _, e => (match e with
    | .UnaryOp .USub (.Constant (.int m) _ _) _ => decide (m = n)
    | _ => false)
  | .var j, sc, e => (match e with
    | .Name y _ => vrI cf sc j y
    | _ => false)
  | .eqs n a b, sc, e => (match e with
    | .Compare l [.Eq] [r] _ => !n && okHx cf T i a sc l && okHx cf T i b sc r && !(behindInMarks .Eq r)
    | .Compare l [.NotEq] [r] _ => n && okHx cf T i a sc l && okHx cf T i b sc r && !(behindInMarks .NotEq r)
    | _ => false)
  | .and a b, sc, e => (match e with
    | .BoolOp .And [x, y] _ => okHx cf T i a sc x && okHx cf T i b sc y
    | .BoolOp .And (x :: y :: z :: rest) pos => okHx cf T i a sc x && okHx cf T i b sc (.BoolOp .And (y :: z :: rest) pos)
    | _ => false)
  | .or a b, sc, e => (match e with
    | .BoolOp .Or [x, y] _ => okHx cf T i a sc x && okHx cf T i b sc y
    | .BoolOp .Or (x :: y :: z :: rest) pos => okHx cf T i a sc x && okHx cf T i b sc (.BoolOp .Or (y :: z :: rest) pos)
    | _ => false)
  | .not a, sc, e => (match e with
    | .UnaryOp .Not x _ => okHx cf T i a sc x
    | _ => false)
  | .ite c a b, sc, e => (match e with
    | .IfExp t x y _ => noIte c && okHx cf T i c sc t && okHx cf T i a sc x && okHx cf T i b sc y
    | _ => false)
  | .tup es, sc, e => (match e with
    | .Tuple elts _ _ => noStars elts && okHxs cf T i es sc elts && decide (es.length ≤ 1000)
    | _ => false)
def okHxs (cf : Cf) (T : Tab) (i : Option Nat) : List Hx → Scope → List Expr → Bool
  | [], _, es => es.isEmpty
  | c :: cs, sc, es => (match es with
    | e :: es => noStar e && okHx cf T i c sc e && okHxs cf T i cs sc es
    | [] => false)
end
theorem Alone.rep {K : PySem.W.Frag} {d : D} {v : V} (h : Alone K H H' d v) : RepR K H' d v := (h (fun _ => False) fun _ z => z.elim).mono cut_same
/-- such a value, as the model has it -/
def vD : D → V
  | .bl b => .bl b
  | .int n => .int n
  | .str s => .str (mkS s)
  | _ => .non
theorem scD_rep {K : PySem.W.Frag} {H : Hp} {d : D} (h : scD d = true) : RepR K H d (vD d) := by
  cases d <;> first | (cases h; done) | (unfold RepR; rfl)
theorem scD_eq {K : PySem.W.Frag} {H : Hp} {d : D} {v : V} (h : scD d = true) (r : RepR K H d v) : v = vD d := by
  cases d <;> first | (cases h; done) | exact r.non | exact r.bl | exact r.int | exact r.str
/-- what an expression of a suite sees: the error, and plain values -/
def VisR (i : Option Nat) (a : Addr) (σ : L2.St) (ρ : Env) : Prop := (∀ j, i = some j → σ[j]? = some (some (.ref a))) ∧ ∀ (j k : Nat) (d : D), ρ[j]? = some (some (k, d)) → scD d = true → σ[j]? = some (some (vD d))
theorem Rel.vis {K : PySem.W.Frag} {i : Option Nat} {a : Addr} (r : Rel K B Z O σ H ρ) (es : ∀ j, i = some j → σ[j]? = some (some (.ref a))) : VisR i a σ ρ := ⟨es, fun j k d e h => by
  obtain ⟨v, e1, w⟩ := r.own j k d e
  have hc : d.cont = false := by cases d <;> first | rfl | cases h
  rw [e1, scD_eq h ((Own.flat hc).mp w).2]⟩
def tHx (K : PySem.W.Frag) (ec : EC) (T : Tab) (i : Option Nat) (a : Addr) (cls : Value) (dd : Option Addr) (c : Hx) : TE := fun σ H Q => ∃ (x : String) (p : List (String × Int) × Env) (d : D), IsExc ec x p.1 cls dd H ∧ VisR i a σ p.2 ∧ hev T x p c = some d ∧ ∀ v H', Same H H' → Alone K H H' d v → Q v H'
def tHxs (K : PySem.W.Frag) (ec : EC) (T : Tab) (i : Option Nat) (a : Addr) (cls : Value) (dd : Option Addr) (c : List Hx) : TA := fun σ H Q => ∃ (x : String) (p : List (String × Int) × Env) (ds : List D), IsExc ec x p.1 cls dd H ∧ VisR i a σ p.2 ∧ hevs T x p c = some ds ∧
  ∀ vs H', Same H H' → (∀ A : AS, (∀ y, A y → H y ≠ none) → RepRs K (cut H' A) ds vs) → Q vs H'
def tHt (ec : EC) (T : Tab) (i : Option Nat) (a : Addr) (cls : Value) (dd : Option Addr) (c : Hx) : TT := fun σ H Q => ∃ (x : String) (p : List (String × Int) × Env) (b : Bool), IsExc ec x p.1 cls dd H ∧ VisR i a σ p.2 ∧ hev T x p c = some (.bl b) ∧ ∀ H', Same H H' → Q b H'
/-- the context of a suite -/
structure Sui (ec : EC) (cf : Cf) (T : Tab) (X : Cx) (a : Addr) (oe : Obj) (cls : Value) (dd : Option Addr) : Prop where
  hN : X.N = cf.N
  nd : X.N.Nodup
  fn : ∀ x, X.fn x = true
  hz : Zc cls dd oe
  hf : ∃ vs, oe.data = .fields vs
  bn : ∀ n : String, cf.bn.contains n = true → X.mg (Str.ofString n) = none
  xc : ∀ (x : String) l, T.lookup x = some l → XcOk X.K X.mg ec x
  sub : ∀ (x c : String) b l, isA T x c = some b → T.lookup c = some l → PySem.W.exmOne X.K (ec x) (ec c) = some b ∧ PySem.W.kitOne X.K (ec x) (ec c) = some b
  bsub : ∀ (x c : String) b, isA T x c = some b → cf.bx.contains c = true → PySem.W.kitOne X.K (ec x) (.type c) = some b ∧ bootBuiltins (Str.ofString c) = some (.type c) ∧ X.mg (Str.ofString c) = none
  ks : ∀ (f : String) (n : Kn), cf.ks.contains (f, n) = true → ∃ c : CalK X.prog X.w X.K X.mg X.base ec T, c.name = f ∧ c.n = n ∧ L2H.RoomH c.k X.A
  xi : ∀ x fl : String, cf.ri.contains (x, fl) = true → ∃ c : CalI X.prog X.w X.K X.mg X.base, c.name = x ∧ c.fl = fl ∧ (T.lookup x).isSome = true
theorem Alone.bl {K : PySem.W.Frag} {b : Bool} : Alone K H H' (.bl b) (.bl b) := fun A _ => by unfold RepR; rfl
theorem isA_known {x c : String} {b : Bool} (h : isA T x c = some b) : ∃ l, T.lookup x = some l := by
  unfold isA at h
  cases e : T.lookup x with
  | none => rw [e] at h; cases h
  | some l => exact ⟨l, rfl⟩
section
variable {a : Addr} {oe : Obj} {cls : Value} {dd : Option Addr} {pn : List (Addr × Obj)} {i : Option Nat}
theorem h_isIn {c : String} {f y z : Str} {p1 p2 p3 : Pos} (S : Sui ec cf T X a oe cls dd) (hsc : X.env.scope = sc) (h1 : one1 cf sc f "isinstance" = true) (h2 : (match i with | some j => vrI cf sc j y | none => false) = true) (h3 : Str.ofString c = z) (h4 : glB sc z = true) (h5 : nmB z = true) (h6 : ((T.lookup c).isSome || cf.bx.contains c) = true) :
    PE (X.suite a ((a, oe) :: pn)) (.Call (.Name f p1) [.Name y p2, .Name z p3] [] pos) (tHx X.K ec T i a cls dd (.isIn c)) := by
  have contra : ∀ {σ H Q}, tHx X.K ec T i a cls dd (.isIn c) σ H Q → (∃ D, cls = .ref D ∧ ExcC X.K D) ∧ ∃ x b, isA T x c = some b := fun {σ H Q} ⟨x, p, d, ix, es, hv, q⟩ => by
    unfold hev at hv
    cases e : isA T x c with
    | none => rw [e] at hv; cases hv
    | some b =>
      obtain ⟨l, el⟩ := isA_known e
      obtain ⟨D, e1, _, _, _, _, C⟩ := S.xc x l el
      exact ⟨⟨D, by rw [ix.1, e1], C⟩, x, b, e⟩
  by_cases hD : (∃ D, cls = .ref D ∧ ExcC X.K D) ∧ ∃ x b, isA T x c = some b
  · obtain ⟨⟨D, e1, EC'⟩, hk⟩ := hD
    subst e1
    unfold one1 at h1
    simp only [Bool.and_eq_true] at h1
    obtain ⟨⟨⟨o1, o2⟩, o3⟩, o4⟩ := h1
    have o1 := of_decide_eq_true o1
    subst o1
    split at h2 <;> first | (cases h2; done) | skip
    rename_i j
    unfold vrI at h2
    simp only [Bool.and_eq_true] at h2
    obtain ⟨⟨v1, v2⟩, v3⟩ := h2
    have pv : PE (X.suite a ((a, oe) :: pn)) (.Name y p2) (tVar j) := pe_var (by show X.N[j]? = _; rw [S.hN]; exact of_decide_eq_true v1) (vis_of (X := X) hsc v2) (nmB_of v3).1 (nmB_of v3).2.1
    have hg0 : Gl (X.suite a ((a, oe) :: pn)) (Str.ofString "isinstance") := gl_of (X := X) hsc o3
    have hgz : Gl (X.suite a ((a, oe) :: pn)) z := gl_of (X := X) hsc h4
    have hdn := (nmB_of o4)
    -- the class, as a value
    have hc : ∃ (cv : V) (cu : Value), PE (X.suite a ((a, oe) :: pn)) (.Name z p3) (tC cv) ∧ (∀ u, RelV cv u → u = cu) ∧ ∀ x b, isA T x c = some b → PySem.W.kitOne X.K (ec x) cu = some b := by
      rw [Bool.or_eq_true] at h6
      rcases h6 with h6 | h6
      · obtain ⟨l, el⟩ := Option.isSome_iff_exists.mp h6
        obtain ⟨D2, g1, g2, _⟩ := S.xc c l el
        subst h3
        exact ⟨.ref D2, .ref D2, pe_glob hgz g2 rfl (nmB_of h5).1, fun u r => r, fun x b h => by rw [← g1]; exact (S.sub x c b l h el).2⟩
      · obtain ⟨x, b, hk⟩ := hk
        obtain ⟨_, g2, g3⟩ := S.bsub x c b hk h6
        subst h3
        exact ⟨.ty c, .type c, pe_bltn hgz g3 g2 rfl (nmB_of h5).2.2 (nmB_of h5).1, fun u r => r, fun x b h => (S.bsub x c b h h6).1⟩
    obtain ⟨cv, cu, pc, rc, kc⟩ := hc
    refine PE.imp (pe_callB (call_isK (oe := oe) (dd := dd) (List.mem_cons_self ..) EC' S.hz S.hf) hg0 (S.bn _ o2) isi_boot (pa_cons pv (pa_cons pc pa_nil)) hdn.2.2 hdn.1) fun σ H Q ⟨x, p, d, ix, es, hv, q⟩ => ?_
    unfold hev at hv
    cases e : isA T x c with
    | none => rw [e] at hv; cases hv
    | some b =>
      rw [e] at hv
      cases hv
      refine ⟨_, es.1 j rfl, cv, cu, b, rfl, rc, by rw [ix.1]; exact kc x b e, ?_, q _ _ (Same.refl _) Alone.bl⟩
      by_cases hpe : p.1 = []
      · exact .inl (ix.2.1 hpe)
      · obtain ⟨dx, q1, q2⟩ := ix.2.2 hpe
        exact .inr ⟨dx, _, q1, q2⟩
  · exact ⟨fun pins s σ H Q I h => absurd (contra h) hD⟩
theorem kitAny_own {x : String} {l : List String} (S : Sui ec cf T X a oe cls dd) (el : T.lookup x = some l) : ∀ cs : List String, (∀ c ∈ cs, (T.lookup c).isSome = true) → PySem.W.kitAny X.K (ec x) (cs.map ec) = some (cs.any fun c => l.contains c)
  | [], _ => kitAny_nil
  | c :: cs, h => by
    obtain ⟨lc, hlc⟩ := Option.isSome_iff_exists.mp (h c (by simp))
    have hk := (S.sub x c (l.contains c) lc (by unfold isA; rw [el]; rfl) hlc).2
    have ih := kitAny_own S el cs fun c' m => h c' (by simp [m])
    rw [List.map_cons]
    refine kitAny_cons hk (fun hb => ?_) (fun hb => ?_)
    · rw [ih, List.any_cons, hb, Bool.false_or]
    · rw [List.any_cons, hb, Bool.true_or]
theorem pa_cls (S : Sui ec cf T X a oe cls dd) (hsc : X.env.scope = sc) : ∀ {cs : List String} {zs : List Expr}, okCs T cs sc zs = true → (∀ c ∈ cs, (T.lookup c).isSome = true) ∧ ∃ vs : List V, vs.length = cs.length ∧ (∀ ws, Vals vs ws → ws = cs.map ec) ∧ PA (X.suite a ((a, oe) :: pn)) zs (fun _ H Q => Q vs H)
  | [], [], h => ⟨fun _ m => (by cases m), [], rfl, fun ws r => by cases r; rfl, pa_nil⟩
  | [], _ :: _, h => by simp [okCs] at h
  | _ :: _, [], h => by simp [okCs] at h
  | c :: cs, z0 :: zs', h => by
    obtain ⟨z, p, e0, h'⟩ : ∃ z p, z0 = .Name z p ∧ (decide (Str.ofString c = z) && glB sc z && nmB z && (T.lookup c).isSome && okCs T cs sc zs') = true := by
      cases z0 with
      | Name z p => exact ⟨z, p, rfl, by unfold okCs at h; exact h⟩
      | _ => simp [okCs] at h
    subst e0
    simp only [Bool.and_eq_true] at h'
    obtain ⟨⟨⟨⟨h1, h2⟩, h3⟩, h4⟩, h5⟩ := h'
    have h1 := of_decide_eq_true h1
    obtain ⟨g, vs, hl, hv, pr⟩ := pa_cls S hsc h5
    obtain ⟨lc, hlc⟩ := Option.isSome_iff_exists.mp h4
    obtain ⟨D2, g1, g2, _⟩ := S.xc c lc hlc
    subst h1
    have hgz : Gl (X.suite a ((a, oe) :: pn)) (Str.ofString c) := gl_of (X := X) hsc h2
    have pz : PE (X.suite a ((a, oe) :: pn)) (.Name (Str.ofString c) p) (tC (.ref D2)) := pe_glob hgz g2 rfl (nmB_of h3).1
    refine ⟨fun c' m => ?_, .ref D2 :: vs, by rw [List.length_cons, hl, List.length_cons], fun ws r => ?_, PA.imp (pa_cons pz pr) fun σ H Q q => q⟩
    · rcases List.mem_cons.mp m with e | m
      · rw [e]; exact h4
      · exact g c' m
    · cases r with
      | cons r1 r2 =>
        rw [List.map_cons, hv _ r2, g1]
        cases (show _ = Value.ref D2 from r1); rfl
theorem h_isAny {cs : List String} {f y : Str} {zs : List Expr} {k : Nat} {p1 p2 p3 : Pos} (S : Sui ec cf T X a oe cls dd) (hsc : X.env.scope = sc) (h1 : one1 cf sc f "isinstance" = true) (h2 : (match i with | some j => vrI cf sc j y | none => false) = true) (h3 : cs.length ≤ 1000) (h4 : okCs T cs sc zs = true) :
    PE (X.suite a ((a, oe) :: pn)) (.Call (.Name f p1) [.Name y p2, .Tuple zs k p3] [] pos) (tHx X.K ec T i a cls dd (.isAny cs)) := by
  have contra : ∀ {σ H Q}, tHx X.K ec T i a cls dd (.isAny cs) σ H Q → (∃ D, cls = .ref D ∧ ExcC X.K D) := fun {σ H Q} ⟨x, p, d, ix, es, hv, q⟩ => by
    unfold hev at hv
    cases el : T.lookup x with
    | none => rw [el] at hv; cases hv
    | some l =>
      obtain ⟨D, e1, _, _, _, _, C⟩ := S.xc x l el
      exact ⟨D, by rw [ix.1, e1], C⟩
  by_cases hD : (∃ D, cls = .ref D ∧ ExcC X.K D)
  · obtain ⟨D, e1, EC'⟩ := hD
    subst e1
    unfold one1 at h1
    simp only [Bool.and_eq_true] at h1
    obtain ⟨⟨⟨o1, o2⟩, o3⟩, o4⟩ := h1
    have o1 := of_decide_eq_true o1
    subst o1
    split at h2 <;> first | (cases h2; done) | skip
    rename_i j
    unfold vrI at h2
    simp only [Bool.and_eq_true] at h2
    obtain ⟨⟨v1, v2⟩, v3⟩ := h2
    have pv : PE (X.suite a ((a, oe) :: pn)) (.Name y p2) (tVar j) := pe_var (by show X.N[j]? = _; rw [S.hN]; exact of_decide_eq_true v1) (vis_of (X := X) hsc v2) (nmB_of v3).1 (nmB_of v3).2.1
    have hg0 : Gl (X.suite a ((a, oe) :: pn)) (Str.ofString "isinstance") := gl_of (X := X) hsc o3
    have hdn := (nmB_of o4)
    obtain ⟨hcs, vs, hl, hvs, pcs⟩ := pa_cls (pn := pn) S hsc h4
    refine PE.imp (pe_callB (call_isKT (oe := oe) (dd := dd) (List.mem_cons_self ..) EC' S.hz S.hf) hg0 (S.bn _ o2) isi_boot (pa_cons pv (pa_cons (pe_tup pcs) pa_nil)) hdn.2.2 hdn.1) fun σ H Q ⟨x, p, d, ix, es, hv, q⟩ => ?_
    unfold hev at hv
    cases el : T.lookup x with
    | none => rw [el] at hv; cases hv
    | some l =>
      rw [el] at hv
      cases hv
      refine ⟨_, es.1 j rfl, by rw [hl, sizeLine_eq]; omega, fun tp hT => ⟨tp, vs, cs.map ec, _, rfl, upd_same, hvs, by rw [ix.1]; exact kitAny_own S el cs hcs, ?_, q _ _ (same_new hT) Alone.bl⟩⟩
      have ix := ix.mono (same_new (o := .tup vs) hT)
      by_cases hpe : p.1 = []
      · exact .inl (ix.2.1 hpe)
      · obtain ⟨dx, q1, q2⟩ := ix.2.2 hpe
        exact .inr ⟨dx, _, q1, q2⟩
  · exact ⟨fun pins s σ H Q I h => absurd (contra h) hD⟩
theorem Alone.str {K : PySem.W.Frag} {s : List Nat} : Alone K H H' (.str s) (.str (mkS s)) := fun A _ => by unfold RepR; rfl
theorem h_kind {f : String} {n : Kn} {z y : Str} {p1 p2 : Pos} (S : Sui ec cf T X a oe cls dd) (hsc : X.env.scope = sc) (h1 : Str.ofString f = z) (h2 : cf.ks.contains (f, n) = true) (h3 : glB sc z = true) (h4 : nmB z = true) (h5 : (match i with | some j => vrI cf sc j y | none => false) = true) :
    PE (X.suite a ((a, oe) :: pn)) (.Call (.Name z p1) [.Name y p2] [] pos) (tHx X.K ec T i a cls dd (.kind f n)) := by
  obtain ⟨c, c1, c2, c3⟩ := S.ks f n h2
  subst c1; subst c2
  split at h5 <;> first | (cases h5; done) | skip
  rename_i j
  unfold vrI at h5
  simp only [Bool.and_eq_true] at h5
  obtain ⟨⟨v1, v2⟩, v3⟩ := h5
  have pv : PE (X.suite a ((a, oe) :: pn)) (.Name y p2) (tVar j) := pe_var (by show X.N[j]? = _; rw [S.hN]; exact of_decide_eq_true v1) (vis_of (X := X) hsc v2) (nmB_of v3).1 (nmB_of v3).2.1
  subst h1
  have gm : (X.suite a ((a, oe) :: pn)).mg (Str.ofString c.name) = some (.ref c.f) := c.gm
  refine ⟨fun pins s σ H Q I ⟨x, p, d, ix, es, hv, q⟩ => ?_⟩
  refine wpAny_Call_Name_kw (ld_glob I (gl_of (X := X) hsc h3) gm ?_ (nmB_of h4).1)
  refine PySem.W.callWith_K (h₀ := X.base) I.ok.mod.kin c.kp (thn ((pa_cons pv pa_nil rfl).run pos pins s σ H (fun vs H1 => vs = [.ref a] ∧ H1 = H) I ⟨_, es.1 j rfl, rfl, rfl⟩) fun us s1 ⟨vs, H1, I1, r1, e1, e2⟩ => ⟨I1.kIn, ?_⟩) rfl rfl
  subst e1; subst e2
  obtain ⟨u, rfl, ru⟩ := vals1 r1
  cases (show u = Value.ref a from ru)
  have bd := c.b s1 [.ref a] I1.kIn (by rw [List.append_nil]; exact c.ok.one.symm)
  rw [List.append_nil] at bd
  have P1 := I1.pin (a, oe) (List.mem_append_left _ List.mem_cons_self)
  have hpin : L2H.PinOk X.stack H1 s1 (a, oe) := ⟨P1.1, P1.2.1, fun hm => (List.mem_cons.mp (I1.stkSub a hm)).elim P1.2.2.1 P1.2.2.2.1, P1.2.2.2.2⟩
  unfold hev at hv
  have room : L2H.RoomH c.k (X.suite a ((a, oe) :: pn)).A := ⟨c3.dp, c3.un⟩
  have ix2 : IsExc ec x p.1 (ec x) dd H1 := ⟨rfl, ix.2⟩
  refine wpAny_call (codeAny_mono (c.ok.run (X.suite a ((a, oe) :: pn)).A X.stack s1 H1 (a, oe) x d p.1 dd (fun v H' => Q v H') room hpin I1.env0 bd (by rw [← ix.1]; exact S.hz) S.hf ix2 hv (fun v H' s' al => q v H' s' al)) ?_)
  intro r' s' done
  match r', done with
  | .error e, d =>
    obtain ⟨_, _, _, _, _, _, _, _, _, _, _, _, z⟩ := (show L2.CX X.prog X.w X.stack H1 s1 (fun _ _ _ => False) e s' from d)
    exact z.elim
  | .ok (.ret u), d => exact I1.after d
theorem hx_cat {c d : Hx} {l r : Expr} (ha : PE (X.suite a ((a, oe) :: pn)) l (tHx X.K ec T i a cls dd c)) (hb : PE (X.suite a ((a, oe) :: pn)) r (tHx X.K ec T i a cls dd d)) : PE (X.suite a ((a, oe) :: pn)) (.BinOp l .Add r pos) (tHx X.K ec T i a cls dd (.cat c d)) := by
  refine PE.imp (pe_op op_add_str ha hb) fun σ H Q ⟨x, p, d0, ix, es, hv, q⟩ => ?_
  unfold hev at hv
  split at hv
  · rename_i s t e1 e2
    split at hv
    · rename_i hl
      cases hv
      refine ⟨x, p, _, ix, es, e1, fun v H1 s1 al => ⟨x, p, _, ix.mono s1, es, e2, fun u H2 s2 al2 => ?_⟩⟩
      refine ⟨mkS s, mkS t, al.rep.str, al2.rep.str, by rw [mkS_len, mkS_len, line_eq]; exact hl, ?_⟩
      rw [mkS_app]
      exact q _ H2 (s1.trans s2) Alone.str
    · cases hv
  · cases hv
theorem hx_and {c d : Hx} {x y : Expr} {rest : List Expr} (ha : PE (X.suite a ((a, oe) :: pn)) x (tHx X.K ec T i a cls dd c)) (hb : PE (X.suite a ((a, oe) :: pn)) (.BoolOp .And (y :: rest) pos) (tHx X.K ec T i a cls dd d)) : PE (X.suite a ((a, oe) :: pn)) (.BoolOp .And (x :: y :: rest) pos) (tHx X.K ec T i a cls dd (.and c d)) := by
  refine PE.imp (pe_and ha hb) fun σ H Q ⟨x, p, r, ix, es, hv, q⟩ => ?_
  unfold hev at hv
  split at hv
  · rename_i e
    refine ⟨x, p, _, ix, es, e, fun v H1 s1 al => ⟨true, al.rep.bl, ?_⟩⟩
    rw [if_pos rfl]
    exact ⟨x, p, _, ix.mono s1, es, hv, fun v' H2 s2 al2 => q v' H2 (s1.trans s2) fun A hA => al2 A fun y z e => hA y z (s1.free e)⟩
  · rename_i e
    cases hv
    refine ⟨x, p, _, ix, es, e, fun v H1 s1 al => ⟨false, al.rep.bl, ?_⟩⟩
    rw [if_neg Bool.false_ne_true]
    exact q _ H1 s1 Alone.bl
  · cases hv
theorem hx_or {c d : Hx} {x y : Expr} {rest : List Expr} (ha : PE (X.suite a ((a, oe) :: pn)) x (tHx X.K ec T i a cls dd c)) (hb : PE (X.suite a ((a, oe) :: pn)) (.BoolOp .Or (y :: rest) pos) (tHx X.K ec T i a cls dd d)) : PE (X.suite a ((a, oe) :: pn)) (.BoolOp .Or (x :: y :: rest) pos) (tHx X.K ec T i a cls dd (.or c d)) := by
  refine PE.imp (pe_or ha hb) fun σ H Q ⟨x, p, r, ix, es, hv, q⟩ => ?_
  unfold hev at hv
  split at hv
  · rename_i e
    cases hv
    refine ⟨x, p, _, ix, es, e, fun v H1 s1 al => ⟨true, al.rep.bl, ?_⟩⟩
    rw [if_pos rfl]
    exact q _ H1 s1 Alone.bl
  · rename_i e
    refine ⟨x, p, _, ix, es, e, fun v H1 s1 al => ⟨false, al.rep.bl, ?_⟩⟩
    rw [if_neg Bool.false_ne_true]
    exact ⟨x, p, _, ix.mono s1, es, hv, fun v' H2 s2 al2 => q v' H2 (s1.trans s2) fun A hA => al2 A fun y z e => hA y z (s1.free e)⟩
  · cases hv
theorem hx_not {c : Hx} {x : Expr} (ha : PE (X.suite a ((a, oe) :: pn)) x (tHx X.K ec T i a cls dd c)) : PE (X.suite a ((a, oe) :: pn)) (.UnaryOp .Not x pos) (tHx X.K ec T i a cls dd (.not c)) := by
  refine PE.imp (pe_not ha) fun σ H Q ⟨x, p, r, ix, es, hv, q⟩ => ?_
  unfold hev at hv
  split at hv
  · rename_i b e
    cases hv
    exact ⟨x, p, _, ix, es, e, fun v H1 s1 al => ⟨b, al.rep.bl, q _ H1 s1 Alone.bl⟩⟩
  · cases hv
/-- as a test -/
theorem ht_val {c : Hx} {e : Expr} (ha : PE (X.suite a ((a, oe) :: pn)) e (tHx X.K ec T i a cls dd c)) (hp : plainTest e = true) : PT (X.suite a ((a, oe) :: pn)) e (tHt ec T i a cls dd c) := by
  refine PT.imp (pt_val ha fun whole => by cases e <;> first | rfl | cases hp) fun σ H Q ⟨x, p, b, ix, es, hv, q⟩ => ?_
  exact ⟨x, p, _, ix, es, hv, fun v H1 s1 al => ⟨b, al.rep.bl, q H1 s1⟩⟩
theorem ht_and {c d : Hx} {x y : Expr} {rest : List Expr} (ha : PT (X.suite a ((a, oe) :: pn)) x (tHt ec T i a cls dd c)) (hb : PW (X.suite a ((a, oe) :: pn)) (.BoolOp .And (y :: rest) pos) (tHt ec T i a cls dd d)) : PW (X.suite a ((a, oe) :: pn)) (.BoolOp .And (x :: y :: rest) pos) (tHt ec T i a cls dd (.and c d)) := by
  refine PW.imp (pw_and ha hb) fun σ H Q ⟨x, p, b, ix, es, hv, q⟩ => ?_
  unfold hev at hv
  split at hv
  · rename_i e
    refine ⟨x, p, _, ix, es, e, fun H1 s1 => ?_⟩
    dsimp only
    rw [if_pos rfl]
    exact ⟨x, p, b, ix.mono s1, es, hv, fun H2 s2 => q H2 (s1.trans s2)⟩
  · rename_i e
    cases hv
    refine ⟨x, p, _, ix, es, e, fun H1 s1 => ?_⟩
    dsimp only
    rw [if_neg Bool.false_ne_true]
    exact q H1 s1
  · cases hv
theorem ht_or {c d : Hx} {x y : Expr} {rest : List Expr} (ha : PT (X.suite a ((a, oe) :: pn)) x (tHt ec T i a cls dd c)) (hb : PW (X.suite a ((a, oe) :: pn)) (.BoolOp .Or (y :: rest) pos) (tHt ec T i a cls dd d)) : PW (X.suite a ((a, oe) :: pn)) (.BoolOp .Or (x :: y :: rest) pos) (tHt ec T i a cls dd (.or c d)) := by
  refine PW.imp (pw_or ha hb) fun σ H Q ⟨x, p, b, ix, es, hv, q⟩ => ?_
  unfold hev at hv
  split at hv
  · rename_i e
    cases hv
    refine ⟨x, p, _, ix, es, e, fun H1 s1 => ?_⟩
    dsimp only
    rw [if_pos rfl]
    exact q H1 s1
  · rename_i e
    refine ⟨x, p, _, ix, es, e, fun H1 s1 => ?_⟩
    dsimp only
    rw [if_neg Bool.false_ne_true]
    exact ⟨x, p, b, ix.mono s1, es, hv, fun H2 s2 => q H2 (s1.trans s2)⟩
  · cases hv
theorem ht_not {c : Hx} {x : Expr} (ha : PT (X.suite a ((a, oe) :: pn)) x (tHt ec T i a cls dd c)) : PT (X.suite a ((a, oe) :: pn)) (.UnaryOp .Not x pos) (tHt ec T i a cls dd (.not c)) := by
  refine PT.imp (pt_not ha) fun σ H Q ⟨x, p, b, ix, es, hv, q⟩ => ?_
  unfold hev at hv
  split at hv
  · rename_i b' e
    cases hv
    exact ⟨x, p, _, ix, es, e, fun H1 s1 => q H1 s1⟩
  · cases hv
theorem h_lit {d : D} {c : Const} {j : Nat} (h : litB d c = true) : PE (X.suite a ((a, oe) :: pn)) (.Constant c j pos) (tHx X.K ec T i a cls dd (.lit d)) := by
  have al : ∀ {H : Hp} {v : V}, RepR X.K H d v → (∀ H', RepR X.K H' d v) → Alone X.K H H d v := fun r f A _ => f _
  cases d <;> cases c <;> first | (cases h; done) | skip
  · exact PE.imp pe_non fun σ H Q ⟨x, p, r, ix, es, hv, q⟩ => by
      unfold hev at hv; cases hv
      exact q _ H (Same.refl _) fun A _ => by unfold RepR; rfl
  · rename_i b b'
    have e : b = b' := by simpa [litB] using h
    subst e
    exact PE.imp pe_bl fun σ H Q ⟨x, p, r, ix, es, hv, q⟩ => by
      unfold hev at hv; cases hv
      exact q _ H (Same.refl _) fun A _ => by unfold RepR; rfl
  · rename_i b b'
    have e : b = b' := by simpa [litB] using h
    subst e
    exact PE.imp pe_int fun σ H Q ⟨x, p, r, ix, es, hv, q⟩ => by
      unfold hev at hv; cases hv
      exact q _ H (Same.refl _) fun A _ => by unfold RepR; rfl
  · rename_i b b'
    have e : b'.cps.toList = b := by simpa [litB] using h
    subst e
    exact PE.imp pe_str fun σ H Q ⟨x, p, r, ix, es, hv, q⟩ => by
      unfold hev at hv; cases hv
      exact q _ H (Same.refl _) fun A _ => by unfold RepR; rw [mkS_list]
theorem hx_tup {cs : List Hx} {es : List Expr} {k : Nat} (hl : cs.length ≤ 1000) (hlen : ∀ x p ds, hevs T x p cs = some ds → ds.length = cs.length) (ha : PA (X.suite a ((a, oe) :: pn)) es (tHxs X.K ec T i a cls dd cs)) : PE (X.suite a ((a, oe) :: pn)) (.Tuple es k pos) (tHx X.K ec T i a cls dd (.tup cs)) := by
  refine PE.imp (pe_tupN ha) fun σ H Q ⟨x, p, r, ix, ess, hv, q⟩ => ?_
  unfold hev at hv
  cases e : hevs T x p cs with
  | none => rw [e] at hv; cases hv
  | some ds =>
    rw [e] at hv
    cases hv
    refine ⟨x, p, ds, ix, ess, e, fun vs H1 s1 al => ⟨?_, fun T' o' hT hd => q _ _ (s1.trans (same_new hT)) fun A hA => ?_⟩⟩
    · have := (al (fun _ => False) fun _ z => z.elim).length
      rw [this, hlen x p ds e, sizeLine_eq]
      omega
    · unfold RepR
      exact ⟨T', vs, rfl, PTu.of (cut_of upd_same fun z => hA T' z (s1.free hT)) hd, (al A hA).mono (cut_heap (same_new hT))⟩
theorem hevs_len {x : String} {p : List (String × Int) × Env} : ∀ {cs : List Hx} {ds : List D}, hevs T x p cs = some ds → ds.length = cs.length
  | [], ds, h => by unfold hevs at h; cases h; rfl
  | c :: cs, ds, h => by
    unfold hevs at h
    split at h
    · rename_i e1 e2
      cases h
      simp [hevs_len e2]
    · cases h
theorem hxs_nil : PA (X.suite a ((a, oe) :: pn)) [] (tHxs X.K ec T i a cls dd []) := PA.imp pa_nil fun σ H Q ⟨x, p, ds, ix, es, hv, q⟩ => by
  unfold hevs at hv
  cases hv
  exact q [] H (Same.refl _) fun A _ => RepRs.nil
theorem hxs_cons {c : Hx} {cs : List Hx} {e : Expr} {es : List Expr} (hs : noStar e = true) (ha : PE (X.suite a ((a, oe) :: pn)) e (tHx X.K ec T i a cls dd c)) (hr : PA (X.suite a ((a, oe) :: pn)) es (tHxs X.K ec T i a cls dd cs)) : PA (X.suite a ((a, oe) :: pn)) (e :: es) (tHxs X.K ec T i a cls dd (c :: cs)) := by
  refine PA.imp (pa_cons ha hr (starEach_of hs)) fun σ H Q ⟨x, p, ds, ix, ess, hv, q⟩ => ?_
  unfold hevs at hv
  split at hv
  · rename_i d ds' e1 e2
    cases hv
    refine ⟨x, p, d, ix, ess, e1, fun v H1 s1 al => ⟨x, p, ds', ix.mono s1, ess, e2, fun vs H2 s2 al2 => q _ H2 (s1.trans s2) fun A hA => ?_⟩⟩
    exact RepRs.cons ((al A hA).mono (cut_heap s2)) (al2 A fun y z e => hA y z (s1.free e))
  · cases hv
theorem hx_var {j : Nat} {y : Str} (S : Sui ec cf T X a oe cls dd) (hsc : X.env.scope = sc) (h : vrI cf sc j y = true) : PE (X.suite a ((a, oe) :: pn)) (.Name y pos) (tHx X.K ec T i a cls dd (.var j)) := by
  unfold vrI at h
  simp only [Bool.and_eq_true] at h
  obtain ⟨⟨v1, v2⟩, v3⟩ := h
  refine PE.imp (pe_var (i := j) (by show X.N[j]? = _; rw [S.hN]; exact of_decide_eq_true v1) (vis_of (X := X) hsc v2) (nmB_of v3).1 (nmB_of v3).2.1) fun σ H Q ⟨x, p, d, ix, es, hv, q⟩ => ?_
  unfold hev at hv
  split at hv
  · rename_i k d' e
    split at hv
    · rename_i hd
      cases hv
      exact ⟨vD d, es.2 j k d e hd, q _ H (Same.refl _) fun A _ => scD_rep hd⟩
    · cases hv
  · cases hv
theorem hx_neg {n : Int} {k : Nat} {p1 : Pos} : PE (X.suite a ((a, oe) :: pn)) (.UnaryOp .USub (.Constant (.int n) k p1) pos) (tHx X.K ec T i a cls dd (.neg n)) := by
  refine PE.imp (pe_un un_neg pe_int) fun σ H Q ⟨x, p, d, ix, es, hv, q⟩ => ?_
  unfold hev at hv
  cases hv
  exact ⟨n, rfl, q _ H (Same.refl _) fun A _ => by unfold RepR; rfl⟩
theorem hx_fld {c f : String} {y nm : Str} {p1 : Pos} (S : Sui ec cf T X a oe cls dd) (hsc : X.env.scope = sc) (h1 : Str.ofString f = nm) (h2 : cf.ri.contains (c, f) = true) (h5 : (match i with | some j => vrI cf sc j y | none => false) = true) : PE (X.suite a ((a, oe) :: pn)) (.Attribute (.Name y p1) nm pos) (tHx X.K ec T i a cls dd (.fld c f)) := by
  split at h5 <;> first | (cases h5; done) | skip
  rename_i j
  unfold vrI at h5
  simp only [Bool.and_eq_true] at h5
  obtain ⟨⟨v1, v2⟩, v3⟩ := h5
  obtain ⟨I, i1, i2, h3⟩ := S.xi c f h2
  obtain ⟨l, el⟩ := Option.isSome_iff_exists.mp h3
  obtain ⟨D', e2, gm, _⟩ := S.xc c l el
  have eC : D' = I.C := by
    rw [← i1] at gm
    have := gm.symm.trans I.gm
    cases this; rfl
  subst eC
  subst h1
  have hno := I.no
  rw [i2] at hno
  have pv : PE (X.suite a ((a, oe) :: pn)) (.Name y p1) (tVar j) := pe_var (by show X.N[j]? = _; rw [S.hN]; exact of_decide_eq_true v1) (vis_of (X := X) hsc v2) (nmB_of v3).1 (nmB_of v3).2.1
  refine PE.imp (pe_xf I.xf hno S.hz S.hf pv) fun σ H Q ⟨x, p, d, ix, es, hv, q⟩ => ?_
  unfold hev at hv
  split at hv
  · rename_i hx
    subst hx
    split at hv
    · rename_i g n hp
      split at hv
      · rename_i hg
        subst hg
        cases hv
        obtain ⟨a2, d1, d2⟩ := ix.2.2 (by rw [hp]; simp)
        rw [hp] at d2
        exact ⟨.ref a, es.1 j rfl, rfl, ix.1.trans e2, a2, _, .int n, d1, d2, by simp [List.lookup], q _ _ (Same.refl _) fun A _ => by unfold RepR; rfl⟩
      · cases hv
    · cases hv
  · cases hv
theorem hev_eqs {x : String} {p : List (String × Int) × Env} {n : Bool} {c e : Hx} {d : D} (h : hev T x p (.eqs n c e) = some d) : ∃ u v r, hev T x p c = some u ∧ hev T x p e = some v ∧ scalB u v = some r ∧ d = .bl (if n then !r else r) := by
  unfold hev at h
  split at h
  · rename_i u v e1 e2
    cases hs : scalB u v with
    | none => rw [hs] at h; cases h
    | some r => rw [hs] at h; cases h; exact ⟨u, v, r, e1, e2, hs, rfl⟩
  · cases h
theorem hx_eq {c d : Hx} {l r : Expr} (ha : PE (X.suite a ((a, oe) :: pn)) l (tHx X.K ec T i a cls dd c)) (hb : PE (X.suite a ((a, oe) :: pn)) r (tHx X.K ec T i a cls dd d)) (hm : behindInMarks .Eq r = false) : PE (X.suite a ((a, oe) :: pn)) (.Compare l [.Eq] [r] pos) (tHx X.K ec T i a cls dd (.eqs false c d)) := by
  refine PE.imp (pe_cmpR op_eq ha hb hm) fun σ H Q ⟨x, p, d0, ix, es, hv, q⟩ => ?_
  obtain ⟨u, v, r, e1, e2, e3, rfl⟩ := hev_eqs hv
  refine ⟨x, p, _, ix, es, e1, fun v1 H1 s1 al => ⟨x, p, _, ix.mono s1, es, e2, fun v2 H2 s2 al2 => ?_⟩⟩
  obtain ⟨h1, h2⟩ := scal_of e3 (al.rep.mono s2) al2.rep
  exact ⟨h1, by rw [h2]; exact q _ H2 (s1.trans s2) Alone.bl⟩
theorem hx_ne {c d : Hx} {l r : Expr} (ha : PE (X.suite a ((a, oe) :: pn)) l (tHx X.K ec T i a cls dd c)) (hb : PE (X.suite a ((a, oe) :: pn)) r (tHx X.K ec T i a cls dd d)) (hm : behindInMarks .NotEq r = false) : PE (X.suite a ((a, oe) :: pn)) (.Compare l [.NotEq] [r] pos) (tHx X.K ec T i a cls dd (.eqs true c d)) := by
  refine PE.imp (pe_cmpR op_ne ha hb hm) fun σ H Q ⟨x, p, d0, ix, es, hv, q⟩ => ?_
  obtain ⟨u, v, r, e1, e2, e3, rfl⟩ := hev_eqs hv
  refine ⟨x, p, _, ix, es, e1, fun v1 H1 s1 al => ⟨x, p, _, ix.mono s1, es, e2, fun v2 H2 s2 al2 => ?_⟩⟩
  obtain ⟨h1, h2⟩ := scal_of e3 (al.rep.mono s2) al2.rep
  exact ⟨h1, by rw [h2]; exact q _ H2 (s1.trans s2) Alone.bl⟩
theorem ht_eq {c d : Hx} {l r : Expr} (ha : PE (X.suite a ((a, oe) :: pn)) l (tHx X.K ec T i a cls dd c)) (hb : PE (X.suite a ((a, oe) :: pn)) r (tHx X.K ec T i a cls dd d)) (hm : behindInMarks .Eq r = false) : PT (X.suite a ((a, oe) :: pn)) (.Compare l [.Eq] [r] pos) (tHt ec T i a cls dd (.eqs false c d)) := by
  refine PT.imp (pt_cmpR op_eq ha hb hm) fun σ H Q ⟨x, p, b, ix, es, hv, q⟩ => ?_
  obtain ⟨u, v, r, e1, e2, e3, e4⟩ := hev_eqs hv
  cases e4
  refine ⟨x, p, _, ix, es, e1, fun v1 H1 s1 al => ⟨x, p, _, ix.mono s1, es, e2, fun v2 H2 s2 al2 => ?_⟩⟩
  obtain ⟨h1, h2⟩ := scal_of e3 (al.rep.mono s2) al2.rep
  exact ⟨h1, _, by rw [h2]; rfl, q H2 (s1.trans s2)⟩
theorem ht_ne {c d : Hx} {l r : Expr} (ha : PE (X.suite a ((a, oe) :: pn)) l (tHx X.K ec T i a cls dd c)) (hb : PE (X.suite a ((a, oe) :: pn)) r (tHx X.K ec T i a cls dd d)) (hm : behindInMarks .NotEq r = false) : PT (X.suite a ((a, oe) :: pn)) (.Compare l [.NotEq] [r] pos) (tHt ec T i a cls dd (.eqs true c d)) := by
  refine PT.imp (pt_cmpR op_ne ha hb hm) fun σ H Q ⟨x, p, b, ix, es, hv, q⟩ => ?_
  obtain ⟨u, v, r, e1, e2, e3, e4⟩ := hev_eqs hv
  cases e4
  refine ⟨x, p, _, ix, es, e1, fun v1 H1 s1 al => ⟨x, p, _, ix.mono s1, es, e2, fun v2 H2 s2 al2 => ?_⟩⟩
  obtain ⟨h1, h2⟩ := scal_of e3 (al.rep.mono s2) al2.rep
  exact ⟨h1, _, by rw [h2]; rfl, q H2 (s1.trans s2)⟩
mutual
theorem hx_ok (S : Sui ec cf T X a oe cls dd) (hsc : X.env.scope = sc) : ∀ {c : Hx} {e : Expr}, okHx cf T i c sc e = true → PE (X.suite a ((a, oe) :: pn)) e (tHx X.K ec T i a cls dd c)
  | .lit d, e, h => by
    unfold okHx at h
    split at h <;> first | (cases h; done) | skip
    exact h_lit h
  | .isIn c, e, h => by
    unfold okHx at h
    split at h <;> first | (cases h; done) | skip
    simp only [Bool.and_eq_true] at h
    obtain ⟨⟨⟨⟨⟨h1, h2⟩, h3⟩, h4⟩, h5⟩, h6⟩ := h
    exact h_isIn S hsc h1 h2 (of_decide_eq_true h3) h4 h5 h6
  | .isAny cs, e, h => by
    unfold okHx at h
    split at h <;> first | (cases h; done) | skip
    simp only [Bool.and_eq_true] at h
    obtain ⟨⟨⟨h1, h2⟩, h3⟩, h4⟩ := h
    exact h_isAny S hsc h1 h2 (of_decide_eq_true h3) h4
  | .fld c f, e, h => by
    unfold okHx at h
    split at h <;> first | (cases h; done) | skip
    simp only [Bool.and_eq_true] at h
    exact hx_fld S hsc (of_decide_eq_true h.1.1) h.1.2 h.2
  | .neg n, e, h => by
    unfold okHx at h
    split at h <;> first | (cases h; done) | skip
    have h := of_decide_eq_true h
    subst h
    exact hx_neg
  | .var j, e, h => by
    unfold okHx at h
    split at h <;> first | (cases h; done) | skip
    exact hx_var S hsc h
  | .eqs n c d, e, h => by
    unfold okHx at h
    split at h <;> first | (cases h; done) | skip
    · simp only [Bool.and_eq_true, Bool.not_eq_true'] at h
      obtain ⟨⟨⟨h0, h1⟩, h2⟩, h3⟩ := h
      subst h0
      exact hx_eq (hx_ok S hsc h1) (hx_ok S hsc h2) h3
    · simp only [Bool.and_eq_true, Bool.not_eq_true'] at h
      obtain ⟨⟨⟨h0, h1⟩, h2⟩, h3⟩ := h
      subst h0
      exact hx_ne (hx_ok S hsc h1) (hx_ok S hsc h2) h3
  | .kind f n, e, h => by
    unfold okHx at h
    split at h <;> first | (cases h; done) | skip
    simp only [Bool.and_eq_true] at h
    obtain ⟨⟨⟨⟨h1, h2⟩, h3⟩, h4⟩, h5⟩ := h
    exact h_kind S hsc (of_decide_eq_true h1) h2 h3 h4 h5
  | .cat c d, e, h => by
    unfold okHx at h
    split at h <;> first | (cases h; done) | skip
    rw [Bool.and_eq_true] at h
    exact hx_cat (hx_ok S hsc h.1) (hx_ok S hsc h.2)
  | .and c d, e, h => by
    unfold okHx at h
    split at h <;> first | (cases h; done) | skip
    · rw [Bool.and_eq_true] at h
      exact hx_and (hx_ok S hsc h.1) (pe_one (hx_ok S hsc h.2))
    · rw [Bool.and_eq_true] at h
      exact hx_and (hx_ok S hsc h.1) (hx_ok S hsc h.2)
  | .or c d, e, h => by
    unfold okHx at h
    split at h <;> first | (cases h; done) | skip
    · rw [Bool.and_eq_true] at h
      exact hx_or (hx_ok S hsc h.1) (pe_one (hx_ok S hsc h.2))
    · rw [Bool.and_eq_true] at h
      exact hx_or (hx_ok S hsc h.1) (hx_ok S hsc h.2)
  | .not c, e, h => by
    unfold okHx at h
    split at h <;> first | (cases h; done) | skip
    exact hx_not (hx_ok S hsc h)
  | .ite c p q, e, h => by
    unfold okHx at h
    split at h <;> first | (cases h; done) | skip
    simp only [Bool.and_eq_true] at h
    obtain ⟨⟨⟨h0, h1⟩, h2⟩, h3⟩ := h
    refine PE.imp (pe_ifExp (ht_ok S hsc h0 h1).1 (hx_ok S hsc h2) (hx_ok S hsc h3)) fun σ H Q ⟨x, p, r, ix, es, hv, q⟩ => ?_
    unfold hev at hv
    split at hv
    · rename_i e
      refine ⟨x, p, true, ix, es, e, fun H1 s1 => ?_⟩
      dsimp only
      rw [if_pos rfl]
      exact ⟨x, p, _, ix.mono s1, es, hv, fun v' H2 s2 al2 => q v' H2 (s1.trans s2) fun A hA => al2 A fun y z e => hA y z (s1.free e)⟩
    · rename_i e
      refine ⟨x, p, false, ix, es, e, fun H1 s1 => ?_⟩
      dsimp only
      rw [if_neg Bool.false_ne_true]
      exact ⟨x, p, _, ix.mono s1, es, hv, fun v' H2 s2 al2 => q v' H2 (s1.trans s2) fun A hA => al2 A fun y z e => hA y z (s1.free e)⟩
    · cases hv
  | .tup cs, e, h => by
    unfold okHx at h
    split at h <;> first | (cases h; done) | skip
    simp only [Bool.and_eq_true] at h
    exact hx_tup (of_decide_eq_true h.2) (fun x p ds h => hevs_len h) (hxs_ok S hsc h.1.2)
theorem ht_ok (S : Sui ec cf T X a oe cls dd) (hsc : X.env.scope = sc) : ∀ {c : Hx} {e : Expr}, noIte c = true → okHx cf T i c sc e = true → PT (X.suite a ((a, oe) :: pn)) e (tHt ec T i a cls dd c) ∧ ∀ op xs pos, e = .BoolOp op xs pos → PW (X.suite a ((a, oe) :: pn)) e (tHt ec T i a cls dd c)
  | .lit d, e, hn, h => by
    unfold okHx at h
    split at h <;> first | (cases h; done) | skip
    exact ⟨ht_val (h_lit h) rfl, fun _ _ _ q => by cases q⟩
  | .isIn c, e, hn, h => by
    unfold okHx at h
    split at h <;> first | (cases h; done) | skip
    simp only [Bool.and_eq_true] at h
    obtain ⟨⟨⟨⟨⟨h1, h2⟩, h3⟩, h4⟩, h5⟩, h6⟩ := h
    exact ⟨ht_val (h_isIn S hsc h1 h2 (of_decide_eq_true h3) h4 h5 h6) rfl, fun _ _ _ q => by cases q⟩
  | .isAny cs, e, hn, h => by
    unfold okHx at h
    split at h <;> first | (cases h; done) | skip
    simp only [Bool.and_eq_true] at h
    obtain ⟨⟨⟨h1, h2⟩, h3⟩, h4⟩ := h
    exact ⟨ht_val (h_isAny S hsc h1 h2 (of_decide_eq_true h3) h4) rfl, fun _ _ _ q => by cases q⟩
  | .kind _ _, e, hn, h => by unfold noIte at hn; cases hn
  | .cat _ _, e, hn, h => by unfold noIte at hn; cases hn
  | .fld _ _, e, hn, h => by unfold noIte at hn; cases hn
  | .var _, e, hn, h => by unfold noIte at hn; cases hn
  | .neg _, e, hn, h => by unfold noIte at hn; cases hn
  | .eqs n c d, e, hn, h => by
    unfold okHx at h
    split at h <;> first | (cases h; done) | skip
    · simp only [Bool.and_eq_true, Bool.not_eq_true'] at h
      obtain ⟨⟨⟨h0, h1⟩, h2⟩, h3⟩ := h
      subst h0
      exact ⟨ht_eq (hx_ok S hsc h1) (hx_ok S hsc h2) h3, fun _ _ _ q => by cases q⟩
    · simp only [Bool.and_eq_true, Bool.not_eq_true'] at h
      obtain ⟨⟨⟨h0, h1⟩, h2⟩, h3⟩ := h
      subst h0
      exact ⟨ht_ne (hx_ok S hsc h1) (hx_ok S hsc h2) h3, fun _ _ _ q => by cases q⟩
  | .and c d, e, hn, h => by
    unfold noIte at hn
    rw [Bool.and_eq_true] at hn
    unfold okHx at h
    split at h <;> first | (cases h; done) | skip
    · rw [Bool.and_eq_true] at h
      have q := ht_and (pos := (by assumption)) (ht_ok S hsc hn.1 h.1).1 (pw_and1 (ht_ok S hsc hn.2 h.2).1)
      exact ⟨q.pt, fun _ _ _ _ => q⟩
    · rw [Bool.and_eq_true] at h
      have q := ht_and (ht_ok S hsc hn.1 h.1).1 ((ht_ok S hsc hn.2 h.2).2 _ _ _ rfl)
      exact ⟨q.pt, fun _ _ _ _ => q⟩
  | .or c d, e, hn, h => by
    unfold noIte at hn
    rw [Bool.and_eq_true] at hn
    unfold okHx at h
    split at h <;> first | (cases h; done) | skip
    · rw [Bool.and_eq_true] at h
      have q := ht_or (pos := (by assumption)) (ht_ok S hsc hn.1 h.1).1 (pw_or1 (ht_ok S hsc hn.2 h.2).1)
      exact ⟨q.pt, fun _ _ _ _ => q⟩
    · rw [Bool.and_eq_true] at h
      have q := ht_or (ht_ok S hsc hn.1 h.1).1 ((ht_ok S hsc hn.2 h.2).2 _ _ _ rfl)
      exact ⟨q.pt, fun _ _ _ _ => q⟩
  | .not c, e, hn, h => by
    unfold noIte at hn
    unfold okHx at h
    split at h <;> first | (cases h; done) | skip
    exact ⟨ht_not (ht_ok S hsc hn h).1, fun _ _ _ q => by cases q⟩
  | .ite c p q, e, hn, h => by unfold noIte at hn; cases hn
  | .tup cs, e, hn, h => by
    refine ⟨⟨fun pins s σ H Q I h2 => ?_⟩, fun op xs pos q => ?_⟩
    · obtain ⟨x, p, b, _, _, hv, _⟩ := h2
      unfold hev at hv
      cases e : hevs T x p cs with
      | none => rw [e] at hv; cases hv
      | some ds => rw [e] at hv; cases hv
    · subst q; unfold okHx at h; cases h
theorem hxs_ok (S : Sui ec cf T X a oe cls dd) (hsc : X.env.scope = sc) : ∀ {cs : List Hx} {es : List Expr}, okHxs cf T i cs sc es = true → PA (X.suite a ((a, oe) :: pn)) es (tHxs X.K ec T i a cls dd cs)
  | [], [], h => hxs_nil
  | [], _ :: _, h => by unfold okHxs at h; cases h
  | _ :: _, [], h => by unfold okHxs at h; cases h
  | c :: cs, e :: es, h => by
    unfold okHxs at h
    simp only [Bool.and_eq_true] at h
    exact hxs_cons h.1.1 (hx_ok S hsc h.1.2) (hxs_ok S hsc h.2)
end
/-! statements of a suite -/
def postH (K : PySem.W.Frag) (B : Hp) (Z : AS) (i : Option Nat) (a : Addr) (H : Hp) (En : Ends) : Rs → Prop
  | .nx ρ' => ∀ σ' H' O', Rel K B Z O' σ' H' ρ' → Same H H' → (∀ j, i = some j → σ'[j]? = some (some (.ref a))) → En.nx σ' H'
  | .bk ρ' => ∀ σ' H' O', Rel K B Z O' σ' H' ρ' → Same H H' → (∀ j, i = some j → σ'[j]? = some (some (.ref a))) → En.bk σ' H'
  | .ct ρ' => ∀ σ' H' O', Rel K B Z O' σ' H' ρ' → Same H H' → (∀ j, i = some j → σ'[j]? = some (some (.ref a))) → En.ct σ' H'
  | .ret k d => ∀ v H', Same H H' → Same B H' → RetR K B H' Z k d v → En.rt v H'
  | _ => False
def tH (K : PySem.W.Frag) (ec : EC) (T : Tab) (i : Option Nat) (a : Addr) (cls : Value) (dd : Option Addr) (c : Hs) : TS := fun En σ H => ∃ (ρ : Env) (B : Hp) (Z : AS) (O : Nat → AS) (x : String) (p : List (String × Int)), Rel K B Z O σ H ρ ∧ IsExc ec x p cls dd H ∧ (∀ j, i = some j → σ[j]? = some (some (.ref a))) ∧ postH K B Z i a H En (hrun T x p c ρ)
def tHs (K : PySem.W.Frag) (ec : EC) (T : Tab) (i : Option Nat) (a : Addr) (cls : Value) (dd : Option Addr) (c : List Hs) : TS := fun En σ H => ∃ (ρ : Env) (B : Hp) (Z : AS) (O : Nat → AS) (x : String) (p : List (String × Int)), Rel K B Z O σ H ρ ∧ IsExc ec x p cls dd H ∧ (∀ j, i = some j → σ[j]? = some (some (.ref a))) ∧ postH K B Z i a H En (hruns T x p c ρ)
mutual
def okH (cf : Cf) (T : Tab) (i : Option Nat) : Hs → Scope → Stmt → Bool
  | .ret e, sc, st => (match st with
    | .Return (some x) _ => okHx cf T i e sc x
    | _ => false)
  | .ifs c a b, sc, st => (match st with
    | .If t p q _ => noIte c && okHx cf T i c sc t && okHs cf T i a sc p && okHs cf T i b sc q
    | _ => false)
  | .set j e, sc, st => (match st with
    | .Assign [.Name x _] v _ => nmI cf sc j x && decide (i ≠ some j) && okHx cf T i e sc v && !(isComp v)
    | _ => false)
  | .pass, _, st => (match st with
    | .Pass _ => true
    | _ => false)
  | .brk, _, st => (match st with
    | .Break _ => true
    | _ => false)
  | .cont, _, st => (match st with
    | .Continue _ => true
    | _ => false)
def okHs (cf : Cf) (T : Tab) (i : Option Nat) : List Hs → Scope → List Stmt → Bool
  | [], _, sts => sts.isEmpty
  | c :: cs, sc, sts => (match sts with
    | st :: sts => okH cf T i c sc st && okHs cf T i cs sc sts
    | [] => false)
end
theorem suite_own {K : PySem.W.Frag} {d : D} {v : V} (c : d.cont = false) (al : Alone K H H' d v) (hA : ∀ y, A y → H y ≠ none) : Own K H' (fun x => A x ∨ False) 9 d v (fun _ => False) :=
  (Own.flat c).mpr ⟨fun _ z => z, (al A hA).mono (cut_set fun x z => z.elim id False.elim)⟩
theorem postH_seq {r : Rs} {f : Env → Rs} (h : postH X.K B Z i a H En (r.seq f)) : postH X.K B Z i a H { En with nx := fun σ' H' => ∃ ρ' O', Rel X.K B Z O' σ' H' ρ' ∧ Same H H' ∧ (∀ j, i = some j → σ'[j]? = some (some (.ref a))) ∧ postH X.K B Z i a H En (f ρ') } r := by
  cases r with
  | nx ρ' => exact fun σ' H' O' rel s e => ⟨ρ', O', rel, s, e, h⟩
  | bk ρ' => exact h
  | ct ρ' => exact h
  | ret k d => exact h
  | exc x p ρ' => exact h
  | stuck => exact h
  | draw g => exact h
theorem postH_mono {r : Rs} (s : Same H H') (h : postH X.K B Z i a H En r) : postH X.K B Z i a H' En r := by
  cases r with
  | nx ρ' => exact fun σ' H2 O' rel s2 e => h σ' H2 O' rel (s.trans s2) e
  | bk ρ' => exact fun σ' H2 O' rel s2 e => h σ' H2 O' rel (s.trans s2) e
  | ct ρ' => exact fun σ' H2 O' rel s2 e => h σ' H2 O' rel (s.trans s2) e
  | ret k d => exact fun v H2 s2 => h v H2 (s.trans s2)
  | exc x p ρ' => exact h
  | stuck => exact h
  | draw g => exact h
mutual
theorem hs_one (S : Sui ec cf T X a oe cls dd) (hsc : X.env.scope = sc) : ∀ {c : Hs} {st : Stmt}, okH cf T i c sc st = true → PS (X.suite a ((a, oe) :: pn)) st (tH X.K ec T i a cls dd c)
  | .ret e, st, h => by
    unfold okH at h
    split at h <;> first | (cases h; done) | skip
    refine PS.imp (ps_ret (hx_ok S hsc h)) fun En σ H ⟨ρ, B, Z, O, x, p, r, ix, es, q⟩ => ?_
    unfold hrun at q
    split at q
    · rename_i d hd
      split at q
      · exact q.elim
      · rename_i hc
        refine ⟨x, (p, ρ), d, ix, r.vis es, hd, fun v H1 s1 al => ?_⟩
        refine (show ∀ v H', Same H H' → Same B H' → RetR X.K B H' Z 9 d v → En.rt v H' from q) v H1 s1 (r.base.trans s1) ⟨fun _ => False, fun _ z => z.elim, suite_own (by simpa using hc) al fun y z => (r.zm y z).ne⟩
    · exact q.elim
  | .ifs c p q, st, h => by
    unfold okH at h
    split at h <;> first | (cases h; done) | skip
    simp only [Bool.and_eq_true] at h
    obtain ⟨⟨⟨h0, h1⟩, h2⟩, h3⟩ := h
    refine PS.imp (ps_if (ht_ok S hsc h0 h1).1 (hs_all S hsc h2) (hs_all S hsc h3)) fun En σ H ⟨ρ, B, Z, O, x, p, r, ix, es, q⟩ => ?_
    unfold hrun at q
    split at q
    · rename_i e
      refine ⟨x, (p, ρ), true, ix, r.vis es, e, fun H1 s1 => ?_⟩
      dsimp only
      rw [if_pos rfl]
      exact ⟨ρ, B, Z, O, x, p, r.mono s1, ix.mono s1, es, postH_mono s1 q⟩
    · rename_i e
      refine ⟨x, (p, ρ), false, ix, r.vis es, e, fun H1 s1 => ?_⟩
      dsimp only
      rw [if_neg Bool.false_ne_true]
      exact ⟨ρ, B, Z, O, x, p, r.mono s1, ix.mono s1, es, postH_mono s1 q⟩
    · exact q.elim
  | .set j e, st, h => by
    unfold okH at h
    split at h <;> first | (cases h; done) | skip
    rename_i nm pos1 v pos2
    simp only [Bool.and_eq_true, Bool.not_eq_true'] at h
    obtain ⟨⟨⟨h1, h2⟩, h3⟩, h4⟩ := h
    have h2 := of_decide_eq_true h2
    unfold nmI at h1
    rw [Bool.and_eq_true] at h1
    have hl : Loc X.env.scope nm := by
      rw [hsc]
      have h2 := h1.2
      unfold locB at h2
      split at h2
      · exact .inl (by assumption)
      · exact .inr (by assumption)
      · cases h2
    refine PS.imp (ps_set (X := X.suite a ((a, oe) :: pn)) S.nd (by show X.N[j]? = _; rw [S.hN]; exact of_decide_eq_true h1.1) hl (hx_ok S hsc h3) (swaps_no h4) (.inl (S.fn nm))) fun En σ H ⟨ρ, B, Z, O, x, p, r, ix, es, q⟩ => ?_
    unfold hrun at q
    split at q
    · rename_i d hd
      split at q
      · exact q.elim
      · rename_i hc
        refine ⟨x, (p, ρ), d, ix, r.vis es, hd, fun v H1 s1 al => ?_⟩
        unfold setR at q
        split at q
        · rename_i hi
          obtain ⟨O', _, r'⟩ := (r.mono s1).storeF (k := 9) (v := v) (by simpa using hc) (al _ fun y z => (r.am z).ne) hi
          refine (show ∀ σ' H' O', Rel X.K B Z O' σ' H' (ρ.set j (some (9, d))) → Same H H' → (∀ j, i = some j → σ'[j]? = some (some (.ref a))) → En.nx σ' H' from q) _ H1 O' r' s1 fun j' e => ?_
          rw [List.getElem?_set_ne (fun z => h2 (by rw [e, z]))]
          exact es j' e
        · exact q.elim
    · exact q.elim
  | .pass, st, h => by
    unfold okH at h
    split at h <;> first | (cases h; done) | skip
    exact PS.imp ps_pass fun En σ H ⟨ρ, B, Z, O, x, p, r, ix, es, q⟩ => by
      unfold hrun at q
      exact (show ∀ σ' H' O', Rel X.K B Z O' σ' H' ρ → Same H H' → (∀ j, i = some j → σ'[j]? = some (some (.ref a))) → En.nx σ' H' from q) σ H O r (Same.refl _) es
  | .brk, st, h => by
    unfold okH at h
    split at h <;> first | (cases h; done) | skip
    exact PS.imp ps_break fun En σ H ⟨ρ, B, Z, O, x, p, r, ix, es, q⟩ => by
      unfold hrun at q
      exact (show ∀ σ' H' O', Rel X.K B Z O' σ' H' ρ → Same H H' → (∀ j, i = some j → σ'[j]? = some (some (.ref a))) → En.bk σ' H' from q) σ H O r (Same.refl _) es
  | .cont, st, h => by
    unfold okH at h
    split at h <;> first | (cases h; done) | skip
    exact PS.imp ps_continue fun En σ H ⟨ρ, B, Z, O, x, p, r, ix, es, q⟩ => by
      unfold hrun at q
      exact (show ∀ σ' H' O', Rel X.K B Z O' σ' H' ρ → Same H H' → (∀ j, i = some j → σ'[j]? = some (some (.ref a))) → En.ct σ' H' from q) σ H O r (Same.refl _) es
theorem hs_all (S : Sui ec cf T X a oe cls dd) (hsc : X.env.scope = sc) : ∀ {cs : List Hs} {sts : List Stmt}, okHs cf T i cs sc sts = true → PSs (X.suite a ((a, oe) :: pn)) sts (tHs X.K ec T i a cls dd cs)
  | [], [], h => PSs.imp pss_nil fun En σ H ⟨ρ, B, Z, O, x, p, r, ix, es, q⟩ => by
    unfold hruns at q
    exact (show ∀ σ' H' O', Rel X.K B Z O' σ' H' ρ → Same H H' → (∀ j, i = some j → σ'[j]? = some (some (.ref a))) → En.nx σ' H' from q) σ H O r (Same.refl _) es
  | [], _ :: _, h => by unfold okHs at h; cases h
  | _ :: _, [], h => by unfold okHs at h; cases h
  | c :: cs, st :: sts, h => by
    unfold okHs at h
    simp only [Bool.and_eq_true] at h
    refine PSs.imp (pss_cons (hs_one S hsc h.1) (hs_all S hsc h.2)) fun En σ H ⟨ρ, B, Z, O, x, p, r, ix, es, q⟩ => ?_
    unfold hruns at q
    have q := postH_seq q
    refine ⟨ρ, B, Z, O, x, p, r, ix, es, ?_⟩
    cases e : hrun T x p c ρ with
    | nx ρ' => rw [e] at q; exact fun σ' H' O' rel s es' => let ⟨ρ2, O2, rel2, s2, es2, p2⟩ := q σ' H' O' rel s es'; ⟨ρ2, B, Z, O2, x, p, rel2, ix.mono s2, es2, postH_mono s2 p2⟩
    | bk ρ' => rw [e] at q; exact q
    | ct ρ' => rw [e] at q; exact q
    | ret k d => rw [e] at q; exact q
    | exc x p ρ' => rw [e] at q; exact q
    | stuck => rw [e] at q; exact q
    | draw g => rw [e] at q; exact q
end
end
end
end Px

/-! PxN: several except clauses, each with a name. -/
namespace Px
open PySem PySem.Spec L2
abbrev Suit := Addr → Value → Option Addr → TS
/-- the ends behind a suite: slot i is empty again -/
def offE (i : Nat) (D : Ends) : Ends := ⟨fun τ G => D.nx (τ.set i none) G, D.rt, fun τ G => D.bk (τ.set i none) G, fun τ G => D.ct (τ.set i none) G⟩
/-- what the clauses wish, one after the other -/
def wNm (K : PySem.W.Frag) (i : Nat) (W : WX) (D : Ends) : List (Value × Suit) → WX
  | [] => W
  | q :: r => fun cls d σ H => ∃ b, PySem.W.exmOne K cls q.1 = some b ∧ (if b = true then ∀ a, H a = none → q.2 a cls d (offE i D) (σ.set i (some (.ref a))) H else wNm K i W D r cls d σ H)
/-- the written clauses are those -/
def IsCl (X : Cx) (i : Nat) : List ExceptHandler → List (Value × Suit) → Prop
  | [], [] => True
  | h :: hs, q :: qs => (∃ (x n : Str) (b : Stmt) (bs : List Stmt) (np p : Pos), h = .ExceptHandler (some (.Name x np)) (some n) (b :: bs) p ∧ Names X x q.1 ∧ X.N[i]? = some n ∧ X.env.kindOf n = some .local ∧
      ∀ (a : Addr) (oe : Obj) (cls : Value) (d : Option Addr) (pn : List (Addr × Obj)), Zc cls d oe → (∃ vs, oe.data = .fields vs) → PSs (X.suite a ((a, oe) :: pn)) (b :: bs) (q.2 a cls d)) ∧ IsCl X i hs qs
  | _, _ => False
/-- an exception that has come to the clauses -/
structure Here (X : Cx) (pins : List (Addr × Obj)) (a : Addr) (B : Heap) (s0 s : Shared) (σ : L2.St) (H : Hp) (cls : Value) (d : Option Addr) : Prop where
  ok : X.Ok
  stk : X.stack = X.env :: X.outer
  frm : X.env.frame = some X.env.locals
  inv : Inv X pins σ H s0
  nb : ∀ b o, s0.heap.get? b = some o → b ∉ frs X.stack → B.get? b = some o
  up : s0.heap.UpToSlots s.heap
  fly : HandSPX.FlyingZ B (X.env :: X.outer) a (Zc cls d) s.heap
  na : H a = none
  os : s.os = s0.os
  ag : PyProof.Rows.AllBare s.gens
section
variable {X : Cx} {pins : List (Addr × Obj)} {a : Addr} {B : Heap} {s0 s : Shared} {σ : L2.St} {H : Hp} {cls : Value} {d : Option Addr} {D : Ends} {W : WX} {i : Nat}
theorem Here.next (h : Here X pins a B s0 s σ H cls d) {g : Heap} (f : HandSPX.FlyingZ B (X.env :: X.outer) a (Zc cls d) g) (u : s.heap.UpToSlots g) : Here X pins a B s0 { s with heap := g } σ H cls d :=
  ⟨h.ok, h.stk, h.frm, h.inv, h.nb, h.up.trans u, f, h.na, h.os, h.ag⟩
/-- where the exception lies, the invariant with it -/
theorem Here.at_ (h : Here X pins a B s0 s σ H cls d) : Inv X pins σ H s ∧ ∃ (oe : Obj) (vs : Array Value), s.heap.get? a = some oe ∧ Zc cls d oe ∧ oe.data = .fields vs ∧ Inv (X.suite a ((a, oe) :: (X.pn ++ pins))) [] σ H s := by
  have J : Inv X pins σ H s := h.inv.landed h.nb h.fly.1 h.up h.os h.ag
  obtain ⟨oe, vs, e, z, ed⟩ := h.fly.there
  have out : a ∉ frs (X.env :: X.outer) := by
    intro m
    obtain ⟨_, o, eo, no⟩ := h.fly.2.2.1.mem m
    rw [e] at eo
    cases eo
    exact no _ ed
  have notL : a ≠ X.env.locals := by
    rintro rfl
    exact out (List.mem_filterMap.mpr ⟨X.env, List.mem_cons_self, h.frm⟩)
  have notF : a ∉ X.fs := by
    intro m
    obtain ⟨v, hv, q⟩ := List.mem_filterMap.mp m
    exact out (List.mem_filterMap.mpr ⟨v, List.mem_cons_of_mem _ hv, q⟩)
  exact ⟨J, oe, vs, e, z, ed, J.suite e ed h.na notL notF⟩
/-- a clause is chosen -/
theorem Here.suite {n : Str} {b : Stmt} {bs : List Stmt} {p : Pos} {ts : Suit} (h : Here X pins a B s0 s σ H cls d) (hN : X.N.Nodup) (hi : X.N[i]? = some n) (hl : X.env.kindOf n = some .local)
    (hsu : ∀ (a : Addr) (oe : Obj) (cls : Value) (d : Option Addr) (pn : List (Addr × Obj)), Zc cls d oe → (∃ vs, oe.data = .fields vs) → PSs (X.suite a ((a, oe) :: pn)) (b :: bs) (ts a cls d)) (w : ts a cls d (offE i D) (σ.set i (some (.ref a))) H)
    {R : Flow → Shared → Prop} {E1 E2 E3 : Value → Shared → Prop} {M : Model} {A : Around} (hM : M = model X.prog X.w) (hA : A = X.A) (hR : ∀ f s', SP X pins D f s' → R f s') :
    wpAny (model X.prog X.w) (X.A.mark (some (.ref a))) (storeName X.env n (.ref a)) (fun _ s₂ => wpAny (model X.prog X.w) (X.A.mark (some (.ref a))) (execs (b :: bs) X.env)
      (fun f s₃ => wpAny M A (do bindName X.env n .none; unbindBehindTheSuite X.env n p) (fun _ s₄ => R f s₄) E1 s₃) E2 s₂) E3 s := by
  subst hM hA
  obtain ⟨J, oe, vs, e, z, ed, S⟩ := h.at_
  refine store_ok (X := X.suite a ((a, oe) :: (X.pn ++ pins))) (v := .ref a) S hN hi (.inl hl) rfl (fun t T => ?_) (.inr hl)
  refine wpAny_mono ((hsu a oe cls d (X.pn ++ pins) z ⟨_, ed⟩).run [] t _ H _ T w) (fun f s6 hf => ?_) fun _ _ k => k.elim
  have gone : ∀ {τ : L2.St} {G : Hp} {q : Shared → Prop}, Inv (X.suite a ((a, oe) :: (X.pn ++ pins))) [] τ G s6 → (∀ s7, Inv X pins (τ.set i none) G s7 → q s7) → wpAny (model X.prog X.w) X.A (do bindName X.env n .none; unbindBehindTheSuite X.env n p) (fun _ s7 => q s7) E1 s6 :=
    fun U k => gone_ok (U.unsuite h.ok) hN hi hl k
  match f, hf with
  | .next, ⟨τ, G, U, q⟩ => exact gone U fun s7 V => hR _ _ ⟨_, _, V, q⟩
  | .brk, ⟨τ, G, U, q⟩ => exact gone U fun s7 V => hR _ _ ⟨_, _, V, q⟩
  | .cont, ⟨τ, G, U, q⟩ => exact gone U fun s7 V => hR _ _ ⟨_, _, V, q⟩
  | .ret u, ⟨v, τ, G, U, r, q⟩ => exact gone U fun s7 V => hR _ _ ⟨_, _, _, V, r, q⟩
/-- no clause is left -/
theorem Here.none_left (h : Here X pins a B s0 s σ H cls d) (tk : Takes X W) (w : W cls d σ H) : wpAny (model X.prog X.w) X.A (handleBy (.ref a) X.env []) (SP X pins D) X.xe s := by
  refine wpAny_handleBy_nil ?_
  have off : wpAny (model X.prog X.w) X.A (setFlight (.ref a) X.env.frame) (fun _ t => wpAny (model X.prog X.w) X.A (throw (.ref a) : Sem Flow) (SP X pins D) X.xe t) X.xe s := by
    rw [h.frm]
    refine HandSPX.setFlight_upZ h.fly fun g held u => wpAny_throw (tk _ _ ?_)
    refine ⟨a, B, s0, pins, σ, H, cls, d, rfl, h.inv, h.nb, h.up.trans u, .inr (.inr ?_), h.na, h.os, h.ag, w⟩
    rw [h.stk]; exact held
  obtain ⟨_, _, _, oe, vs, T, _, _, e, _, ed, e1, _⟩ := id h.fly
  unfold PySem.passOn
  refine wpAny_bind (wpAny_field e ed e1 ?_)
  rw [if_neg (by simp)]
  first
    | exact wpAny_bind (wpAny_pure (wpAny_bind off))
    | exact wpAny_bind off
theorem named_go (tk : Takes X W) (hN : X.N.Nodup) : ∀ {hs : List ExceptHandler} {qs : List (Value × Suit)} {s : Shared}, IsCl X i hs qs → Here X pins a B s0 s σ H cls d → wNm X.K i W D qs cls d σ H →
    wpAny (model X.prog X.w) X.A (handleBy (.ref a) X.env hs) (SP X pins D) X.xe s
  | [], [], s, _, h, w => h.none_left tk w
  | [], _ :: _, _, c, _, _ => c.elim
  | _ :: _, [], _, c, _, _ => c.elim
  | c0 :: hs, q :: qs, s, c, h, w => by
    obtain ⟨⟨x, n, b, bs, np, p, rfl, nm, hi, hl, hsu⟩, c⟩ := c
    obtain ⟨t, et, w⟩ := w
    obtain ⟨J, oe, vs, e, z, ed, S⟩ := h.at_
    have look : PySem.W.Looks (model X.prog X.w) s.heap (typeOf (.ref a)) cls := fun A Q E s k q => wpAny_typeOf_ref (k _ _ e) (by rw [z.1]; exact q)
    have mt := PySem.W.exm_one (M := model X.prog X.w) J.kIn look et
    refine wpAny_handleBy_cons (codeAny_handlers_test ?_) (by intro q; cases q)
    have name : ∀ {Q E : Value → Shared → Prop}, Q q.1 s → wpAny (model X.prog X.w) (X.A.mark (some (.ref a))) (eval (.Name x np) X.env) Q E s := by
      intro Q E k
      obtain ⟨hg, hd, hm | ⟨hm, hv, hn⟩⟩ := nm
      · exact ld_glob S hg hm k hd
      · exact ld_blt S hg hm hv k hn hd
    refine name (mt.here ?_)
    cases t with
    | false => exact named_go tk hN c h w
    | true =>
      refine codeAny_handlers_suite_as (HandSPX.lands_againZ h.fly fun g f u => ?_)
      exact (h.next f u).suite hN hi hl hsu (w a h.na) rfl rfl fun f s' k => k
/-- try with such clauses -/
theorem ps_named {body : List Stmt} {hs : List ExceptHandler} {qs : List (Value × Suit)} {h0 : ExceptHandler} {pos : Pos} {tb : WX → TS} (stk : X.stack = X.env :: X.outer) (frm : X.env.frame = some X.env.locals) (hN : X.N.Nodup) (tk : Takes X W) (c : IsCl X i (h0 :: hs) qs)
    (hb : ∀ (W : WX) (pn : List (Addr × Obj)) (xe : Value → Shared → Prop), Takes (X.tr pn xe) W → PassesOwn (model X.prog X.w) X.A X.env xe → PSs (X.tr pn xe) body (tb W)) :
    PS X (.Try body (h0 :: hs) [] [] pos) (fun D σ H => tb (wNm X.K i W D qs) D σ H) := by
  refine ⟨fun pins s σ H D I h => wpAny_Try_except ?_⟩
  have ok := I.ok
  have frames : X.A.frames = some (X.env :: X.outer) := ok.frames.trans (by rw [stk])
  let after : Value → Shared → Prop := fun e s₁ => wpAny (model X.prog X.w) X.A (noteFrame e X.env) (fun _ s₂ => wpAny (model X.prog X.w) X.A (setFlight e none) (fun _ s₃ => wpAny (model X.prog X.w) X.A (handleBy e X.env (h0 :: hs)) (SP X pins D) X.xe s₃) X.xe s₂) X.xe s₁
  have caught : Takes (X.tr (X.pn ++ pins) after) (wNm X.K i W D qs) := by
    rintro u s' ⟨a, B, s0, pins', σ', H', cls, d, rfl, J', nb, up, sky, na, os, ag, w⟩
    rw [show (X.tr (X.pn ++ pins) after).stack = X.env :: X.outer from stk] at sky
    refine Sky.land Zc.steady frames frm sky fun g f u => ?_
    exact named_go (s := { s' with heap := g }) tk hN c ⟨ok, stk, frm, J'.ofTry ok, nb, up.trans u, f, na, os, ag⟩ w
  refine wpAny_mono ((hb _ (X.pn ++ pins) after caught PassesOwn.looking).run [] s σ H D (I.toTry _) h) (fun f s1 done => ?_) fun _ _ z => z
  match f, done with
  | .next, ⟨τ, G, U, q⟩ => exact wpAny_execs_nil ⟨τ, G, U.ofTry ok, q⟩
  | .brk, ⟨τ, G, U, q⟩ => exact ⟨τ, G, U.ofTry ok, q⟩
  | .cont, ⟨τ, G, U, q⟩ => exact ⟨τ, G, U.ofTry ok, q⟩
  | .ret u, ⟨v, τ, G, U, r, q⟩ => exact ⟨v, τ, G, U.ofTry ok, r, q⟩
end
end Px

/-! Px21: try; all statements; a def. -/
namespace Px
open PySem PySem.Spec L2
section
variable {ec : EC} {W : WX} {F : List Fn} {C : List D} {T : Tab} {cf : Cf} {X : Cx} {sc : Scope} {pos : Pos}
variable {σ σ' : L2.St} {H H' H0 H1 H2 : Hp} {A : AS} {ρ ρ' : Env} {B B' : Hp} {Z P : AS} {O : Nat → AS} {En : Ends}
theorem GoodS.tr (g : GoodS ec cf F C T X W) {W' : WX} {pn : List (Addr × Obj)} {xe : Value → Shared → Prop} (tk : Takes (X.tr pn xe) W') (hp : PassesOwn (model X.prog X.w) X.A X.env xe) : GoodS ec cf F C T (X.tr pn xe) W' :=
  ⟨⟨g.g.calm, g.g.nd, g.g.hN, g.g.un, g.g.bn, g.g.fs, g.g.gc, g.g.gu, tk⟩, g.fn, g.kind, hp, g.stk, g.frm, g.xc, g.rm, g.sub, g.bsub, g.ks, g.ri⟩
theorem GoodS.sui (g : GoodS ec cf F C T X W) {a : Addr} {oe : Obj} {cls : Value} {dd : Option Addr} (hz : Zc cls dd oe) (hf : ∃ vs, oe.data = .fields vs) : Sui ec cf T X a oe cls dd :=
  ⟨g.g.hN, g.g.nd, g.fn, hz, hf, g.g.bn, g.xc, g.sub, g.bsub, g.ks, fun x fl h => let ⟨c, h1, h2, _, h4⟩ := g.ri x fl h; ⟨c, h1, h2, h4⟩⟩
/-- the clauses -/
def okHd (cf : Cf) (T : Tab) : List (String × List Hs) → Scope → List ExceptHandler → Bool
  | [], _, hs => hs.isEmpty
  | (c, su) :: r, sc, hs => (match hs with
    | .ExceptHandler (some (.Name x _)) none (b :: bs) _ :: hs => decide (Str.ofString c = x) && (T.lookup c).isSome && glB sc x && nmB x && okHs cf T none su sc (b :: bs) && okHd cf T r sc hs
    | _ => false)
def okHd1 (cf : Cf) (T : Tab) (i : Nat) (c : String) (su : List Hs) (sc : Scope) : List ExceptHandler → Bool
  | [.ExceptHandler (some (.Name x _)) (some n) (b :: bs) _] => decide (Str.ofString c = x) && (T.lookup c).isSome && glB sc x && nmB x && decide (cf.N[i]? = some n) && decide (sc.names.lookup n = some .local) && okHs cf T (some i) su sc (b :: bs)
  | _ => false
theorem names_of {c : String} {x : Str} (g : GoodS ec cf F C T X W) (hsc : X.env.scope = sc) (h1 : Str.ofString c = x) (h2 : (T.lookup c).isSome = true) (h3 : glB sc x = true) (h4 : nmB x = true) : Names X x (ec c) := by
  obtain ⟨l, el⟩ := Option.isSome_iff_exists.mp h2
  obtain ⟨D, e1, gm, _⟩ := g.xc c l el
  exact ⟨gl_of hsc h3, (nmB_of h4).1, .inl (by rw [← h1, gm, e1])⟩
abbrev hdl (K : PySem.W.Frag) (ec : EC) (T : Tab) (hs : List (String × List Hs)) : List (Value × (Addr → Value → Option Addr → TS)) := hs.map fun h => (ec h.1, fun a cls dd => tHs K ec T none a cls dd h.2)
theorem hd_ok (g : GoodS ec cf F C T X W) (hsc : X.env.scope = sc) : ∀ {hs : List (String × List Hs)} {es : List ExceptHandler}, okHd cf T hs sc es = true → HdsOk X es (hdl X.K ec T hs)
  | [], [], _ => .nil
  | [], _ :: _, h => by unfold okHd at h; cases h
  | _ :: _, [], h => by unfold okHd at h; cases h
  | (c, su) :: r, e :: es, h => by
    unfold okHd at h
    split at h <;> first | (cases h; done) | skip
    rename_i x p b bs p2 hs heq
    cases heq
    simp only [Bool.and_eq_true] at h
    obtain ⟨⟨⟨⟨⟨h1, h2⟩, h3⟩, h4⟩, h5⟩, h6⟩ := h
    exact .cons (names_of g hsc (of_decide_eq_true h1) h2 h3 h4) (fun a oe cls dd pn hz hf => hs_all (i := none) (g.sui hz hf) hsc h5) (hd_ok g hsc h6)
def tame : Rs → Prop
  | .exc _ _ _ => False
  | .draw _ => False
  | _ => True
theorem seq_tame {r : Rs} {f : Env → Rs} (h : tame r) (hf : ∀ ρ, tame (f ρ)) : tame (r.seq f) := by
  cases r with
  | nx ρ1 => exact hf ρ1
  | bk _ => trivial
  | ct _ => trivial
  | ret _ _ => trivial
  | exc _ _ _ => exact h
  | stuck => trivial
  | draw _ => exact h
mutual
theorem hrun_tame {x : String} {p : List (String × Int)} : ∀ {c : Hs} {ρ : Env}, tame (hrun T x p c ρ)
  | .ret e, ρ => by unfold hrun; split <;> first | trivial | (split <;> trivial)
  | .ifs c a b, ρ => by
    unfold hrun
    split
    · exact hruns_tame
    · exact hruns_tame
    · trivial
  | .set i e, ρ => by
    unfold hrun
    split
    · split
      · trivial
      · unfold setR; split <;> trivial
    · trivial
  | .pass, ρ => by unfold hrun; trivial
  | .brk, ρ => by unfold hrun; trivial
  | .cont, ρ => by unfold hrun; trivial
theorem hruns_tame {x : String} {p : List (String × Int)} : ∀ {cs : List Hs} {ρ : Env}, tame (hruns T x p cs ρ)
  | [], ρ => by unfold hruns; trivial
  | c :: cs, ρ => by
    unfold hruns
    exact seq_tame hrun_tame fun ρ => hruns_tame
end
theorem hruns_calm {x : String} {p : List (String × Int)} {cs : List Hs} {ρ : Env} {y : String} {q : List (String × Int)} {ρ' : Env} (h : hruns T x p cs ρ = .exc y q ρ') : False := by
  have := hruns_tame (T := T) (x := x) (p := p) (cs := cs) (ρ := ρ)
  rw [h] at this
  exact this
theorem hruns_calm2 {x : String} {p : List (String × Int)} {cs : List Hs} {ρ : Env} {g : Int → Rs} (h : hruns T x p cs ρ = .draw g) : False := by
  have := hruns_tame (T := T) (x := x) (p := p) (cs := cs) (ρ := ρ)
  rw [h] at this
  exact this
/-- what the clauses do -/
theorem many_ok (g : GoodS ec cf F C T X W) {x : String} {p : List (String × Int)} {cls : Value} {dd : Option Addr} (ix : IsExc ec x p cls dd H) (r : Rel X.K B Z O σ H ρ) : ∀ {hs : List (String × List Hs)}, (∀ h ∈ hs, (T.lookup h.1).isSome = true) →
    post X.K ec W B Z En (handle T none x p ρ hs) → wMany X.K W En (hdl X.K ec T hs) cls dd σ H
  | [], _, h => by
    unfold handle at h
    exact (show ∀ σ' H' O' cls dd, Rel X.K B Z O' σ' H' ρ → IsExc ec x p cls dd H' → W cls dd σ' H' from h) σ H O cls dd r ix
  | (c, su) :: hs, hk, h => by
    unfold handle at h
    obtain ⟨l, el⟩ := Option.isSome_iff_exists.mp (hk (c, su) (by simp))
    split at h
    · rename_i e
      refine ⟨true, by rw [ix.1]; exact (g.sub x c true l e el).1, fun _ a na => ?_, fun z => by cases z⟩
      refine ⟨ρ, B, Z, O, x, p, r, ix, (fun j z => by cases z), ?_⟩
      have h : post X.K ec W B Z En (if (true : Bool) = true then (hruns T x p su ρ).wipe none else .stuck) := h
      rw [if_pos rfl] at h
      cases q : hruns T x p su ρ with
      | nx ρ' => rw [q] at h; exact fun σ' H' O' rel _ _ => h σ' H' O' rel
      | bk ρ' => rw [q] at h; exact fun σ' H' O' rel _ _ => h σ' H' O' rel
      | ct ρ' => rw [q] at h; exact fun σ' H' O' rel _ _ => h σ' H' O' rel
      | ret k d => rw [q] at h; exact fun v H' _ s w => h v H' s w
      | exc y q' ρ' => exact (hruns_calm q).elim
      | draw g => exact (hruns_calm2 q).elim
      | stuck => rw [q] at h; exact h
    · rename_i e
      exact ⟨false, by rw [ix.1]; exact (g.sub x c false l e el).1, (fun z => by cases z), fun _ => many_ok g ix r (fun h m => hk h (by simp [m])) h⟩
    · exact h.elim
theorem s_try {b : List Cm} {hs : List (String × List Hs)} {body : List Stmt} {e0 : ExceptHandler} {es : List ExceptHandler} (g : GoodS ec cf F C T X W) (hsc : X.env.scope = sc) (hh : okHd cf T hs sc (e0 :: es) = true) (hk : ∀ h ∈ hs, (T.lookup h.1).isSome = true)
    (hb : ∀ (W' : WX) (pn : List (Addr × Obj)) (xe : Value → Shared → Prop), GoodS ec cf F C T (X.tr pn xe) W' → PSs (X.tr pn xe) body (tSs X.K ec W' F C T b)) : PS X (.Try body (e0 :: es) [] [] pos) (tS X.K ec W F C T (.try none b hs)) := by
  refine PS.imp (ps_try_many (tb := fun W' => tSs X.K ec W' F C T b) g.stk g.frm g.g.tk (fun W' pn xe tk hp => hb W' pn xe (g.tr tk hp)) (hd_ok g hsc hh)) fun En σ H ⟨ρ, B, Z, O, r, h⟩ => ?_
  unfold run1 at h
  refine ⟨ρ, B, Z, O, r, ?_⟩
  refine post_turn h fun q0 nd h => ?_
  cases q0 with
  | draw g => exact absurd rfl (nd g)
  | nx ρ' => exact h
  | bk ρ' => exact h
  | ct ρ' => exact h
  | ret k d => exact h
  | exc x p ρ' => exact fun σ' H' O' cls dd rel ix => many_ok g ix rel hk h
  | stuck => exact h
theorem s_try1 {i : Nat} {c : String} {su : List Hs} {b : List Cm} {body : List Stmt} {es : List ExceptHandler} (g : GoodS ec cf F C T X W) (hsc : X.env.scope = sc) (hh : okHd1 cf T i c su sc es = true)
    (hb : ∀ (W' : WX) (pn : List (Addr × Obj)) (xe : Value → Shared → Prop), GoodS ec cf F C T (X.tr pn xe) W' → PSs (X.tr pn xe) body (tSs X.K ec W' F C T b)) : PS X (.Try body es [] [] pos) (tS X.K ec W F C T (.try (some i) b [(c, su)])) := by
  unfold okHd1 at hh
  split at hh <;> first | (cases hh; done) | skip
  rename_i x px n b0 bs p2
  simp only [Bool.and_eq_true] at hh
  obtain ⟨⟨⟨⟨⟨⟨h1, h2⟩, h3⟩, h4⟩, h5⟩, h6⟩, h7⟩ := hh
  have h5 := of_decide_eq_true h5
  have h6 := of_decide_eq_true h6
  obtain ⟨l, el⟩ := Option.isSome_iff_exists.mp h2
  have hi : X.N[i]? = some n := by rw [g.g.hN]; exact h5
  refine PS.imp (ps_try_as (i := i) (tb := fun W' => tSs X.K ec W' F C T b) g.stk g.frm g.g.nd hi (by show X.env.scope.names.lookup n = _; rw [hsc]; exact h6) (names_of g hsc (of_decide_eq_true h1) h2 h3 h4) g.g.tk (fun W' pn xe tk hp => hb W' pn xe (g.tr tk hp))
    (fun a oe cls dd pn hz hf => hs_all (i := some i) (g.sui hz hf) hsc h7)) fun En σ H ⟨ρ, B, Z, O, r, h⟩ => ?_
  unfold run1 at h
  refine ⟨ρ, B, Z, O, r, ?_⟩
  refine post_turn h fun q0 nd h => ?_
  cases q0 with
  | draw g => exact absurd rfl (nd g)
  | nx ρ' => exact h
  | bk ρ' => exact h
  | ct ρ' => exact h
  | ret k d => exact h
  | stuck => exact h
  | exc x p ρ' =>
    intro σ1 H1 O1 cls dd rel ix
    have h : post X.K ec W B Z En (handle T (some i) x p ρ' [(c, su)]) := h
    unfold handle at h
    split at h
    · rename_i e1
      split at h
      case isFalse => exact h.elim
      rename_i hl
      have hl : i < ρ'.length := of_decide_eq_true hl
      refine ⟨true, by rw [ix.1]; exact (g.sub x c true l e1 el).1, fun _ a na => ?_, fun z => by cases z⟩
      have rel' := rel.drop (i := i) (o := some (.ref a))
      refine ⟨ρ'.set i none, B, Z, _, x, p, rel', ix, fun j z => ?_, ?_⟩
      · cases z
        exact List.getElem?_set_self (by rw [rel.len]; exact hl)
      · have h : post X.K ec W B Z En ((hruns T x p su (ρ'.set i none)).wipe (some i)) := h
        cases q : hruns T x p su (ρ'.set i none) with
        | nx ρ2 => rw [q] at h; exact fun σ' H' O' rel _ _ => h _ H' _ (rel.drop (i := i) (o := none))
        | bk ρ2 => rw [q] at h; exact fun σ' H' O' rel _ _ => h _ H' _ (rel.drop (i := i) (o := none))
        | ct ρ2 => rw [q] at h; exact fun σ' H' O' rel _ _ => h _ H' _ (rel.drop (i := i) (o := none))
        | ret k d => rw [q] at h; exact fun v H' _ s w => h v H' s w
        | exc y q' ρ' => exact (hruns_calm q).elim
        | draw g => exact (hruns_calm2 q).elim
        | stuck => rw [q] at h; exact h
    · rename_i e1
      refine ⟨false, by rw [ix.1]; exact (g.sub x c false l e1 el).1, (fun z => by cases z), fun _ => ?_⟩
      unfold handle at h
      exact (show ∀ σ' H' O' cls dd, Rel X.K B Z O' σ' H' ρ' → IsExc ec x p cls dd H' → W cls dd σ' H' from h) σ1 H1 O1 cls dd rel ix
    · exact h.elim
/-- clauses that all bear a name, the same one -/
def okHdN (cf : Cf) (T : Tab) (i : Nat) : List (String × List Hs) → Scope → List ExceptHandler → Bool
  | [], _, hs => hs.isEmpty
  | (c, su) :: r, sc, hs => (match hs with
    | .ExceptHandler (some (.Name x _)) (some n) (b :: bs) _ :: hs => decide (Str.ofString c = x) && (T.lookup c).isSome && glB sc x && nmB x && decide (cf.N[i]? = some n) && decide (sc.names.lookup n = some .local) && okHs cf T (some i) su sc (b :: bs) && okHdN cf T i r sc hs
    | _ => false)
abbrev hdlN (K : PySem.W.Frag) (ec : EC) (T : Tab) (i : Nat) (hs : List (String × List Hs)) : List (Value × Suit) := hs.map fun h => (ec h.1, fun a cls dd => tHs K ec T (some i) a cls dd h.2)
theorem hdN_ok (g : GoodS ec cf F C T X W) (hsc : X.env.scope = sc) {i : Nat} : ∀ {hs : List (String × List Hs)} {es : List ExceptHandler}, okHdN cf T i hs sc es = true → IsCl X i es (hdlN X.K ec T i hs) ∧ ∀ h ∈ hs, (T.lookup h.1).isSome = true
  | [], [], _ => ⟨trivial, fun _ m => by cases m⟩
  | [], _ :: _, h => by unfold okHdN at h; cases h
  | _ :: _, [], h => by unfold okHdN at h; cases h
  | (c, su) :: r, e :: es, h => by
    unfold okHdN at h
    split at h <;> first | (cases h; done) | skip
    rename_i x p n b bs p2 hs heq
    cases heq
    simp only [Bool.and_eq_true] at h
    obtain ⟨⟨⟨⟨⟨⟨⟨h1, h2⟩, h3⟩, h4⟩, h5⟩, h6⟩, h7⟩, h8⟩ := h
    obtain ⟨k1, k2⟩ := hdN_ok g hsc h8
    refine ⟨⟨⟨x, n, b, bs, p, p2, rfl, names_of g hsc (of_decide_eq_true h1) h2 h3 h4, by rw [g.g.hN]; exact of_decide_eq_true h5, by show X.env.scope.names.lookup n = _; rw [hsc]; exact of_decide_eq_true h6, fun a oe cls dd pn hz hf => hs_all (i := some i) (g.sui hz hf) hsc h7⟩, k1⟩, fun y m => ?_⟩
    rcases List.mem_cons.mp m with e | m
    · rw [e]; exact h2
    · exact k2 y m
theorem manyN_ok (g : GoodS ec cf F C T X W) {i : Nat} {x : String} {p : List (String × Int)} {cls : Value} {dd : Option Addr} (ix : IsExc ec x p cls dd H) (r : Rel X.K B Z O σ H ρ) : ∀ {hs : List (String × List Hs)}, (∀ h ∈ hs, (T.lookup h.1).isSome = true) →
    post X.K ec W B Z En (handle T (some i) x p ρ hs) → wNm X.K i W En (hdlN X.K ec T i hs) cls dd σ H
  | [], _, h => by
    unfold handle at h
    exact (show ∀ σ' H' O' cls dd, Rel X.K B Z O' σ' H' ρ → IsExc ec x p cls dd H' → W cls dd σ' H' from h) σ H O cls dd r ix
  | (c, su) :: hs, hk, h => by
    unfold handle at h
    obtain ⟨l, el⟩ := Option.isSome_iff_exists.mp (hk (c, su) (by simp))
    split at h
    · rename_i e
      split at h
      case isFalse => exact h.elim
      rename_i hl
      have hl : i < ρ.length := of_decide_eq_true hl
      refine ⟨true, by rw [ix.1]; exact (g.sub x c true l e el).1, ?_⟩
      rw [if_pos rfl]
      intro a na
      have r' := r.drop (i := i) (o := some (.ref a))
      refine ⟨ρ.set i none, B, Z, _, x, p, r', ix, fun j z => ?_, ?_⟩
      · cases z
        exact List.getElem?_set_self (by rw [r.len]; exact hl)
      · have h : post X.K ec W B Z En ((hruns T x p su (ρ.set i none)).wipe (some i)) := h
        cases q : hruns T x p su (ρ.set i none) with
        | nx ρ2 => rw [q] at h; exact fun σ' H' O' rel _ _ => h _ H' _ (rel.drop (i := i) (o := none))
        | bk ρ2 => rw [q] at h; exact fun σ' H' O' rel _ _ => h _ H' _ (rel.drop (i := i) (o := none))
        | ct ρ2 => rw [q] at h; exact fun σ' H' O' rel _ _ => h _ H' _ (rel.drop (i := i) (o := none))
        | ret k d => rw [q] at h; exact fun v H' _ s w => h v H' s w
        | exc y q' ρ' => exact (hruns_calm q).elim
        | draw g => exact (hruns_calm2 q).elim
        | stuck => rw [q] at h; exact h
    · rename_i e
      refine ⟨false, by rw [ix.1]; exact (g.sub x c false l e el).1, ?_⟩
      rw [if_neg Bool.false_ne_true]
      exact manyN_ok g ix r (fun h m => hk h (by simp [m])) h
    · exact h.elim
theorem s_tryN {i : Nat} {b : List Cm} {hs : List (String × List Hs)} {body : List Stmt} {e0 : ExceptHandler} {es : List ExceptHandler} (g : GoodS ec cf F C T X W) (hsc : X.env.scope = sc) (hh : okHdN cf T i hs sc (e0 :: es) = true)
    (hb : ∀ (W' : WX) (pn : List (Addr × Obj)) (xe : Value → Shared → Prop), GoodS ec cf F C T (X.tr pn xe) W' → PSs (X.tr pn xe) body (tSs X.K ec W' F C T b)) : PS X (.Try body (e0 :: es) [] [] pos) (tS X.K ec W F C T (.try (some i) b hs)) := by
  obtain ⟨k1, k2⟩ := hdN_ok g hsc hh
  refine PS.imp (ps_named (tb := fun W' => tSs X.K ec W' F C T b) g.stk g.frm g.g.nd g.g.tk k1 (fun W' pn xe tk hp => hb W' pn xe (g.tr tk hp))) fun En σ H ⟨ρ, B, Z, O, r, h⟩ => ?_
  unfold run1 at h
  refine ⟨ρ, B, Z, O, r, ?_⟩
  refine post_turn h fun q0 nd h => ?_
  cases q0 with
  | draw g => exact absurd rfl (nd g)
  | nx ρ' => exact h
  | bk ρ' => exact h
  | ct ρ' => exact h
  | ret k d => exact h
  | exc x p ρ' => exact fun σ' H' O' cls dd rel ix => manyN_ok g ix rel k2 h
  | stuck => exact h
end
end Px

/-! PxM: several except clauses, of which each has a name of its own, or none. -/
namespace Px
open PySem PySem.Spec L2
/-- what one clause wishes -/
def wOne (n : Option Nat) (ts : Suit) (a : Addr) (cls : Value) (d : Option Addr) (D : Ends) (σ : L2.St) (H : Hp) : Prop := match n with
  | none => ts a cls d D σ H
  | some i => ts a cls d (offE i D) (σ.set i (some (.ref a))) H
def wMx (K : PySem.W.Frag) (W : WX) (D : Ends) : List (Option Nat × Value × Suit) → WX
  | [] => W
  | q :: r => fun cls d σ H => ∃ b, PySem.W.exmOne K cls q.2.1 = some b ∧ (if b = true then ∀ a, H a = none → wOne q.1 q.2.2 a cls d D σ H else wMx K W D r cls d σ H)
/-- the name of a clause is that of its slot -/
def nmOf (X : Cx) : Option Nat → Option Str → Prop
  | none, none => True
  | some i, some n => X.N[i]? = some n ∧ X.env.kindOf n = some .local
  | _, _ => False
def IsClM (X : Cx) : List ExceptHandler → List (Option Nat × Value × Suit) → Prop
  | [], [] => True
  | h :: hs, q :: qs => (∃ (x : Str) (nm : Option Str) (b : Stmt) (bs : List Stmt) (np p : Pos), h = .ExceptHandler (some (.Name x np)) nm (b :: bs) p ∧ Names X x q.2.1 ∧ nmOf X q.1 nm ∧
      ∀ (a : Addr) (oe : Obj) (cls : Value) (d : Option Addr) (pn : List (Addr × Obj)), Zc cls d oe → (∃ vs, oe.data = .fields vs) → PSs (X.suite a ((a, oe) :: pn)) (b :: bs) (q.2.2 a cls d)) ∧ IsClM X hs qs
  | _, _ => False
section
variable {X : Cx} {pins : List (Addr × Obj)} {a : Addr} {B : Heap} {s0 s : Shared} {σ : L2.St} {H : Hp} {cls : Value} {d : Option Addr} {D : Ends} {W : WX} {i : Nat}
theorem mixed_go (tk : Takes X W) (hN : X.N.Nodup) : ∀ {hs : List ExceptHandler} {qs : List (Option Nat × Value × Suit)} {s : Shared}, IsClM X hs qs → Here X pins a B s0 s σ H cls d → wMx X.K W D qs cls d σ H →
    wpAny (model X.prog X.w) X.A (handleBy (.ref a) X.env hs) (SP X pins D) X.xe s
  | [], [], s, _, h, w => h.none_left tk w
  | [], _ :: _, _, c, _, _ => c.elim
  | _ :: _, [], _, c, _, _ => c.elim
  | c0 :: hs, (n, cl, ts) :: qs, s, c, h, w => by
    obtain ⟨⟨x, nm, b, bs, np, p, rfl, nms, hn, hsu⟩, c⟩ := c
    obtain ⟨t, et, w⟩ := w
    obtain ⟨J, oe, vs, e, z, ed, S⟩ := h.at_
    have look : PySem.W.Looks (model X.prog X.w) s.heap (typeOf (.ref a)) cls := fun A Q E s k q => wpAny_typeOf_ref (k _ _ e) (by rw [z.1]; exact q)
    have mt := PySem.W.exm_one (M := model X.prog X.w) J.kIn look et
    refine wpAny_handleBy_cons (codeAny_handlers_test ?_) (by intro q; cases q)
    have name : ∀ {Q E : Value → Shared → Prop}, Q cl s → wpAny (model X.prog X.w) (X.A.mark (some (.ref a))) (eval (.Name x np) X.env) Q E s := by
      intro Q E k
      obtain ⟨hg, hd, hm | ⟨hm, hv, hn⟩⟩ := nms
      · exact ld_glob S hg hm k hd
      · exact ld_blt S hg hm hv k hn hd
    refine name (mt.here ?_)
    cases t with
    | false => exact mixed_go tk hN c h w
    | true =>
      match n, nm, hn, w with
      | none, none, _, w =>
        refine codeAny_handlers_suite ?_
        refine HandSPX.lands_againZ h.fly fun g f u => ?_
        have h' := h.next f u
        obtain ⟨J', oe', vs', e', z', ed', S'⟩ := h'.at_
        have ok := h.ok
        refine wpAny_mono ((hsu a oe' cls d (X.pn ++ pins) z' ⟨_, ed'⟩).run [] _ σ H D S' (w a h.na)) (fun f s6 hf => ?_) fun _ _ k => k.elim
        match f, hf with
        | .next, ⟨τ, G, U, q⟩ => exact ⟨τ, G, U.unsuite ok, q⟩
        | .brk, ⟨τ, G, U, q⟩ => exact ⟨τ, G, U.unsuite ok, q⟩
        | .cont, ⟨τ, G, U, q⟩ => exact ⟨τ, G, U.unsuite ok, q⟩
        | .ret u, ⟨v, τ, G, U, r, q⟩ => exact ⟨v, τ, G, U.unsuite ok, r, q⟩
      | some i, some nm, ⟨hi, hl⟩, w =>
        refine codeAny_handlers_suite_as (HandSPX.lands_againZ h.fly fun g f u => ?_)
        exact (h.next f u).suite hN hi hl hsu (w a h.na) rfl rfl fun f s' k => k
/-- try with such clauses -/
theorem ps_mixed {body : List Stmt} {hs : List ExceptHandler} {qs : List (Option Nat × Value × Suit)} {h0 : ExceptHandler} {pos : Pos} {tb : WX → TS} (stk : X.stack = X.env :: X.outer) (frm : X.env.frame = some X.env.locals) (hN : X.N.Nodup) (tk : Takes X W) (c : IsClM X (h0 :: hs) qs)
    (hb : ∀ (W : WX) (pn : List (Addr × Obj)) (xe : Value → Shared → Prop), Takes (X.tr pn xe) W → PassesOwn (model X.prog X.w) X.A X.env xe → PSs (X.tr pn xe) body (tb W)) :
    PS X (.Try body (h0 :: hs) [] [] pos) (fun D σ H => tb (wMx X.K W D qs) D σ H) := by
  refine ⟨fun pins s σ H D I h => wpAny_Try_except ?_⟩
  have ok := I.ok
  have frames : X.A.frames = some (X.env :: X.outer) := ok.frames.trans (by rw [stk])
  let after : Value → Shared → Prop := fun e s₁ => wpAny (model X.prog X.w) X.A (noteFrame e X.env) (fun _ s₂ => wpAny (model X.prog X.w) X.A (setFlight e none) (fun _ s₃ => wpAny (model X.prog X.w) X.A (handleBy e X.env (h0 :: hs)) (SP X pins D) X.xe s₃) X.xe s₂) X.xe s₁
  have caught : Takes (X.tr (X.pn ++ pins) after) (wMx X.K W D qs) := by
    rintro u s' ⟨a, B, s0, pins', σ', H', cls, d, rfl, J', nb, up, sky, na, os, ag, w⟩
    rw [show (X.tr (X.pn ++ pins) after).stack = X.env :: X.outer from stk] at sky
    refine Sky.land Zc.steady frames frm sky fun g f u => ?_
    exact mixed_go (s := { s' with heap := g }) tk hN c ⟨ok, stk, frm, J'.ofTry ok, nb, up.trans u, f, na, os, ag⟩ w
  refine wpAny_mono ((hb _ (X.pn ++ pins) after caught PassesOwn.looking).run [] s σ H D (I.toTry _) h) (fun f s1 done => ?_) fun _ _ z => z
  match f, done with
  | .next, ⟨τ, G, U, q⟩ => exact wpAny_execs_nil ⟨τ, G, U.ofTry ok, q⟩
  | .brk, ⟨τ, G, U, q⟩ => exact ⟨τ, G, U.ofTry ok, q⟩
  | .cont, ⟨τ, G, U, q⟩ => exact ⟨τ, G, U.ofTry ok, q⟩
  | .ret u, ⟨v, τ, G, U, r, q⟩ => exact ⟨v, τ, G, U.ofTry ok, r, q⟩
end
section
variable {ec : EC} {W : WX} {F : List Fn} {C : List D} {T : Tab} {cf : Cf} {X : Cx} {sc : Scope} {pos : Pos}
variable {σ σ' : L2.St} {H H' H0 H1 H2 : Hp} {A : AS} {ρ ρ' : Env} {B B' : Hp} {Z P : AS} {O : Nat → AS} {En : Ends}
def nmB? (cf : Cf) (sc : Scope) : Option Nat → Option Str → Bool
  | none, none => true
  | some i, some n => decide (cf.N[i]? = some n) && decide (sc.names.lookup n = some .local)
  | _, _ => false
def okHdM (cf : Cf) (T : Tab) : List (Option Nat × String × List Hs) → Scope → List ExceptHandler → Bool
  | [], _, hs => hs.isEmpty
  | (n, c, su) :: r, sc, hs => (match hs with
    | .ExceptHandler (some (.Name x _)) nm (b :: bs) _ :: hs => decide (Str.ofString c = x) && (T.lookup c).isSome && glB sc x && nmB x && nmB? cf sc n nm && okHs cf T n su sc (b :: bs) && okHdM cf T r sc hs
    | _ => false)
abbrev hdlM (K : PySem.W.Frag) (ec : EC) (T : Tab) (hs : List (Option Nat × String × List Hs)) : List (Option Nat × Value × Suit) := hs.map fun h => (h.1, ec h.2.1, fun a cls dd => tHs K ec T h.1 a cls dd h.2.2)
theorem hdM_ok (g : GoodS ec cf F C T X W) (hsc : X.env.scope = sc) : ∀ {hs : List (Option Nat × String × List Hs)} {es : List ExceptHandler}, okHdM cf T hs sc es = true → IsClM X es (hdlM X.K ec T hs) ∧ ∀ h ∈ hs, (T.lookup h.2.1).isSome = true
  | [], [], _ => ⟨trivial, fun _ m => by cases m⟩
  | [], _ :: _, h => by unfold okHdM at h; cases h
  | _ :: _, [], h => by unfold okHdM at h; cases h
  | (n, c, su) :: r, e :: es, h => by
    unfold okHdM at h
    split at h <;> first | (cases h; done) | skip
    rename_i x p nm b bs p2 hs heq
    cases heq
    simp only [Bool.and_eq_true] at h
    obtain ⟨⟨⟨⟨⟨⟨h1, h2⟩, h3⟩, h4⟩, h5⟩, h7⟩, h8⟩ := h
    obtain ⟨k1, k2⟩ := hdM_ok g hsc h8
    have hn : nmOf X n nm := by
      unfold nmB? at h5
      split at h5
      · trivial
      · rw [Bool.and_eq_true] at h5
        exact ⟨by rw [g.g.hN]; exact of_decide_eq_true h5.1, by show X.env.scope.names.lookup _ = _; rw [hsc]; exact of_decide_eq_true h5.2⟩
      · cases h5
    refine ⟨⟨⟨x, nm, b, bs, p, p2, rfl, names_of g hsc (of_decide_eq_true h1) h2 h3 h4, hn, fun a oe cls dd pn hz hf => hs_all (i := n) (g.sui hz hf) hsc h7⟩, k1⟩, fun y m => ?_⟩
    rcases List.mem_cons.mp m with e | m
    · rw [e]; exact h2
    · exact k2 y m
theorem manyM_ok (g : GoodS ec cf F C T X W) {x : String} {p : List (String × Int)} {cls : Value} {dd : Option Addr} (ix : IsExc ec x p cls dd H) (r : Rel X.K B Z O σ H ρ) : ∀ {hs : List (Option Nat × String × List Hs)}, (∀ h ∈ hs, (T.lookup h.2.1).isSome = true) →
    post X.K ec W B Z En (handleM T x p ρ hs) → wMx X.K W En (hdlM X.K ec T hs) cls dd σ H
  | [], _, h => by
    unfold handleM at h
    exact (show ∀ σ' H' O' cls dd, Rel X.K B Z O' σ' H' ρ → IsExc ec x p cls dd H' → W cls dd σ' H' from h) σ H O cls dd r ix
  | (n, c, su) :: hs, hk, h => by
    unfold handleM at h
    obtain ⟨l, el⟩ := Option.isSome_iff_exists.mp (hk (n, c, su) (by simp))
    split at h
    · rename_i e
      split at h
      case isFalse => exact h.elim
      rename_i hl
      refine ⟨true, by rw [ix.1]; exact (g.sub x c true l e el).1, ?_⟩
      rw [if_pos rfl]
      intro a na
      cases n with
      | none =>
        show tHs X.K ec T none a cls dd su En σ H
        refine ⟨ρ, B, Z, O, x, p, r, ix, (fun j z => by cases z), ?_⟩
        have h : post X.K ec W B Z En ((hruns T x p su ρ).wipe none) := h
        cases q : hruns T x p su ρ with
        | nx ρ' => rw [q] at h; exact fun σ' H' O' rel _ _ => h σ' H' O' rel
        | bk ρ' => rw [q] at h; exact fun σ' H' O' rel _ _ => h σ' H' O' rel
        | ct ρ' => rw [q] at h; exact fun σ' H' O' rel _ _ => h σ' H' O' rel
        | ret k d => rw [q] at h; exact fun v H' _ s w => h v H' s w
        | exc y q' ρ' => exact (hruns_calm q).elim
        | draw g => exact (hruns_calm2 q).elim
        | stuck => rw [q] at h; exact h
      | some i =>
        show tHs X.K ec T (some i) a cls dd su (offE i En) (σ.set i (some (.ref a))) H
        have hl : i < ρ.length := of_decide_eq_true hl
        have r' := r.drop (i := i) (o := some (.ref a))
        refine ⟨ρ.set i none, B, Z, _, x, p, r', ix, fun j z => ?_, ?_⟩
        · cases z
          exact List.getElem?_set_self (by rw [r.len]; exact hl)
        · have h : post X.K ec W B Z En ((hruns T x p su (ρ.set i none)).wipe (some i)) := h
          cases q : hruns T x p su (ρ.set i none) with
          | nx ρ2 => rw [q] at h; exact fun σ' H' O' rel _ _ => h _ H' _ (rel.drop (i := i) (o := none))
          | bk ρ2 => rw [q] at h; exact fun σ' H' O' rel _ _ => h _ H' _ (rel.drop (i := i) (o := none))
          | ct ρ2 => rw [q] at h; exact fun σ' H' O' rel _ _ => h _ H' _ (rel.drop (i := i) (o := none))
          | ret k d => rw [q] at h; exact fun v H' _ s w => h v H' s w
          | exc y q' ρ' => exact (hruns_calm q).elim
          | draw g => exact (hruns_calm2 q).elim
          | stuck => rw [q] at h; exact h
    · rename_i e
      refine ⟨false, by rw [ix.1]; exact (g.sub x c false l e el).1, ?_⟩
      rw [if_neg Bool.false_ne_true]
      exact manyM_ok g ix r (fun h m => hk h (by simp [m])) h
    · exact h.elim
theorem s_tryM {b : List Cm} {hs : List (Option Nat × String × List Hs)} {body : List Stmt} {e0 : ExceptHandler} {es : List ExceptHandler} (g : GoodS ec cf F C T X W) (hsc : X.env.scope = sc) (hh : okHdM cf T hs sc (e0 :: es) = true)
    (hb : ∀ (W' : WX) (pn : List (Addr × Obj)) (xe : Value → Shared → Prop), GoodS ec cf F C T (X.tr pn xe) W' → PSs (X.tr pn xe) body (tSs X.K ec W' F C T b)) : PS X (.Try body (e0 :: es) [] [] pos) (tS X.K ec W F C T (.tryM b hs)) := by
  obtain ⟨k1, k2⟩ := hdM_ok g hsc hh
  refine PS.imp (ps_mixed (tb := fun W' => tSs X.K ec W' F C T b) g.stk g.frm g.g.nd g.g.tk k1 (fun W' pn xe tk hp => hb W' pn xe (g.tr tk hp))) fun En σ H ⟨ρ, B, Z, O, r, h⟩ => ?_
  unfold run1 at h
  refine ⟨ρ, B, Z, O, r, ?_⟩
  refine post_turn h fun q0 nd h => ?_
  cases q0 with
  | draw g => exact absurd rfl (nd g)
  | nx ρ' => exact h
  | bk ρ' => exact h
  | ct ρ' => exact h
  | ret k d => exact h
  | exc x p ρ' => exact fun σ' H' O' cls dd rel ix => manyM_ok g ix rel k2 h
  | stuck => exact h
end
end Px

/-! Px22: a code that is that of a def is sound. -/
namespace Px
open PySem PySem.Spec L2
def isStr (e : Expr) (s : String) : Bool := false
/-- a, b = x, y: stored from the right -/
def parB (sc : Scope) (x y : Str) (px py : Pos) (ea eb : Expr) : Bool :=
  decide (sc.names.lookup x = some .local) && decide (sc.names.lookup y = some .local) && (px.line == py.line) && !(x == y) && noStar ea && noStar eb && !(foldedForSure 8 ea && foldedForSure 8 eb) && !(constantsAlone 8 ea && constantsAlone 8 eb)
mutual
def okS (cf : Cf) (T : Tab) : Cm → Scope → Stmt → Bool
  | .pass, _, st => (match st with
    | .Pass _ => true
    | _ => false)
  | .brk, _, st => (match st with
    | .Break _ => true
    | _ => false)
  | .cont, _, st => (match st with
    | .Continue _ => true
    | _ => false)
  | .set i c, sc, st => (match st with
    | .Assign [.Name x px] e _ => nmI cf sc i x && okE cf c sc e && setB sc x px e
    | _ => false)
  | .mov i j, sc, st => (match st with
    | .Assign [.Name x _] (.Name y _) _ => nmI cf sc i x && vrI cf sc j y
    | _ => false)
  | .unp p c, sc, st => (match st with
    | .Assign [.Tuple es k tp] e _ => okP cf none sc p (.Tuple es k tp) && okE cf c sc e && notTup e
    | _ => false)
  | .par i j a b, sc, st => (match st with
    | .Assign [.Tuple [.Name x px, .Name y py] _ _] (.Tuple [ea, eb] _ _) _ => nmI cf sc i x && nmI cf sc j y && parB sc x y px py ea eb && okE cf a sc ea && okE cf b sc eb
    | _ => false)
  | .par3 i j l a b c, sc, st => (match st with
    | .Assign [.Tuple [.Name x px, .Name y py, .Name z pz] _ _] (.Tuple [ea, eb, ecc] _ _) _ => nmI cf sc i x && nmI cf sc j y && nmI cf sc l z && par3B sc x y z px py pz ea eb ecc && okE cf a sc ea && okE cf b sc eb && okE cf c sc ecc
    | _ => false)
  | .aug i o c, sc, st => (match st with
    | .AugAssign (.Name x _) op e _ => decide (o = op) && (decide (o = .Add) || decide (o = .Sub)) && nmI cf sc i x && okE cf c sc e
    | _ => false)
  | .app i c, sc, st => (match st with
    | .Expr (.Call (.Attribute (.Name x _) nm apos) [e] [] cpos) _ => decide (nm = "append") && vrI cf sc i x && okE cf c sc e && noStar e && (apos.endLine == cpos.line)
    | _ => false)
  | .ext i c, sc, st => (match st with
    | .Expr (.Call (.Attribute (.Name x _) nm apos) [e] [] cpos) _ => decide (nm = "extend") && vrI cf sc i x && okE cf c sc e && noStar e && (apos.endLine == cpos.line)
    | _ => false)
  | .pop i, sc, st => (match st with
    | .Expr (.Call (.Attribute (.Name x _) nm apos) [] [] cpos) _ => decide (nm = "pop") && vrI cf sc i x && (apos.endLine == cpos.line)
    | _ => false)
  | .popS t i, sc, st => (match st with
    | .Assign [.Name y _] (.Call (.Attribute (.Name x _) nm apos) [] [] cpos) _ => decide (nm = "pop") && vrI cf sc i x && nmI cf sc t y && (apos.endLine == cpos.line)
    | _ => false)
  | .popI t i c, sc, st => (match st with
    | .Assign [.Name y _] (.Call (.Attribute (.Name x _) nm apos) [e] [] cpos) _ => decide (nm = "pop") && vrI cf sc i x && nmI cf sc t y && okE cf c sc e && noStar e && (apos.endLine == cpos.line)
    | _ => false)
  | .popX i c, sc, st => (match st with
    | .Expr (.Call (.Attribute (.Name x _) nm apos) [e] [] cpos) _ => decide (nm = "pop") && vrI cf sc i x && okE cf c sc e && noStar e && (apos.endLine == cpos.line)
    | _ => false)
  | .rev i, sc, st => (match st with
    | .Expr (.Call (.Attribute (.Name x _) nm apos) [] [] cpos) _ => decide (nm = "reverse") && vrI cf sc i x && (apos.endLine == cpos.line)
    | _ => false)
  | .ins _ _ _, _, _ => false
  | .put i cx c, sc, st => (match st with
    | .Assign [.Subscript (.Name x _) ex _] e _ => vrI cf sc i x && okE cf cx sc ex && okE cf c sc e && plainIx ex
    | _ => false)
  | .put2 i cx cy c, sc, st => (match st with
    | .Assign [.Subscript (.Subscript (.Name x _) ex _) ey _] e _ => vrI cf sc i x && okE cf cx sc ex && okE cf cy sc ey && okE cf c sc e && plainIx ex && plainIx ey
    | _ => false)
  | .dput i cy c, sc, st => (match st with
    | .Assign [.Subscript (.Name x _) ey _] e _ => vrI cf sc i x && okE cf cy sc ey && okE cf c sc e && plainIx ey
    | _ => false)
  | .daug i cy o c, sc, st => (match st with
    | .AugAssign (.Subscript (.Name x _) ey _) o' e _ => decide (o' = o) && (decide (o = .Add) || decide (o = .Sub)) && vrI cf sc i x && okE cf cy sc ey && okE cf c sc e && plainIx ey
    | _ => false)
  | .dpop i cy, sc, st => (match st with
    | .Expr (.Call (.Attribute (.Name x _) nm apos) [ey] [] cpos) _ => decide (nm = "pop") && vrI cf sc i x && okE cf cy sc ey && noStar ey && (apos.endLine == cpos.line)
    | _ => false)
  | .app2 i cx c, sc, st => (match st with
    | .Expr (.Call (.Attribute (.Subscript (.Name x _) ex _) nm apos) [e] [] cpos) _ => decide (nm = "append") && vrI cf sc i x && okE cf cx sc ex && okE cf c sc e && plainIx ex && noStar e && (apos.endLine == cpos.line)
    | _ => false)
  | .augAt i cx o c, sc, st => (match st with
    | .AugAssign (.Subscript (.Name x _) ex _) o' e _ => decide (o' = o) && (decide (o = .Add) || decide (o = .Sub)) && vrI cf sc i x && okE cf cx sc ex && okE cf c sc e && plainIx ex
    | _ => false)
  | .exp c, sc, st => (match st with
    | .Expr e _ => okE cf c sc e && !(isComp e)
    | _ => false)
  | .ifs c a b, sc, st => (match st with
    | .If t p q _ => okT cf c sc t && okSs cf T a sc p && okSs cf T b sc q
    | _ => false)
  | .whl _ c b, sc, st => (match st with
    | .While t p [] _ => okT cf c sc t && okSs cf T b sc p
    | _ => false)
  | .for p it b els, sc, st => (match st with
    | .For tg iter body orelse _ => okP cf none sc p tg && okI cf it sc tg iter && notSet iter && okSs cf T b sc body && okSs cf T els sc orelse
    | _ => false)
  | .ret c, sc, st => (match st with
    | .Return (some e) _ => okE cf c sc e
    | _ => false)
  | .retn, _, st => (match st with
    | .Return none _ => true
    | _ => false)
  | .retv i, sc, st => (match st with
    | .Return (some (.Name x _)) _ => vrI cf sc i x
    | _ => false)
  | .raise x, sc, st => (match st with
    | .Raise (some (.Call (.Name nm _) [.Constant (.str _) _ _] [] _)) none _ => decide (Str.ofString x = nm) && cf.rs.contains x && glB sc nm && nmB nm
    | _ => false)
  | .raiseF x fl c, sc, st => (match st with
    | .Raise (some (.Call (.Name nm _) [e] [] _)) none _ => decide (Str.ofString x = nm) && cf.ri.contains (x, fl) && glB sc nm && nmB nm && noStar e && okE cf c sc e
    | _ => false)
  | .try n b hs, sc, st => (match st with
    | .Try body es [] [] _ => okSs cf T b sc body && (match n with
      | none => !es.isEmpty && okHd cf T hs sc es && hs.all (fun h => (T.lookup h.1).isSome)
      | some i => (match hs with
        | [(c, su)] => okHd1 cf T i c su sc es
        | hs => !es.isEmpty && okHdN cf T i hs sc es))
    | _ => false)
  | .tryM b hs, sc, st => (match st with
    | .Try body es [] [] _ => okSs cf T b sc body && (!es.isEmpty && okHdM cf T hs sc es)
    | _ => false)
  | .frz _, _, _ => false
  | .tok _, _, _ => false
def okSs (cf : Cf) (T : Tab) : List Cm → Scope → List Stmt → Bool
  | [], _, sts => sts.isEmpty
  | c :: cs, sc, sts => (match c with
    | .frz _ => okSs cf T cs sc sts
    | .tok _ => okSs cf T cs sc sts
    | _ => (match sts with
      | st :: sts => okS cf T c sc st && okSs cf T cs sc sts
      | [] => false))
end
section
variable {ec : EC} {W : WX} {F : List Fn} {C : List D} {T : Tab} {cf : Cf} {X : Cx} {sc : Scope} {pos : Pos}
theorem s_frz {i : Nat} {cs : List Cm} {sts : List Stmt} (h : PSs X sts (tSs X.K ec W F C T cs)) : PSs X sts (tSs X.K ec W F C T (.frz i :: cs)) := by
  refine PSs.imp h fun En σ H ⟨ρ, B, Z, O, r, h⟩ => ?_
  unfold runs at h
  unfold run1 at h
  split at h
  · rename_i k d e
    split at h
    · have hi : i < ρ.length := (List.getElem?_eq_some_iff.mp e).1
      rw [seq_set hi] at h
      obtain ⟨O', r'⟩ := r.freeze e
      exact ⟨_, B, Z, O', r', h⟩
    · exact ⟨ρ, B, Z, O, r, h⟩
  · exact h.elim
theorem ints_of : ∀ {xs : List D} {ns : List Int}, intsOf xs = some ns → xs = ns.map D.int
  | [], ns, h => by unfold intsOf at h; cases h; rfl
  | .int i :: r, ns, h => by
    unfold intsOf at h
    cases q : intsOf r with
    | none => rw [q] at h; cases h
    | some ms => rw [q] at h; cases h; rw [ints_of q]; rfl
  | .non :: _, _, h => by unfold intsOf at h; cases h
  | .bl _ :: _, _, h => by unfold intsOf at h; cases h
  | .str _ :: _, _, h => by unfold intsOf at h; cases h
  | .lst _ :: _, _, h => by unfold intsOf at h; cases h
  | .tup _ :: _, _, h => by unfold intsOf at h; cases h
  | .dct _ _ :: _, _, h => by unfold intsOf at h; cases h
  | .ext _ :: _, _, h => by unfold intsOf at h; cases h
theorem reps_of_ints {K : PySem.W.Frag} {H : Hp} : ∀ {ns : List Int} {vs : List V}, RepRs K H (ns.map D.int) vs → vs = ns.map V.int
  | [], vs, r => by unfold RepRs at r; exact r
  | n :: ns, vs, r => by
    unfold RepRs at r
    obtain ⟨v, vs', e, r1, r2⟩ := r
    rw [e, r1.int, reps_of_ints r2]; rfl
theorem drw_ok {xs : List D} (h : drwOk xs = true) : ∃ ns : List Int, xs = ns.map D.int ∧ ∀ i ∈ ns, 0 ≤ i ∧ i < 1000 := by
  unfold drwOk at h
  split at h
  · rename_i ns e
    refine ⟨ns, ints_of e, fun i m => ?_⟩
    have := List.all_eq_true.mp h i m
    simpa using this
  · cases h
/-- an owned list of draws is looked into no more -/
theorem Rel.token {K : PySem.W.Frag} {B H : Hp} {Z : AS} {O : Nat → AS} {σ : L2.St} {ρ : Env} {i k : Nat} {xs : List D} {a : Addr} (r : Rel K B Z O σ H ρ) (e : ρ[i]? = some (some (k + 1, .lst xs))) (ea : σ[i]? = some (some (.ref a))) (oa : O i a) :
    ∃ O', Rel K B Z O' σ (upd H a (drawsO a)) (ρ.set i (some (9, .ext .draws))) := by
  have hi : i < ρ.length := (List.getElem?_eq_some_iff.mp e).1
  have sub : ∀ j x, setO O i (fun _ => False) j x → O j x := fun j x h => by
    by_cases ej : j = i
    · subst ej; rw [setO_same] at h; exact h.elim
    · rw [setO_ne ej] at h; exact h
  have subZ : ∀ x, ZO Z (setO O i fun _ => False) x → ZO Z O x := fun x h => h.elim .inl fun ⟨j, h⟩ => .inr ⟨j, sub j x h⟩
  have nz : ¬ ZO Z (setO O i fun _ => False) a := by
    rintro (z | ⟨j, z⟩)
    · exact (r.fr i a oa).1 z
    · by_cases ej : j = i
      · subst ej; rw [setO_same] at z; exact z
      · rw [setO_ne ej] at z
        exact ej (r.dj j i a z oa)
  refine ⟨setO O i fun _ => False, by rw [List.length_set]; exact r.len, fun x z => ?_, fun j j' x h1 h2 => r.dj j j' x (sub j x h1) (sub j' x h2), fun j x h => r.fr j x (sub j x h), fun b o q => ?_, fun j k' d' q => ?_, fun j h x hx => ?_⟩
  · have ne : x ≠ a := fun e => (r.fr i a oa).1 (e ▸ z)
    rcases r.zm x z with ⟨u, m⟩ | ⟨u, m⟩
    · exact .inl ⟨u, by rw [upd_ne ne]; exact m⟩
    · exact .inr ⟨u, by rw [upd_ne ne]; exact m⟩
  · rw [upd_ne (fun z => by subst z; rw [(r.fr i b oa).2] at q; cases q)]
    exact r.base b o q
  · by_cases ej : j = i
    · subst ej
      rw [List.getElem?_set_self hi] at q
      cases q
      refine ⟨_, ea, (Own.flat rfl).mpr ⟨fun x z => by rw [setO_same] at z; exact z, ?_⟩⟩
      unfold RepR
      exact ⟨a, rfl, cut_of upd_same nz⟩
    · rw [List.getElem?_set_ne (Ne.symm ej)] at q
      obtain ⟨u, e1, w⟩ := r.own j k' d' q
      refine ⟨u, e1, ?_⟩
      rw [setO_ne ej]
      exact (w.upd (a := a) (o := drawsO a) (.inr ⟨i, oa⟩) fun z => ej (r.dj j i a z oa)).mono (Same.refl _) fun x z => .inl (subZ x z)
  · by_cases ej : j = i
    · subst ej; rw [setO_same] at hx; exact hx
    · exact r.non j (fun k' d' q => h k' d' (by rw [List.getElem?_set_ne (Ne.symm ej)]; exact q)) x (sub j x hx)
theorem s_tok {i : Nat} {cs : List Cm} {sts : List Stmt} (h : PSs X sts (tSs X.K ec W F C T cs)) : PSs X sts (tSs X.K ec W F C T (.tok i :: cs)) := by
  constructor
  rintro pins s σ H En I ⟨ρ, B, Z, O, r, hp⟩
  unfold runs at hp
  unfold run1 at hp
  unfold Px.lstAt at hp
  split at hp
  · rename_i k xs e
    have hp : post X.K ec W B Z En ((if drwOk xs = true then setR i 9 (.ext .draws) ρ else Rs.stuck).seq (runs F C T cs)) := hp
    split at hp
    · rename_i hd
      have hi : i < ρ.length := (List.getElem?_eq_some_iff.mp e).1
      rw [seq_set hi] at hp
      obtain ⟨a, vs, O1, ea, eH, eO, na, q⟩ := r.lstAt e
      have oa : O i a := (eO a).mpr (.inl rfl)
      obtain ⟨O', r'⟩ := r.token e ea oa
      obtain ⟨ns, ex, hns⟩ := drw_ok hd
      have rv := q.rep fun _ _ _ w => w.rep
      rw [ex] at rv
      have ev := reps_of_ints rv
      subst ev
      obtain ⟨z, its, n, vl, hg⟩ : (ns.map V.int).length ≤ sizeLine ∧ ∃ (its : List Value) (n : Nat), Vals (ns.map V.int) its ∧ s.heap.get? a = some { cls := .type "list", data := .seq its.toArray n } := I.hok a _ eH
      have mu : Mut (H a) := by rw [eH]; trivial
      have new : ObjOk X.prog X.w (upd H a (drawsO a)) s.heap a (drawsO a) :=
        ⟨⟨ns, its, n, hns, by simpa using z, vl, hg⟩, ⟨_, hg⟩, fun h1 h2 ⟨ns, its, n, y1, y2, y3, y4⟩ k => ⟨ns, its, n, y1, y2, y3, k _ y4⟩⟩
      have J : Inv X pins σ (upd H a (drawsO a)) { s with heap := s.heap, toks := s.toks } := I.un (Un.write mu (.inl rfl) (fun _ _ _ q => q) ⟨_, hg⟩) (I.hok.write mu (.inl rfl) (fun _ _ _ q => q) ⟨_, hg⟩ new)
      exact h.run pins s σ _ En J ⟨_, B, Z, O', r', hp⟩
    · exact hp.elim
  · exact hp.elim
theorem star_any {e e' : Expr} (h : noStar e = true) (h' : noStar e' = true) : ([e, e'].any fun | .Starred .. => true | _ => false) = false := by
  rw [List.any_cons, List.any_cons, List.any_nil]
  cases e <;> first | (cases h; done) | (cases e' <;> first | rfl | cases h')
theorem par_of {x y : Str} {px py pt pt2 : Pos} {kt k2 : Nat} {ea eb : Expr} (hk : X.env.scope.kind = .function) (hsc : X.env.scope = sc) (h : parB sc x y px py ea eb = true) : swappedStores [.Tuple [.Name x px, .Name y py] kt pt] (.Tuple [ea, eb] k2 pt2) X.env = pure (some [x, y]) := by
  unfold parB at h
  simp only [Bool.and_eq_true, Bool.not_eq_true', decide_eq_true_eq] at h
  obtain ⟨⟨⟨⟨⟨⟨⟨h1, h2⟩, h3⟩, h4⟩, h5⟩, h6⟩, h7⟩, h8⟩ := h
  have hb : X.env.blockKind = .function := by unfold PySem.Env.blockKind; rw [hk]; rfl
  have k1 : X.env.kindOf x = some .local := by show X.env.scope.names.lookup x = _; rw [hsc]; exact h1
  have k2 : X.env.kindOf y = some .local := by show X.env.scope.names.lookup y = _; rw [hsc]; exact h2
  have hd : ([x, y].eraseDups.length != 2) = false := by
    have e : (y == x) = false := by rw [Bool.beq_comm]; exact h4
    simp [List.eraseDups_cons, e]
  have h3' : (py.line == px.line) = true := by rw [Bool.beq_comm]; exact h3
  have f1 : ([ea, eb].all (foldedForSure 8)) = false := by
    rw [List.all_cons, List.all_cons, List.all_nil, Bool.and_true]; exact h7
  have f2 : ([ea, eb].all (constantsAlone 8)) = false := by
    rw [List.all_cons, List.all_cons, List.all_nil, Bool.and_true]; exact h8
  have h3' : py.line = px.line := by simpa using h3'
  have hn1 : X.env.kindOf x == some .local := by rw [k1]; rfl
  unfold swappedStores
  simp only [List.length_cons, List.length_nil, hb, star_any h5 h6, f1, f2, List.filterMap_cons, List.filterMap_nil, k1, k2, h3', List.head?_cons, Option.map_some, Option.getD_some, Expr.pos, hd]
  refine (if_neg (by decide)).trans ((if_neg fun h => Bool.false_ne_true ((star_any h5 h6).symm.trans h)).trans ?_)
  have e1 : (some NameKind.local == some NameKind.local && px.line == px.line) = true := by simp
  simp only [e1, if_true]
  refine (if_neg ?_).trans ((if_neg Bool.false_ne_true).trans ((if_neg Bool.false_ne_true).trans rfl))
  show ¬ (([x, y].length != 2 || [x, y].eraseDups.length != 2) = true)
  rw [hd]
  exact Bool.false_ne_true
def isFrz : Cm → Bool
  | .frz _ => true
  | _ => false
theorem okSs_cons {c : Cm} {cs : List Cm} {sts : List Stmt} (h : okSs cf T (c :: cs) sc sts = true) : (∃ i, (c = .frz i ∨ c = .tok i) ∧ okSs cf T cs sc sts = true) ∨ ∃ st r, sts = st :: r ∧ okS cf T c sc st = true ∧ okSs cf T cs sc r = true := by
  unfold okSs at h
  split at h
  · exact .inl ⟨_, .inl rfl, h⟩
  · exact .inl ⟨_, .inr rfl, h⟩
  · split at h
    · rw [Bool.and_eq_true] at h
      exact .inr ⟨_, _, rfl, h.1, h.2⟩
    · cases h
mutual
theorem st_ok : ∀ {c : Cm} {X : Cx} {W : WX} {st : Stmt}, GoodS ec cf F C T X W → X.env.scope = sc → okS cf T c sc st = true → PS X st (tS X.K ec W F C T c)
  | .pass, X, W, st, g, hsc, h => by
    unfold okS at h
    split at h <;> first | (cases h; done) | skip
    exact s_pass
  | .brk, X, W, st, g, hsc, h => by
    unfold okS at h
    split at h <;> first | (cases h; done) | skip
    exact s_brk
  | .cont, X, W, st, g, hsc, h => by
    unfold okS at h
    split at h <;> first | (cases h; done) | skip
    exact s_cont
  | .set i c, X, W, st, g, hsc, h => by
    unfold okS at h
    split at h <;> first | (cases h; done) | skip
    simp only [Bool.and_eq_true] at h
    exact s_set g hsc h.1.1 h.1.2 h.2
  | .mov i j, X, W, st, g, hsc, h => by
    unfold okS at h
    split at h <;> first | (cases h; done) | skip
    rw [Bool.and_eq_true] at h
    exact s_mov g hsc h.1 h.2
  | .unp p c, X, W, st, g, hsc, h => by
    unfold okS at h
    split at h <;> first | (cases h; done) | skip
    simp only [Bool.and_eq_true] at h
    exact s_unp g hsc h.1.1 h.1.2 h.2
  | .par i j a b, X, W, st, g, hsc, h => by
    unfold okS at h
    split at h <;> first | (cases h; done) | skip
    simp only [Bool.and_eq_true] at h
    obtain ⟨⟨⟨⟨h1, h2⟩, h3⟩, h4⟩, h5⟩ := h
    have hw := fun kt pt k2 pt2 => par_of (X := X) (kt := kt) (pt := pt) (k2 := k2) (pt2 := pt2) g.kind hsc h3
    unfold parB at h3
    simp only [Bool.and_eq_true, decide_eq_true_eq] at h3
    exact s_par g hsc h1 h2 h3.1.1.1.1.1.1.1 h3.1.1.1.1.1.1.2 h3.1.1.1.2 h3.1.1.2 h4 h5 (hw _ _ _ _)
  | .par3 i j l a b c, X, W, st, g, hsc, h => by
    unfold okS at h
    split at h <;> first | (cases h; done) | skip
    simp only [Bool.and_eq_true] at h
    obtain ⟨⟨⟨⟨⟨⟨h1, h2⟩, h3⟩, h4⟩, h5⟩, h6⟩, h7⟩ := h
    have hw := fun kt pt k2 pt2 => par3_of (X := X) (kt := kt) (pt := pt) (k2 := k2) (pt2 := pt2) g.kind hsc h4
    unfold par3B at h4
    simp only [Bool.and_eq_true, decide_eq_true_eq] at h4
    obtain ⟨⟨⟨⟨⟨⟨⟨⟨⟨⟨⟨⟨q1, q2⟩, q3⟩, _⟩, _⟩, _⟩, _⟩, _⟩, s1⟩, s2⟩, s3⟩, _⟩, _⟩ := h4
    exact s_par3 g hsc h1 h2 h3 q1 q2 q3 s1 s2 s3 h5 h6 h7 (hw _ _ _ _)
  | .aug i o c, X, W, st, g, hsc, h => by
    unfold okS at h
    split at h <;> first | (cases h; done) | skip
    simp only [Bool.and_eq_true, Bool.or_eq_true, decide_eq_true_eq] at h
    obtain ⟨⟨⟨h1, h2⟩, h3⟩, h4⟩ := h
    subst h1
    exact s_aug g hsc h3 h4 h2
  | .app i c, X, W, st, g, hsc, h => by
    unfold okS at h
    split at h <;> first | (cases h; done) | skip
    simp only [Bool.and_eq_true] at h
    obtain ⟨⟨⟨⟨h1, h2⟩, h3⟩, h4⟩, h5⟩ := h
    have h1 := of_decide_eq_true h1
    subst h1
    exact s_app g hsc h2 h3 h4 h5
  | .ext i c, X, W, st, g, hsc, h => by
    unfold okS at h
    split at h <;> first | (cases h; done) | skip
    simp only [Bool.and_eq_true] at h
    obtain ⟨⟨⟨⟨h1, h2⟩, h3⟩, h4⟩, h5⟩ := h
    have h1 := of_decide_eq_true h1
    subst h1
    exact s_ext g hsc h2 h3 h4 h5
  | .pop i, X, W, st, g, hsc, h => by
    unfold okS at h
    split at h <;> first | (cases h; done) | skip
    simp only [Bool.and_eq_true] at h
    obtain ⟨⟨h1, h2⟩, h3⟩ := h
    have h1 := of_decide_eq_true h1
    subst h1
    exact s_pop g hsc h2 h3
  | .popS t i, X, W, st, g, hsc, h => by
    unfold okS at h
    split at h <;> first | (cases h; done) | skip
    simp only [Bool.and_eq_true] at h
    obtain ⟨⟨⟨h1, h2⟩, h3⟩, h4⟩ := h
    have h1 := of_decide_eq_true h1
    subst h1
    exact s_popS g hsc h2 h3 h4
  | .popI t i c, X, W, st, g, hsc, h => by
    unfold okS at h
    split at h <;> first | (cases h; done) | skip
    simp only [Bool.and_eq_true] at h
    obtain ⟨⟨⟨⟨⟨h1, h2⟩, h3⟩, h4⟩, h5⟩, h6⟩ := h
    have h1 := of_decide_eq_true h1
    subst h1
    exact s_popI g hsc h2 h3 h4 h5 h6
  | .popX i c, X, W, st, g, hsc, h => by
    unfold okS at h
    split at h <;> first | (cases h; done) | skip
    simp only [Bool.and_eq_true] at h
    obtain ⟨⟨⟨⟨h1, h2⟩, h3⟩, h4⟩, h5⟩ := h
    have h1 := of_decide_eq_true h1
    subst h1
    exact s_popX g hsc h2 h3 h4 h5
  | .rev i, X, W, st, g, hsc, h => by
    unfold okS at h
    split at h <;> first | (cases h; done) | skip
    simp only [Bool.and_eq_true] at h
    obtain ⟨⟨h1, h2⟩, h3⟩ := h
    have h1 := of_decide_eq_true h1
    subst h1
    exact s_rev g hsc h2 h3
  | .ins _ _ _, X, W, st, g, hsc, h => by unfold okS at h; cases h
  | .put i cx c, X, W, st, g, hsc, h => by
    unfold okS at h
    split at h <;> first | (cases h; done) | skip
    simp only [Bool.and_eq_true] at h
    obtain ⟨⟨⟨h1, h2⟩, h3⟩, h4⟩ := h
    exact s_put g hsc h1 h2 h3 h4
  | .put2 i cx cy c, X, W, st, g, hsc, h => by
    unfold okS at h
    split at h <;> first | (cases h; done) | skip
    simp only [Bool.and_eq_true] at h
    obtain ⟨⟨⟨⟨⟨h1, h2⟩, h3⟩, h4⟩, h5⟩, h6⟩ := h
    exact s_put2 g hsc h1 h2 h3 h4 h5 h6
  | .dput i cy c, X, W, st, g, hsc, h => by
    unfold okS at h
    split at h <;> first | (cases h; done) | skip
    simp only [Bool.and_eq_true] at h
    obtain ⟨⟨⟨h1, h2⟩, h3⟩, h4⟩ := h
    exact s_dput g hsc h1 h2 h3 h4
  | .daug i cy o c, X, W, st, g, hsc, h => by
    unfold okS at h
    split at h <;> first | (cases h; done) | skip
    simp only [Bool.and_eq_true, Bool.or_eq_true] at h
    obtain ⟨⟨⟨⟨⟨h1, h2⟩, h3⟩, h4⟩, h5⟩, h6⟩ := h
    rw [of_decide_eq_true h1]
    exact s_daug g hsc h3 h4 h5 (h2.imp of_decide_eq_true of_decide_eq_true) h6
  | .dpop i cy, X, W, st, g, hsc, h => by
    unfold okS at h
    split at h <;> first | (cases h; done) | skip
    simp only [Bool.and_eq_true] at h
    obtain ⟨⟨⟨⟨h1, h2⟩, h3⟩, h4⟩, h5⟩ := h
    have h1 := of_decide_eq_true h1
    subst h1
    exact s_dpop g hsc h2 h3 h4 h5
  | .app2 i cx c, X, W, st, g, hsc, h => by
    unfold okS at h
    split at h <;> first | (cases h; done) | skip
    simp only [Bool.and_eq_true] at h
    obtain ⟨⟨⟨⟨⟨⟨h0, h1⟩, h2⟩, h3⟩, h4⟩, h5⟩, h6⟩ := h
    have h0 := of_decide_eq_true h0
    subst h0
    exact s_app2 g hsc h1 h2 h3 h4 h5 h6
  | .augAt i cx o c, X, W, st, g, hsc, h => by
    unfold okS at h
    split at h <;> first | (cases h; done) | skip
    simp only [Bool.and_eq_true, Bool.or_eq_true] at h
    obtain ⟨⟨⟨⟨⟨h1, h2⟩, h3⟩, h4⟩, h5⟩, h6⟩ := h
    rw [of_decide_eq_true h1]
    exact s_augAt g hsc h3 h4 h5 (h2.imp of_decide_eq_true of_decide_eq_true) h6
  | .exp c, X, W, st, g, hsc, h => by
    unfold okS at h
    split at h <;> first | (cases h; done) | skip
    simp only [Bool.and_eq_true, Bool.not_eq_true'] at h
    exact s_exp g hsc h.1 h.2
  | .ifs c a b, X, W, st, g, hsc, h => by
    unfold okS at h
    split at h <;> first | (cases h; done) | skip
    simp only [Bool.and_eq_true] at h
    exact s_ifs g hsc h.1.1 (sts_ok g hsc h.1.2) (sts_ok g hsc h.2)
  | .whl n c b, X, W, st, g, hsc, h => by
    unfold okS at h
    split at h <;> first | (cases h; done) | skip
    rw [Bool.and_eq_true] at h
    exact s_whl g hsc h.1 (sts_ok g hsc h.2)
  | .for p it b els, X, W, st, g, hsc, h => by
    unfold okS at h
    split at h <;> first | (cases h; done) | skip
    simp only [Bool.and_eq_true] at h
    obtain ⟨⟨⟨⟨h1, h2⟩, h3⟩, h4⟩, h5⟩ := h
    exact s_for g hsc h1 h2 h3 (sts_ok g hsc h4) (sts_ok g hsc h5)
  | .ret c, X, W, st, g, hsc, h => by
    unfold okS at h
    split at h <;> first | (cases h; done) | skip
    exact s_ret g hsc h
  | .retn, X, W, st, g, hsc, h => by
    unfold okS at h
    split at h <;> first | (cases h; done) | skip
    exact s_retn
  | .retv i, X, W, st, g, hsc, h => by
    unfold okS at h
    split at h <;> first | (cases h; done) | skip
    exact s_retv g hsc h
  | .raise x, X, W, st, g, hsc, h => by
    unfold okS at h
    split at h <;> first | (cases h; done) | skip
    simp only [Bool.and_eq_true] at h
    obtain ⟨⟨⟨h1, h2⟩, h3⟩, h4⟩ := h
    exact s_raise g hsc (of_decide_eq_true h1) h2 h3 h4
  | .raiseF x fl c, X, W, st, g, hsc, h => by
    unfold okS at h
    split at h <;> first | (cases h; done) | skip
    simp only [Bool.and_eq_true] at h
    obtain ⟨⟨⟨⟨⟨h1, h2⟩, h3⟩, h4⟩, h5⟩, h6⟩ := h
    exact s_raiseF g hsc (of_decide_eq_true h1) h2 h3 h4 h5 h6
  | .try n b hs, X, W, st, g, hsc, h => by
    unfold okS at h
    split at h <;> first | (cases h; done) | skip
    rw [Bool.and_eq_true] at h
    obtain ⟨h1, h2⟩ := h
    have hb : ∀ (W' : WX) (pn : List (Addr × Obj)) (xe : Value → Shared → Prop), GoodS ec cf F C T (X.tr pn xe) W' → PSs (X.tr pn xe) _ (tSs X.K ec W' F C T b) := fun W' pn xe g' => sts_ok g' hsc h1
    split at h2
    · simp only [Bool.and_eq_true] at h2
      obtain ⟨⟨h2, h3⟩, h4⟩ := h2
      rename_i es _ _
      cases es with
      | nil => cases h2
      | cons e0 es => exact s_try g hsc h3 (fun x m => List.all_eq_true.mp h4 x m) hb
    · split at h2
      · exact s_try1 g hsc h2 hb
      · rw [Bool.and_eq_true] at h2
        obtain ⟨h2, h3⟩ := h2
        rename_i es _ _ _ _ _
        cases es with
        | nil => cases h2
        | cons e0 es => exact s_tryN g hsc h3 hb
  | .tryM b hs, X, W, st, g, hsc, h => by
    unfold okS at h
    split at h <;> first | (cases h; done) | skip
    simp only [Bool.and_eq_true] at h
    obtain ⟨h1, h2, h3⟩ := h
    have hb : ∀ (W' : WX) (pn : List (Addr × Obj)) (xe : Value → Shared → Prop), GoodS ec cf F C T (X.tr pn xe) W' → PSs (X.tr pn xe) _ (tSs X.K ec W' F C T b) := fun W' pn xe g' => sts_ok g' hsc h1
    rename_i es _
    cases es with
    | nil => cases h2
    | cons e0 es => exact s_tryM g hsc h3 hb
  | .frz _, X, W, st, g, hsc, h => by unfold okS at h; cases h
  | .tok _, X, W, st, g, hsc, h => by unfold okS at h; cases h
theorem sts_ok : ∀ {cs : List Cm} {X : Cx} {W : WX} {sts : List Stmt}, GoodS ec cf F C T X W → X.env.scope = sc → okSs cf T cs sc sts = true → PSs X sts (tSs X.K ec W F C T cs)
  | [], X, W, [], g, hsc, h => s_nil
  | [], X, W, _ :: _, g, hsc, h => by unfold okSs at h; cases h
  | c :: cs, X, W, sts, g, hsc, h => by
    rcases okSs_cons h with ⟨i, e, h⟩ | ⟨st, r, e, h1, h2⟩
    · rcases e with e | e
      · subst e; exact s_frz (sts_ok g hsc h)
      · subst e; exact s_tok (sts_ok g hsc h)
    · subst e; exact s_cons (st_ok g hsc h1) (sts_ok g hsc h2)
end
end
end Px

/-! Px23: a def. -/
namespace Px
open PySem PySem.Spec L2
section
variable {K : PySem.W.Frag} {ec : EC} {H H' : Hp} {Z : AS} {B : Hp}
def env0 (np n : Nat) (ds : List D) : Env := ds.map (fun d => some ((kd 0 d).1.getD 0, d)) ++ List.replicate (n - np) none
theorem rel0 {N : List Str} {vs : List V} {ds : List D} (hZ : ∀ x, Z x → IsM H x) (r : RepRs K (cut H Z) ds vs) : Rel K H Z (fun _ _ => False) (L2.start N vs) H (env0 ds.length N.length ds) := by
  have hl := r.length
  refine ⟨?_, hZ, fun i j x h => h.elim, fun i x h => h.elim, Same.refl _, fun i k d e => ?_, fun i h x z => z⟩
  · unfold L2.start env0
    simp [hl]
  · unfold env0 at e
    have hi : i < ds.length := by
      by_cases hi : i < ds.length
      · exact hi
      · rw [List.getElem?_append_right (by simpa using hi), List.getElem?_replicate] at e
        split at e <;> cases e
    rw [List.getElem?_append_left (by simpa using hi), List.getElem?_map] at e
    cases q : ds[i]? with
    | none => rw [q] at e; cases e
    | some d' =>
      rw [q] at e
      cases e
      obtain ⟨v, ev, rv⟩ := r.get q
      refine ⟨v, ?_, ?_⟩
      · unfold L2.start
        rw [List.getElem?_append_left (by simp [hl]; exact hi), List.getElem?_map, ev]; rfl
      · have w0 : Own K H (ZO Z fun _ _ => False) 0 d v (fun _ => False) := ⟨fun _ z => z, rv.mono (cut_set fun x z => z.elim id fun ⟨_, z⟩ => z.elim)⟩
        unfold kd
        split
        · exact w0
        · rename_i hd
          exact (Own.flat (by simpa using hd)).mpr w0
end
section
variable {P : Program} {w : World} {K : PySem.W.Frag} {mg : Str → Option Value} {base : Heap} {ec : EC}
/-- what the world of a def gives -/
structure Amb (K : PySem.W.Frag) (mg : Str → Option Value) (ec : EC) (T : Tab) (rs bx : List String) : Prop where
  xc : ∀ (x : String) l, T.lookup x = some l → XcOk K mg ec x
  rm : ∀ x : String, rs.contains x = true → (T.lookup x).isSome = true ∧ XcMk K ec x
  sub : ∀ (x c : String) b l, isA T x c = some b → T.lookup c = some l → PySem.W.exmOne K (ec x) (ec c) = some b ∧ PySem.W.kitOne K (ec x) (ec c) = some b
  bsub : ∀ (x c : String) b, isA T x c = some b → bx.contains c = true → PySem.W.kitOne K (ec x) (.type c) = some b ∧ bootBuiltins (Str.ofString c) = some (.type c) ∧ mg (Str.ofString c) = none
theorem def_ok {x qual : Str} {st : Stmt} {f : Addr} {fd : FuncData} {ps : List Str} {k : Nat} {cf : Cf} {T : Tab} {code : List Cm} {m : Fn} (Fu : Fun K x qual st f fd) (S : FnScope cf.N ps (defScope st)) (A : Amb K mg ec T cf.rs cf.bx)
    (hbn : ∀ n ∈ cf.bn, mg (Str.ofString n) = none) (cs : List (Cal P w K mg base ec)) (cons : List (Con1 K mg)) (hfs : cf.fs = cs.map fun c => (c.name, c.n)) (hgc : cf.gc = cons.map (·.name)) (hk : ∀ c ∈ cs, c.k ≤ k) (kcs : List (CalK P w K mg base ec T)) (hks : cf.ks = kcs.map fun c => (c.name, c.n)) (hkk : ∀ c ∈ kcs, c.k ≤ k) (ics : List (CalI P w K mg base)) (hri : cf.ri = ics.map fun c => (c.name, c.fl)) (hik : ∀ c ∈ ics, c.k + 1 ≤ k ∧ (T.lookup c.name).isSome = true)
    (hm : m = runFd (cs.map (·.m)) (cons.map (·.d)) T ps.length cf.N.length code) (ok : okSs cf T code (defScope st) (defBody st) = true) : FnG P w K mg base (k + 1) f fd ps (spD K ec ps.length m) := by
  refine fng_of Fu S (fun vs H Q E h => h.1) fun cdv AA outer s H vs Q E hg hr h => ?_
  refine ⟨tSs K ec (fun cls d _ H => E cls d H) (cs.map (·.m)) (cons.map (·.d)) T code, ?_, ?_⟩
  · refine sts_ok (sc := defScope st) (cf := cf) ⟨⟨rfl, S.nd, rfl, ?_, ?_, ?_, ?_, ?_, ?_⟩, fun _ => rfl, S.kind, ?_, rfl, rfl, A.xc, A.rm, A.sub, A.bsub, ?_, ?_⟩ rfl ok
    · have := (room_of2 hr).un; show (AA.deeper (PyProof.Rows.envOfC qual (defScope st) s.heap.objs.size f cdv)).units + 65 < _; omega
    · exact fun n hn => hbn n (by simpa using hn)
    · intro j y n e
      rw [hfs, List.getElem?_map] at e
      cases q : cs[j]? with
      | none => rw [q] at e; cases e
      | some c =>
        rw [q] at e
        cases e
        exact ⟨c, rfl, rfl, by rw [List.getElem?_map, q]; rfl, hr.mono (hk c (List.mem_of_getElem? q))⟩
    · intro j y e
      rw [hgc, List.getElem?_map] at e
      cases q : cons[j]? with
      | none => rw [q] at e; cases e
      | some c =>
        rw [q] at e
        cases e
        exact ⟨c, rfl, by rw [List.getElem?_map, q]; rfl⟩
    · exact hg
    · exact takes_of rfl rfl rfl rfl
    · exact passes_of rfl
    · intro f' n hc
      rw [hks] at hc
      obtain ⟨c, m, e⟩ := List.mem_map.mp (List.contains_iff_mem.mp hc)
      cases e
      exact ⟨c, rfl, rfl, L2H.roomH_of (room_of2 (hr.mono (hkk c m)))⟩
    · intro x fl hc
      rw [hri] at hc
      obtain ⟨c, m, e⟩ := List.mem_map.mp (List.contains_iff_mem.mp hc)
      cases e
      exact ⟨c, rfl, rfl, room_of2 (hr.mono (hik c m).1), (hik c m).2⟩
  · obtain ⟨hl, ds, Z, hZ, rep, h⟩ := h
    have hd : ds.length = ps.length := by rw [← rep.length, hl]
    have r := rel0 (N := cf.N) hZ rep
    rw [hd] at r
    refine ⟨_, H, Z, _, r, ?_⟩
    subst hm
    unfold runFd at h
    rw [if_pos hd] at h
    have e0 : env0 ps.length cf.N.length ds = ds.map (fun d => some ((kd 0 d).1.getD 0, d)) ++ List.replicate (cf.N.length - ps.length) none := rfl
    rw [← e0] at h
    generalize runs (cs.map (·.m)) (cons.map (·.d)) T code (env0 ps.length cf.N.length ds) = q at h ⊢
    induction q with
    | nx ρ' => exact fun σ' H' O' rel => h .non H' rel.base ⟨fun _ => False, fun _ z => z.elim, (Own.flat rfl).mpr ⟨fun _ z => z, by unfold RepR; rfl⟩⟩
    | bk ρ' => exact h.elim
    | ct ρ' => exact h.elim
    | ret k d => exact fun v H' s w => h v H' s w
    | exc x p ρ' => exact fun σ' H' O' cls dd rel ix => h cls dd H' rel.base ix
    | stuck => exact h
    | draw g ih => exact fun n h1 h2 => ih n (h n h1 h2)
end
end Px

/-! Px24: to put a law's defs together. -/
namespace Px
open PySem PySem.Spec L2
def AllL {α : Type _} (p : α → Prop) : List α → Prop
  | [] => True
  | a :: l => p a ∧ AllL p l
theorem AllL.all {α : Type _} {p : α → Prop} : ∀ {l : List α}, AllL p l → ∀ a ∈ l, p a
  | [], _, _, m => by cases m
  | a :: l, h, b, m => by
    rcases List.mem_cons.mp m with e | m
    · exact e ▸ h.1
    · exact AllL.all h.2 b m
abbrev ecL (L : List (String × Addr)) : EC := fun x => match L.lookup x with
  | some a => .ref a
  | none => .none
/-- what the written part says of an own error class at D -/
structure XF (K : PySem.W.Frag) (mg : Str → Option Value) (x : String) (D : Addr) : Prop where
  g : mg (Str.ofString x) = some (.ref D)
  kp : PySem.W.keepIn K (.ref D) = true
  sb : PySem.W.subIn K (.ref D) (.type "BaseException") = some true
  ty : PySem.W.typeIn K (.ref D) = some (.type "type")
  ga : PySem.W.findIn K (.ref D) "__getattribute__" = some (some (.builtin "BaseException.__getattribute__"))
  gt : PySem.W.findIn K (.ref D) "__getattr__" = some none
  hd : PySem.W.hasDictIn K D = true
  ca : PySem.W.findIn K (.ref D) "__class__" = some (some (.builtin "object.__class__"))
  mo : PySem.W.mroIn K D (.type "object") = some true
section
variable {K : PySem.W.Frag} {mg : Str → Option Value} {T : Tab} {L : List (String × Addr)} {rs bx : List String}
theorem lookup_mem {α : Type} {x : String} {l : α} : ∀ {T : List (String × α)}, T.lookup x = some l → (x, l) ∈ T
  | [], h => by simp at h
  | (y, a) :: T, h => by
    by_cases e : x = y
    · subst e
      simp only [List.lookup_cons, beq_self_eq_true, Option.some.injEq] at h
      subst h; simp
    · have : (x == y) = false := by simpa using e
      simp only [List.lookup_cons, this] at h
      exact List.mem_cons_of_mem _ (lookup_mem h)
theorem lookup_of {α β : Type} {x : String} : ∀ {T : List (String × α)} {L : List (String × β)}, T.map (·.1) = L.map (·.1) → (T.lookup x).isSome = true → ∃ a, L.lookup x = some a
  | [], _, _, h => by simp at h
  | (y, a) :: T, [], e, _ => by simp at e
  | (y, a) :: T, (z, b) :: L, e, h => by
    simp only [List.map_cons, List.cons.injEq] at e
    obtain ⟨e1, e2⟩ := e
    subst e1
    by_cases q : x = y
    · subst q; exact ⟨b, by simp [List.lookup_cons]⟩
    · have : (x == y) = false := by simpa using q
      simp only [List.lookup_cons, this] at h ⊢
      exact lookup_of e2 h
theorem kit_of {D : Addr} {c : Addr} {b : Bool} (h1 : PySem.W.hasDictIn K c = true) (h2 : PySem.W.typeIn K (.ref c) = some (.type "type")) (h : PySem.W.subIn K (.ref D) (.ref c) = some b) (he : D = c → b = true) : PySem.W.kitOne K (.ref D) (.ref c) = some b := by
  unfold PySem.W.kitOne
  by_cases e : D = c
  · rw [if_pos (by rw [e]; exact beq_self_eq_true _), he e]
  · rw [if_neg (by simpa using e)]
    unfold PySem.W.kitCls
    have hc : ∃ cd, PySem.W.clsIn K c = some cd := by
      unfold PySem.W.hasDictIn at h1
      cases q : PySem.W.clsIn K c with
      | some cd => exact ⟨cd, rfl⟩
      | none => rw [q] at h1; cases h1
    obtain ⟨cd, hc⟩ := hc
    simp only [hc, h2, Option.isSome_some, beq_self_eq_true, Bool.and_self, if_true]
    exact h
theorem kit_bi {D : Addr} {t : String} {b : Bool} (h1 : PySem.W.kitMeta t = true) (h : PySem.W.subIn K (.ref D) (.type t) = some b) : PySem.W.kitOne K (.ref D) (.type t) = some b := by
  unfold PySem.W.kitOne
  have : (Value.ref D == Value.type t) = false := by simp
  rw [this, if_neg Bool.false_ne_true]
  unfold PySem.W.kitCls
  simp only [h1, if_true]
  exact h
theorem amb_mk (hn : PySem.W.specialIn K (.builtin "object.__class__") "__get__" = some (some (.builtin "getset_descriptor.__get__"))) (ht : PySem.W.takesIn K (.builtin "object.__class__") = some true) (hT : T.map (·.1) = L.map (·.1)) (hx : AllL (fun p => XF K mg p.1 p.2) L)
    (hs : AllL (fun p => AllL (fun c => ∃ b, PySem.W.subIn K (.ref p.2) (.ref c.2) = some b ∧ isA T p.1 c.1 = some b ∧ (p.2 = c.2 → b = true)) L) L)
    (hb : AllL (fun t => PySem.W.kitMeta t = true ∧ bootBuiltins (Str.ofString t) = some (.type t) ∧ mg (Str.ofString t) = none ∧ AllL (fun p => ∃ b, PySem.W.subIn K (.ref p.2) (.type t) = some b ∧ isA T p.1 t = some b) L) bx)
    (hr : AllL (fun x => (T.lookup x).isSome = true ∧ ∃ D, L.lookup x = some D ∧ PySem.W.excIn K D chainVE "ValueError.__new__" = true) rs) : Amb K mg (ecL L) T rs bx := by
  have lk : ∀ {x : String} {l : List String}, T.lookup x = some l → ∃ a, L.lookup x = some a := fun h => lookup_of hT (by rw [h]; rfl)
  have ecx : ∀ {x : String} {a : Addr}, L.lookup x = some a → ecL L x = .ref a := fun h => by unfold ecL; rw [h]
  refine ⟨fun x l h => ?_, fun x h => ?_, fun x c b l h h2 => ?_, fun x c b h h2 => ?_⟩
  · obtain ⟨a, ha⟩ := lk h
    have f := hx.all _ (lookup_mem ha)
    exact ⟨a, ecx ha, f.g, f.kp, f.sb, f.ty, f.ga, f.gt, f.sb, f.hd, f.ca, hn, ht, f.mo⟩
  · obtain ⟨h1, D, h2, h3⟩ := hr.all x (by simpa using h)
    exact ⟨h1, D, ecx h2, h3⟩
  · obtain ⟨l', hl⟩ := isA_known h
    obtain ⟨a, ha⟩ := lk hl
    obtain ⟨c', hc⟩ := lk h2
    obtain ⟨b', e1, e2, e3⟩ := (hs.all _ (lookup_mem ha)).all _ (lookup_mem hc)
    have e2 : isA T x c = some b' := e2
    rw [h] at e2
    cases e2
    have f := hx.all _ (lookup_mem hc)
    rw [ecx ha, ecx hc]
    exact ⟨PySem.W.exm_ref f.sb f.hd f.ty e1, kit_of f.hd f.ty e1 e3⟩
  · obtain ⟨l', hl⟩ := isA_known h
    obtain ⟨a, ha⟩ := lk hl
    obtain ⟨k1, k2, k3, k4⟩ := hb.all c (by simpa using h2)
    obtain ⟨b', e1, e2⟩ := k4.all _ (lookup_mem ha)
    have e2 : isA T x c = some b' := e2
    rw [h] at e2
    cases e2
    rw [ecx ha]
    exact ⟨kit_bi k1 e1, k2, k3⟩
end
section
variable {P : Program} {w : World} {K : PySem.W.Frag} {mg : Str → Option Value} {base : Heap} {ec : EC}
theorem def_mk {x qual : Str} {st : Stmt} {f : Addr} {fd : FuncData} {ps : List Str} {k : Nat} {cf : Cf} {T : Tab} {code : List Cm} {m : Fn} (Fu : Fun K x qual st f fd) (S : FnScope cf.N ps (defScope st)) {rs bx : List String} (A : Amb K mg ec T rs bx)
    (hrs : AllL (fun x => rs.contains x = true) cf.rs) (hbx : AllL (fun x => bx.contains x = true) cf.bx)
    (hbn : AllL (fun n => mg (Str.ofString n) = none) cf.bn) (cs : List (Cal P w K mg base ec)) (cons : List (Con1 K mg)) (hfs : cf.fs = cs.map fun c => (c.name, c.n)) (hgc : cf.gc = cons.map (·.name)) (hk : AllL (fun c => c.k ≤ k) cs) (kcs : List (CalK P w K mg base ec T)) (hks : cf.ks = kcs.map fun c => (c.name, c.n)) (hkk : AllL (fun c => c.k ≤ k) kcs) (ics : List (CalI P w K mg base)) (hri : cf.ri = ics.map fun c => (c.name, c.fl)) (hik : AllL (fun c => c.k + 1 ≤ k ∧ (T.lookup c.name).isSome = true) ics)
    (hm : m = runFd (cs.map (·.m)) (cons.map (·.d)) T ps.length cf.N.length code) (ok : okSs cf T code (defScope st) (defBody st) = true) : FnG P w K mg base (k + 1) f fd ps (spD K ec ps.length m) :=
  def_ok Fu S ⟨A.xc, fun x h => A.rm x (hrs.all x (by simpa using h)), A.sub, fun x c b h h2 => A.bsub x c b h (hbx.all c (by simpa using h2))⟩ hbn.all cs cons hfs hgc hk.all kcs hks hkk.all ics hri hik.all hm ok
/-- the law's own promise -/
def spLaw (K : PySem.W.Frag) : Sp := fun vs H Q _ => ∃ (a : Addr) (ns : List Int), vs = [.ref a] ∧ SqL K H a (ns.map V.int) ∧ ns.length ≤ 63 ∧ ∀ H', Q (.bl true) H'
theorem reps_ints (H : Hp) : ∀ ns : List Int, RepRs K H (ns.map D.int) (ns.map V.int)
  | [] => RepRs.nil
  | n :: ns => RepRs.cons (by unfold RepR; rfl) (reps_ints H ns)
/-- every end of the law is true -/
def AllTrue (r : R (Nat × D)) : Prop := out r (fun a => a.2 = .bl true) fun _ _ => False
theorem law_imp {m : Fn} (math : ∀ ns : List Int, ns.length ≤ 63 → AllTrue (m [.lst (ns.map D.int)])) (vs : List V) (H : Hp) (Q : VK) (E : XK) (h : spLaw K vs H Q E) : spD K ec 1 m vs H Q E := by
  obtain ⟨a, ns, e, hS, hl, q⟩ := h
  subst e
  refine ⟨rfl, [.lst (ns.map D.int)], fun _ => False, fun _ z => z.elim, ?_, ?_⟩
  · rw [cut_false]
    exact RepRs.cons (by unfold RepR; exact ⟨a, _, rfl, hS, reps_ints H ns⟩) RepRs.nil
  · refine out_mono (math ns hl) (fun kd hm => ?_) fun _ _ z => z.elim
    intro v H' _ ⟨O, _, w⟩
    rw [hm] at w
    rw [w.rep.bl]
    exact q H'
/-- a constant: an int, a text -/
def conI {name : String} (i : Int) {t : Tok} (g : mg (Str.ofString name) = some (.int i t)) : Con1 K mg := ⟨name, .int i, .int i, .int i t, g, ⟨t, rfl⟩, fun _ => by unfold RepR; rfl⟩
def conS {name : String} (s : List Nat) {x : Str} {t : Tok} (g : mg (Str.ofString name) = some (.str x t)) (e : x = mkS s) : Con1 K mg := ⟨name, .str s, .str (mkS s), .str x t, g, ⟨t, by rw [e]⟩, fun _ => by unfold RepR; rfl⟩
theorem cx_none {H : Hp} {s s' : Shared} {e : Value} (h : L2.CX P w [] H s (fun _ _ _ => False) e s') : False := by
  obtain ⟨_, _, _, _, _, _, _, _, _, _, _, _, z⟩ := h
  exact z.elim
end
end Px

/-! PxF: a def that tells the kind of an error, called in an except suite. -/
namespace Px
open PySem PySem.Spec PyProof.Rows L2
section
variable {X : Cx} {ec : EC} {T : Tab} {pos : Pos}
/-! ### the text of such a def -/
def ktB (cf : Cf) (y : Str) : Kt → Expr → Bool
  | .lit n, .Constant (.int m) _ _ => decide (m = n)
  | .fld c f, .Attribute (.Name y1 _) nm _ => decide (y1 = y) && decide (Str.ofString f = nm) && cf.ri.contains (c, f)
  | _, _ => false
def kwB (cf : Cf) (y : Str) : Kw → Expr → Bool
  | .w s, .Constant (.str t) _ _ => decide (t.cps.toList = s)
  | .p s t, .Tuple [.Constant (.str u) _ _, e] _ _ => decide (u.cps.toList = s) && noStar e && ktB cf y t e
  | _, _ => false
def isKs (cf : Cf) (T : Tab) (sc : Scope) (y k : Str) (top : String) (o : Kw) : List (String × Kw) → List Stmt → Bool
  | (c, s) :: r, .If (.Call (.Name f _) [.Name y1 _, .Name z _] [] _) [.Expr (.Call (.Attribute (.Name k1 _) nm apos) [e] [] cpos) _] [] _ :: sts =>
    one1 cf sc f "isinstance" && decide (y1 = y) && decide (Str.ofString c = z) && glB sc z && nmB z && (T.lookup c).isSome && decide (k1 = k) && decide (nm = "append") && kwB cf y s e && (apos.endLine == cpos.line) && isKs cf T sc y k top o r sts && noStar e
  | [], [.If (.BoolOp .And [.Compare (.Call (.Name l _) [.Name k1 _] [] _) [.Eq] [.Constant (.int i) _ _] _, .Call (.Name f _) [.Name y1 _, .Name z _] [] _] _) [.Return (some (.Subscript (.Name k2 _) (.Constant (.int j) _ _) _)) _] [] _, .Return (some e) _] =>
    one1 cf sc l "len" && decide (k1 = k) && decide (i = 1) && one1 cf sc f "isinstance" && decide (y1 = y) && decide (Str.ofString top = z) && glB sc z && nmB z && (T.lookup top).isSome && decide (k2 = k) && decide (j = 0) && kwB cf y o e
  | _, _ => false
def isKind (cf : Cf) (T : Tab) (sc : Scope) (q : Kn) : List Stmt → Bool
  | .Assign [.Name k1 _] (.List [] _) _ :: sts => (match cf.N with
    | [y, k] => decide (k1 = k) && visB sc y && nmB y && locB none sc k && visB sc k && nmB k && decide (q.es.length ≤ 100) && isKs cf T sc y k q.top q.o q.es sts
    | _ => false)
  | _ => false
/-- a word, or a new pair -/
def KvAt (H0 H : Hp) (d : D) (v : V) : Prop := (∃ s, d = .str s ∧ v = .str (mkS s)) ∨ ∃ s n t, d = .tup [.str s, .int n] ∧ v = .ref t ∧ H0 t = none ∧ ∃ o : Obj, o.dict = none ∧ H t = some (.frz o (.tup [.str (mkS s), .int n]))
def KvsAt (H0 H : Hp) : List D → List V → Prop
  | [], [] => True
  | d :: ds, v :: vs => KvAt H0 H d v ∧ KvsAt H0 H ds vs
  | _, _ => False
theorem KvAt.mono {H0 H H' : Hp} {d : D} {v : V} (h : KvAt H0 H d v) (s : ∀ t o xs, H t = some (.frz o (.tup xs)) → H' t = some (.frz o (.tup xs))) : KvAt H0 H' d v := by
  rcases h with h | ⟨s1, n, t, h1, h2, h3, o, hd, h4⟩
  · exact .inl h
  · exact .inr ⟨s1, n, t, h1, h2, h3, o, hd, s _ _ _ h4⟩
theorem KvsAt.mono {H0 H H' : Hp} (s : ∀ t o xs, H t = some (.frz o (.tup xs)) → H' t = some (.frz o (.tup xs))) : ∀ {ds : List D} {vs : List V}, KvsAt H0 H ds vs → KvsAt H0 H' ds vs
  | [], [], _ => trivial
  | d :: ds, v :: vs, h => ⟨h.1.mono s, KvsAt.mono s h.2⟩
  | [], _ :: _, h => h.elim
  | _ :: _, [], h => h.elim
theorem KvsAt.app' {H0 H : Hp} {d : D} {v : V} (h1 : KvAt H0 H d v) : ∀ {ds : List D} {vs : List V}, KvsAt H0 H ds vs → KvsAt H0 H (ds ++ [d]) (vs ++ [v])
  | [], [], _ => ⟨h1, trivial⟩
  | d :: ds, v :: vs, h => ⟨h.1, KvsAt.app' h1 h.2⟩
  | [], _ :: _, h => h.elim
  | _ :: _, [], h => h.elim
theorem KvsAt.app {H0 H : Hp} {d : D} {v : V} {ds : List D} {vs : List V} (h : KvsAt H0 H ds vs) (h1 : KvAt H0 H d v) : KvsAt H0 H (ds ++ [d]) (vs ++ [v]) := KvsAt.app' h1 h
theorem KvsAt.len {H0 H : Hp} : ∀ {ds : List D} {vs : List V}, KvsAt H0 H ds vs → vs.length = ds.length
  | [], [], _ => rfl
  | d :: ds, v :: vs, h => by rw [List.length_cons, List.length_cons, KvsAt.len h.2]
  | [], _ :: _, h => h.elim
  | _ :: _, [], h => h.elim
theorem KvAt.weak {H0 H1 H : Hp} {d : D} {v : V} (h : KvAt H1 H d v) (s : Same H0 H1) : KvAt H0 H d v := by
  rcases h with h | ⟨s1, n, t, h1, h2, h3, h4⟩
  · exact .inl h
  · exact .inr ⟨s1, n, t, h1, h2, s.free h3, h4⟩
theorem KvAt.alone {K : PySem.W.Frag} {H0 H : Hp} {d : D} {v : V} (h : KvAt H0 H d v) : Alone K H0 H d v := by
  intro A hA
  rcases h with ⟨s, h1, h2⟩ | ⟨s, n, t, h1, h2, h3, ob, hd, h4⟩
  · subst h1; subst h2; unfold RepR; rfl
  · subst h1; subst h2
    unfold RepR
    refine ⟨t, _, rfl, PTu.of (cut_of h4 fun a => hA t a h3) hd, RepRs.cons (by unfold RepR; rfl) (RepRs.cons (by unfold RepR; rfl) RepRs.nil)⟩
/-- what the rest of the def asks -/
def tK (K : PySem.W.Frag) (ec : EC) (T : Tab) (cls : Value) (dd : Option Addr) (a : Addr) (top : String) (o : Kw) (es : List (String × Kw)) : TS := fun En σ H => ∃ (l : Addr) (hs : List D) (vs : List V) (H0 : Hp) (x : String) (p : List (String × Int)) (r : D),
  σ = [some (.ref a), some (.ref l)] ∧ H l = some (.lst vs) ∧ KvsAt H0 H hs vs ∧ Same H0 H ∧ H0 l = none ∧ IsExc ec x p cls dd H0 ∧ kGo T x p top o es hs = some r ∧ hs.length + es.length ≤ 100 ∧ ∀ v H', Same H0 H' → KvAt H0 H' r v → En.rt v H'
variable {cf : Cf} {sc : Scope} {a : Addr} {oe : Obj} {dd : Option Addr} {D : Addr} {y k : Str}
/-- isinstance(e, C) of a class of the program -/
theorem pe_isK {c : String} {f y z : Str} {p1 p2 p3 : Pos} (hN : X.N = [y, k]) (hsc : X.env.scope = sc) (hbn : ∀ n : String, cf.bn.contains n = true → X.mg (Str.ofString n) = none) (xc : ∀ (x : String) l, T.lookup x = some l → XcOk X.K X.mg ec x)
    (sub : ∀ (x c : String) b l, isA T x c = some b → T.lookup c = some l → PySem.W.exmOne X.K (ec x) (ec c) = some b ∧ PySem.W.kitOne X.K (ec x) (ec c) = some b)
    (hp : (a, oe) ∈ X.pn) (C : ExcC X.K D) (hz : Zc (.ref D) dd oe) (hf : ∃ vs, oe.data = .fields vs) (hv : visB sc y = true) (hn : nmB y = true) (h1 : one1 cf sc f "isinstance" = true) (h3 : Str.ofString c = z) (h4 : glB sc z = true) (h5 : nmB z = true) (h6 : (T.lookup c).isSome = true) :
    PE X (.Call (.Name f p1) [.Name y p2, .Name z p3] [] pos) (fun σ H Q => ∃ x p b, σ[0]? = some (some (.ref a)) ∧ IsExc ec x p (.ref D) dd H ∧ isA T x c = some b ∧ Q (.bl b) H) := by
  unfold one1 at h1
  simp only [Bool.and_eq_true] at h1
  obtain ⟨⟨⟨o1, o2⟩, o3⟩, o4⟩ := h1
  have o1 := of_decide_eq_true o1
  subst o1
  subst h3
  obtain ⟨l, el⟩ := Option.isSome_iff_exists.mp h6
  obtain ⟨D2, g1, g2, _⟩ := xc c l el
  have hdn := nmB_of o4
  have pv : PE X (.Name y p2) (tVar 0) := pe_var (by rw [hN]; rfl) (vis_of hsc hv) (nmB_of hn).1 (nmB_of hn).2.1
  have pc : PE X (.Name (Str.ofString c) p3) (tC (.ref D2)) := pe_glob (gl_of hsc h4) g2 rfl (nmB_of h5).1
  refine PE.imp (pe_callB (call_isK hp C hz hf) (gl_of hsc o3) (hbn _ o2) isi_boot (pa_cons pv (pa_cons pc pa_nil)) hdn.2.2 hdn.1) fun σ H Q ⟨x, p, b, es, ix, hb, q⟩ => ?_
  refine ⟨_, es, .ref D2, .ref D2, b, rfl, fun u r => r, ?_, ?_, q⟩
  · have := (sub x c b l hb el).2
    rw [← ix.1, g1] at this
    exact this
  · by_cases hpe : p = []
    · exact .inl (ix.2.1 hpe)
    · obtain ⟨d, e1, e2⟩ := ix.2.2 hpe
      exact .inr ⟨d, _, e1, e2⟩
theorem IsExc.mono' {x : String} {p : List (String × Int)} {cls : Value} {H H' : Hp} (s : Same H H') (h : IsExc ec x p cls dd H) : IsExc ec x p cls dd H' := ⟨h.1, h.2.1, fun n => let ⟨a, e, q⟩ := h.2.2 n; ⟨a, e, s _ _ q⟩⟩
/-- e.f of a pinned error -/
theorem pe_xfP {C : Addr} {cls : Value} {d : Option Addr} {e : Expr} {te : TE} {n : Str} (hx : XfC X.K C) (hno : PySem.W.findIn X.K (.ref C) n = some none) (hp : (a, oe) ∈ X.pn) (hz : Zc cls d oe) (hf : ∃ vs, oe.data = .fields vs) (he : PE X e te) (hb : attributeBase e n X.env (eval e X.env) = eval e X.env) :
    PE X (.Attribute e n pos) (tXf a cls d C n te) := by
  refine ⟨fun pins s σ H Q I h => attr_of hb (thn (he.run pins s σ H _ I h) fun u s1 ⟨x, H1, I1, rx, ex, ec, c, fs, v, ed, ea, l, q⟩ => ?_)⟩
  subst ex; subst ec; subst ed
  obtain rfl : u = Value.ref a := rx
  obtain ⟨ha, _⟩ := I1.pin (a, oe) (List.mem_append_left _ hp)
  obtain ⟨vs, hd⟩ := hf
  obtain ⟨mA, hns, hr⟩ : ObjOk X.prog X.w H1 s1.heap c (.xd fs) := I1.hok c _ ea
  obtain ⟨od, ho, hl⟩ := lookIn_ns hns
  obtain ⟨u, hu, ru⟩ := RelO.some_of (v := v) (o := mA n) (by rw [← l]; exact hr n)
  have J : PySem.W.InstAt s1.heap a oe C (some od) := ⟨ha, hz.1, by unfold PySem.W.notCls; rw [hd] <;> rfl, by rw [hz.2]; exact ho⟩
  exact PySem.HandSPX.exc_get I1.kIn J hx.ga hx.gg hx.exC (PySem.W.findObj_own hx.hdC hno rfl (by rw [hl, hu])) (handed_of ru) ⟨v, H1, I1.tok _, ru, q⟩
/-- the class of the error with such a field, read in its suite's def -/
def XiOk (X : Cx) (cf : Cf) (T : Tab) : Prop := ∀ c f : String, cf.ri.contains (c, f) = true → ∃ I : CalI X.prog X.w X.K X.mg X.base, I.name = c ∧ I.fl = f ∧ (T.lookup c).isSome = true
theorem pe_kt {t : Kt} {e : Expr} (hN : X.N = [y, k]) (hsc : X.env.scope = sc) (xc : ∀ (x : String) l, T.lookup x = some l → XcOk X.K X.mg ec x) (xi : XiOk X cf T)
    (hp : (a, oe) ∈ X.pn) (hz : Zc (.ref D) dd oe) (hf : ∃ vs, oe.data = .fields vs) (hv : visB sc y = true) (hn : nmB y = true) (h : ktB cf y t e = true) :
    PE X e (fun σ H Q => ∃ x p n, σ[0]? = some (some (.ref a)) ∧ IsExc ec x p (.ref D) dd H ∧ ktD x p t = some n ∧ Q (.int n) H) := by
  unfold ktB at h
  split at h
  · have h := of_decide_eq_true h
    subst h
    refine PE.imp pe_int fun σ H Q ⟨x, p, n, es, ix, e, q⟩ => ?_
    cases e
    exact q
  · rename_i c f y1 p1 nm pos1
    simp only [Bool.and_eq_true, decide_eq_true_eq] at h
    obtain ⟨⟨h1, h2⟩, h3⟩ := h
    have h1 := h1.symm
    subst h1; subst h2
    obtain ⟨I, i1, i2, h3⟩ := xi c f h3
    obtain ⟨l, el⟩ := Option.isSome_iff_exists.mp h3
    obtain ⟨D', e2, gm, _⟩ := xc c l el
    have eC : D' = I.C := by
      rw [← i1] at gm
      have := gm.symm.trans I.gm
      cases this; rfl
    subst eC
    have hno := I.no
    rw [i2] at hno
    have pv : PE X (.Name y p1) (tVar 0) := pe_var (by rw [hN]; rfl) (vis_of hsc hv) (nmB_of hn).1 (nmB_of hn).2.1
    refine PE.imp (pe_xfP I.xf hno hp hz hf pv rfl) fun σ H Q ⟨x, p, n, es, ix, hk, q⟩ => ?_
    unfold ktD at hk
    dsimp only at hk
    split at hk
    · rename_i hx
      subst hx
      split at hk
      · rename_i g m
        split at hk
        · rename_i hg
          subst hg
          cases hk
          obtain ⟨a2, d1, d2⟩ := ix.2.2 (by simp)
          exact ⟨.ref a, es, rfl, ix.1.trans e2, a2, _, .int n, d1, d2, by simp [List.lookup], q⟩
        · cases hk
      · cases hk
    · cases hk
  · cases h
theorem pe_kw {t : Kw} {e : Expr} (hN : X.N = [y, k]) (hsc : X.env.scope = sc) (xc : ∀ (x : String) l, T.lookup x = some l → XcOk X.K X.mg ec x) (xi : XiOk X cf T)
    (hp : (a, oe) ∈ X.pn) (hz : Zc (.ref D) dd oe) (hf : ∃ vs, oe.data = .fields vs) (hv : visB sc y = true) (hn : nmB y = true) (h : kwB cf y t e = true) :
    PE X e (fun σ H Q => ∃ x p d, σ[0]? = some (some (.ref a)) ∧ IsExc ec x p (.ref D) dd H ∧ kwD x p t = some d ∧ ∀ v H', Same H H' → KvAt H H' d v → Q v H') := by
  unfold kwB at h
  split at h
  · rename_i s t' _ _
    have h := of_decide_eq_true h
    refine PE.imp pe_str fun σ H Q ⟨x, p, d, es, ix, e, q⟩ => ?_
    cases e
    exact q _ H (Same.refl _) (.inl ⟨s, rfl, by rw [← h, mkS_list]⟩)
  · rename_i s t' u _ _ e1 _ _
    simp only [Bool.and_eq_true, decide_eq_true_eq] at h
    obtain ⟨⟨h1, h2⟩, h3⟩ := h
    refine PE.imp (pe_tupN (pa_cons pe_str (pa_cons (pe_kt hN hsc xc xi hp hz hf hv hn h3) pa_nil (starEach_of h2)) rfl)) fun σ H Q ⟨x, p, d, es, ix, e, q⟩ => ?_
    unfold kwD at e
    dsimp only at e
    cases hk : ktD x p t' with
    | none => rw [hk] at e; cases e
    | some n =>
      rw [hk] at e
      cases e
      refine ⟨x, p, n, es, ix, hk, by rw [sizeLine_eq]; simp, fun b ob hb hd => q _ _ (same_new hb) (.inr ⟨s, n, b, rfl, rfl, hb, ob, hd, ?_⟩)⟩
      rw [upd_same, ← h1, mkS_list]
  · cases h
theorem ks_ok {top : String} {o : Kw} (hu : X.A.units + 65 < cLine) (hN : X.N = [y, k]) (hsc : X.env.scope = sc) (hbn : ∀ n : String, cf.bn.contains n = true → X.mg (Str.ofString n) = none) (xc : ∀ (x : String) l, T.lookup x = some l → XcOk X.K X.mg ec x) (xi : XiOk X cf T)
    (sub : ∀ (x c : String) b l, isA T x c = some b → T.lookup c = some l → PySem.W.exmOne X.K (ec x) (ec c) = some b ∧ PySem.W.kitOne X.K (ec x) (ec c) = some b)
    (hp : (a, oe) ∈ X.pn) (C : ExcC X.K D) (hz : Zc (.ref D) dd oe) (hf : ∃ vs, oe.data = .fields vs) (hv : visB sc y = true) (hn : nmB y = true) (hv2 : visB sc k = true) (hn2 : nmB k = true) :
    ∀ {es : List (String × Kw)} {sts : List Stmt}, isKs cf T sc y k top o es sts = true → PSs X sts (tK X.K ec T (.ref D) dd a top o es)
  | (c, s) :: r, [], h => by unfold isKs at h; cases h
  | (c, s) :: r, st :: sts, h => by
    unfold isKs at h
    split at h
    · rename_i e1 e2
      cases e1
      cases e2
      simp only [Bool.and_eq_true, decide_eq_true_eq] at h
      obtain ⟨⟨⟨⟨⟨⟨⟨⟨⟨⟨⟨h1, h2⟩, h3⟩, h4⟩, h5⟩, h6⟩, h7⟩, h8⟩, h9⟩, h10⟩, h11⟩, h12⟩ := h
      have h2 := h2.symm
      have h7 := h7.symm
      subst h2; subst h7; subst h8
      have pk : ∀ {p : Pos}, PE X (.Name k p) (tVar 1) := fun {p} => pe_var (by rw [hN]; rfl) (vis_of hsc hv2) (nmB_of hn2).1 (nmB_of hn2).2.1
      refine PSs.imp (pss_cons (ps_if (pt_truth (pe_isK hN hsc hbn xc sub hp C hz hf hv hn h1 h3 h4 h5 h6) fun whole => rfl) (pss_cons (ps_expr (pe_bm PySem.F.plainAttrs_list PySem.F.slot_list_append PySem.F.type_list_append mt_append pk (pa_cons (pe_kw hN hsc xc xi hp hz hf hv hn h9) pa_nil (starEach_of h12)) rfl (few_of (noStars1 h12) (by decide)) h10 (starEach_of h12) rfl) rfl) pss_nil) pss_nil) (ks_ok hu hN hsc hbn xc xi sub hp C hz hf hv hn hv2 hn2 h11)) ?_
      intro En σ H ⟨l, hs, vs, H0, x, p, res, eσ, eH, kv, s0, n0, ix, hk, hl, q⟩
      subst eσ
      unfold kGo at hk
      split at hk
      · rename_i hb
        refine ⟨x, p, true, rfl, ix.mono' s0, hb, true, rfl, ?_⟩
        dsimp only
        rw [if_pos rfl]
        cases hd : kwD x p s with
        | none => rw [hd] at hk; cases hk
        | some d =>
        rw [hd] at hk
        have hk : kGo T x p top o r (hs ++ [d]) = some res := hk
        refine ⟨.ref l, rfl, .inl ⟨rfl, _, SqL.of eH⟩, x, p, d, rfl, ix.mono' s0, hd, fun v H1 s1 k1 => ?_⟩
        have eH1 : H1 l = some (.lst vs) := s1 _ _ eH
        have hkv := kv.len
        simp only [List.length_cons] at hl
        refine ⟨l, _, _, rfl, rfl, eH1, ?_, ?_⟩
        · rw [sizeLine_eq]; omega
        · have up : ∀ t o xs, H1 t = some (.frz o (.tup xs)) → upd H1 l (.lst (vs ++ [v])) t = some (.frz o (.tup xs)) := fun t o xs e => by
            rw [upd_ne (fun z => by rw [z, eH1] at e; cases e)]; exact e
          refine ⟨l, hs ++ [d], vs ++ [v], H0, x, p, res, rfl, upd_same, ((kv.mono fun t o xs e => s1 _ _ e).mono up).app ((k1.weak s0).mono up), fun b u e => ?_, n0, ix, hk, ?_, q⟩
          · rw [upd_ne (fun z => by rw [z, n0] at e; cases e)]; exact s1 _ _ (s0 b u e)
          · rw [List.length_append]; simp only [List.length_cons, List.length_nil]; omega
      · rename_i hb
        refine ⟨x, p, false, rfl, ix.mono' s0, hb, false, rfl, ?_⟩
        dsimp only
        rw [if_neg Bool.false_ne_true]
        exact ⟨l, hs, vs, H0, x, p, res, rfl, eH, kv, s0, n0, ix, hk, by simp only [List.length_cons] at hl; omega, q⟩
      · cases hk
    · rename_i e1 e2
      cases e1
    · cases h
  | [], sts, h => by
    unfold isKs at h
    split at h
    · rename_i e2
      cases e2
    · simp only [Bool.and_eq_true, decide_eq_true_eq] at h
      obtain ⟨⟨⟨⟨⟨⟨⟨⟨⟨⟨⟨h1, h2⟩, h3⟩, h4⟩, h5⟩, h6⟩, h7⟩, h8⟩, h9⟩, h10⟩, h11⟩, h12⟩ := h
      have h2 := h2.symm
      have h5 := h5.symm
      have h10 := h10.symm
      subst h2; subst h3; subst h5; subst h10; subst h11
      have pk : ∀ {p : Pos}, PE X (.Name k p) (tVar 1) := fun {p} => pe_var (by rw [hN]; rfl) (vis_of hsc hv2) (nmB_of hn2).1 (nmB_of hn2).2.1
      unfold one1 at h1
      simp only [Bool.and_eq_true] at h1
      obtain ⟨⟨⟨o1, o2⟩, o3⟩, o4⟩ := h1
      have o1 := of_decide_eq_true o1
      subst o1
      have hdn := nmB_of o4
      refine PSs.imp (pss_cons (ps_if (pw_and (pt_cmpR op_eq (pe_callB call_len (gl_of hsc o3) (hbn _ o2) (by decide +kernel : bootBuiltins (Str.ofString "len") = some (.builtin "len")) (pa_cons pk pa_nil rfl) hdn.2.2 hdn.1 rfl rfl) pe_int rfl) (pw_and1 (pt_truth (pe_isK hN hsc hbn xc sub hp C hz hf hv hn h4 h6 h7 h8 h9) fun whole => rfl))).pt (pss_cons (ps_ret (pe_ix ix_list pk pe_int (by intro ov iv; rfl))) pss_nil) pss_nil) (pss_cons (ps_ret (pe_kw hN hsc xc xi hp hz hf hv hn h12)) pss_nil)) ?_
      intro En σ H ⟨l, hs, vs, H0, x, p, res, eσ, eH, kv, s0, n0, ix, hk, hl, q⟩
      subst eσ
      refine ⟨.ref l, rfl, .ref l, vs.length, rfl, .inl ⟨_, SqL.of eH, rfl⟩, rfl, _, rfl, ?_⟩
      dsimp only
      unfold kGo at hk
      have hlen := kv.len
      -- the end without a word of the list
      have ne1 : kwD x p o = some res → tSeq (tRet fun σ H Q => ∃ x p d, σ[0]? = some (some (.ref a)) ∧ IsExc ec x p (.ref D) dd H ∧ kwD x p o = some d ∧ ∀ v H', Same H H' → KvAt H H' d v → Q v H') tNext { En with rt := En.rt } [some (V.ref a), some (V.ref l)] H := fun e =>
        ⟨x, p, res, rfl, ix.mono' s0, e, fun v H' s1 k1 => q v H' (s0.trans s1) (k1.weak s0)⟩
      rcases hs with _ | ⟨g1, _ | ⟨g2, r⟩⟩
      · obtain rfl : vs = [] := List.eq_nil_of_length_eq_zero (by simpa using hlen)
        rw [if_neg (by simp), if_neg Bool.false_ne_true]
        exact ne1 hk
      · obtain ⟨w1, rfl⟩ := List.length_eq_one_iff.mp (show vs.length = 1 from hlen)
        rw [if_pos (by simp)]
        dsimp only at hk
        split at hk
        · rename_i hb
          cases hk
          refine ⟨x, p, true, rfl, ix.mono' s0, hb, true, rfl, ?_⟩
          rw [if_pos rfl]
          exact ⟨.ref l, rfl, l, _, 0, w1, rfl, rfl, SqL.of eH, rfl, q _ H s0 kv.1⟩
        · rename_i hb
          refine ⟨x, p, false, rfl, ix.mono' s0, hb, false, rfl, ?_⟩
          rw [if_neg Bool.false_ne_true]
          exact ne1 hk
        · cases hk
      · have : ¬ decide (V.int ((vs.length : Nat) : Int) = V.int 1) = true := by
          rw [decide_eq_true_eq]
          intro e
          have e := V.int.inj e
          simp only [List.length_cons] at hlen
          omega
        rw [if_neg this, if_neg Bool.false_ne_true]
        exact ne1 hk
    · cases h
/-- such a def keeps its promise -/
theorem kind_ok {P : Program} {w : World} {K : PySem.W.Frag} {mg : Str → Option Value} {base : Heap} {ec : EC} {T : Tab} {x qual : Str} {st : Stmt} {f : Addr} {fd : FuncData} {ps : List Str} {k : Nat} {cf : Cf} {q : Kn} (Fu : Fun K x qual st f fd) (S : FnScope cf.N ps (defScope st)) (h1 : ps.length = 1)
    (hbn : ∀ n ∈ cf.bn, mg (Str.ofString n) = none) (xc : ∀ (x : String) l, T.lookup x = some l → XcOk K mg ec x)
    (xi : ∀ c f : String, cf.ri.contains (c, f) = true → ∃ I : CalI P w K mg base, I.name = c ∧ I.fl = f ∧ (T.lookup c).isSome = true)
    (sub : ∀ (x c : String) b l, isA T x c = some b → T.lookup c = some l → PySem.W.exmOne K (ec x) (ec c) = some b ∧ PySem.W.kitOne K (ec x) (ec c) = some b)
    (ok : isKind cf T (defScope st) q (defBody st) = true) : FnK P w K mg base ec T (k + 1) f fd ps q := by
  refine ⟨h1, ?_⟩
  intro A outer s H p0 x r p dd Q hr hpin e0 hb hz hf ix hk hq
  obtain ⟨oc, od, kV, doc, pm, an, cdv, ct, osl, efd, lk, hcd⟩ := Fu.ex
  subst efd
  unfold isKind at ok
  split at ok
  case h_2 => cases ok
  rename_i k1 px pl ps2 sts eb
  split at ok
  case h_2 => cases ok
  rename_i y kk eN
  simp only [Bool.and_eq_true, decide_eq_true_eq] at ok
  obtain ⟨⟨⟨⟨⟨⟨⟨o1, o2⟩, o3⟩, o4⟩, o5⟩, o6⟩, o7⟩, o8⟩ := ok
  have o1 := o1.symm
  subst o1
  -- the class of the error
  unfold kOfX at hk
  split at hk
  case isFalse => cases hk
  rename_i hx
  have hx := Option.isSome_iff_exists.mp hx
  obtain ⟨l, el⟩ := hx
  obtain ⟨D, g1, _, _, _, _, C⟩ := xc x l el
  have keep := fun b o e => (e0.bs b o e).1
  have inK : K.In s.heap := e0.mod.kin.keeps keep
  have hz' : Zc (.ref D) dd p0.2 := g1 ▸ hz
  have ix' : IsExc ec x p (.ref D) dd H := g1 ▸ ix
  have hN2 : cf.N = [y, kk] := eN
  have hps : ps = [y] := by
    have := S.pre
    rw [hN2, h1] at this
    exact this.symm
  have r1 : Vals [V.ref p0.1] [Value.ref p0.1] := .cons rfl .nil
  have hkind : ∀ z ∈ ps.zip [Value.ref p0.1], (defScope st).names.lookup z.1 = some .local ∨ ((defScope st).names.lookup z.1 = some .cell ∧ ((cellsFrom (s.heap.objs.size + 1) (defScope st).names []).lookup z.1).isSome = true) := by
    rintro ⟨n, v⟩ hz
    exact (S.par n (List.of_mem_zip hz).1).imp id fun c => ⟨c, PySem.W.cellsFrom_some _ _ _ (.inl c)⟩
  refine codeAny_call_function hr.depth (inK _ _ lk) rfl S.co S.gen rfl (PySem.W.codeRec_of inK hcd) (hb _ _ _ _ ?_)
  refine wpAny_newFunctionEnv_cells S.kind hkind ?_
  intro env heq s1 fresh
  cases heq
  refine ⟨(e0.mod.nolimit.keeps keep).keeps fresh.toInCall.keep, codeAny_func ?_⟩
  have hu := (hr.deeper (envOfC qual (defScope st) s.heap.objs.size f cdv)).un
  have I : Inv (L2H.cxH (L2.CX P w) P w K mg base cf.N qual (defScope st) f cdv A outer s H (fun _ _ _ => False) p0) [] (L2.start cf.N [V.ref p0.1]) H s1 := L2H.inv_startH S hpin e0 (by rw [h1]; rfl) r1 fresh
  have body : PSs (L2H.cxH (L2.CX P w) P w K mg base cf.N qual (defScope st) f cdv A outer s H (fun _ _ _ => False) p0) (defBody st) (tSeq (tAsg (tLst tNil) (gName 1)) (tK K ec T (.ref D) dd p0.1 q.top q.o q.es)) := by
    rw [eb]
    refine pss_cons (ps_set S.nd (i := 1) (by show cf.N[1]? = _; rw [hN2]; rfl) ?_ (pe_lst pa_nil) rfl (.inl rfl)) (ks_ok (a := p0.1) (oe := p0.2) (dd := dd) (D := D) (ec := ec) (T := T) (by show (A.deeper _).units + 65 < _; omega) hN2 rfl (fun n hn => hbn n (by simpa using hn)) xc (show XiOk (L2H.cxH (L2.CX P w) P w K mg base cf.N qual (defScope st) f cdv A outer s H (fun _ _ _ => False) p0) cf T from xi) sub (List.mem_cons_self ..) C hz' hf o2 o3 o5 o6 o8)
    unfold locB at o4
    split at o4
    · exact .inl (by assumption)
    · exact .inr (by assumption)
    · cases o4
  refine wpAny_mono (body.run [] s1 (L2.start cf.N [V.ref p0.1]) H { nx := fun _ H' => Q .non H', rt := Q } I ?_) (fun fl s' done => ?_) fun _ _ z => z
  · rw [hN2]
    refine ⟨Nat.zero_le _, fun l hl => ⟨l, [], [], H, x, p, r, rfl, upd_same, trivial, same_new hl, hl, ix', hk, by simpa using o7, fun v H' s1 k1 => hq v H' s1 k1.alone⟩⟩
  · match fl, done with
    | .ret u, ⟨v, _, H', J, rv', q⟩ => exact ⟨v, H', J.os, J.bare, J.base, J.hok, rv', q⟩
    | .next, ⟨_, H', J, q⟩ => exact ⟨.non, H', J.os, J.bare, J.base, J.hok, rfl, q⟩
    | .brk, ⟨_, _, _, z⟩ => exact z.elim
    | .cont, ⟨_, _, _, z⟩ => exact z.elim
theorem xi_mk {P : Program} {w : World} {K : PySem.W.Frag} {mg : Str → Option Value} {base : Heap} {T : Tab} {ri : List (String × String)} (ics : List (CalI P w K mg base)) (hri : ri = ics.map fun c => (c.name, c.fl)) (hik : AllL (fun c => (T.lookup c.name).isSome = true) ics) :
    ∀ c f : String, ri.contains (c, f) = true → ∃ I : CalI P w K mg base, I.name = c ∧ I.fl = f ∧ (T.lookup c).isSome = true := fun x fl hc => by
  rw [hri] at hc
  obtain ⟨c, m, e⟩ := List.mem_map.mp (List.contains_iff_mem.mp hc)
  cases e
  exact ⟨c, rfl, rfl, hik.all c m⟩
end
end Px

/-! Px25: to compute with codes. -/
namespace Px
open PySem PySem.Spec L2
section
variable {F : List Fn} {C : List D} {T : Tab} {ρ : Env} {α β : Type}
@[simp] theorem liftR_ok (a : α) (f : α → Rs) : liftR (.ok a) ρ f = f a := rfl
@[simp] theorem liftR_exc (x : String) (p : List (String × Int)) (f : α → Rs) : liftR (.exc x p) ρ f = .exc x p ρ := rfl
@[simp] theorem liftR_stuck (f : α → Rs) : liftR .stuck ρ f = .stuck := rfl
@[simp] theorem seq_nx (f : Env → Rs) : (Rs.nx ρ).seq f = f ρ := rfl
@[simp] theorem seq_ret (k : Nat) (d : D) (f : Env → Rs) : (Rs.ret k d).seq f = .ret k d := rfl
@[simp] theorem seq_bk (f : Env → Rs) : (Rs.bk ρ).seq f = .bk ρ := rfl
@[simp] theorem seq_ct (f : Env → Rs) : (Rs.ct ρ).seq f = .ct ρ := rfl
@[simp] theorem seq_exc' (x : String) (p : List (String × Int)) (f : Env → Rs) : (Rs.exc x p ρ).seq f = .exc x p ρ := rfl
@[simp] theorem needV_some (k : Nat) (d : D) : needV (some k, d) = .ok (k, d) := rfl
@[simp] theorem cont_non : D.cont .non = false := rfl
@[simp] theorem cont_bl (b : Bool) : D.cont (.bl b) = false := rfl
@[simp] theorem cont_int (b : Int) : D.cont (.int b) = false := rfl
@[simp] theorem cont_str (b : List Nat) : D.cont (.str b) = false := rfl
@[simp] theorem cont_tup (b : List D) : D.cont (.tup b) = false := rfl
@[simp] theorem cont_lst (b : List D) : D.cont (.lst b) = true := rfl
@[simp] theorem add_i (k l : Option Nat) (a b : Int) : binD .Add (k, .int a) (l, .int b) = .ok (at9 (.int (a + b))) := rfl
@[simp] theorem sub_i (k l : Option Nat) (a b : Int) : binD .Sub (k, .int a) (l, .int b) = .ok (at9 (.int (a - b))) := rfl
@[simp] theorem mul_i (k l : Option Nat) (a b : Int) : binD .Mult (k, .int a) (l, .int b) = if mulOk a b then .ok (at9 (.int (a * b))) else .stuck := rfl
@[simp] theorem fdiv_i (k l : Option Nat) (a b : Int) : binD .FloorDiv (k, .int a) (l, .int b) = if b ≠ 0 ∧ b.natAbs < 1073741824 then .ok (at9 (.int (a.fdiv b))) else .stuck := rfl
@[simp] theorem mod_i (k l : Option Nat) (a b : Int) : binD .Mod (k, .int a) (l, .int b) = if b ≠ 0 then .ok (at9 (.int (a.fmod b))) else .stuck := rfl
@[simp] theorem and_i (k l : Option Nat) (a b : Int) : binD .BitAnd (k, .int a) (l, .int b) = .ok (at9 (.int (Builtin.bitAnd a b))) := rfl
@[simp] theorem add_s (k l : Option Nat) (a b : List Nat) : binD .Add (k, .str a) (l, .str b) = if a.length + b.length ≤ line then .ok (at9 (.str (a ++ b))) else .stuck := rfl
@[simp] theorem mul_s (k l : Option Nat) (a : List Nat) (n : Int) : binD .Mult (k, .str a) (l, .int n) = if -9223372036854775808 ≤ n ∧ n < 9223372036854775808 ∧ a.length * n.toNat ≤ line then .ok (at9 (.str (repL n a))) else .stuck := rfl
@[simp] theorem neg_i (k : Option Nat) (a : Int) : unD .USub (k, .int a) = .ok (at9 (.int (-a))) := rfl
@[simp] theorem eq_i (k l : Option Nat) (a b : Int) : cmpD .Eq (k, .int a) (l, .int b) = .ok (decide (a = b)) := rfl
@[simp] theorem eq_s (k l : Option Nat) (a b : List Nat) : cmpD .Eq (k, .str a) (l, .str b) = .ok (decide (a = b)) := rfl
@[simp] theorem eq_b (k l : Option Nat) (a b : Bool) : cmpD .Eq (k, .bl a) (l, .bl b) = .ok (a == b) := rfl
@[simp] theorem ne_i (k l : Option Nat) (a b : Int) : cmpD .NotEq (k, .int a) (l, .int b) = .ok (!decide (a = b)) := rfl
@[simp] theorem ne_s (k l : Option Nat) (a b : List Nat) : cmpD .NotEq (k, .str a) (l, .str b) = .ok (!decide (a = b)) := rfl
@[simp] theorem ne_b (k l : Option Nat) (a b : Bool) : cmpD .NotEq (k, .bl a) (l, .bl b) = .ok (!(a == b)) := rfl
@[simp] theorem lt_i (k l : Option Nat) (a b : Int) : cmpD .Lt (k, .int a) (l, .int b) = .ok (decide (a < b)) := rfl
@[simp] theorem le_i (k l : Option Nat) (a b : Int) : cmpD .LtE (k, .int a) (l, .int b) = .ok (decide (a ≤ b)) := rfl
@[simp] theorem gt_i (k l : Option Nat) (a b : Int) : cmpD .Gt (k, .int a) (l, .int b) = .ok (decide (b < a)) := rfl
@[simp] theorem ge_i (k l : Option Nat) (a b : Int) : cmpD .GtE (k, .int a) (l, .int b) = .ok (decide (b ≤ a)) := rfl
@[simp] theorem in_s (k l : Option Nat) (a b : List Nat) : cmpD .In (k, .str a) (l, .str b) = .ok (inStr a b) := rfl
@[simp] theorem nin_s (k l : Option Nat) (a b : List Nat) : cmpD .NotIn (k, .str a) (l, .str b) = .ok (!inStr a b) := rfl
@[simp] theorem tru_b (k : Option Nat) (b : Bool) : truD (k, .bl b) = .ok b := rfl
@[simp] theorem tru_l (k : Option Nat) (b : List D) : truD (k, .lst b) = .ok (!b.isEmpty) := rfl
@[simp] theorem len_s (k : Option Nat) (s : List Nat) : biD .len [(k, .str s)] = if s.length ≤ line then .ok (at9 (.int s.length)) else .stuck := rfl
@[simp] theorem len_l (k : Option Nat) (s : List D) : biD .len [(k, .lst s)] = .ok (at9 (.int s.length)) := rfl
@[simp] theorem len_t (k : Option Nat) (s : List D) : biD .len [(k, .tup s)] = .ok (at9 (.int s.length)) := rfl
@[simp] theorem int_i (k : Option Nat) (s : Int) : biD .int [(k, .int s)] = .ok (at9 (.int s)) := rfl
@[simp] theorem repr_b (k : Option Nat) (b : Bool) : biD .repr [(k, .bl b)] = .ok (at9 (.str (if b then [84, 114, 117, 101] else [70, 97, 108, 115, 101]))) := rfl
theorem callD_of {f : Fn} {ks : List Kd} {d : D} {k : Nat} (h : f (ks.map (·.2)) = .ok (k, d)) (hc : d.cont = false) (hp : ks.any (fun x => x.1.isNone) = true → pureD d = true) : callD f ks = .ok (at9 d) := by
  unfold callD
  rw [h, R.bind_ok]
  have hk : kd k d = at9 d := by unfold kd; rw [hc]; rfl
  cases hb : ks.any (fun x => x.1.isNone) with
  | false => simp [hk]
  | true =>
    have : ownAll k d = true := by
      have hp := hp hb
      cases k with
      | zero => unfold ownAll; exact hp
      | succ k => cases d <;> first | (cases hc; done) | (unfold ownAll; exact hp)
    simp [this, hk]
theorem callD_exc {f : Fn} {ks : List Kd} {x : String} {p : List (String × Int)} (h : f (ks.map (·.2)) = .exc x p) : callD f ks = .exc x p := by
  unfold callD; rw [h]; rfl
/-- a call with nothing borrowed -/
theorem callD_own {f : Fn} {ks : List Kd} {d : D} {k : Nat} (h : f (ks.map (·.2)) = .ok (k, d)) (hb : ks.any (fun x => x.1.isNone) = false) : callD f ks = .ok (kd k d) := by
  unfold callD
  rw [h, R.bind_ok, hb]; rfl
theorem callD_ok {f : Fn} {ks : List Kd} {ds : List D} {d : D} {k : Nat} (h : f ds = .ok (k, d)) (hks : ks.map (·.2) = ds) (hb : ks.any (fun x => x.1.isNone) = false) : callD f ks = .ok (kd k d) := by
  subst hks; exact callD_own h hb
theorem callD_at {f : Fn} {ks : List Kd} {ds : List D} {d : D} {k : Nat} (h : f ds = .ok (k, d)) (hks : ks.map (·.2) = ds) (hc : d.cont = false) (hp : ks.any (fun x => x.1.isNone) = true → pureD d = true) : callD f ks = .ok (at9 d) := by
  subst hks; exact callD_of h hc hp
/-! ### loops -/
/-- how a turn may end -/
inductive Stp (Q : Rs → Prop) (J : Env → Prop) : Rs → Prop
  | nx {ρ : Env} (h : J ρ) : Stp Q J (.nx ρ)
  | ct {ρ : Env} (h : J ρ) : Stp Q J (.ct ρ)
  | bk {ρ : Env} (h : Q (.nx ρ)) : Stp Q J (.bk ρ)
  | ret {k : Nat} {d : D} (h : Q (.ret k d)) : Stp Q J (.ret k d)
  | exc {x : String} {p : List (String × Int)} {ρ : Env} (h : Q (.exc x p ρ)) : Stp Q J (.exc x p ρ)
theorem Stp.to {Q : Rs → Prop} {J : Env → Prop} {r r' : Rs} (h : Stp Q J r') (e : r = r') : Stp Q J r := e ▸ h
theorem loopF_rule {p : Pat} {body els : Env → Rs} (Q : Rs → Prop) (I : List D → Env → Prop)
    (step : ∀ d ds ρ, I (d :: ds) ρ → ∃ ρ1, bindP p d ρ = .ok ρ1 ∧ Stp Q (I ds) (body ρ1)) (fin : ∀ ρ, I [] ρ → Q (els ρ)) :
    ∀ (xs : List D) (ρ : Env), I xs ρ → Q (loopF p body els xs ρ)
  | [], ρ, h => fin ρ h
  | d :: ds, ρ, h => by
    obtain ⟨ρ1, e, s⟩ := step d ds ρ h
    unfold loopF
    rw [e]
    show Q ((body ρ1).turn fun r => match r with | .nx ρ' => loopF p body els ds ρ' | .ct ρ' => loopF p body els ds ρ' | .bk ρ' => .nx ρ' | r => r)
    generalize body ρ1 = r at s
    cases s with
    | nx h => exact loopF_rule Q I step fin ds _ h
    | ct h => exact loopF_rule Q I step fin ds _ h
    | bk h => exact h
    | ret h => exact h
    | exc h => exact h
theorem loopW_rule {c : Env → R Bool} {body : Env → Rs} (Q : Rs → Prop) (I : Nat → Env → Prop)
    (step : ∀ n ρ, I n ρ → (c ρ = .ok true ∧ Stp Q (fun ρ' => ∃ m, m < n ∧ I m ρ') (body ρ)) ∨ (c ρ = .ok false ∧ Q (.nx ρ))) :
    ∀ (f n : Nat) (ρ : Env), n < f → I n ρ → Q (loopW c body f ρ)
  | 0, n, ρ, hf, h => by omega
  | f + 1, n, ρ, hf, h => by
    unfold loopW
    rcases step n ρ h with ⟨e, s⟩ | ⟨e, s⟩
    · rw [e, liftR_ok, if_pos rfl]
      generalize body ρ = r at s
      cases s with
      | nx h => obtain ⟨m, hm, s⟩ := h; exact loopW_rule Q I step f m _ (by omega) s
      | ct h => obtain ⟨m, hm, s⟩ := h; exact loopW_rule Q I step f m _ (by omega) s
      | bk h => exact h
      | ret h => exact h
      | exc h => exact h
    · rw [e, liftR_ok, if_neg Bool.false_ne_true]; exact s
theorem compR_map {f : D → R (Option (Nat × D))} {g : D → Nat × D} : ∀ {xs : List D}, (∀ d ∈ xs, f d = .ok (some (g d))) → compR f xs = .ok (xs.map g)
  | [], _ => rfl
  | a :: r, h => by
    unfold compR
    rw [h a (by simp), compR_map (fun d m => h d (by simp [m]))]; rfl
theorem compR_filter {f : D → R (Option (Nat × D))} {g : D → Option (Nat × D)} : ∀ {xs : List D}, (∀ d ∈ xs, f d = .ok (g d)) → compR f xs = .ok (xs.filterMap g)
  | [], _ => rfl
  | a :: r, h => by
    unfold compR
    rw [h a (by simp), compR_filter (fun d m => h d (by simp [m]))]
    cases q : g a with
    | none => simp [q]
    | some b => simp [q]
abbrev fin (r : Rs) : R (Nat × D) := r.fin
@[simp] theorem fin_ret (k : Nat) (d : D) : fin (.ret k d) = .ok (k, d) := rfl
@[simp] theorem fin_nx : fin (.nx ρ) = .ok (9, .non) := rfl
@[simp] theorem fin_exc (x : String) (p : List (String × Int)) : fin (.exc x p ρ) = .exc x p := rfl
theorem run_of {np n : Nat} {code : List Cm} {ds : List D} (h : ds.length = np) : runFd F C T np n code ds = fin (runs F C T code (env0 np n ds)) := by
  unfold runFd
  rw [if_pos h]
  rfl
theorem env0_of (np n : Nat) (ds : List D) : env0 np n ds = ds.map (fun d => some ((kd 0 d).1.getD 0, d)) ++ List.replicate (n - np) none := rfl
@[simp] theorem kd_int (k : Nat) (i : Int) : kd k (.int i) = (some 9, .int i) := rfl
@[simp] theorem kd_str (k : Nat) (i : List Nat) : kd k (.str i) = (some 9, .str i) := rfl
@[simp] theorem kd_bl (k : Nat) (i : Bool) : kd k (.bl i) = (some 9, .bl i) := rfl
@[simp] theorem kd_non (k : Nat) : kd k .non = (some 9, .non) := rfl
@[simp] theorem kd_tup (k : Nat) (i : List D) : kd k (.tup i) = (some 9, .tup i) := rfl
@[simp] theorem kd_lst (k : Nat) (i : List D) : kd k (.lst i) = (some k, .lst i) := rfl
@[simp] theorem bind_nm (i : Nat) (d : D) : bindP (.nm i) d ρ = if i < ρ.length then .ok (ρ.set i (some ((kd 0 d).1.getD 0, d))) else .stuck := by unfold bindP; rfl
@[simp] theorem items_str (b : Bool) (k : Option Nat) (s : List Nat) : itemsD b (k, .str s) = .ok (s.map fun c => .str [c]) := rfl
theorem runs_cons (c : Cm) (cs : List Cm) (ρ : Env) : runs F C T (c :: cs) ρ = (run1 F C T c ρ).seq (runs F C T cs) := by simp only [runs]
theorem runs_nil (ρ : Env) : runs F C T [] ρ = .nx ρ := by simp only [runs]
theorem run1_for (p : Pat) (it : Ix) (b els : List Cm) (ρ : Env) : run1 F C T (.for p it b els) ρ = liftR (evI F C false it ρ) ρ fun xs => loopF p (runs F C T b) (runs F C T els) xs ρ := by simp only [run1]
theorem run1_whl (n : Nat) (c : Tx) (b : List Cm) (ρ : Env) : run1 F C T (.whl n c b) ρ = loopW (tst F C c) (runs F C T b) n ρ := by simp only [run1]
theorem run1_set (i : Nat) (e : Ex) (ρ : Env) : run1 F C T (.set i e) ρ = liftR (ev F C e ρ) ρ fun k => liftR (needV k) ρ fun v => setR i v.1 v.2 ρ := by simp only [run1]
theorem run1_ifs (c : Tx) (a b : List Cm) (ρ : Env) : run1 F C T (.ifs c a b) ρ = liftR (tst F C c ρ) ρ fun t => if t then runs F C T a ρ else runs F C T b ρ := by simp only [run1]
theorem run1_ret (e : Ex) (ρ : Env) : run1 F C T (.ret e) ρ = liftR (ev F C e ρ) ρ fun k => liftR (needV k) ρ fun v => .ret v.1 v.2 := by simp only [run1]
theorem run1_retv {i k : Nat} {d : D} {ρ : Env} (h : ρ[i]? = some (some (k, d))) : run1 F C T (.retv i) ρ = .ret k d := by simp only [run1, h]
theorem run1_brk (ρ : Env) : run1 F C T .brk ρ = .bk ρ := by simp only [run1]
theorem evI_rng1 (b : Bool) (a : Ex) (ρ : Env) (n : Int) (k : Option Nat) (h : ev F C a ρ = .ok (k, .int n)) (hb : inBig n = true) : evI F C b (.rng1 a) ρ = .ok (rng1 0 n) := by
  simp only [evI, h, R.bind_ok, hb, if_true]
theorem rng1_int {n : Int} {d : D} (h : d ∈ rng1 0 n) : ∃ i : Nat, d = .int (i : Int) ∧ (i : Int) < n := by
  unfold rng1 at h
  obtain ⟨i, hi, e⟩ := List.mem_map.mp h
  refine ⟨i, by rw [← e, Int.zero_add], ?_⟩
  have := List.mem_range.mp hi
  omega
theorem rng1_len (n : Int) : (rng1 0 n).length = n.toNat := by unfold rng1; simp
end
end Px

/-! Px26: how the law's def is entered, below a stack without guards. -/
namespace Px
open PySem PySem.Spec PyProof.Rows L2
section
variable {P : Program} {w : World} {K : PySem.W.Frag} {mg mb : Str → Option Value} {k : Nat} {fa a : Addr} {fd : FuncData} {x : Str} {s : Shared} {vs : List Value} {ns : List Int}
abbrev listO (vs : List Value) : Obj := { cls := .type "list", data := .seq vs.toArray }
abbrev AfterLaw (s : Shared) (r : Result) (s' : Shared) : Prop := r = .ok (.ret (.bool true)) ∧ OldK s.heap s'.heap ∧ s'.os = s.os ∧ AllBare s'.gens
/-- H knows of nothing but the script -/
structure Scr (K : PySem.W.Frag) (a : Addr) (vs : List Value) (ns : List Int) (H : Hp) : Prop where
  at_ : ∀ b u, H b = some u → b = a ∧ u = .frz (listO vs) (.lst (ns.map V.int)) ∧ K.lookup a = none
  seq : SqL K H a (ns.map V.int)
theorem enter_law {H : Hp} (S : Scr K a vs ns H) (KX : K.In s.heap) (glob : s.heap.Ns mainGlobals mg) (blt : s.heap.Ns builtinsNs mb) (boot : ∀ x : Str, x ≠ "__name__" → mb x = bootBuiltins x) (lim : s.heap.NoLimit) (noG : s.gens = #[])
    (obj : s.heap.get? a = some (listO vs)) (hi : IntsAre vs ns) (h63 : ns.length ≤ 63) (room : Room k callerA)
    (F : ∀ base : Heap, K.In base → base.Ns mainGlobals mg → FnG P w K mg base k fa fd [x] (spLaw K)) (bd : ∀ (t : Shared) (u : Value), BindsTo t fd ⟨[u], []⟩ [(x, u)]) : codeAny (model P w) callerA (.call (.ref fa) ⟨[.ref a], []⟩) (AfterLaw s) s := by
  have freeK : ∀ b o, K.lookup b = some o → H b = none := by
    intro b o e
    cases q : H b with
    | none => rfl
    | some u => obtain ⟨eb, _, z⟩ := S.at_ b u q; rw [eb, z] at e; cases e
  have freeD : ∀ b o es ep, s.heap.get? b = some o → o.data = .dict es ep → H b = none := by
    intro b o es ep e d
    cases q : H b with
    | none => rfl
    | some u =>
      obtain ⟨eb, _⟩ := S.at_ b u q
      rw [eb, obj] at e
      cases e; cases d
  have nsB : ∀ b m, s.heap.Ns b m → (hidT s.heap H).Ns b m := by
    rintro b m ⟨o, es, ep, e, d, r⟩
    exact ⟨o, es, ep, hidT_get e (freeD b o es ep e d), d, r⟩
  have inB : K.In (hidT s.heap H) := fun b o e => hidT_get (KX b o e) (freeK b o e)
  have lenV := hi.length
  have hok : HOk P w H s.heap := by
    intro b u q
    obtain ⟨eb, eu, _⟩ := S.at_ b u q
    subst eb; subst eu
    refine ⟨obj, ?_, vs, _, vals_ints hi, obj⟩
    rw [List.length_map]
    exact Nat.le_trans h63 (by decide)
  have env : Env0 P w K mg (hidT s.heap H) callerA [] s H := by
    refine ⟨rfl, ⟨inB, nsB _ _ glob, ⟨mb, nsB _ _ blt, boot⟩, ?_⟩, fun b o e => of_hidT e, Nat.le_of_eq (hidT_size _ _), trivial, ?_, hok, .of_eq noG⟩
    · obtain ⟨m, h1, h2⟩ := lim
      exact ⟨m, nsB _ _ h1, h2⟩
    · intro b z
      cases z
  have pre : spLaw K [.ref a] H (fun v _ => v = .bl true) (fun _ _ _ => False) := ⟨a, ns, rfl, S.seq, h63, fun _ => rfl⟩
  refine codeAny_mono ((F _ inB (nsB _ _ glob)).run callerA [] s H [.ref a] [.ref a] _ _ rfl room env (bd s _) (.cons rfl .nil) pre) ?_
  intro r s' done
  match r, done with
  | .error e, d => exact (cx_none d).elim
  | .ok (.ret u), ⟨v, H', os, bare, un, hok', ru, q⟩ =>
    have q : v = .bl true := q
    rw [q] at ru
    have ru : u = Value.bool true := ru
    subst ru
    refine ⟨rfl, OldK.of_keep ?_, os, bare⟩
    intro b o e
    cases q : H b with
    | none => exact un.keep b o e q (fun z => by cases z) (by simp)
    | some u =>
      obtain ⟨_, eu, _⟩ := S.at_ b u q
      rw [eu] at q
      have h1 := (hok b _ q).1
      have h2 := (hok' b _ (un.frzs b _ _ q)).1
      rw [h1] at e
      rw [h2]; exact e
theorem scr_new (hK : K.lookup a = none) : Scr K a vs ns (fun b => if b = a then some (.frz (listO vs) (.lst (ns.map V.int))) else none) := by
  refine ⟨fun b u e => ?_, .inl (.inr ⟨listO vs, if_pos rfl⟩)⟩
  split at e <;> cases e
  exact ⟨by assumption, rfl, hK⟩
theorem call_lawG (KX : K.In s.heap) (glob : s.heap.Ns mainGlobals mg) (blt : s.heap.Ns builtinsNs mb) (boot : ∀ x : Str, x ≠ "__name__" → mb x = bootBuiltins x) (lim : s.heap.NoLimit) (noG : s.gens = #[])
    (obj : s.heap.get? a = some (listO vs)) (hi : IntsAre vs ns) (h63 : ns.length ≤ 63) (room : Room k callerA)
    (F : ∀ base : Heap, K.In base → base.Ns mainGlobals mg → FnG P w K mg base k fa fd [x] (spLaw K)) (bd : ∀ (t : Shared) (u : Value), BindsTo t fd ⟨[u], []⟩ [(x, u)]) : codeAny (model P w) callerA (.call (.ref fa) ⟨[.ref a], []⟩) (AfterLaw s) s := by
  cases hk : K.lookup a with
  | none => exact enter_law (scr_new hk) KX glob blt boot lim noG obj hi h63 room F bd
  | some o =>
    have e := KX a o hk
    rw [obj] at e
    cases e
    have hz : vs.toArray.size ≤ sizeLine := by
      rw [List.size_toArray, hi.length]
      exact Nat.le_trans h63 (by decide)
    refine enter_law (H := fun _ => none) ⟨fun b u e => (by cases e), .inr ⟨_, vs.toArray, _, hk, rfl, rfl, rfl, hz, ?_⟩⟩ KX glob blt boot lim noG obj hi h63 room F bd
    simpa using vals_ints hi
end
/-- the goal that the head leaves -/
theorem walkG {l : PySem.W.OpenLaw} {k : Nat} {q : Program} {loose : List Str} {XP : (Str → Option Value) → Heap → Prop} {YP : World → Heap → Prop} {d : DefRec} {K : Params → PySem.W.Frag} {x : Str}
    (h63 : l.most = some 63) (noDef : d.params.defaults = []) (room : Room k callerA) (hY : ∀ (w : World) (h : Heap), YP w h → (K w.params).In h)
    (F : ∀ (w : World) (mg : Str → Option Value) (fa : Addr) (h : Heap), (K w.params).In h → h.Ns mainGlobals mg → mg d.name = some (.ref fa) →
      ∃ fd : FuncData, (∀ (t : Shared) (u : Value), BindsTo t fd ⟨[u], []⟩ [(x, u)]) ∧ ∀ base : Heap, (K w.params).In base → base.Ns mainGlobals mg → FnG l.prog w (K w.params) mg base k fa fd [x] (spLaw (K w.params))) :
    PySem.W.WalkO q loose XP YP l.row.toRowW d [] (fun f vs => PySem.call f vs) := by
  refine Att.attach_call h63 noDef ?_
  intro w s0 s mg mb fa o pm cd doc a vs ns G Y ho hd hcd hmg obj hints hlen hg
  obtain ⟨fd, bd, hF⟩ := F w mg fa s.heap (hY w _ Y) G.T.g hmg
  exact call_lawG (hY w _ Y) G.T.g G.T.b G.T.builtins G.T.nolimit hg obj hints hlen room hF bd
end Px

/-! Px27: what repr tells is short enough. -/
namespace Px
open PySem PySem.Spec L2
def rpT : D → List Nat
  | .bl b => if b then [84, 114, 117, 101] else [70, 97, 108, 115, 101]
  | d => rpS d
def rpOk : D → Prop
  | .bl _ => True
  | d => rOk d = true
theorem repr_any (k : Option Nat) {d : D} (h : rpOk d) : biD .repr [(k, d)] = .ok (at9 (.str (rpT d))) := by
  cases d with
  | bl b => rfl
  | non => show (if rOk .non = true then R.ok (at9 (.str (rpS .non))) else .stuck) = _; rw [if_pos (show rOk _ = true from h)]; rfl
  | int i => show (if rOk (.int i) = true then R.ok (at9 (.str (rpS (.int i)))) else .stuck) = _; rw [if_pos (show rOk _ = true from h)]; rfl
  | str s => show (if rOk (.str s) = true then R.ok (at9 (.str (rpS (.str s)))) else .stuck) = _; rw [if_pos (show rOk _ = true from h)]; rfl
  | lst s => show (if rOk (.lst s) = true then R.ok (at9 (.str (rpS (.lst s)))) else .stuck) = _; rw [if_pos (show rOk _ = true from h)]; rfl
  | tup s => show (if rOk (.tup s) = true then R.ok (at9 (.str (rpS (.tup s)))) else .stuck) = _; rw [if_pos (show rOk _ = true from h)]; rfl
  | dct s t => show (if rOk (.dct s t) = true then R.ok (at9 (.str (rpS (.dct s t)))) else .stuck) = _; rw [if_pos (show rOk _ = true from h)]; rfl
  | ext t => show (if rOk (.ext t) = true then R.ok (at9 (.str (rpS (.ext t)))) else .stuck) = _; rw [if_pos (show rOk _ = true from h)]; rfl
theorem rpOk_bl (b : Bool) : rpOk (.bl b) := trivial
theorem rpOk_non : rpOk .non := by show rOk .non = true; decide +kernel
theorem rpS_len (d : D) : (rpS d).length = d.py.shown.length := by unfold rpS; exact Array.length_toList
theorem rOk_of {d : D} (h1 : shp d = true) (h2 : d.py.showable = true) (h3 : d.py.shown.length ≤ line) : rOk d = true := by
  unfold rOk
  rw [h1, h2, rpS_len, decide_eq_true h3]; rfl
theorem rpOk_int {i : Int} (h : i.natAbs.log2 < 1920) : rpOk (.int i) := by
  refine rOk_of rfl (decide_eq_true h) ?_
  have := int_text_fits h
  rw [line_eq] at this
  exact this
theorem small_log {i : Int} (h : i.natAbs < 2 ^ 1900) : i.natAbs.log2 < 1920 := by
  by_cases h0 : i.natAbs = 0
  · rw [h0]; decide
  · exact Nat.lt_trans ((Nat.log2_lt h0).mpr h) (by decide)
/-- a text of plain signs -/
def Pl (n : Nat) (t : List Nat) : Prop := t.length ≤ n ∧ ∀ c ∈ t, c < 128
theorem pl_repr {n : Nat} {t : List Nat} (h : Pl n t) : (reprText (mkS t)).length ≤ 10 * n + 2 := by
  have e : (reprText (mkS t)).length ≤ 10 * (mkS t).length + 2 := StrLaws.reprText_len (mkS t) fun c m => Nat.lt_trans (h.2 c (by simpa [mkS] using m)) (by decide)
  rw [show (mkS t).length = t.length from mkS_len t] at e
  have q : t.length ≤ n := h.1
  generalize (reprText (mkS t)).length = z at e ⊢
  omega
theorem pl_ok {n : Nat} {t : List Nat} (h : Pl n t) : PyData.strOk (mkS t) = true := by
  show (mkS t).cps.all (· < 0x110000) = true
  rw [← Array.all_toList]
  exact List.all_eq_true.mpr fun c m => decide_eq_true (Nat.lt_trans (h.2 c (by simpa [mkS] using m)) (by decide))
theorem shp_str {n : Nat} {t : List Nat} (h : Pl n t) : shp (.str t) = true := by
  show (PyData.strOk (mkS t) && decide ((PyData.str (mkS t)).depth ≤ 64)) = true
  rw [pl_ok h]; rfl
theorem rpOk_str {t : List Nat} (h : Pl 100000 t) : rpOk (.str t) := by
  refine rOk_of (shp_str h) rfl ?_
  have := pl_repr h
  unfold line
  exact Nat.le_trans this (by decide)
theorem strs_py {n : Nat} {ts : List (List Nat)} (h : ∀ t ∈ ts, Pl n t) : PyData.canLayAll0 (D.pys (ts.map D.str)) = true ∧ PyData.depthAll (D.pys (ts.map D.str)) ≤ 1 ∧ PyData.showableAll (D.pys (ts.map D.str)) = true ∧ PyData.shownAll (D.pys (ts.map D.str)) = ts.map fun t => reprText (mkS t) := by
  induction ts with
  | nil => exact ⟨rfl, by decide, rfl, rfl⟩
  | cons t ts ih =>
    obtain ⟨a, b, c, d⟩ := ih fun t m => h t (by simp [m])
    refine ⟨?_, ?_, ?_, ?_⟩
    · show (PyData.strOk (mkS t) && PyData.canLayAll0 (D.pys (ts.map D.str))) = true
      rw [a, pl_ok (h t (by simp))]; rfl
    · simp only [List.map_cons, D.pys, D.py, PyData.depthAll, PyData.depth]
      omega
    · show (PyData.showable (.str (mkS t)) && PyData.showableAll (D.pys (ts.map D.str))) = true
      rw [c]; rfl
    · show reprText (mkS t) :: PyData.shownAll (D.pys (ts.map D.str)) = _
      rw [d]; rfl
theorem rpOk_strs {ts : List (List Nat)} (h : ∀ t ∈ ts, Pl 1000 t) (hl : ts.length ≤ 1001) : rpOk (.lst (ts.map D.str)) := by
  obtain ⟨a, b, c, d⟩ := strs_py h
  refine rOk_of ?_ c ?_
  · show (PyData.canLayAll0 (D.pys (ts.map D.str)) && decide ((PyData.list (D.pys (ts.map D.str))).depth ≤ 64)) = true
    have e : (PyData.list (D.pys (ts.map D.str))).depth ≤ 64 := by
      show PyData.depthAll (D.pys (ts.map D.str)) + 1 ≤ 64
      omega
    rw [a, decide_eq_true e]; rfl
  · show (listText (PyData.shownAll (D.pys (ts.map D.str)))).length ≤ line
    rw [d]
    have e := listText_len_le (ts.map fun t => reprText (mkS t))
    rw [List.map_map, List.length_map] at e
    have s : ∀ us : List (List Nat), (∀ t ∈ us, Pl 1000 t) → (us.map ((fun x : Str => x.length) ∘ fun t => reprText (mkS t))).sum ≤ us.length * 10002 := by
      intro us
      induction us with
      | nil => intro _; simp
      | cons u us ih =>
        intro hu
        have := pl_repr (hu u (by simp))
        have := ih fun t m => hu t (by simp [m])
        simp only [List.map_cons, List.sum_cons, List.length_cons, Function.comp_apply] at *
        omega
    have := s ts h
    have : ts.length * 10002 ≤ 1001 * 10002 := Nat.mul_le_mul_right _ hl
    unfold line
    simp only [Function.comp_def] at *
    omega
end Px

/-! Px28: the next draw: a def that takes the last item off a list that was passed. -/
namespace Px
open PySem PySem.Spec L2
/-- a draw -/
def mNext : Fn := fun ds => match ds with
  | [.ext .draws] => .draw fun n => .ok (9, .int n)
  | _ => .stuck
def isNext (y : Str) (sc : Scope) : List Stmt → Bool
  | [.If (.Name y1 _) [.Return (some (.Call (.Attribute (.Name y2 _) nm apos) [] [] cpos)) _] [] _, .Return (some (.Constant (.int i) _ _)) _] =>
    decide (y1 = y) && decide (y2 = y) && decide (nm = "pop") && decide (i = 0) && (apos.endLine == cpos.line) && visB sc y && nmB y
  | _ => false
/-- the last item of a list, off -/
def spPop : Sp := fun vs H Q _ => ∃ (a : Addr) (xs : List V), vs = [.ref a] ∧ H a = some (.lst xs) ∧ (xs = [] → Q (.int 0) H) ∧ ∀ y, xs[xs.length - 1]? = some y → xs ≠ [] → Q y (upd H a (.lst xs.dropLast))
section
variable {P : Program} {w : World} {K : PySem.W.Frag} {mg : Str → Option Value} {base : Heap} {ec : EC}
theorem pop_ok {x qual y : Str} {st : Stmt} {f : Addr} {fd : FuncData} {k : Nat} (Fu : Fun K x qual st f fd) (S : FnScope [y] [y] (defScope st)) (ok : isNext y (defScope st) (defBody st) = true) : FnG P w K mg base (k + 1) f fd [y] spPop := by
  refine fng_of Fu S (fun vs H Q E ⟨a, xs, e, _⟩ => by rw [e]; rfl) fun cdv AA outer s H vs Q E hg hr h => ?_
  unfold isNext at ok
  split at ok
  case h_2 => cases ok
  rename_i y1 p1 y2 p2 nm apos cpos p3 p4 i p5 p6 p7 eb
  simp only [Bool.and_eq_true, decide_eq_true_eq] at ok
  obtain ⟨⟨⟨⟨⟨⟨e1, e2⟩, e3⟩, e4⟩, e5⟩, e6⟩, e7⟩ := ok
  subst e1; subst e2; subst e3; subst e4
  obtain ⟨n1, n2, _⟩ := nmB_of e7
  rw [eb]
  have hv : ∀ {X : Cx} {p : Pos}, X.N = [y2] → X.env.scope = defScope st → PE X (.Name y2 p) (tVar 0) := fun h1 h2 => pe_var (by rw [h1]; rfl) (vis_of h2 e6) n1 n2
  refine ⟨_, pss_cons (ps_if (pt_truth (hv rfl rfl) fun whole => rfl) (pss_cons (ps_ret (pe_bm0 PySem.F.plainAttrs_list PySem.F.slot_list_pop PySem.F.type_list_pop mt_pop (hv rfl rfl) rfl e5)) pss_nil) pss_nil) (pss_cons (ps_ret pe_int) pss_nil), ?_⟩
  obtain ⟨a, xs, rfl, eH, h0, h1⟩ := h
  refine ⟨.ref a, rfl, !xs.isEmpty, .inl ⟨xs, SqL.of eH, rfl⟩, ?_⟩
  cases hx : xs with
  | nil =>
    rw [if_neg (by decide)]
    exact h0 hx
  | cons z zs =>
    rw [if_pos (by rfl)]
    have hlt : xs.length - 1 < xs.length := by rw [hx]; simp
    have el : xs[xs.length - 1]? = some xs[xs.length - 1] := List.getElem?_eq_getElem hlt
    refine ⟨.ref a, rfl, .inl ⟨rfl, xs, SqL.of eH⟩, a, xs, _, rfl, rfl, eH, el, h1 _ el (by rw [hx]; simp)⟩
theorem next_ok {x qual y : Str} {st : Stmt} {f : Addr} {fd : FuncData} {k : Nat} (Fu : Fun K x qual st f fd) (S : FnScope [y] [y] (defScope st)) (ok : isNext y (defScope st) (defBody st) = true) : FnG P w K mg base (k + 1) f fd [y] (spD K ec [y].length mNext) := by
  refine ⟨fun vs H Q E h => h.1, ?_⟩
  rintro A outer s H us vs Q E hg hr e0 hb rv ⟨hl, ds, Z, hZ, rep, h⟩
  unfold mNext at h
  split at h
  case h_2 => exact h.elim
  unfold RepRs RepRs at rep
  obtain ⟨v, vs', e, r1, e'⟩ := rep
  subst e'; subst e
  obtain ⟨a, e, ea⟩ := r1.ext
  subst e
  have ea : H a = some (drawsO a) := (cut_some ea).1
  obtain ⟨⟨ns, its, n, hns, hz, vl, hg0⟩, _, _⟩ : ObjOk P w H s.heap a (drawsO a) := e0.hok a _ ea
  have mu : Mut (H a) := by rw [ea]; trivial
  have big : ∀ (ms : List Int) (it : List Value) (n : Nat) (h : Heap), (∀ i ∈ ms, 0 ≤ i ∧ i < 1000) → ms.length ≤ sizeLine → Vals (ms.map V.int) it → h.get? a = some { cls := .type "list", data := .seq it.toArray n } → ∀ G, ObjOk P w G h a (drawsO a) :=
    fun ms it n h y1 y2 y3 y4 G => ⟨⟨ms, it, n, y1, y2, y3, y4⟩, ⟨_, y4⟩, fun h1 h2 ⟨ns, its, n, y1, y2, y3, y4⟩ k => ⟨ns, its, n, y1, y2, y3, k _ y4⟩⟩
  have back : ∀ ms : List Int, upd (upd H a (.lst (ms.map V.int))) a (drawsO a) = H := fun ms => by
    rw [upd_upd]
    funext b
    by_cases hb : b = a
    · rw [hb, upd_same, ea]
    · rw [upd_ne hb]
  have hok2 : HOk P w (upd H a (.lst (ns.map V.int))) s.heap := e0.hok.write mu (.inl rfl) (fun _ _ _ q => q) ⟨_, hg0⟩ ⟨by simpa using hz, its, n, vl, hg0⟩
  have env2 : Env0 P w K mg base A outer s (upd H a (.lst (ns.map V.int))) := by
    refine ⟨e0.frames, e0.mod, fun b o q => ⟨(e0.bs b o q).1, ?_⟩, e0.bsz, e0.funs, fun b q => ?_, hok2, e0.bare⟩
    · have nb := (e0.bs b o q).2
      rw [upd_ne (fun z => by rw [z, ea] at nb; cases nb)]; exact nb
    · have nb := e0.frf b q
      rw [upd_ne (fun z => by rw [z, ea] at nb; cases nb)]; exact nb
  let Q2 : VK := fun v H' => ∃ (i : Int) (ms : List Int), v = .int i ∧ 0 ≤ i ∧ i < 1000 ∧ (∀ j ∈ ms, 0 ≤ j ∧ j < 1000) ∧ ms.length ≤ sizeLine ∧ H' = upd H a (.lst (ms.map V.int))
  have pre : spPop [.ref a] (upd H a (.lst (ns.map V.int))) Q2 (fun _ _ _ => False) := by
    refine ⟨a, _, rfl, upd_same, fun e => ⟨0, ns, rfl, by decide, by decide, hns, hz, rfl⟩, fun y ey ne => ?_⟩
    rw [List.getElem?_map, List.length_map] at ey
    cases q : ns[ns.length - 1]? with
    | none => rw [q] at ey; cases ey
    | some i =>
      rw [q] at ey
      cases ey
      obtain ⟨i1, i2⟩ := hns i (List.mem_of_getElem? q)
      refine ⟨i, ns.dropLast, rfl, i1, i2, fun j m => hns j (List.dropLast_subset _ m), ?_, by rw [upd_upd, List.map_dropLast]⟩
      rw [List.length_dropLast]; omega
  refine codeAny_mono ((pop_ok Fu S ok).run A outer s _ us [.ref a] Q2 (fun _ _ _ => False) hg hr env2 hb rv pre) ?_
  intro r s' done
  match r, done with
  | .error e, d =>
    obtain ⟨_, _, _, _, _, _, _, _, _, _, _, _, z⟩ := (show L2.CX P w outer _ s (fun _ _ _ => False) e s' from d)
    exact z.elim
  | .ok (.ret u), ⟨v, H', os, bare, un, hok', ru, i, ms, ev, i1, i2, hms, lms, eH'⟩ =>
    subst ev; subst eH'
    obtain ⟨z, it, m, vl', hg'⟩ : (ms.map V.int).length ≤ sizeLine ∧ ∃ (its : List Value) (n : Nat), Vals (ms.map V.int) its ∧ s'.heap.get? a = some { cls := .type "list", data := .seq its.toArray n } := hok' a _ upd_same
    have mu' : Mut (upd H a (.lst (ms.map V.int)) a) := by rw [upd_same]; trivial
    have hokE : HOk P w H s'.heap := by
      have := hok'.write (o' := drawsO a) mu' (.inl rfl) (fun _ _ _ q => q) ⟨_, hg'⟩ (big ms it m s'.heap hms lms vl' hg' _)
      rwa [back] at this
    have unE : Un (frs outer) [] H H s.heap s'.heap := by
      have u1 : Un (frs outer) [] H (upd H a (.lst (ns.map V.int))) s.heap s.heap := Un.write mu (.inl rfl) (fun _ _ _ q => q) ⟨_, hg0⟩
      have u3 : Un (frs outer) [] (upd H a (.lst (ms.map V.int))) H s'.heap s'.heap := by
        have := Un.write (fs := frs outer) (ex := []) (o := drawsO a) mu' (.inl rfl) (fun _ _ _ q => q) (h := s'.heap) (h' := s'.heap) ⟨_, hg'⟩
        rwa [back] at this
      exact (u1.trans un).trans u3
    refine ⟨.int i, H, os, bare, unE, hokE, ru, ?_⟩
    exact h i i1 i2 (.int i) H (Same.refl _) ⟨fun _ => False, fun _ z => z.elim, (Own.flat rfl).mpr ⟨fun _ z => z, by unfold RepR; rfl⟩⟩
end
end Px

namespace Q
open PySem PySem.Spec PyProof.Rows L2 Px
open PySem (Expr Stmt)
def tT : Tab := [("CayleyError", ["CayleyError", "ValueError", "Exception"]), ("NotWord", ["NotWord", "CayleyError", "ValueError", "Exception"]), ("BadNumber", ["BadNumber", "CayleyError", "ValueError", "Exception"])]
def c_check_generators : List Cm := [.ifs (.not (.chain .LtE .LtE (.lit (.int 1)) (.var 0) (.glob 0))) [.raise "BadNumber"] []]
def f_check_generators : Cf := ⟨["g"], ["MOST_GENERATORS"], [], [], ["BadNumber"], [], [], []⟩
def m_check_generators : Fn := runFd [] [.int 3] tT 1 1 c_check_generators
def c_letters_of : List Cm := [.exp (.call 0 [.var 0]),
  .ret (.sl (.glob 0) (.no) (.yes (.bin .Mult (.lit (.int 2)) (.var 0))))]
def f_letters_of : Cf := ⟨["g"], ["LETTERS"], [], [("check_generators", 1)], [], [], [], []⟩
def m_letters_of : Fn := runFd [m_check_generators] [.str [97, 65, 98, 66, 99, 67]] tT 1 1 c_letters_of
def c_rank_of : List Cm := [.ifs (.or (.cmp .NotEq (.bi .len [.var 0]) (.lit (.int 1))) (.cmp .NotIn (.var 0) (.glob 0))) [.raise "NotWord"] [],
  .ret (.me .sindex (.glob 0) [.var 0])]
def f_rank_of : Cf := ⟨["letter"], ["LETTERS"], ["len"], [], ["NotWord"], [], [], []⟩
def m_rank_of : Fn := runFd [] [.str [97, 65, 98, 66, 99, 67]] tT 1 1 c_rank_of
def c_inverse_letter : List Cm := [.set 1 (.call 0 [.var 0]),
  .ret (.idx (.glob 0) (.bin .Sub (.bin .Add (.var 1) (.lit (.int 1))) (.bin .Mult (.lit (.int 2)) (.bin .BitAnd (.var 1) (.lit (.int 1))))))]
def f_inverse_letter : Cf := ⟨["letter", "rank"], ["LETTERS"], [], [("rank_of", 1)], [], [], [], []⟩
def m_inverse_letter : Fn := runFd [m_rank_of] [.str [97, 65, 98, 66, 99, 67]] tT 1 2 c_inverse_letter
def c_shortlex_key : List Cm := [.ret (.tup [.bi .len [.var 0], .bi .tuple [.comp (.nm 1) (.val (.var 0)) [] (.call 0 [.var 1])]])]
def f_shortlex_key : Cf := ⟨["word", "letter"], [], ["len", "tuple"], [("rank_of", 1)], [], [], [], []⟩
def m_shortlex_key : Fn := runFd [m_rank_of] [] tT 1 2 c_shortlex_key
def c__is_over : List Cm := [.for (.nm 2) (.val (.var 1)) [.ifs (.cmp .NotIn (.var 2) (.var 0)) [.ret (.lit (.bl false))] []] [],
  .ret (.lit (.bl true))]
def f__is_over : Cf := ⟨["letters", "text", "char"], [], [], [], [], [], [], []⟩
def m__is_over : Fn := runFd [] [] tT 2 3 c__is_over
def c_is_word : List Cm := [.ret (.call 0 [.call 1 [.var 0], .var 1])]
def f_is_word : Cf := ⟨["g", "text"], [], [], [("_is_over", 2), ("letters_of", 1)], [], [], [], []⟩
def m_is_word : Fn := runFd [m__is_over, m_letters_of] [] tT 2 2 c_is_word
def c_check_word : List Cm := [.ifs (.or (.not (.val (.call 0 [.var 0, .var 1]))) (.cmp .Gt (.bi .len [.var 1]) (.glob 0))) [.raise "NotWord"] []]
def f_check_word : Cf := ⟨["g", "text"], ["MOST_LETTERS"], ["len"], [("is_word", 2)], ["NotWord"], [], [], []⟩
def m_check_word : Fn := runFd [m_is_word] [.int 60] tT 2 2 c_check_word
def c__check : List Cm := [.exp (.call 0 [.glob 0, .var 0])]
def f__check : Cf := ⟨["word"], ["MOST_GENERATORS"], [], [("check_word", 2)], [], [], [], []⟩
def m__check : Fn := runFd [m_check_word] [.int 3] tT 1 1 c__check
def c_cut_down : List Cm := [.set 1 (.list []),
  .for (.nm 2) (.val (.var 0)) [.ifs (.and (.val (.var 1)) (.cmp .Eq (.idx (.var 1) (.un .USub (.lit (.int 1)))) (.call 0 [.var 2]))) [.pop 1] [.app 1 (.var 2)]] [],
  .ret (.me .join (.lit (.str [])) [.var 1])]
def f_cut_down : Cf := ⟨["word", "letters", "letter"], [], [], [("inverse_letter", 1)], [], [], [], []⟩
def m_cut_down : Fn := runFd [m_inverse_letter] [] tT 1 3 c_cut_down
def c_reduced : List Cm := [.exp (.call 0 [.var 0]),
  .ret (.call 1 [.var 0])]
def f_reduced : Cf := ⟨["word"], [], [], [("_check", 1), ("cut_down", 1)], [], [], [], []⟩
def m_reduced : Fn := runFd [m__check, m_cut_down] [] tT 1 1 c_reduced
def b__parted_1 : List Cm := [.aug 1 .Add (.lit (.int 1))]
def c__parted : List Cm := [.set 1 (.lit (.int 0)),
  .whl 1000000 (.and (.cmp .Gt (.bin .Sub (.bi .len [.var 0]) (.bin .Mult (.lit (.int 2)) (.var 1))) (.lit (.int 1))) (.cmp .Eq (.idx (.var 0) (.var 1)) (.call 0 [.idx (.var 0) (.bin .Sub (.bin .Sub (.bi .len [.var 0]) (.lit (.int 1))) (.var 1))]))) b__parted_1,
  .ret (.tup [.sl (.var 0) (.no) (.yes (.var 1)), .sl (.var 0) (.yes (.var 1)) (.yes (.bin .Sub (.bi .len [.var 0]) (.var 1)))])]
def f__parted : Cf := ⟨["word", "size"], [], ["len"], [("inverse_letter", 1)], [], [], [], []⟩
def m__parted : Fn := runFd [m_inverse_letter] [] tT 1 2 c__parted
def c_core_of : List Cm := [.ret (.call 0 [.call 1 [.var 0]])]
def f_core_of : Cf := ⟨["word"], [], [], [("_parted", 1), ("reduced", 1)], [], [], [], []⟩
def m_core_of : Fn := runFd [m__parted, m_reduced] [] tT 1 1 c_core_of
def c_rotations : List Cm := [.exp (.call 0 [.var 0]),
  .ifs (.cmp .Eq (.var 0) (.lit (.str []))) [.ret (.list [.lit (.str [])])] [],
  .ret (.comp (.nm 1) (.rng1 (.bi .len [.var 0])) [] (.bin .Add (.sl (.var 0) (.yes (.var 1)) (.no)) (.sl (.var 0) (.no) (.yes (.var 1)))))]
def f_rotations : Cf := ⟨["word", "place"], [], ["len", "range"], [("_check", 1)], [], [], [], []⟩
def m_rotations : Fn := runFd [m__check] [] tT 1 2 c_rotations
def c_least_rotation : List Cm := [.ret (.keyed true 0 [.call 1 [.var 0]])]
def f_least_rotation : Cf := ⟨["word"], [], ["min"], [("shortlex_key", 1), ("rotations", 1)], [], [], [], []⟩
def m_least_rotation : Fn := runFd [m_shortlex_key, m_rotations] [] tT 1 1 c_least_rotation
def c__law_cell : List Cm := [.ifs (.cmp .Lt (.var 1) (.bi .len [.var 0])) [.ret (.idx (.var 0) (.var 1))] [],
  .ret (.lit (.int 0))]
def f__law_cell : Cf := ⟨["_law_script", "_law_k"], [], ["len"], [], [], [], [], []⟩
def m__law_cell : Fn := runFd [] [] tT 2 2 c__law_cell
def c__law_values : List Cm := [.set 3 (.list []),
  .set 4 (.var 0),
  .for (.nm 5) (.rng1 (.var 1)) [.ifs (.cmp .GtE (.var 4) (.bin .Pow (.lit (.int 10)) (.lit (.int 12)))) [.app 3 (.bin .Mod (.bi .int [.var 4]) (.var 2)), .set 4 (.bin .FloorDiv (.var 4) (.var 2))] [.set 6 (.bin .Mod (.bin .Add (.bin .Add (.bin .Mult (.bin .Mod (.bi .int [.var 0]) (.lit (.int 2147483647))) (.lit (.int 48271))) (.bin .Mult (.var 5) (.lit (.int 69621)))) (.lit (.int 7))) (.lit (.int 2147483647))), .app 3 (.bin .Mod (.bin .Mod (.bin .Mult (.var 6) (.lit (.int 16807))) (.lit (.int 2147483647))) (.var 2))]] [],
  .retv 3]
def f__law_values : Cf := ⟨["_law_cell_here", "_law_count", "_law_size", "_law_values_here", "_law_rest", "_law_k", "_law_mixed"], [], ["range", "int"], [], [], [], [], []⟩
def m__law_values : Fn := runFd [] [] tT 3 7 c__law_values
def c__law_word : List Cm := [.set 3 (.call 0 [.var 0, .bin .Add (.var 2) (.lit (.int 1)), .lit (.int 997)]),
  .ret (.me .join (.lit (.str [])) [.comp (.nm 4) (.val (.sl (.var 3) (.yes (.lit (.int 1))) (.yes (.bin .Add (.lit (.int 1)) (.bin .Mod (.idx (.var 3) (.lit (.int 0))) (.bin .Add (.var 2) (.lit (.int 1)))))))) [] (.idx (.lit (.str [97, 65, 98, 66, 99, 67])) (.bin .Mod (.var 4) (.bin .Mult (.lit (.int 2)) (.var 1))))])]
def f__law_word : Cf := ⟨["_law_cell_here", "_law_g", "_law_most", "_law_values_here", "_law_value"], [], [], [("_law_values", 3)], [], [], [], []⟩
def m__law_word : Fn := runFd [m__law_values] [] tT 3 5 c__law_word
def c__law_inverse : List Cm := [.ret (.me .join (.lit (.str [])) [.comp (.nm 1) (.val (.rev (.var 0))) [] (.idx (.lit (.str [65, 97, 66, 98, 67, 99])) (.me .sindex (.lit (.str [97, 65, 98, 66, 99, 67])) [.var 1]))])]
def f__law_inverse : Cf := ⟨["_law_word_here", "_law_letter"], [], [], [], [], [], [], []⟩
def m__law_inverse : Fn := runFd [] [] tT 1 2 c__law_inverse
def c__law_reduced : List Cm := [.set 1 (.list []),
  .for (.nm 2) (.val (.var 0)) [.ifs (.and (.cmp .Gt (.bi .len [.var 1]) (.lit (.int 0))) (.cmp .Eq (.idx (.var 1) (.un .USub (.lit (.int 1)))) (.idx (.lit (.str [65, 97, 66, 98, 67, 99])) (.me .sindex (.lit (.str [97, 65, 98, 66, 99, 67])) [.var 2])))) [.pop 1] [.app 1 (.var 2)]] [],
  .ret (.me .join (.lit (.str [])) [.var 1])]
def f__law_reduced : Cf := ⟨["_law_word_here", "_law_letters", "_law_letter"], [], ["len"], [], [], [], [], []⟩
def m__law_reduced : Fn := runFd [] [] tT 1 3 c__law_reduced
def c__law_key : List Cm := [.ret (.tup [.bi .len [.var 0], .comp (.nm 1) (.val (.var 0)) [] (.me .sindex (.lit (.str [97, 65, 98, 66, 99, 67])) [.var 1])])]
def f__law_key : Cf := ⟨["_law_word_here", "_law_letter"], [], ["len"], [], [], [], [], []⟩
def m__law_key : Fn := runFd [] [] tT 1 2 c__law_key
def c_law : List Cm := [.set 1 (.bin .Add (.lit (.int 1)) (.bin .Mod (.call 0 [.var 0, .lit (.int 0)]) (.lit (.int 3)))),
  .set 2 (.call 1 [.call 0 [.var 0, .lit (.int 1)], .var 1, .lit (.int 12)]),
  .ifs (.cmp .Eq (.bin .Mod (.bin .FloorDiv (.call 0 [.var 0, .lit (.int 0)]) (.lit (.int 3))) (.lit (.int 2))) (.lit (.int 0))) [.set 3 (.call 1 [.call 0 [.var 0, .lit (.int 2)], .var 1, .lit (.int 4)]), .set 2 (.bin .Add (.bin .Add (.var 3) (.var 2)) (.call 2 [.var 3]))] [],
  .set 4 (.call 3 [.var 2]),
  .set 5 (.call 4 [.var 2]),
  .ifs (.or (.not (.val (.isTy (.var 5) "tuple"))) (.or (.cmp .NotEq (.bi .len [.var 5]) (.lit (.int 2))) (.or (.not (.val (.isTy (.idx (.var 5) (.lit (.int 0))) "str"))) (.not (.val (.isTy (.idx (.var 5) (.lit (.int 1))) "str")))))) [.ret (.lit (.bl false))] [],
  .set 3 (.idx (.var 5) (.lit (.int 0))),
  .set 6 (.idx (.var 5) (.lit (.int 1))),
  .ifs (.or (.cmp .NotEq (.bin .Add (.bin .Add (.var 3) (.var 6)) (.call 2 [.var 3])) (.var 4)) (.cmp .NotEq (.cmp .Eq (.var 6) (.lit (.str []))) (.cmp .Eq (.var 4) (.lit (.str []))))) [.ret (.lit (.bl false))] [],
  .ifs (.and (.cmp .NotEq (.var 6) (.lit (.str []))) (.or (.cmp .Eq (.idx (.var 6) (.un .USub (.lit (.int 1)))) (.call 2 [.idx (.var 6) (.lit (.int 0))])) (.cmp .NotEq (.call 3 [.var 6]) (.var 6)))) [.ret (.lit (.bl false))] [],
  .set 7 (.comp (.nm 8) (.rng1 (.bi .max2 [.lit (.int 1), .bi .len [.var 2]])) [] (.bin .Add (.sl (.var 2) (.yes (.var 8)) (.no)) (.sl (.var 2) (.no) (.yes (.var 8))))),
  .ifs (.cmp .NotEq (.bi .repr [.call 5 [.var 2]]) (.bi .repr [.var 7])) [.ret (.lit (.bl false))] [],
  .set 9 (.call 6 [.var 2]),
  .ret (.and (.cmp .In (.var 9) (.var 7)) (.bi .all [.comp (.nm 10) (.val (.var 7)) [] (.cmp .LtE (.call 7 [.var 9]) (.call 7 [.var 10]))]))]
def f_law : Cf := ⟨["_law_script", "_law_g", "_law_word_here", "_law_stem", "_law_small", "_law_told", "_law_core", "_law_due", "_law_k", "_law_least", "_law_other"], [], ["isinstance", "tuple", "len", "str", "max", "range", "repr", "all"], [("_law_cell", 2), ("_law_word", 3), ("_law_inverse", 1), ("_law_reduced", 1), ("core_of", 1), ("rotations", 1), ("least_rotation", 1), ("_law_key", 1)], [], [], [], []⟩
def m_law : Fn := runFd [m__law_cell, m__law_word, m__law_inverse, m__law_reduced, m_core_of, m_rotations, m_least_rotation, m__law_key] [] tT 1 11 c_law
end Q

namespace Q
open PySem PySem.Spec L2 Px
abbrev L6 : List Nat := [97, 65, 98, 66, 99, 67]
def lB (c : Nat) : Bool := decide (c ∈ L6)
theorem is_over6 (t : List Nat) : m__is_over [.str L6, .str t] = .ok (9, .bl (t.all lB)) := by
  unfold m__is_over
  rw [run_of (by rfl)]
  unfold c__is_over
  simp only [runs, run1, evI, ev, env0_of]
  simp only [List.map_cons, List.map_nil, kd_str, Option.getD_some, Nat.reduceSub, List.replicate, List.cons_append, List.nil_append, List.getElem?_cons_succ, List.getElem?_cons_zero, cont_str, items_str, R.bind_ok, liftR_ok, Bool.false_eq_true, if_false]
  refine loopF_rule (fun r => fin (r.seq fun ρ => (Rs.ret 9 (D.bl true)).seq fun ρ => .nx ρ) = .ok (9, .bl (t.all lB))) (fun ds ρ => ∃ (u : List Nat) (x : Option (Nat × D)), ds = u.map (fun c => .str [c]) ∧ ρ = [some (9, .str L6), some (9, .str t), x] ∧ t.all lB = u.all lB) ?_ ?_ _ _ ⟨t, none, rfl, rfl, rfl⟩
  · rintro d ds ρ ⟨u, x, e1, e2, e3⟩
    cases u with
    | nil => cases e1
    | cons c u =>
      simp only [List.map_cons, List.cons.injEq] at e1
      obtain ⟨e1, e4⟩ := e1
      subst e1; subst e4; subst e2
      refine ⟨_, by simp; rfl, ?_⟩
      have hc : inStr [c] L6 = lB c := inStr_one L6 c
      cases h : lB c with
      | true => exact (Stp.nx ⟨u, some (9, .str [c]), rfl, rfl, by rw [e3, List.all_cons, h]; rfl⟩).to (by simp [runs, run1, ev, tst, hc, h])
      | false => exact (Stp.ret (by rw [e3, List.all_cons, h]; rfl)).to (by simp [runs, run1, ev, tst, hc, h])
  · rintro ρ ⟨u, x, e1, e2, e3⟩
    cases u with
    | nil => rw [e3]; rfl
    | cons c u => cases e1
theorem letters3 : m_letters_of [.int 3] = .ok (9, .str L6) := by rfl
theorem is_word3 (t : List Nat) : m_is_word [.int 3, .str t] = .ok (9, .bl (t.all lB)) := by
  unfold m_is_word
  rw [run_of (by rfl)]
  unfold c_is_word
  have h1 : callD m_letters_of [(some 9, .int 3)] = .ok (at9 (.str L6)) := callD_of letters3 rfl (fun _ => rfl)
  have h2 : callD m__is_over [(some 9, .str L6), (some 9, .str t)] = .ok (at9 (.bl (t.all lB))) := callD_of (is_over6 t) rfl (fun _ => rfl)
  simp only [runs, run1, evs, ev, env0_of]
  simp [h1, h2]
theorem check_word3 (t : List Nat) (hl : t.length ≤ line) : m_check_word [.int 3, .str t] = if (t.all lB && decide (t.length ≤ 60)) = true then .ok (9, .non) else .exc "NotWord" [] := by
  unfold m_check_word
  rw [run_of (by rfl)]
  unfold c_check_word
  have h1 : callD m_is_word [(some 9, .int 3), (some 9, .str t)] = .ok (at9 (.bl (t.all lB))) := callD_of (is_word3 t) rfl (fun _ => rfl)
  simp only [runs, run1, evs, ev, tst, env0_of]
  cases ht : t.all lB with
  | false => simp [h1, ht]
  | true =>
    by_cases h : t.length ≤ 60
    · have : ¬ (60 < (t.length : Int)) := by omega
      simp [h1, ht, hl, h, this]
    · have : (60 < (t.length : Int)) := by omega
      simp [h1, ht, hl, h, this]
/-! join of single characters -/
abbrev chs (s : List Nat) : List D := s.map fun c => .str [c]
theorem strsOf_chs : ∀ s : List Nat, strsOf (chs s) = some (s.map fun c => [c])
  | [] => rfl
  | c :: s => by
    show (strsOf (chs s)).map ([c] :: ·) = _
    rw [strsOf_chs s]; rfl
theorem joinL_chs : ∀ s : List Nat, joinL [] (s.map fun c => [c]) = s
  | [] => rfl
  | [c] => rfl
  | c :: d :: s => by
    show [c] ++ [] ++ joinL [] ((d :: s).map fun c => [c]) = _
    rw [joinL_chs (d :: s)]; rfl
theorem sum_chs : ∀ s : List Nat, ((s.map fun c => [c]).map (·.length)).sum = s.length
  | [] => rfl
  | c :: s => by
    simp only [List.map_cons, List.sum_cons, List.length_cons, sum_chs s]
    simp; omega
theorem join_chs (s : List Nat) (k : Option Nat) (h : s.length ≤ line) : meD .join (some 9, .str []) [(k, .lst (chs s))] = .ok (at9 (.str s)) := by
  unfold meD
  simp only [strsOf_chs, sum_chs, joinL_chs, List.length_nil, Nat.mul_zero, Nat.add_zero, h, if_true]
theorem listV_chs (s : List Nat) (h : s.length ≤ line) : ∃ k, listV (s.map fun c => ((9 : Nat), D.str [c])) = .ok (some k, .lst (chs s)) := by
  unfold listV
  rw [if_pos (by simpa using h)]
  refine ⟨dmin ((s.map fun c => ((9 : Nat), D.str [c])).map (·.1)) + 1, ?_⟩
  simp [newL, chs, Function.comp_def]
theorem rev_s (k : Option Nat) (s : List Nat) (h : s.length ≤ line) : revD (k, .str s) = .ok (at9 (.str s.reverse)) := by
  show (if s.length ≤ line then R.ok (at9 (.str s.reverse)) else .stuck) = _
  rw [if_pos h]
theorem noExc_ok' {α : Type} (a : α) : noExc (R.ok a) = .ok a := rfl
end Q

namespace Q
open PySem PySem.Spec L2 Px
theorem check3 (t : List Nat) (hl : t.length ≤ line) : m__check [.str t] = if (t.all lB && decide (t.length ≤ 60)) = true then .ok (9, .non) else .exc "NotWord" [] := by
  unfold m__check
  rw [run_of (by rfl)]
  unfold c__check
  simp only [runs, run1, evs, ev, env0_of]
  have h := check_word3 t hl
  split at h
  · rename_i hc
    have h1 : callD m_check_word [(some 9, .int 3), (some 9, .str t)] = .ok (at9 .non) := callD_of h rfl (fun _ => rfl)
    rw [if_pos hc]
    simp [h1]
  · rename_i hc
    have h1 : callD m_check_word [(some 9, .int 3), (some 9, .str t)] = .exc "NotWord" [] := callD_exc h
    rw [if_neg hc]
    simp [h1]
def iv : Nat → Nat
  | 97 => 65 | 65 => 97 | 98 => 66 | 66 => 98 | 99 => 67 | 67 => 99 | c => c
theorem l6 {c : Nat} (h : lB c = true) : c = 97 ∨ c = 65 ∨ c = 98 ∨ c = 66 ∨ c = 99 ∨ c = 67 := by simpa [lB] using h
def rk : Nat → Int
  | 97 => 0 | 65 => 1 | 98 => 2 | 66 => 3 | 99 => 4 | 67 => 5 | _ => 0
theorem rank_ok {c : Nat} (h : lB c = true) : m_rank_of [.str [c]] = .ok (9, .int (rk c)) := by
  unfold m_rank_of
  rw [run_of (by rfl)]
  unfold c_rank_of
  have hi : inStr [c] [97, 65, 98, 66, 99, 67] = true := by rw [inStr_one]; exact h
  have hm : meD .sindex (some 9, .str [97, 65, 98, 66, 99, 67]) [(some 9, .str [c])] = .ok (at9 (.int (rk c))) := by
    rcases l6 h with e | e | e | e | e | e <;> subst e <;> rfl
  simp only [runs, run1, evs, ev, tst, env0_of]
  simp [hi, hm, meOk, line]
theorem rank_in {c : Nat} (h : lB c = true) : m_inverse_letter [.str [c]] = .ok (9, .str [iv c]) := by
  unfold m_inverse_letter
  rw [run_of (by rfl)]
  unfold c_inverse_letter
  have h1 : callD m_rank_of [(some 9, .str [c])] = .ok (at9 (.int (rk c))) := callD_of (rank_ok h) rfl (fun _ => rfl)
  have h2 : mulOk 2 (Builtin.bitAnd (rk c) 1) = true := by rcases l6 h with e | e | e | e | e | e <;> subst e <;> decide
  have h3 : idxD (some 9, .str [97, 65, 98, 66, 99, 67]) (some 9, .int (rk c + 1 - 2 * Builtin.bitAnd (rk c) 1)) = .ok (at9 (.str [iv c])) := by
    rcases l6 h with e | e | e | e | e | e <;> subst e <;> rfl
  simp only [runs, run1, evs, ev, tst, env0_of]
  simp [h1, h2, h3, setR]
theorem iv_in {c : Nat} (h : lB c = true) : lB (iv c) = true := by
  rcases l6 h with e | e | e | e | e | e <;> subst e <;> decide
theorem iv_iv {c : Nat} (h : lB c = true) : iv (iv c) = c := by
  rcases l6 h with e | e | e | e | e | e <;> subst e <;> rfl
theorem iv_ne {c : Nat} (h : lB c = true) : iv c ≠ c := by
  rcases l6 h with e | e | e | e | e | e <;> subst e <;> decide
end Q

namespace Q
open PySem PySem.Spec L2 Px
/-! the stack -/
def stp (st : List Nat) (c : Nat) : List Nat := match st.getLast? with
  | some x => if x = iv c then st.dropLast else st ++ [c]
  | none => [c]
def red (t : List Nat) : List Nat := t.foldl stp []
theorem stp_nil (c : Nat) : stp [] c = [c] := rfl
theorem stp_snoc (s : List Nat) (x c : Nat) : stp (s ++ [x]) c = if x = iv c then s else s ++ [x] ++ [c] := by
  unfold stp; simp
theorem idx_lastS (k : Option Nat) (xs : List D) (s : List Nat) : idxD (k, .lst (xs ++ [.str s])) (at9 (.int (-1))) = .ok (at9 (.str s)) := by
  show (match atI (xs ++ [D.str s]) (-1) with | some d => _ | none => _) = _
  rw [atI_last]; rfl
theorem pop_last (xs : List D) (d : D) (k : Nat) : (xs ++ [d]).isEmpty = false := by simp
theorem cut_step (t : List Nat) (st : List Nat) (c : Nat) (hc : lB c = true) (hl : st.length < line) :
    runs [m_inverse_letter] [] tT [.ifs (.and (.val (.var 1)) (.cmp .Eq (.idx (.var 1) (.un .USub (.lit (.int 1)))) (.call 0 [.var 2]))) [.pop 1] [.app 1 (.var 2)]] [some (9, .str t), some (9, .lst (chs st)), some (9, .str [c])] = .nx [some (9, .str t), some (9, .lst (chs (stp st c))), some (9, .str [c])] := by
  have h1 : callD m_inverse_letter [(some 9, .str [c])] = .ok (at9 (.str [iv c])) := callD_of (rank_in hc) rfl (fun _ => rfl)
  simp only [runs, run1, evs, ev, tst]
  rcases List.eq_nil_or_concat st with e | ⟨s, x, e⟩
  · subst e
    simp [h1, lstAt, setR, stp_nil]
  · rw [List.concat_eq_append] at e
    subst e
    have hd : chs (s ++ [x]) = chs s ++ [.str [x]] := by simp [chs]
    by_cases hx : x = iv c
    · subst hx
      rw [stp_snoc, if_pos rfl, hd]
      simp [h1, idx_lastS, lstAt, setR]
    · rw [stp_snoc, if_neg hx, hd]
      have hl' : s.length + 1 < line := by simpa using hl
      have he : chs (s ++ [x] ++ [c]) = chs s ++ [.str [x], .str [c]] := by simp [chs]
      have hn : (chs s).length = s.length := by simp [chs]
      simp [h1, idx_lastS, hx, lstAt, setR, hl', he, hn]
theorem cut_ok (t : List Nat) (hl : t.length ≤ line) (ht : t.all lB = true) : m_cut_down [.str t] = .ok (9, .str (red t)) := by
  unfold m_cut_down
  rw [run_of (by rfl)]
  unfold c_cut_down
  have hred : (red t).length ≤ t.length := by
    have : ∀ (u st : List Nat), (u.foldl stp st).length ≤ st.length + u.length := by
      intro u
      induction u with
      | nil => intro st; simp
      | cons c u ih =>
        intro st
        refine Nat.le_trans (ih _) ?_
        have : (stp st c).length ≤ st.length + 1 := by
          rcases List.eq_nil_or_concat st with e | ⟨s, x, e⟩
          · subst e; simp [stp_nil]
          · rw [List.concat_eq_append] at e
            subst e
            rw [stp_snoc]
            split <;> simp
            omega
        simp only [List.length_cons]; omega
    exact Nat.le_trans (this t []) (by simp)
  simp only [runs, run1, evI, ev, evs, env0_of]
  simp only [List.map_cons, List.map_nil, kd_str, Option.getD_some, Nat.reduceSub, List.replicate, List.cons_append, List.nil_append, List.getElem?_cons_succ, List.getElem?_cons_zero, cont_str, items_str, R.bind_ok, liftR_ok, Bool.false_eq_true, if_false]
  have e0 : (do let ks ← R.ok []; listD ks : R Kd) = .ok (some 9, .lst []) := rfl
  rw [show (listD [] : R Kd) = .ok (some 9, .lst []) from rfl, liftR_ok, needV_some, liftR_ok]
  show fin (Rs.seq (loopF _ _ _ _ [some (9, .str t), some (9, .lst (chs [])), none]) _) = _
  refine loopF_rule (fun r => fin (r.seq _) = .ok (9, .str (red t))) (fun ds ρ => ∃ (u st : List Nat) (x : Option (Nat × D)), ds = chs u ∧ ρ = [some (9, .str t), some (9, .lst (chs st)), x] ∧ u.foldl stp st = red t ∧ u.all lB = true ∧ st.length + u.length ≤ t.length) ?_ ?_ _ _ ⟨t, [], none, rfl, rfl, rfl, ht, by simp⟩
  · rintro d ds ρ ⟨u, st, x, e1, e2, e3, e4, e5⟩
    cases u with
    | nil => cases e1
    | cons c u =>
      simp only [chs, List.map_cons, List.cons.injEq] at e1
      obtain ⟨e1, e6⟩ := e1
      subst e1; subst e6; subst e2
      simp only [List.all_cons, Bool.and_eq_true] at e4
      simp only [List.length_cons] at e5
      refine ⟨_, by simp; rfl, ?_⟩
      have q := cut_step t st c e4.1 (by unfold line at *; omega)
      exact (Stp.nx ⟨u, stp st c, some (9, .str [c]), rfl, rfl, e3, e4.2, by
        have : (stp st c).length ≤ st.length + 1 := by
          rcases List.eq_nil_or_concat st with e | ⟨s, x, e⟩
          · subst e; simp [stp_nil]
          · rw [List.concat_eq_append] at e
            subst e
            rw [stp_snoc]
            split <;> simp
            omega
        omega⟩).to q
  · rintro ρ ⟨u, st, x, e1, e2, e3, e4, e5⟩
    cases u with
    | cons c u => cases e1
    | nil =>
      subst e2
      have e3 : st = red t := e3
      subst e3
      have hj := fun k => join_chs (red t) k (Nat.le_trans hred hl)
      simp [meOk, hj, chs]
end Q

namespace Q
open PySem PySem.Spec L2 Px
/-! free reduction -/
def Rd (l : List Nat) : Prop := ∀ a x y b, l = a ++ [x, y] ++ b → x ≠ iv y
theorem rd_nil : Rd [] := fun a x y b e => by simp at e
theorem rd_init {s : List Nat} {x : Nat} (h : Rd (s ++ [x])) : Rd s := fun a y z b e => h a y z (b ++ [x]) (by rw [e]; simp)
theorem rd_snoc {s : List Nat} {x c : Nat} (h : Rd (s ++ [x])) (hx : x ≠ iv c) : Rd (s ++ [x] ++ [c]) := fun a y z b e => by
  rcases List.eq_nil_or_concat b with eb | ⟨b', w, eb⟩
  · subst eb
    have e : (s ++ [x]) ++ [c] = (a ++ [y]) ++ [z] := by rw [e]; simp
    obtain ⟨e1, e2⟩ := List.append_inj' e rfl
    obtain ⟨_, e3⟩ := List.append_inj' e1 rfl
    cases e2; cases e3
    exact hx
  · rw [List.concat_eq_append] at eb
    subst eb
    have e : (s ++ [x]) ++ [c] = (a ++ [y, z] ++ b') ++ [w] := by rw [e]; simp
    obtain ⟨e1, _⟩ := List.append_inj' e rfl
    exact h a y z b' e1
theorem rd_one (c : Nat) : Rd [c] := fun a x y b e => by
  have := congrArg List.length e
  simp at this
  omega
theorem rd_stp {st : List Nat} (h : Rd st) (c : Nat) : Rd (stp st c) := by
  rcases List.eq_nil_or_concat st with e | ⟨s, x, e⟩
  · subst e; exact rd_one c
  · rw [List.concat_eq_append] at e
    subst e
    rw [stp_snoc]
    split
    · exact rd_init h
    · rename_i hx; exact rd_snoc h hx
theorem rd_fold : ∀ {t st : List Nat}, Rd st → Rd (t.foldl stp st)
  | [], _, h => h
  | c :: t, _, h => rd_fold (t := t) (rd_stp h c)
theorem rd_red (t : List Nat) : Rd (red t) := rd_fold rd_nil
theorem stp_back {st : List Nat} (h : Rd st) {c : Nat} (hc : lB c = true) : stp (stp st c) (iv c) = st := by
  rcases List.eq_nil_or_concat st with e | ⟨s, x, e⟩
  · subst e
    rw [stp_nil]
    have := stp_snoc [] c (iv c)
    rw [List.nil_append] at this
    rw [this, if_pos (iv_iv hc).symm]
  · rw [List.concat_eq_append] at e
    subst e
    rw [stp_snoc]
    split
    · rename_i hx
      rcases List.eq_nil_or_concat s with e | ⟨s', y, e⟩
      · subst e; rw [stp_nil, hx]; rfl
      · rw [List.concat_eq_append] at e
        subst e
        have hy : y ≠ iv x := h s' y x [] (by simp)
        rw [stp_snoc, if_neg (by rw [← hx]; exact hy), hx]
    · rw [stp_snoc, if_pos (iv_iv hc).symm]
theorem rd_mid {st : List Nat} (h : Rd st) {c : Nat} (hc : lB c = true) (u v : List Nat) : (u ++ [c, iv c] ++ v).foldl stp st = (u ++ v).foldl stp st := by
  rw [List.foldl_append, List.foldl_append, List.foldl_append]
  have := stp_back (rd_fold (t := u) h) hc
  show v.foldl stp (stp (stp (u.foldl stp st) c) (iv c)) = _
  rw [this]
theorem fold_rd : ∀ {t st : List Nat}, Rd (st ++ t) → t.foldl stp st = st ++ t
  | [], st, _ => by simp
  | c :: t, st, h => by
    have e : stp st c = st ++ [c] := by
      rcases List.eq_nil_or_concat st with e | ⟨s, x, e⟩
      · subst e; rfl
      · rw [List.concat_eq_append] at e
        subst e
        rw [stp_snoc, if_neg (h s x c t (by simp))]
    show t.foldl stp (stp st c) = _
    rw [e, fold_rd (t := t) (st := st ++ [c]) (by simpa using h)]
    simp
theorem red_id {t : List Nat} (h : Rd t) : red t = t := by
  have := fold_rd (t := t) (st := []) (by simpa using h)
  simpa [red] using this
theorem red_red (t : List Nat) : red (red t) = red t := red_id (rd_red t)
abbrev inv (t : List Nat) : List Nat := t.reverse.map iv
theorem inv_all {t : List Nat} (h : t.all lB = true) : (inv t).all lB = true := by
  rw [List.all_eq_true] at h ⊢
  intro c hc
  obtain ⟨d, hd, e⟩ := List.mem_map.mp hc
  subst e
  exact iv_in (h d (by simpa using hd))
theorem inv_inv {t : List Nat} (h : t.all lB = true) : inv (inv t) = t := by
  unfold inv
  rw [← List.map_reverse, List.reverse_reverse, List.map_map]
  rw [List.all_eq_true] at h
  conv => rhs; rw [← List.map_id t]
  exact List.map_congr_left fun c hc => iv_iv (h c hc)
theorem red_inv {t : List Nat} (h : t.all lB = true) : red (t ++ inv t) = [] := by
  have go : ∀ (n : Nat) (t : List Nat), t.length = n → t.all lB = true → red (t ++ inv t) = [] := by
    intro n
    induction n with
    | zero => intro t hl _; rw [List.eq_nil_of_length_eq_zero hl]; rfl
    | succ n ih =>
      intro t hl h
      rcases List.eq_nil_or_concat t with e | ⟨s, x, e⟩
      · subst e; rfl
      · rw [List.concat_eq_append] at e
        subst e
        simp only [List.all_append, Bool.and_eq_true, List.all_cons, List.all_nil, Bool.and_true] at h
        have e : (s ++ [x]) ++ inv (s ++ [x]) = s ++ [x, iv x] ++ inv s := by unfold inv; simp
        rw [e]
        have := rd_mid rd_nil h.2 s (inv s)
        unfold red
        rw [this]
        exact ih s (by simpa using hl) h.1
  exact go t.length t rfl h
theorem red_all {t : List Nat} (h : t.all lB = true) : (red t).all lB = true := by
  have go : ∀ (u st : List Nat), u.all lB = true → st.all lB = true → (u.foldl stp st).all lB = true := by
    intro u
    induction u with
    | nil => intro st _ h; exact h
    | cons c u ih =>
      intro st hu hs
      simp only [List.all_cons, Bool.and_eq_true] at hu
      refine ih _ hu.2 ?_
      rcases List.eq_nil_or_concat st with e | ⟨s, x, e⟩
      · subst e; rw [stp_nil]; simp [hu.1]
      · rw [List.concat_eq_append] at e
        subst e
        rw [stp_snoc]
        simp only [List.all_append, Bool.and_eq_true] at hs
        split
        · exact hs.1
        · simp only [List.all_append, Bool.and_eq_true]; exact ⟨hs, by simp [hu.1]⟩
  exact go t [] h rfl
theorem red_len (t : List Nat) : (red t).length ≤ t.length := by
  have : ∀ (u st : List Nat), (u.foldl stp st).length ≤ st.length + u.length := by
    intro u
    induction u with
    | nil => intro st; simp
    | cons c u ih =>
      intro st
      refine Nat.le_trans (ih _) ?_
      have : (stp st c).length ≤ st.length + 1 := by
        rcases List.eq_nil_or_concat st with e | ⟨s, x, e⟩
        · subst e; simp [stp_nil]
        · rw [List.concat_eq_append] at e
          subst e
          rw [stp_snoc]
          split <;> simp
          omega
      simp only [List.length_cons]; omega
  exact Nat.le_trans (this t []) (by simp)
end Q

namespace Q
open PySem PySem.Spec L2 Px
/-! more of the free reduction -/
theorem fold_red {st : List Nat} (h : Rd st) {t : List Nat} (ht : t.all lB = true) : (red t).foldl stp st = t.foldl stp st := by
  have go : ∀ (n : Nat) (t : List Nat), t.length = n → t.all lB = true → (red t).foldl stp st = t.foldl stp st := by
    intro n
    induction n with
    | zero => intro t hl _; rw [List.eq_nil_of_length_eq_zero hl]; rfl
    | succ n ih =>
      intro t hl ht
      rcases List.eq_nil_or_concat t with e | ⟨s, c, e⟩
      · subst e; rfl
      · rw [List.concat_eq_append] at e
        subst e
        simp only [List.all_append, Bool.and_eq_true, List.all_cons, List.all_nil, Bool.and_true] at ht
        have i := ih s (by simpa using hl) ht.1
        have e1 : red (s ++ [c]) = stp (red s) c := by unfold red; rw [List.foldl_append]; rfl
        have e2 : (s ++ [c]).foldl stp st = stp (s.foldl stp st) c := by rw [List.foldl_append]; rfl
        rw [e1, e2, ← i]
        have ra := red_all ht.1
        rcases List.eq_nil_or_concat (red s) with e | ⟨s', x, e⟩
        · rw [e, stp_nil]; rfl
        · rw [List.concat_eq_append] at e
          rw [e] at ra ⊢
          simp only [List.all_append, Bool.and_eq_true, List.all_cons, List.all_nil, Bool.and_true] at ra
          rw [stp_snoc]
          split
          · rename_i hx
            have hc : c = iv x := by rw [hx, iv_iv ht.2]
            have e3 : (s' ++ [x]).foldl stp st = stp (s'.foldl stp st) x := by rw [List.foldl_append]; rfl
            rw [e3, hc, stp_back (rd_fold h) ra.2]
          · rw [List.foldl_append]; rfl
  exact go t.length t rfl ht
theorem red_l (a b : List Nat) : red (red a ++ b) = red (a ++ b) := by
  have e : ∀ a : List Nat, red (a ++ b) = b.foldl stp (red a) := fun a => by unfold red; rw [List.foldl_append]
  rw [e, e, red_red]
theorem red_r (a : List Nat) {b : List Nat} (hb : b.all lB = true) : red (a ++ red b) = red (a ++ b) := by
  have e : ∀ b : List Nat, red (a ++ b) = b.foldl stp (red a) := fun b => by unfold red; rw [List.foldl_append]
  rw [e, e, fold_red (rd_red a) hb]
theorem red_assoc (a : List Nat) {b c : List Nat} (hb : b.all lB = true) (hc : c.all lB = true) : red (red (a ++ b) ++ c) = red (a ++ red (b ++ c)) := by
  rw [red_l, red_r a (by rw [List.all_append, hb, hc]; rfl), List.append_assoc]
theorem all_app {a b : List Nat} (ha : a.all lB = true) (hb : b.all lB = true) : (a ++ b).all lB = true := by rw [List.all_append, ha, hb]; rfl
theorem repL_all (n : Int) {w : List Nat} (h : w.all lB = true) : (repL n w).all lB = true := by
  unfold repL
  rw [List.all_eq_true] at h ⊢
  intro c hc
  obtain ⟨l, hl, hc⟩ := List.mem_flatten.mp hc
  rw [List.eq_of_mem_replicate hl] at hc
  exact h c hc
theorem repL_add (w : List Nat) (m n : Int) (hm : 0 ≤ m) (hn : 0 ≤ n) : repL m w ++ repL n w = repL (m + n) w := by
  unfold repL
  rw [← List.flatten_append, List.replicate_append_replicate, Int.toNat_add hm hn]
theorem repL_0 (w : List Nat) : repL 0 w = [] := rfl
theorem repL_1 (w : List Nat) : repL 1 w = w := by unfold repL; simp
theorem red_pow (w : List Nat) (hw : w.all lB = true) (m n : Int) (hm : 0 ≤ m) (hn : 0 ≤ n) : red (red (repL m w) ++ red (repL n w)) = red (repL (m + n) w) := by
  rw [red_l, red_r _ (repL_all n hw), repL_add w m n hm hn]
end Q

namespace Q
open PySem PySem.Spec L2 Px
abbrev iL (ns : List Int) : List D := ns.map D.int
theorem cell_ok (ns : List Int) (k : Nat) : ∃ c, m__law_cell [.lst (iL ns), .int (k : Int)] = .ok (9, .int c) := by
  unfold m__law_cell
  rw [run_of (by rfl)]
  unfold c__law_cell
  simp only [runs, run1, evs, ev, tst, env0_of]
  by_cases h : k < ns.length
  · have h1 : idxD (some 0, .lst (iL ns)) (some 9, .int (k : Int)) = .ok (at9 (.int (ns.getD k 0))) := by
      show (match atI (iL ns) (k : Int) with | some d => _ | none => _) = _
      rw [atI_nat (j := k) (v := .int (ns.getD k 0)) (by simp [iL, List.getElem?_map, h])]
      rfl
    exact ⟨ns.getD k 0, by simp [h, h1]⟩
  · exact ⟨0, by simp [h]⟩
/-- numbers that are drawn -/
def Drw (n : Nat) (z : Int) (vs : List Int) : Prop := vs.length = n ∧ ∀ v ∈ vs, 0 ≤ v ∧ v < z
theorem setR_of {i k : Nat} {d : D} {ρ : Px.Env} (h : i < ρ.length) : setR i k d ρ = .nx (ρ.set i (some (k, d))) := by unfold setR; rw [if_pos h]
def vB : List Cm := [.ifs (.cmp .GtE (.var 4) (.bin .Pow (.lit (.int 10)) (.lit (.int 12)))) [.app 3 (.bin .Mod (.bi .int [.var 4]) (.var 2)), .set 4 (.bin .FloorDiv (.var 4) (.var 2))] [.set 6 (.bin .Mod (.bin .Add (.bin .Add (.bin .Mult (.bin .Mod (.bi .int [.var 0]) (.lit (.int 2147483647))) (.lit (.int 48271))) (.bin .Mult (.var 5) (.lit (.int 69621)))) (.lit (.int 7))) (.lit (.int 2147483647))), .app 3 (.bin .Mod (.bin .Mod (.bin .Mult (.var 6) (.lit (.int 16807))) (.lit (.int 2147483647))) (.var 2))]]
theorem values_step (c n z rest i : Int) (vs : List Int) (c' : Option (Nat × D)) (hz : 0 < z) (hz2 : z < 1000000) (hl : vs.length < line) :
    ∃ v r2 c2, 0 ≤ v ∧ v < z ∧ runs [] [] tT vB [some (9, .int c), some (9, .int n), some (9, .int z), some (9, .lst (iL vs)), some (9, .int rest), some (9, .int i), c'] = .nx [some (9, .int c), some (9, .int n), some (9, .int z), some (9, .lst (iL (vs ++ [v]))), some (9, .int r2), some (9, .int i), c2] := by
  have hz0 : z ≠ 0 := by omega
  have hz3 : z.natAbs < 1073741824 := by omega
  have m1 : ∀ a : Int, mulOk a 48271 = true := fun a => by simp [mulOk]
  have m2 : ∀ a : Int, mulOk a 69621 = true := fun a => by simp [mulOk]
  have m3 : ∀ a : Int, mulOk a 16807 = true := fun a => by simp [mulOk]
  have hp : binD .Pow (at9 (.int 10)) (at9 (.int 12)) = .ok (at9 (.int 1000000000000)) := by rfl
  have fm : ∀ a : Int, 0 ≤ a.fmod z ∧ a.fmod z < z := fun a => ⟨Int.fmod_nonneg_of_pos a hz, Int.fmod_lt_of_pos a hz⟩
  have ea : ∀ v : Int, iL (vs ++ [v]) = iL vs ++ [.int v] := fun v => by simp [iL]
  have hl' : (iL vs).length < line := by simpa [iL] using hl
  by_cases hr : 1000000000000 ≤ rest
  · refine ⟨rest.fmod z, rest.fdiv z, c', (fm rest).1, (fm rest).2, ?_⟩
    rw [ea]
    simp [vB, runs, run1, ev, evs, tst, hp, hr, lstAt, setR, hl, hz0, hz3]
  · refine ⟨((((c.fmod 2147483647 * 48271 + i * 69621 + 7).fmod 2147483647) * 16807).fmod 2147483647).fmod z, rest, some (9, .int ((c.fmod 2147483647 * 48271 + i * 69621 + 7).fmod 2147483647)), (fm _).1, (fm _).2, ?_⟩
    rw [ea]
    simp [vB, runs, run1, ev, evs, tst, hp, hr, lstAt, setR, hl, hz0, hz3, m1, m2, m3]
theorem values_ok (c : Int) (n : Nat) (z : Int) (hz : 0 < z) (hz2 : z < 1000000) (hn : n ≤ 1000) : ∃ vs, Drw n z vs ∧ m__law_values [.int c, .int (n : Int), .int z] = .ok (9, .lst (iL vs)) := by
  have hb : inBig (n : Int) = true := by unfold inBig big; simp; omega
  have e0 : env0 3 7 [.int c, .int (n : Int), .int z] = [some (9, .int c), some (9, .int (n : Int)), some (9, .int z), none, none, none, none] := rfl
  have e1 : runs [] [] tT c__law_values (env0 3 7 [.int c, .int (n : Int), .int z]) = (loopF (.nm 5) (runs [] [] tT vB) (runs [] [] tT []) (rng1 0 (n : Int)) [some (9, .int c), some (9, .int (n : Int)), some (9, .int z), some (9, .lst (iL [])), some (9, .int c), none, none]).seq (runs [] [] tT [.retv 3]) := by
    rw [e0]
    unfold c__law_values
    rw [runs_cons, run1_set, show ev [] [] (.list []) _ = R.ok (some 9, D.lst []) from rfl, liftR_ok, needV_some, liftR_ok, setR_of (by simp), seq_nx]
    rw [runs_cons, run1_set, show ev [] [] (.var 0) _ = R.ok (some 9, D.int c) from rfl, liftR_ok, needV_some, liftR_ok, setR_of (by simp), seq_nx]
    rw [runs_cons, run1_for, evI_rng1 (n := (n : Int)) (k := some 9) _ _ _ (by rfl) hb, liftR_ok]
    rfl
  have key : ∃ vs, Drw n z vs ∧ ∃ a b c', loopF (.nm 5) (runs [] [] tT vB) (runs [] [] tT []) (rng1 0 (n : Int)) [some (9, .int c), some (9, .int (n : Int)), some (9, .int z), some (9, .lst (iL [])), some (9, .int c), none, none] = .nx [some (9, .int c), some (9, .int (n : Int)), some (9, .int z), some (9, .lst (iL vs)), a, b, c'] := by
    refine loopF_rule (fun r => ∃ vs, Drw n z vs ∧ ∃ a b c', r = .nx [some (9, .int c), some (9, .int (n : Int)), some (9, .int z), some (9, .lst (iL vs)), a, b, c']) (fun ds ρ => ∃ (vs : List Int) (rest : Int) (b c' : Option (Nat × D)), (∀ v ∈ vs, 0 ≤ v ∧ v < z) ∧ vs.length + ds.length = n ∧ (∀ d ∈ ds, ∃ i : Int, d = .int i) ∧ ρ = [some (9, .int c), some (9, .int (n : Int)), some (9, .int z), some (9, .lst (iL vs)), some (9, .int rest), b, c']) ?_ ?_ _ _ ⟨[], c, none, none, by simp, by rw [rng1_len]; simp, fun d hd => let ⟨i, e, _⟩ := rng1_int hd; ⟨_, e⟩, rfl⟩
    · rintro d ds ρ ⟨vs, rest, b, c', h1, h2, h3, h4⟩
      obtain ⟨i, ei⟩ := h3 d (by simp)
      subst ei; subst h4
      have hl : vs.length < line := by simp at h2; unfold line; omega
      obtain ⟨v, r2, c2, v1, v2, hv⟩ := values_step c n z rest i vs c' hz hz2 hl
      refine ⟨_, by rw [bind_nm, if_pos (by simp)], ?_⟩
      refine (Stp.nx ⟨vs ++ [v], r2, some (9, .int i), c2, ?_, by simp at h2 ⊢; omega, fun d m => h3 d (by simp [m]), rfl⟩).to hv
      intro u hu
      rcases List.mem_append.mp hu with hu | hu
      · exact h1 u hu
      · rw [List.mem_singleton.mp hu]; exact ⟨v1, v2⟩
    · rintro ρ ⟨vs, rest, b, c', h1, h2, h3, h4⟩
      subst h4
      rw [runs_nil]
      exact ⟨vs, ⟨by simpa using h2, h1⟩, some (9, .int rest), b, c', rfl⟩
  obtain ⟨vs, hd, a, b, c', e⟩ := key
  refine ⟨vs, hd, ?_⟩
  unfold m__law_values
  rw [run_of (by rfl), e1, e, seq_nx, runs_cons, run1_retv (k := 9) (d := .lst (iL vs)) (by rfl)]
  rfl
end Q

namespace Q
open PySem PySem.Spec L2 Px TL
section
variable {F : List Fn} {C : List D} {ρ : Px.Env}
theorem dmin9 {α : Type} (f : α → D) : ∀ xs : List α, dmin ((xs.map fun x => ((9 : Nat), f x)).map (·.1)) = 8
  | [] => rfl
  | x :: xs => by show min 9 (dmin ((xs.map fun x => ((9 : Nat), f x)).map (·.1))) = 8; rw [dmin9 f xs]; rfl
theorem listV9 {α : Type} (f : α → D) (xs : List α) (h : xs.length ≤ line) : listV (xs.map fun x => ((9 : Nat), f x)) = .ok (some 9, .lst (xs.map f)) := by
  unfold listV
  rw [if_pos (by simpa using h), dmin9]
  unfold newL
  rw [List.map_map]; rfl
/-- a comprehension over one name -/
theorem ev_comp9 {i : Nat} {it : Ix} {e : Ex} {xs : List D} {f : D → D} (hit : evI F C true it ρ = .ok xs) (hi : i < ρ.length) (hl : xs.length ≤ line) (hx : ∀ d ∈ xs, ev F C e (ρ.set i (some ((kd 0 d).1.getD 0, d))) = .ok (at9 (f d))) :
    ev F C (.comp (.nm i) it [] e) ρ = .ok (some 9, .lst (xs.map f)) := by
  rw [ev, hit, R.bind_ok, compR_map (g := fun d => (9, f d)) (fun d hd => ?_)]
  · rw [noExc_ok', R.bind_ok, listV9 f xs hl]
  · have h1 : wipeE ρ (Pat.nm i).slots = ρ.set i none := rfl
    rw [h1, bind_nm, if_pos (by simpa using hi), R.bind_ok]
    rw [List.set_set, hx d hd]
    simp [tsts]
theorem blsOf_map {α : Type} (p : α → Bool) : ∀ xs : List α, blsOf (xs.map fun x => D.bl (p x)) = some (xs.map p)
  | [] => rfl
  | x :: xs => by
    show (blsOf (xs.map fun x => D.bl (p x))).map (p x :: ·) = _
    rw [blsOf_map p xs]; rfl
theorem all_bls {α : Type} (k : Option Nat) (p : α → Bool) (xs : List α) : biD .all [(k, .lst (xs.map fun x => D.bl (p x)))] = .ok (at9 (.bl (xs.all p))) := by
  show (match blsOf (xs.map fun x => D.bl (p x)) with | some bs => R.ok (at9 (.bl (bs.all id))) | none => .stuck) = _
  rw [blsOf_map]
  simp [List.all_map]
/-- all([.. for c in text]) -/
theorem ev_all {i : Nat} {it : Ix} {e : Ex} {t : List Nat} {p : Nat → Bool} (hit : evI F C true it ρ = .ok (t.map fun c => D.str [c])) (hi : i < ρ.length) (hl : t.length ≤ line) (hx : ∀ c ∈ t, ev F C e (ρ.set i (some (9, .str [c]))) = .ok (at9 (.bl (p c)))) :
    ev F C (.bi .all [.comp (.nm i) it [] e]) ρ = .ok (at9 (.bl (t.all p))) := by
  have h1 := ev_comp9 (f := fun d => match d with | .str [c] => .bl (p c) | d => d) hit hi (by simpa using hl) (fun d hd => by
    obtain ⟨c, hc, e⟩ := List.mem_map.mp hd
    subst e
    exact hx c hc)
  rw [List.map_map] at h1
  rw [ev, evs, h1, R.bind_ok, evs, R.bind_ok]
  exact all_bls (some 9) p t
end
/-! a text is cut -/
def sps (t : List Nat) : List (List Nat) := spl [32] 0 [] t
theorem spl_facts (S : List Nat) : ∀ (l : List Nat) (k : Nat) (acc : List Nat), (spl S k acc l).length ≤ l.length + 1 ∧ ∀ w ∈ spl S k acc l, w.length ≤ acc.length + l.length ∧ ∀ c ∈ w, c ∈ acc ∨ c ∈ l
  | [], k, acc => by
    rw [spl_nil]
    exact ⟨by simp, fun w hw => by rw [List.mem_singleton.mp hw]; exact ⟨by simp, fun c hc => .inl hc⟩⟩
  | c :: r, 0, acc => by
    by_cases h : pre S (c :: r) = true
    · rw [spl_hit h]
      obtain ⟨a, b⟩ := spl_facts S r (S.length - 1) []
      refine ⟨by simp only [List.length_cons]; omega, fun w hw => ?_⟩
      rcases List.mem_cons.mp hw with e | hw
      · rw [e]; exact ⟨by simp, fun c hc => .inl hc⟩
      · obtain ⟨h1, h2⟩ := b w hw
        refine ⟨by simp only [List.length_cons, List.length_nil] at *; omega, fun c hc => ?_⟩
        rcases h2 c hc with z | z
        · cases z
        · exact .inr (by simp [z])
    · rw [spl_miss (by simpa using h)]
      obtain ⟨a, b⟩ := spl_facts S r 0 (acc ++ [c])
      refine ⟨by simp only [List.length_cons]; omega, fun w hw => ?_⟩
      obtain ⟨h1, h2⟩ := b w hw
      refine ⟨by simp only [List.length_cons, List.length_nil, List.length_append] at *; omega, fun d hd => ?_⟩
      rcases h2 d hd with z | z
      · rcases List.mem_append.mp z with z | z
        · exact .inl z
        · exact .inr (by rw [List.mem_singleton.mp z]; simp)
      · exact .inr (by simp [z])
  | c :: r, k + 1, acc => by
    show (spl S k acc r).length ≤ _ ∧ _
    obtain ⟨a, b⟩ := spl_facts S r k acc
    refine ⟨by simp only [List.length_cons]; omega, fun w hw => ?_⟩
    obtain ⟨h1, h2⟩ := b w hw
    exact ⟨by simp only [List.length_cons]; omega, fun d hd => (h2 d hd).imp id fun z => by simp [z]⟩
theorem splS_32 (t : List Nat) : splS t [32] = (sps t).map D.str := by
  unfold splS sps
  have e := split_spl (mkS t) (mkS [32]) (by decide) (kind_ok (by decide +kernel))
  have e2 : tl (mkS [32]) = [32] := rfl
  have e3 : tl (mkS t) = t := by simp [tl, mkS]
  rw [e2, e3] at e
  rw [← e, List.map_map]; rfl
theorem sps_pl {n : Nat} {t : List Nat} (h : Pl n t) : (sps t).length ≤ n + 1 ∧ ∀ w ∈ sps t, Pl n w := by
  obtain ⟨a, b⟩ := spl_facts [32] t 0 []
  have h1 := h.1
  refine ⟨by unfold sps; omega, fun w hw => ⟨?_, fun c hc => ?_⟩⟩
  · have := (b w hw).1; simp at this; omega
  · rcases (b w hw).2 c hc with z | z
    · cases z
    · exact h.2 c z
end Q

namespace Q
open PySem PySem.Spec L2 Px
theorem sidx {c : Nat} (h : lB c = true) : meD .sindex (some 9, .str [97, 65, 98, 66, 99, 67]) [(some 9, .str [c])] = .ok (at9 (.int (rk c))) := by
  rcases l6 h with e | e | e | e | e | e <;> subst e <;> rfl
theorem aidx {c : Nat} (h : lB c = true) : idxD (some 9, .str [65, 97, 66, 98, 67, 99]) (some 9, .int (rk c)) = .ok (at9 (.str [iv c])) := by
  rcases l6 h with e | e | e | e | e | e <;> subst e <;> rfl
theorem linv_ok (t : List Nat) (hl : t.length ≤ line) (ht : t.all lB = true) : m__law_inverse [.str t] = .ok (9, .str (inv t)) := by
  unfold m__law_inverse
  rw [run_of (by rfl)]
  unfold c__law_inverse
  obtain ⟨k, hk⟩ := listV_chs (t.reverse.map iv) (by simpa using hl)
  simp only [runs, run1, evs, ev, evI, env0_of]
  simp only [List.map_cons, List.map_nil, kd_str, Option.getD_some, Nat.reduceSub, List.replicate, List.cons_append, List.nil_append, List.getElem?_cons_succ, List.getElem?_cons_zero, cont_str, R.bind_ok, liftR_ok, Bool.false_eq_true, if_false, rev_s _ _ hl, items_str]
  rw [compR_map (g := fun d => match d with | .str [c] => (9, .str [iv c]) | _ => (9, d)) (fun d hd => ?_)]
  · rw [List.map_map]
    have e : List.map ((fun d => match d with | D.str [c] => ((9 : Nat), D.str [iv c]) | _ => (9, d)) ∘ fun c => D.str [c]) t.reverse = (t.reverse.map iv).map fun c => ((9 : Nat), D.str [c]) := by
      rw [List.map_map]; rfl
    rw [e, noExc_ok', R.bind_ok, hk]
    simp only [R.bind_ok, meOk, if_true, join_chs (t.reverse.map iv) _ (by simpa using hl), liftR_ok, needV_some, seq_ret, fin_ret]
  · obtain ⟨c, hc, e⟩ := List.mem_map.mp hd
    subst e
    have hc : lB c = true := List.all_eq_true.mp ht c (by simpa using hc)
    simp [Pat.slots, wipeE, tsts, sidx hc, aidx hc, meOk]
/-! the law's own reduction -/
def rB3 : List Cm := [.ifs (.and (.cmp .Gt (.bi .len [.var 1]) (.lit (.int 0))) (.cmp .Eq (.idx (.var 1) (.un .USub (.lit (.int 1)))) (.idx (.lit (.str [65, 97, 66, 98, 67, 99])) (.me .sindex (.lit (.str [97, 65, 98, 66, 99, 67])) [.var 2])))) [.pop 1] [.app 1 (.var 2)]]
theorem lred_step (t : List Nat) (st : List Nat) (c : Nat) (hc : lB c = true) (hl : st.length < line) :
    runs [] [] tT rB3 [some (9, .str t), some (9, .lst (chs st)), some (9, .str [c])] = .nx [some (9, .str t), some (9, .lst (chs (stp st c))), some (9, .str [c])] := by
  simp only [rB3, runs, run1, evs, ev, tst]
  rcases List.eq_nil_or_concat st with e | ⟨s, x, e⟩
  · subst e
    simp [lstAt, setR, stp_nil]
  · rw [List.concat_eq_append] at e
    subst e
    have hd : chs (s ++ [x]) = chs s ++ [.str [x]] := by simp [chs]
    have hn : (chs s).length = s.length := by simp [chs]
    have h0 : (0 : Int) < (s.length : Int) + 1 := by omega
    by_cases hx : x = iv c
    · subst hx
      rw [stp_snoc, if_pos rfl, hd]
      simp [sidx hc, aidx hc, meOk, idx_lastS, lstAt, setR, h0]
    · rw [stp_snoc, if_neg hx, hd]
      have hl' : s.length + 1 < line := by simpa using hl
      have he : chs (s ++ [x] ++ [c]) = chs s ++ [.str [x], .str [c]] := by simp [chs]
      simp [sidx hc, aidx hc, meOk, idx_lastS, hx, lstAt, setR, hl', he, hn, h0]
theorem lred_ok (t : List Nat) (hl : t.length ≤ line) (ht : t.all lB = true) : m__law_reduced [.str t] = .ok (9, .str (red t)) := by
  have e1 : runs [] [] tT c__law_reduced (env0 1 3 [.str t]) = (loopF (.nm 2) (runs [] [] tT rB3) (runs [] [] tT []) (chs t) [some (9, .str t), some (9, .lst (chs [])), none]).seq (runs [] [] tT [.ret (.me .join (.lit (.str [])) [.var 1])]) := by
    rw [show env0 1 3 [.str t] = [some (9, .str t), none, none] from rfl]
    unfold c__law_reduced
    rw [runs_cons, run1_set, show ev [] [] (.list []) _ = R.ok (some 9, D.lst []) from rfl, liftR_ok, needV_some, liftR_ok, setR_of (by simp), seq_nx]
    rw [runs_cons, run1_for, show evI [] [] false (.val (.var 0)) _ = R.ok (chs t) from rfl, liftR_ok]
    rfl
  have key : loopF (.nm 2) (runs [] [] tT rB3) (runs [] [] tT []) (chs t) [some (9, .str t), some (9, .lst (chs [])), none] = .nx [some (9, .str t), some (9, .lst (chs (red t))), (chs t).getLast?.map fun d => (9, d)] := by
    refine loopF_rule (fun r => r = .nx [some (9, .str t), some (9, .lst (chs (red t))), (chs t).getLast?.map fun d => (9, d)]) (fun ds ρ => ∃ (u st pre : List Nat), ds = chs u ∧ t = pre ++ u ∧ ρ = [some (9, .str t), some (9, .lst (chs st)), (chs pre).getLast?.map fun d => (9, d)] ∧ u.foldl stp st = red t ∧ u.all lB = true ∧ st.length ≤ pre.length) ?_ ?_ _ _ ⟨t, [], [], rfl, rfl, rfl, rfl, ht, by simp⟩
    · rintro d ds ρ ⟨u, st, pre, e1, e0, e2, e3, e4, e5⟩
      cases u with
      | nil => cases e1
      | cons c u =>
        simp only [chs, List.map_cons, List.cons.injEq] at e1
        obtain ⟨e1, e6⟩ := e1
        subst e1; subst e6; subst e2
        simp only [List.all_cons, Bool.and_eq_true] at e4
        have hlen : st.length < line := by
          have := congrArg List.length e0
          simp at this
          unfold line at *
          omega
        refine ⟨_, by rw [bind_nm, if_pos (by simp)], ?_⟩
        refine (Stp.nx ⟨u, stp st c, pre ++ [c], rfl, by rw [e0]; simp, rfl, e3, e4.2, ?_⟩).to ?_
        · have q := lred_step t st c e4.1 hlen
          rw [show (chs (pre ++ [c])).getLast?.map (fun d => ((9 : Nat), d)) = some (9, .str [c]) by simp [chs]]
          exact q
        · have : (stp st c).length ≤ st.length + 1 := by
            rcases List.eq_nil_or_concat st with e | ⟨s, x, e⟩
            · subst e; simp [stp_nil]
            · rw [List.concat_eq_append] at e
              subst e
              rw [stp_snoc]
              split <;> simp
              omega
          simp only [List.length_append, List.length_cons, List.length_nil]; omega
    · rintro ρ ⟨u, st, pre, e1, e0, e2, e3, e4, e5⟩
      cases u with
      | cons c u => cases e1
      | nil =>
        rw [List.append_nil] at e0
        subst e0
        have e3 : st = red t := e3
        subst e3
        rw [runs_nil, e2]
  have hj := fun k => join_chs (red t) k (Nat.le_trans (red_len t) hl)
  unfold m__law_reduced
  rw [run_of (by rfl), e1, key, seq_nx, runs_cons, run1_ret]
  simp [ev, evs, meOk, hj]
end Q

namespace Q
open PySem PySem.Spec L2 Px
theorem lett {k : Int} (h0 : 0 ≤ k) (h1 : k < 6) : ∃ c, lB c = true ∧ idxD (some 9, .str [97, 65, 98, 66, 99, 67]) (some 9, .int k) = .ok (at9 (.str [c])) := by
  have : k = 0 ∨ k = 1 ∨ k = 2 ∨ k = 3 ∨ k = 4 ∨ k = 5 := by omega
  rcases this with e | e | e | e | e | e <;> subst e
  · exact ⟨97, by decide, rfl⟩
  · exact ⟨65, by decide, rfl⟩
  · exact ⟨98, by decide, rfl⟩
  · exact ⟨66, by decide, rfl⟩
  · exact ⟨99, by decide, rfl⟩
  · exact ⟨67, by decide, rfl⟩
theorem comp_chs {f : D → R (Option (Nat × D))} : ∀ {us : List Int}, (∀ u ∈ us, ∃ c, lB c = true ∧ f (.int u) = .ok (some (9, .str [c]))) → ∃ t : List Nat, t.all lB = true ∧ t.length = us.length ∧ compR f (iL us) = .ok (t.map fun c => ((9 : Nat), D.str [c]))
  | [], _ => ⟨[], rfl, rfl, rfl⟩
  | u :: us, h => by
    obtain ⟨c, hc, e⟩ := h u (by simp)
    obtain ⟨t, h1, h2, h3⟩ := comp_chs (us := us) fun v m => h v (by simp [m])
    refine ⟨c :: t, by simp [hc]; simpa using h1, by simp [h2], ?_⟩
    show compR f (.int u :: iL us) = _
    unfold compR
    rw [e, R.bind_ok, h3]; rfl
theorem cutL_map {α β : Type} (f : α → β) (xs : List α) (lo hi : Option Int) : cutL (xs.map f) lo hi = (cutL xs lo hi).map f := by
  unfold cutL; simp [List.map_take, List.map_drop]
theorem cutL_mem {α : Type} {xs : List α} {lo hi : Option Int} {a : α} (h : a ∈ cutL xs lo hi) : a ∈ xs := List.mem_of_mem_drop (List.mem_of_mem_take h)
theorem iL_cont (vs : List Int) : (iL vs).any D.cont = false := by
  induction vs with
  | nil => rfl
  | cons v vs ih => show (false || (iL vs).any D.cont) = false; rw [ih]; rfl
theorem idx_iL (k : Option Nat) {vs : List Int} {j : Nat} {v : Int} (h : vs[j]? = some v) : idxD (k, .lst (iL vs)) (some 9, .int (j : Int)) = .ok (at9 (.int v)) := by
  show (match atI (iL vs) (j : Int) with | some d => _ | none => _) = _
  rw [atI_nat (j := j) (v := .int v) (by simp [iL, List.getElem?_map, h])]
  rfl
theorem sl_iL (k : Option Nat) (vs : List Int) (lo hi : Option Int) : slD (k, .lst (iL vs)) lo hi = .ok (some 9, .lst (iL (cutL vs lo hi))) := by
  show (do let c ← chd k (iL vs); R.ok (newL c (cutL (iL vs) lo hi))) = _
  rw [ch8 (iL_cont vs), R.bind_ok, cutL_map]; rfl
theorem items_iL (k : Nat) (vs : List Int) : itemsD true (some k, .lst (iL vs)) = .ok (iL vs) := by
  show (if ((some k).isNone && !true) = true then R.stuck else do let _ ← chd (some k) (iL vs); R.ok (iL vs)) = _
  rw [ch8 (iL_cont vs)]; rfl
theorem hev1 (f : Fn) (c g most : Int) (L : List D) (h1 : callD f [at9 (.int c), at9 (.int (most + 1)), at9 (.int 997)] = .ok (kd 9 (.lst L))) : ev [f] [] (.call 0 [.var 0, .bin .Add (.var 2) (.lit (.int 1)), .lit (.int 997)]) [some (9, .int c), some (9, .int g), some (9, .int most), none, none] = .ok (some 9, .lst L) := by
  simp only [ev, evs, List.getElem?_cons_succ, List.getElem?_cons_zero, cont_int, Bool.false_eq_true, if_false, R.bind_ok, add_i, h1, kd_lst]
theorem word_ok (c : Int) (g most : Nat) (hg1 : 1 ≤ g) (hg3 : g ≤ 3) (hm : most ≤ 60) : ∃ t : List Nat, t.all lB = true ∧ t.length ≤ most ∧ m__law_word [.int c, .int (g : Int), .int (most : Int)] = .ok (9, .str t) := by
  obtain ⟨vs, ⟨dl, dv⟩, hv⟩ := values_ok c (most + 1) 997 (by omega) (by omega) (by omega)
  rw [show ((most + 1 : Nat) : Int) = (most : Int) + 1 from by omega] at hv
  cases vs with
  | nil => simp at dl
  | cons v0 vr =>
  have h0 := dv v0 (by simp)
  have hm1 : ((most : Int) + 1) ≠ 0 := by omega
  have hfm := Int.fmod_lt_of_pos v0 (b := (most : Int) + 1) (by omega)
  have hfm0 := Int.fmod_nonneg_of_pos v0 (b := (most : Int) + 1) (by omega)
  have h1 : callD m__law_values [at9 (.int c), at9 (.int ((most : Int) + 1)), at9 (.int 997)] = .ok (kd 9 (.lst (iL (v0 :: vr)))) := callD_ok hv (by simp only [List.map_cons, List.map_nil]) (by simp only [List.any_cons, List.any_nil, Option.isNone_some, Bool.or_false])
  generalize hus : cutL (v0 :: vr) (some 1) (some (1 + v0.fmod ((most : Int) + 1))) = us
  have hlen : us.length ≤ most := by
    rw [← hus]
    unfold cutL HT.sIx
    simp only [List.length_take, List.length_drop]
    have e1 : ¬ (1 : Int) < 0 := by decide
    have e2 : ¬ (1 + v0.fmod ((most : Int) + 1)) < 0 := by omega
    rw [if_neg e1, if_neg e2]
    simp only [List.length_cons] at dl ⊢
    omega
  have hmem : ∀ u ∈ us, 0 ≤ u := fun u hu => by rw [← hus] at hu; exact (dv u (cutL_mem hu)).1
  have hg0 : (2 * (g : Int)) ≠ 0 := by omega
  have hmul : mulOk 2 (g : Int) = true := by simp [mulOk]
  obtain ⟨t, t1, t2, t3⟩ := comp_chs (us := us) (f := fun d => do
      let ρ' ← bindP (.nm 4) d (wipeE [some (9, .int c), some (9, .int (g : Int)), some (9, .int (most : Int)), some (9, .lst (iL (v0 :: vr))), none] (Pat.nm 4).slots)
      let r ← tsts [m__law_values] [] [] ρ'
      if r then do let k ← ev [m__law_values] [] (.idx (.lit (.str [97, 65, 98, 66, 99, 67])) (.bin .Mod (.var 4) (.bin .Mult (.lit (.int 2)) (.var 1)))) ρ'; let k ← needV k; R.ok (some k) else R.ok none) (fun u hu => by
    have q0 := Int.fmod_nonneg_of_pos u (b := 2 * (g : Int)) (by omega)
    have q1 := Int.fmod_lt_of_pos u (b := 2 * (g : Int)) (by omega)
    obtain ⟨ch, c1, c2⟩ := lett q0 (by omega)
    refine ⟨ch, c1, ?_⟩
    simp [Pat.slots, wipeE, tsts, ev, hmul, hg0, c2])
  refine ⟨t, t1, by omega, ?_⟩
  obtain ⟨k, hk⟩ := listV_chs t (by unfold line; omega)
  have hj := fun k => join_chs t k (by unfold line; omega)
  unfold m__law_word
  rw [run_of (by rfl)]
  rw [show env0 3 5 [.int c, .int (g : Int), .int (most : Int)] = [some (9, .int c), some (9, .int (g : Int)), some (9, .int (most : Int)), none, none] from rfl]
  unfold c__law_word
  rw [runs_cons, run1_set]
  have hev : ev [m__law_values] [] (.call 0 [.var 0, .bin .Add (.var 2) (.lit (.int 1)), .lit (.int 997)]) [some (9, .int c), some (9, .int (g : Int)), some (9, .int (most : Int)), none, none] = .ok (some 9, .lst (iL (v0 :: vr))) := hev1 _ c g most _ h1
  rw [hev, liftR_ok, needV_some, liftR_ok, setR_of (by simp), seq_nx, runs_cons, run1_ret]
  simp only [List.set_cons_succ, List.set_cons_zero]
  have hI : evI [m__law_values] [] true (.val (.sl (.var 3) (.yes (.lit (.int 1))) (.yes (.bin .Add (.lit (.int 1)) (.bin .Mod (.idx (.var 3) (.lit (.int 0))) (.bin .Add (.var 2) (.lit (.int 1)))))))) [some (9, .int c), some (9, .int (g : Int)), some (9, .int (most : Int)), some (9, .lst (iL (v0 :: vr))), none] = .ok (iL us) := by
    have i0 : idxD (none, .lst (iL (v0 :: vr))) (at9 (.int 0)) = .ok (at9 (.int v0)) := idx_iL none (j := 0) (vs := v0 :: vr) rfl
    simp only [evI, ev, evO, List.getElem?_cons_succ, List.getElem?_cons_zero, cont_lst, cont_int, R.bind_ok, if_true]
    simp only [show ((9 : Nat) = 0) = False from by simp, if_false, i0, R.bind_ok, add_i, mod_i, Bool.false_eq_true, ne_eq, hm1, not_false_eq_true, if_true, sl_iL, hus, items_iL]
  have hc : ev [m__law_values] [] (.comp (.nm 4) (.val (.sl (.var 3) (.yes (.lit (.int 1))) (.yes (.bin .Add (.lit (.int 1)) (.bin .Mod (.idx (.var 3) (.lit (.int 0))) (.bin .Add (.var 2) (.lit (.int 1)))))))) [] (.idx (.lit (.str [97, 65, 98, 66, 99, 67])) (.bin .Mod (.var 4) (.bin .Mult (.lit (.int 2)) (.var 1))))) [some (9, .int c), some (9, .int (g : Int)), some (9, .int (most : Int)), some (9, .lst (iL (v0 :: vr))), none] = .ok (some k, .lst (chs t)) := by
    rw [ev, hI, R.bind_ok, t3, noExc_ok', R.bind_ok, hk]
  rw [ev, show ev [m__law_values] [] (.lit (.str [])) _ = R.ok (at9 (.str [])) from by rw [ev], R.bind_ok]
  simp only [meOk, if_true, evs, hc, R.bind_ok, hj, liftR_ok, needV_some, seq_ret, fin_ret]
end Q

namespace Q
open PySem PySem.Spec L2 Px
/-! to step through a body -/
section
variable {F : List Fn} {C : List D} {T : Tab} {ρ : Px.Env} {rest : List Cm} {R : R (Nat × D)}
theorem fSet {i k : Nat} {e : Ex} {d : D} (h : ev F C e ρ = .ok (some k, d)) (hi : i < ρ.length) (hr : fin (runs F C T rest (ρ.set i (some (k, d)))) = R) : fin (runs F C T (.set i e :: rest) ρ) = R := by
  rw [runs_cons, run1_set, h, liftR_ok, needV_some, liftR_ok]
  show fin (Rs.seq (setR i k d ρ) _) = R
  unfold setR
  rw [if_pos hi, seq_nx]; exact hr
theorem fExp {e : Ex} {kd : Kd} (h : ev F C e ρ = .ok kd) (hr : fin (runs F C T rest ρ) = R) : fin (runs F C T (.exp e :: rest) ρ) = R := by
  rw [runs_cons]; simp only [run1]; rw [h, liftR_ok, seq_nx]; exact hr
theorem fExpX {e : Ex} {x : String} {p : List (String × Int)} (h : ev F C e ρ = .exc x p) : fin (runs F C T (.exp e :: rest) ρ) = .exc x p := by
  rw [runs_cons]; simp only [run1]; rw [h]; rfl
theorem fNo {c : Tx} {a : List Cm} (h : tst F C c ρ = .ok false) (hr : fin (runs F C T rest ρ) = R) : fin (runs F C T (.ifs c a [] :: rest) ρ) = R := by
  rw [runs_cons, run1_ifs, h, liftR_ok, if_neg Bool.false_ne_true, runs_nil, seq_nx]; exact hr
theorem fIfR {c : Tx} {e : Ex} {b : List Cm} {d : D} {k : Nat} (h : tst F C c ρ = .ok true) (hr : ev F C e ρ = .ok (some k, d)) : fin (runs F C T (.ifs c [.ret e] b :: rest) ρ) = .ok (k, d) := by
  rw [runs_cons, run1_ifs, h, liftR_ok, if_pos rfl, runs_cons, run1_ret, hr]; rfl
theorem fRet {e : Ex} {k : Nat} {d : D} (h : ev F C e ρ = .ok (some k, d)) : fin (runs F C T (.ret e :: rest) ρ) = .ok (k, d) := by
  rw [runs_cons, run1_ret, h]; rfl
theorem fRetX {e : Ex} {x : String} {p : List (String × Int)} (h : ev F C e ρ = .exc x p) : fin (runs F C T (.ret e :: rest) ρ) = .exc x p := by
  rw [runs_cons, run1_ret, h]; rfl
theorem fRetv {i k : Nat} {d : D} (h : ρ[i]? = some (some (k, d))) : fin (runs F C T (.retv i :: rest) ρ) = .ok (k, d) := by
  rw [runs_cons, run1_retv h]; rfl
theorem fRaise {x : String} {c : Tx} {b : List Cm} (h : tst F C c ρ = .ok true) : fin (runs F C T (.ifs c [.raise x] b :: rest) ρ) = .exc x [] := by
  rw [runs_cons, run1_ifs, h, liftR_ok, if_pos rfl]; simp only [runs, run1]; rfl
theorem fRaise' {x : String} : fin (runs F C T (.raise x :: rest) ρ) = .exc x [] := by
  simp only [runs, run1]; rfl
theorem fIf {c : Tx} {a b : List Cm} {t : Bool} {ρ' : Px.Env} (h : tst F C c ρ = .ok t) (h1 : (if t then runs F C T a ρ else runs F C T b ρ) = .nx ρ') (hr : fin (runs F C T rest ρ') = R) : fin (runs F C T (.ifs c a b :: rest) ρ) = R := by
  rw [runs_cons, run1_ifs, h, liftR_ok, h1, seq_nx]; exact hr
end
end Q

namespace Q
open PySem PySem.Spec L2 Px TL
section
variable {F : List Fn} {C : List D} {ρ : Px.Env}
theorem items_iLn (vs : List Int) : itemsD true (none, .lst (iL vs)) = .ok (iL vs) := by
  show (if ((none : Option Nat).isNone && !true) = true then R.stuck else do let _ ← chd none (iL vs); R.ok (iL vs)) = _
  rw [ch8 (iL_cont vs)]; rfl
/-- "".join([.. for v in numbers]) -/
theorem ev_join {i : Nat} {it : Ix} {e : Ex} {vs : List Int} {P : Nat → Prop} (hit : evI F C true it ρ = .ok (iL vs)) (hi : i < ρ.length) (hl : vs.length ≤ line) (hx : ∀ v ∈ vs, ∃ c, P c ∧ ev F C e (ρ.set i (some (9, .int v))) = .ok (at9 (.str [c]))) :
    ∃ t : List Nat, t.length = vs.length ∧ (∀ c ∈ t, P c) ∧ ev F C (.me .join (.lit (.str [])) [.comp (.nm i) it [] e]) ρ = .ok (at9 (.str t)) := by
  have h : ∀ v : Int, ∃ c : Nat, v ∈ vs → P c ∧ ev F C e (ρ.set i (some (9, .int v))) = .ok (at9 (.str [c])) := fun v => by
    by_cases m : v ∈ vs
    · obtain ⟨c, h⟩ := hx v m; exact ⟨c, fun _ => h⟩
    · exact ⟨0, fun z => absurd z m⟩
  obtain ⟨g, hg⟩ := Classical.axiomOfChoice h
  refine ⟨vs.map g, by simp, fun c hc => ?_, ?_⟩
  · obtain ⟨v, hv, e⟩ := List.mem_map.mp hc
    rw [← e]; exact (hg v hv).1
  · have h1 := ev_comp9 (f := fun d => match d with | .int v => .str [g v] | d => d) hit hi (by simpa [iL] using hl) (fun d hd => by
      obtain ⟨v, hv, e⟩ := List.mem_map.mp hd
      subst e
      exact (hg v hv).2)
    rw [iL, List.map_map] at h1
    have h2 := join_chs (vs.map g) (some 9) (by simpa using hl)
    rw [chs, List.map_map] at h2
    rw [ev, show ev F C (.lit (.str [])) ρ = R.ok (at9 (.str [])) from by rw [ev], R.bind_ok]
    simp only [meOk, if_true, evs, h1, R.bind_ok]
    exact h2
/-- [w for w in words if ..] -/
theorem ev_filt {i : Nat} {it : Ix} {cond : Tx} {ws : List (List Nat)} {p : List Nat → Bool} (hit : evI F C true it ρ = .ok (ws.map D.str)) (hi : i < ρ.length) (hl : ws.length ≤ line) (hx : ∀ w ∈ ws, tst F C cond (ρ.set i (some (9, .str w))) = .ok (p w)) :
    ev F C (.comp (.nm i) it [cond] (.var i)) ρ = .ok (some 9, .lst ((ws.filter p).map D.str)) := by
  rw [ev, hit, R.bind_ok, compR_filter (g := fun d => match d with | .str w => if p w = true then some (9, .str w) else none | _ => none) (fun d hd => ?_)]
  · rw [noExc_ok', R.bind_ok]
    have e : (ws.map D.str).filterMap (fun d => match d with | .str w => if p w = true then some ((9 : Nat), D.str w) else none | _ => none) = (ws.filter p).map fun w => ((9 : Nat), D.str w) := by
      clear hit hl hx
      induction ws with
      | nil => rfl
      | cons w ws ih =>
        rw [List.map_cons, List.filterMap_cons, List.filter_cons]
        by_cases h : p w = true
        · simp only [h, if_true]; rw [ih]; rfl
        · simp only [h]; exact ih
    rw [e]
    exact listV9 D.str (ws.filter p) (Nat.le_trans (List.length_filter_le _ _) hl)
  · obtain ⟨w, hw, e⟩ := List.mem_map.mp hd
    subst e
    have h1 : wipeE ρ (Pat.nm i).slots = ρ.set i none := rfl
    rw [h1, bind_nm, if_pos (by simpa using hi), R.bind_ok]
    rw [List.set_set, kd_str]
    simp only [Option.getD_some, tsts, hx w hw, R.bind_ok]
    cases p w with
    | true => simp [tsts, ev, hi]
    | false => simp
theorem strsOf_map : ∀ ws : List (List Nat), strsOf (ws.map D.str) = some ws
  | [] => rfl
  | w :: ws => by show (strsOf (ws.map D.str)).map (w :: ·) = _; rw [strsOf_map ws]; rfl
theorem joinL_facts (s : List Nat) : ∀ ws : List (List Nat), (Px.joinL s ws).length ≤ (ws.map (·.length)).sum + ws.length * s.length ∧ ∀ c ∈ Px.joinL s ws, c ∈ s ∨ ∃ w ∈ ws, c ∈ w
  | [] => ⟨by simp [Px.joinL], fun c h => by simp [Px.joinL] at h⟩
  | [w] => ⟨by simp [Px.joinL], fun c h => .inr ⟨w, by simp, by simpa [Px.joinL] using h⟩⟩
  | w :: v :: ws => by
    obtain ⟨a, b⟩ := joinL_facts s (v :: ws)
    have e : Px.joinL s (w :: v :: ws) = w ++ s ++ Px.joinL s (v :: ws) := rfl
    rw [e]
    refine ⟨?_, fun c hc => ?_⟩
    · simp only [List.length_append, List.map_cons, List.sum_cons, List.length_cons] at a ⊢
      have : (ws.length + 1 + 1) * s.length = (ws.length + 1) * s.length + s.length := by rw [Nat.add_mul, Nat.one_mul]
      omega
    · rcases List.mem_append.mp hc with hc | hc
      · rcases List.mem_append.mp hc with hc | hc
        · exact .inr ⟨w, by simp, hc⟩
        · exact .inl hc
      · exact (b c hc).imp id fun ⟨u, m, hu⟩ => ⟨u, by simp [List.mem_cons.mp m], hu⟩
theorem sum_le {n : Nat} : ∀ ws : List (List Nat), (∀ w ∈ ws, w.length ≤ n) → (ws.map (·.length)).sum ≤ ws.length * n
  | [], _ => by simp
  | w :: ws, h => by
    have h1 := h w (by simp)
    have h2 := sum_le ws fun v m => h v (by simp [m])
    simp only [List.map_cons, List.sum_cons, List.length_cons, Nat.add_mul, Nat.one_mul]
    omega
theorem strs_cont (ws : List (List Nat)) : (ws.map D.str).any D.cont = false := by
  rw [List.any_map]; exact List.any_eq_false.mpr fun y _ => by simp
theorem ev_split {i k : Nat} {t : List Nat} (h : ρ[i]? = some (some (k, .str t))) (hl : t.length + 2 ≤ line) : ev F C (.me .split (.var i) [.lit (.str [32])]) ρ = .ok (some 9, .lst ((sps t).map D.str)) := by
  rw [← splS_32]
  simp only [ev, evs, h, cont_str, Bool.false_eq_true, if_false, R.bind_ok, meOk, if_true]
  show (if _ then _ else _) = _
  rw [if_pos ⟨rfl, hl⟩]; rfl
end
theorem kd_eta (k : Nat) (d : D) : kd k d = ((kd k d).1, d) := by unfold kd; split <;> rfl
end Q

namespace Q
open PySem PySem.Spec L2 Px
/-! the letters of g generators -/
def gn : Nat → Nat
  | 97 => 0 | 65 => 0 | 98 => 1 | 66 => 1 | _ => 2
def lG (g c : Nat) : Bool := lB c && decide (gn c < g)
theorem lG_lB {g : Nat} {t : List Nat} (h : t.all (lG g) = true) : t.all lB = true := by
  rw [List.all_eq_true] at h ⊢
  exact fun c m => (Bool.and_eq_true_iff.mp (h c m)).1
theorem g123 {g : Nat} (h1 : 1 ≤ g) (h3 : g ≤ 3) : g = 1 ∨ g = 2 ∨ g = 3 := by omega
/-- the letters of g generators -/
def Lg (g : Nat) : List Nat := L6.take (2 * g)
theorem lg_lG {g : Nat} (h1 : 1 ≤ g) (h3 : g ≤ 3) (c : Nat) : decide (c ∈ Lg g) = lG g c := by
  have key : ∀ c, lB c = false → lG g c = false ∧ ¬ c ∈ Lg g := fun c h => ⟨by unfold lG; rw [h]; rfl, fun m => by
    have : c ∈ L6 := List.mem_of_mem_take m
    unfold lB at h
    rw [decide_eq_true this] at h; cases h⟩
  cases hb : lB c with
  | false => rw [(key c hb).1, decide_eq_false (key c hb).2]
  | true => rcases g123 h1 h3 with e | e | e <;> subst e <;> rcases l6 hb with e | e | e | e | e | e <;> subst e <;> decide
theorem over_S (S t : List Nat) : m__is_over [.str S, .str t] = .ok (9, .bl (t.all fun c => decide (c ∈ S))) := by
  unfold m__is_over
  rw [run_of (by rfl)]
  unfold c__is_over
  simp only [runs, run1, evI, ev, env0_of]
  simp only [List.map_cons, List.map_nil, kd_str, Option.getD_some, Nat.reduceSub, List.replicate, List.cons_append, List.nil_append, List.getElem?_cons_succ, List.getElem?_cons_zero, cont_str, items_str, R.bind_ok, liftR_ok, Bool.false_eq_true, if_false]
  refine loopF_rule (fun r => fin (r.seq fun ρ => (Rs.ret 9 (D.bl true)).seq fun ρ => .nx ρ) = .ok (9, .bl (t.all fun c => decide (c ∈ S)))) (fun ds ρ => ∃ (u : List Nat) (x : Option (Nat × D)), ds = u.map (fun c => .str [c]) ∧ ρ = [some (9, .str S), some (9, .str t), x] ∧ (t.all fun c => decide (c ∈ S)) = u.all fun c => decide (c ∈ S)) ?_ ?_ _ _ ⟨t, none, rfl, rfl, rfl⟩
  · rintro d ds ρ ⟨u, x, e1, e2, e3⟩
    cases u with
    | nil => cases e1
    | cons c u =>
      simp only [List.map_cons, List.cons.injEq] at e1
      obtain ⟨e1, e4⟩ := e1
      subst e1; subst e4; subst e2
      refine ⟨_, by simp; rfl, ?_⟩
      have hc : inStr [c] S = decide (c ∈ S) := inStr_one S c
      cases h : decide (c ∈ S) with
      | true => exact (Stp.nx ⟨u, some (9, .str [c]), rfl, rfl, by rw [e3, List.all_cons, h]; rfl⟩).to (by simp [runs, run1, ev, tst, hc, h])
      | false => exact (Stp.ret (by rw [e3, List.all_cons, h]; rfl)).to (by simp [runs, run1, ev, tst, hc, h])
  · rintro ρ ⟨u, x, e1, e2, e3⟩
    cases u with
    | nil => rw [e3]; rfl
    | cons c u => cases e1
theorem checkg_ok {g : Nat} (h1 : 1 ≤ g) (h3 : g ≤ 3) : m_check_generators [.int (g : Int)] = .ok (9, .non) := by
  rcases g123 h1 h3 with e | e | e <;> subst e <;> rfl
theorem checkg_0 : m_check_generators [.int 0] = .exc "BadNumber" [] := rfl
theorem checkg_4 : m_check_generators [.int 4] = .exc "BadNumber" [] := rfl
theorem letters_g {g : Nat} (h1 : 1 ≤ g) (h3 : g ≤ 3) : m_letters_of [.int (g : Int)] = .ok (9, .str (Lg g)) := by
  rcases g123 h1 h3 with e | e | e <;> subst e <;> rfl
theorem isword_g {g : Nat} (h1 : 1 ≤ g) (h3 : g ≤ 3) (t : List Nat) : m_is_word [.int (g : Int), .str t] = .ok (9, .bl (t.all (lG g))) := by
  unfold m_is_word
  rw [run_of (by rfl)]
  unfold c_is_word
  have k1 : callD m_letters_of [(some 9, .int (g : Int))] = .ok (at9 (.str (Lg g))) := callD_of (letters_g h1 h3) rfl (fun _ => rfl)
  have k2 : callD m__is_over [(some 9, .str (Lg g)), (some 9, .str t)] = .ok (at9 (.bl (t.all (lG g)))) := callD_of ((over_S (Lg g) t).trans (by rw [show (fun c => decide (c ∈ Lg g)) = lG g from funext fun c => lg_lG h1 h3 c])) rfl (fun _ => rfl)
  simp only [runs, run1, evs, ev, env0_of]
  simp [k1, k2]
theorem lettg {g : Nat} {k : Int} (h1 : 1 ≤ g) (h3 : g ≤ 3) (h0 : 0 ≤ k) (hk : k < 2 * (g : Int)) : ∃ c, lG g c = true ∧ idxD (some 9, .str [97, 65, 98, 66, 99, 67]) (some 9, .int k) = .ok (at9 (.str [c])) := by
  have h6 : k = 0 ∨ k = 1 ∨ k = 2 ∨ k = 3 ∨ k = 4 ∨ k = 5 := by omega
  have q : ∀ c : Nat, lB c = true → (gn c : Int) < g → lG g c = true := fun c hb hg => by
    unfold lG
    rw [hb, decide_eq_true (by omega)]; rfl
  rcases h6 with e | e | e | e | e | e <;> subst e
  · exact ⟨97, q 97 (by decide) (by show (0 : Int) < g; omega), rfl⟩
  · exact ⟨65, q 65 (by decide) (by show (0 : Int) < g; omega), rfl⟩
  · exact ⟨98, q 98 (by decide) (by show (1 : Int) < g; omega), rfl⟩
  · exact ⟨66, q 66 (by decide) (by show (1 : Int) < g; omega), rfl⟩
  · exact ⟨99, q 99 (by decide) (by show (2 : Int) < g; omega), rfl⟩
  · exact ⟨67, q 67 (by decide) (by show (2 : Int) < g; omega), rfl⟩
end Q

namespace Q
open PySem PySem.Spec L2 Px
theorem word_gen {f : Fn} (hf : ∀ (c : Int) (n : Nat), n ≤ 1000 → ∃ vs, Drw n 997 vs ∧ f [.int c, .int (n : Int), .int 997] = .ok (9, .lst (iL vs))) (c : Int) (g most : Nat) (hg1 : 1 ≤ g) (hg3 : g ≤ 3) (hm : most ≤ 60) :
    ∃ t : List Nat, t.all (lG g) = true ∧ t.length ≤ most ∧ runFd [f] [] tT 3 5 c__law_word [.int c, .int (g : Int), .int (most : Int)] = .ok (9, .str t) := by
  obtain ⟨vs, ⟨dl, dv⟩, hv⟩ := hf c (most + 1) (by omega)
  rw [show ((most + 1 : Nat) : Int) = (most : Int) + 1 from by omega] at hv
  cases vs with
  | nil => simp at dl
  | cons v0 vr =>
  have h0 := dv v0 (by simp)
  have hm1 : ((most : Int) + 1) ≠ 0 := by omega
  have hfm := Int.fmod_lt_of_pos v0 (b := (most : Int) + 1) (by omega)
  have hfm0 := Int.fmod_nonneg_of_pos v0 (b := (most : Int) + 1) (by omega)
  have h1 : callD f [(some 9, .int c), (some 9, .int ((most : Int) + 1)), (some 9, .int 997)] = .ok (some 9, .lst (iL (v0 :: vr))) := callD_ok hv rfl rfl
  generalize hus : cutL (v0 :: vr) (some 1) (some (1 + v0.fmod ((most : Int) + 1))) = us
  have hlen : us.length ≤ most := by
    rw [← hus]
    unfold cutL HT.sIx
    simp only [List.length_take, List.length_drop]
    have e1 : ¬ (1 : Int) < 0 := by decide
    have e2 : ¬ (1 + v0.fmod ((most : Int) + 1)) < 0 := by omega
    rw [if_neg e1, if_neg e2]
    simp only [List.length_cons] at dl ⊢
    omega
  have hg0 : (2 * (g : Int)) ≠ 0 := by omega
  have hmul : mulOk 2 (g : Int) = true := by simp [mulOk]
  rw [run_of (by rfl), show env0 3 5 [.int c, .int (g : Int), .int (most : Int)] = [some (9, .int c), some (9, .int (g : Int)), some (9, .int (most : Int)), none, none] from rfl]
  unfold c__law_word
  have e1 : ev [f] [] (.call 0 [.var 0, .bin .Add (.var 2) (.lit (.int 1)), .lit (.int 997)]) [some (9, .int c), some (9, .int (g : Int)), some (9, .int (most : Int)), none, none] = .ok (some 9, .lst (iL (v0 :: vr))) := by simp [ev, evs, h1]
  have hI : evI [f] [] true (.val (.sl (.var 3) (.yes (.lit (.int 1))) (.yes (.bin .Add (.lit (.int 1)) (.bin .Mod (.idx (.var 3) (.lit (.int 0))) (.bin .Add (.var 2) (.lit (.int 1)))))))) [some (9, .int c), some (9, .int (g : Int)), some (9, .int (most : Int)), some (9, .lst (iL (v0 :: vr))), none] = .ok (iL us) := by
    have i0 : idxD (none, .lst (iL (v0 :: vr))) (at9 (.int 0)) = .ok (at9 (.int v0)) := idx_iL none (j := 0) (vs := v0 :: vr) rfl
    simp only [evI, ev, evO, List.getElem?_cons_succ, List.getElem?_cons_zero, cont_lst, cont_int, R.bind_ok, if_true]
    simp only [show ((9 : Nat) = 0) = False from by simp, if_false, i0, R.bind_ok, add_i, mod_i, Bool.false_eq_true, ne_eq, hm1, not_false_eq_true, if_true, sl_iL, hus, items_iL]
  obtain ⟨t, t1, t2, t3⟩ := ev_join (F := [f]) (C := []) (ρ := [some (9, .int c), some (9, .int (g : Int)), some (9, .int (most : Int)), some (9, .lst (iL (v0 :: vr))), none]) (i := 4) (e := .idx (.lit (.str [97, 65, 98, 66, 99, 67])) (.bin .Mod (.var 4) (.bin .Mult (.lit (.int 2)) (.var 1)))) (P := fun c => lG g c = true) hI (by simp) (by unfold line; omega) (fun v hv => by
    have q0 := Int.fmod_nonneg_of_pos v (b := 2 * (g : Int)) (by omega)
    have q1 := Int.fmod_lt_of_pos v (b := 2 * (g : Int)) (by omega)
    obtain ⟨ch, c1, c2⟩ := lettg hg1 hg3 q0 q1
    exact ⟨ch, c1, by simp [ev, hmul, hg0, c2]⟩)
  refine ⟨t, List.all_eq_true.mpr t2, by omega, ?_⟩
  refine fSet e1 (by simp) ?_
  simp only [List.set_cons_succ, List.set_cons_zero]
  exact fRet t3
theorem wordg_ok (c : Int) (g most : Nat) (hg1 : 1 ≤ g) (hg3 : g ≤ 3) (hm : most ≤ 60) : ∃ t : List Nat, t.all (lG g) = true ∧ t.length ≤ most ∧ m__law_word [.int c, .int (g : Int), .int (most : Int)] = .ok (9, .str t) :=
  word_gen (fun c n h => values_ok c n 997 (by decide) (by decide) h) c g most hg1 hg3 hm
end Q

namespace Px
open PySem PySem.Spec L2
/-! what holds of every end, drawn as it may be -/
abbrev Hr {α : Type} (r : R α) (P : α → Prop) : Prop := out r P no
section
variable {α β : Type} {F : List Fn} {C : List D} {T : Tab} {ρ : Env} {rest : List Cm} {P : Nat × D → Prop} {E : String → List (String × Int) → Prop}
theorem Hr.bind {r : R α} {f : α → R β} {P : α → Prop} {Q : β → Prop} (h : Hr r P) (hf : ∀ a, P a → Hr (f a) Q) : Hr (r >>= f) Q := out_bind.mpr (out_mono h hf fun _ _ z => z)
theorem Hr.mono {r : R α} {P Q : α → Prop} (h : Hr r P) (hf : ∀ a, P a → Q a) : Hr r Q := out_mono h hf fun _ _ z => z
theorem Hr.of {r : R α} {a : α} {P : α → Prop} (h : r = .ok a) (p : P a) : Hr r P := by rw [h]; exact p
theorem Hr.ok {a : α} {P : α → Prop} (p : P a) : Hr (.ok a) P := p
theorem Hr.drw {g : Int → R α} {P : α → Prop} (h : ∀ n, 0 ≤ n → n < 1000 → Hr (g n) P) : Hr (.draw g) P := h
/-- .. of every end of statements -/
def All (Q : Rs → Prop) : Rs → Prop
  | .draw f => ∀ n, 0 ≤ n → n < 1000 → All Q (f n)
  | r => Q r
/-- what is due where a body ends -/
def Due (P : Nat × D → Prop) (E : String → List (String × Int) → Prop) (k : Env → Prop) : Rs → Prop
  | .nx ρ => k ρ
  | .ret j d => P (j, d)
  | .exc x p _ => E x p
  | _ => False
theorem all_fin0 {r : Rs} {f : Env → Rs} (h : All (Due P E fun ρ => out (fin (f ρ)) P E) r) : out (fin (r.seq f)) P E := by
  induction r with
  | draw g ih => exact fun n h1 h2 => ih n (h n h1 h2)
  | nx ρ => exact h
  | bk ρ => exact h.elim
  | ct ρ => exact h.elim
  | ret k d => exact h
  | exc x p ρ => exact h
  | stuck => exact h
theorem all_lift0 {r : R α} {f : α → Rs} {Q : Rs → Prop} {P : α → Prop} (h : Hr r P) (hf : ∀ a, P a → All Q (f a)) : All Q (liftR r ρ f) := by
  induction r with
  | ok a => exact hf a h
  | exc x p => exact h.elim
  | stuck => exact h.elim
  | draw g ih => exact fun n h1 h2 => ih n (h n h1 h2)
theorem all_mono0 {r : Rs} {Q Q' : Rs → Prop} (h : All Q r) (hq : ∀ r, Q r → Q' r) : All Q' r := by
  induction r with
  | draw g ih => exact fun n h1 h2 => ih n (h n h1 h2)
  | nx ρ => exact hq _ h
  | bk ρ => exact hq _ h
  | ct ρ => exact hq _ h
  | ret k d => exact hq _ h
  | exc x p ρ => exact hq _ h
  | stuck => exact hq _ h
theorem all_seq0 {r : Rs} {f : Env → Rs} {Q : Rs → Prop} (h : All (fun r => match r with | .nx ρ => All Q (f ρ) | .draw _ => False | r => Q r) r) : All Q (r.seq f) := by
  induction r with
  | draw g ih => exact fun n h1 h2 => ih n (h n h1 h2)
  | nx ρ => exact h
  | bk ρ => exact h
  | ct ρ => exact h
  | ret k d => exact h
  | exc x p ρ => exact h
  | stuck => exact h
theorem all_turn0 {r : Rs} {f : Rs → Rs} {Q : Rs → Prop} {J : Env → Prop} {K : Rs → Prop} (h : All (Stp K J) r) (hf : ∀ r, Stp K J r → All Q (f r)) : All Q (r.turn f) := by
  induction r with
  | draw g ih => exact fun n h1 h2 => ih n (h n h1 h2)
  | nx ρ => exact hf _ h
  | bk ρ => exact hf _ h
  | ct ρ => exact hf _ h
  | ret k d => exact hf _ h
  | exc x p ρ => exact hf _ h
  | stuck => exact hf _ h
theorem loopF_all0 {p : Pat} {body els : Env → Rs} (Q : Rs → Prop) (I : List D → Env → Prop)
    (step : ∀ d ds ρ, I (d :: ds) ρ → ∃ ρ1, bindP p d ρ = .ok ρ1 ∧ All (Stp Q (I ds)) (body ρ1)) (fin : ∀ ρ, I [] ρ → All Q (els ρ)) :
    ∀ (xs : List D) (ρ : Env), I xs ρ → All Q (loopF p body els xs ρ)
  | [], ρ, h => by unfold loopF; exact fin ρ h
  | d :: ds, ρ, h => by
    obtain ⟨ρ1, e, s⟩ := step d ds ρ h
    unfold loopF
    rw [e]
    refine all_turn0 s fun r s => ?_
    cases s with
    | nx h => exact loopF_all0 Q I step fin ds _ h
    | ct h => exact loopF_all0 Q I step fin ds _ h
    | bk h => exact h
    | ret h => exact h
    | exc h => exact h
theorem oFor0 {p : Pat} {it : Ix} {b els : List Cm} {Qx : List D → Prop} (h : Hr (evI F C false it ρ) Qx) (hl : ∀ xs, Qx xs → All (Due P E fun ρ' => out (fin (runs F C T rest ρ')) P E) (loopF p (runs F C T b) (runs F C T els) xs ρ)) : out (fin (runs F C T (.for p it b els :: rest) ρ)) P E := by
  rw [runs_cons, run1_for]
  exact all_fin0 (all_lift0 h hl)
theorem oSet0 {i k : Nat} {e : Ex} {d : D} (h : ev F C e ρ = .ok (some k, d)) (hi : i < ρ.length) (hr : out (fin (runs F C T rest (ρ.set i (some (k, d))))) P E) : out (fin (runs F C T (.set i e :: rest) ρ)) P E := by
  rw [runs_cons, run1_set, h, liftR_ok, needV_some, liftR_ok]
  show out (fin (Rs.seq (setR i k d ρ) _)) P E
  unfold setR
  rw [if_pos hi, seq_nx]; exact hr
/-- a value that may be drawn goes into a slot -/
theorem hSet0 {i : Nat} {e : Ex} {Q : Kd → Prop} (h : Hr (ev F C e ρ) Q) (hi : i < ρ.length) (hr : ∀ a, Q a → ∃ k d, a = (some k, d) ∧ out (fin (runs F C T rest (ρ.set i (some (k, d))))) P E) : out (fin (runs F C T (.set i e :: rest) ρ)) P E := by
  rw [runs_cons, run1_set]
  refine all_fin0 (all_lift0 h fun a q => ?_)
  obtain ⟨k, d, e, o⟩ := hr a q
  subst e
  rw [needV_some, liftR_ok]
  unfold setR
  rw [if_pos hi]
  exact o
theorem oNo0 {c : Tx} {a : List Cm} (h : tst F C c ρ = .ok false) (hr : out (fin (runs F C T rest ρ)) P E) : out (fin (runs F C T (.ifs c a [] :: rest) ρ)) P E := by
  rw [runs_cons, run1_ifs, h, liftR_ok, if_neg Bool.false_ne_true, runs_nil, seq_nx]; exact hr
/-- an if, its block as statements -/
theorem oIfs0 {c : Tx} {a b : List Cm} {t : Bool} (h : tst F C c ρ = .ok t) (hr : All (Due P E fun ρ' => out (fin (runs F C T rest ρ')) P E) (if t then runs F C T a ρ else runs F C T b ρ)) : out (fin (runs F C T (.ifs c a b :: rest) ρ)) P E := by
  rw [runs_cons, run1_ifs, h, liftR_ok]
  exact all_fin0 hr
theorem oRet0 {e : Ex} {k : Nat} {d : D} (h : ev F C e ρ = .ok (some k, d)) (p : P (k, d)) : out (fin (runs F C T (.ret e :: rest) ρ)) P E := by
  rw [runs_cons, run1_ret, h]; exact p
theorem oRetv0 {i k : Nat} {d : D} (h : ρ[i]? = some (some (k, d))) (p : P (k, d)) : out (fin (runs F C T (.retv i :: rest) ρ)) P E := by
  rw [runs_cons, run1_retv h]; exact p
theorem oIfR0 {c : Tx} {e : Ex} {b : List Cm} {d : D} {k : Nat} (h : tst F C c ρ = .ok true) (hr : ev F C e ρ = .ok (some k, d)) (p : P (k, d)) : out (fin (runs F C T (.ifs c [.ret e] b :: rest) ρ)) P E := by
  rw [runs_cons, run1_ifs, h, liftR_ok, if_pos rfl, runs_cons, run1_ret, hr]; exact p
theorem out_run0 {np n : Nat} {code : List Cm} {ds : List D} (h : ds.length = np) (o : out (fin (runs F C T code (env0 np n ds))) P E) : out (runFd F C T np n code ds) P E := by rw [run_of h]; exact o
theorem mSet {i k : Nat} {e : Ex} {d : D} {r : Rs} (h : ev F C e ρ = .ok (some k, d)) (hi : i < ρ.length) (hr : runs F C T rest (ρ.set i (some (k, d))) = r) : runs F C T (.set i e :: rest) ρ = r := by
  rw [runs_cons, run1_set, h, liftR_ok, needV_some, liftR_ok]
  show Rs.seq (setR i k d ρ) _ = r
  unfold setR
  rw [if_pos hi, seq_nx]; exact hr
theorem mIf {c : Tx} {a b : List Cm} {t : Bool} {ρ' : Env} {r : Rs} (h : tst F C c ρ = .ok t) (h1 : (if t then runs F C T a ρ else runs F C T b ρ) = .nx ρ') (hr : runs F C T rest ρ' = r) : runs F C T (.ifs c a b :: rest) ρ = r := by
  rw [runs_cons, run1_ifs, h, liftR_ok, h1, seq_nx]; exact hr
theorem mFor {p : Pat} {it : Ix} {b els : List Cm} {xs : List D} {ρ' : Env} {r : Rs} (h : evI F C false it ρ = .ok xs) (hl : loopF p (runs F C T b) (runs F C T els) xs ρ = .nx ρ') (hr : runs F C T rest ρ' = r) : runs F C T (.for p it b els :: rest) ρ = r := by
  rw [runs_cons, run1_for, h, liftR_ok, hl, seq_nx]; exact hr
theorem aSet0 {i : Nat} {e : Ex} {Q : Kd → Prop} {Z : Rs → Prop} (h : Hr (ev F C e ρ) Q) (hi : i < ρ.length) (hr : ∀ a, Q a → ∃ k d, a = (some k, d) ∧ All Z (runs F C T rest (ρ.set i (some (k, d))))) : All Z (runs F C T (.set i e :: rest) ρ) := by
  rw [runs_cons, run1_set]
  refine all_seq0 (all_lift0 h fun a q => ?_)
  obtain ⟨k, d, e, o⟩ := hr a q
  subst e
  rw [needV_some, liftR_ok]
  unfold setR
  rw [if_pos hi]
  exact o
theorem aApp0 {i j : Nat} {e : Ex} {xs : List D} {Q : Kd → Prop} {Z : Rs → Prop} (hx : ρ[i]? = some (some (j + 1, .lst xs))) (hl : xs.length < line) (h : Hr (ev F C e ρ) Q) (hr : ∀ a, Q a → ∃ k d, a = (some k, d) ∧ All Z (runs F C T rest (ρ.set i (some (min j k + 1, .lst (xs ++ [d])))))) : All Z (runs F C T (.app i e :: rest) ρ) := by
  have hi : i < ρ.length := (List.getElem?_eq_some_iff.mp hx).1
  rw [runs_cons]
  have e1 : run1 F C T (.app i e) ρ = liftR (ev F C e ρ) ρ fun k => liftR (needV k) ρ fun v => if xs.length < line then setR i (min j v.1 + 1) (.lst (xs ++ [v.2])) ρ else .stuck := by
    simp only [run1, lstAt, hx]
  rw [e1]
  refine all_seq0 (all_lift0 h fun a q => ?_)
  obtain ⟨k, d, e, o⟩ := hr a q
  subst e
  rw [needV_some, liftR_ok, if_pos hl]
  unfold setR
  rw [if_pos hi]
  exact o
theorem all_nx0 {Z : Rs → Prop} (h : Z (.nx ρ)) : All Z (.nx ρ) := h
theorem aNil0 {Z : Rs → Prop} (h : Z (.nx ρ)) : All Z (runs F C T [] ρ) := by rw [runs_nil]; exact h
theorem aIf0 {c : Tx} {a b : List Cm} {t : Bool} {Z : Rs → Prop} (h : tst F C c ρ = .ok t) (hr : All (fun r => match r with | .nx ρ' => All Z (runs F C T rest ρ') | .draw _ => False | r => Z r) (if t then runs F C T a ρ else runs F C T b ρ)) : All Z (runs F C T (.ifs c a b :: rest) ρ) := by
  rw [runs_cons, run1_ifs, h, liftR_ok]
  exact all_seq0 hr
theorem aNo0 {c : Tx} {a : List Cm} {Z : Rs → Prop} (h : tst F C c ρ = .ok false) (hr : All Z (runs F C T rest ρ)) : All Z (runs F C T (.ifs c a [] :: rest) ρ) := by
  refine aIf0 h ?_
  rw [if_neg Bool.false_ne_true, runs_nil]
  exact hr
/-- a loop that looks at each item and leaves at the first bad one -/
theorem loop_chk {p : Pat} {body els : Env → Rs} {pd : D → Bool} {k : Nat} {r : D} (I : Env → Prop) : ∀ {xs : List D}, (∀ d ∈ xs, ∀ ρ, I ρ → ∃ ρ1, bindP p d ρ = .ok ρ1 ∧ ((pd d = true ∧ ∃ ρ2, body ρ1 = .nx ρ2 ∧ I ρ2) ∨ (pd d = false ∧ body ρ1 = .ret k r))) →
    ∀ ρ, I ρ → (xs.all pd = true ∧ ∃ ρ2, I ρ2 ∧ loopF p body els xs ρ = els ρ2) ∨ (xs.all pd = false ∧ loopF p body els xs ρ = .ret k r)
  | [], _, ρ, h => .inl ⟨rfl, ρ, h, by unfold loopF; rfl⟩
  | d :: ds, hs, ρ, h => by
    obtain ⟨ρ1, e, q⟩ := hs d (by simp) ρ h
    unfold loopF
    rw [e, List.all_cons]
    rcases q with ⟨q, ρ2, e2, i2⟩ | ⟨q, e2⟩
    · rw [q, Bool.true_and]
      show _ ∨ (_ ∧ (body ρ1).turn _ = _)
      have : (body ρ1).turn (fun r => match r with | .nx ρ' => loopF p body els ds ρ' | .ct ρ' => loopF p body els ds ρ' | .bk ρ' => .nx ρ' | r => r) = loopF p body els ds ρ2 := by rw [e2]; rfl
      rcases loop_chk (els := els) I (xs := ds) (fun d' m => hs d' (List.mem_cons_of_mem _ m)) ρ2 i2 with ⟨a1, ρ3, a2, a3⟩ | ⟨a1, a2⟩
      · exact .inl ⟨a1, ρ3, a2, this.trans a3⟩
      · exact .inr ⟨a1, this.trans a2⟩
    · refine .inr ⟨by rw [q]; rfl, ?_⟩
      show (body ρ1).turn _ = _
      rw [e2]; rfl
/-- a call of a def whose ends are known -/
theorem hd_call0 {f : Fn} {ks : List Kd} {Q : Nat × D → Prop} {Z : Kd → Prop} (h : Hr (f (ks.map (·.2))) Q) (hb : ks.any (fun x => x.1.isNone) = false) (hz : ∀ a, Q a → Z (kd a.1 a.2)) : Hr (callD f ks) Z := by
  unfold callD
  refine Hr.bind h fun a q => ?_
  obtain ⟨k, d⟩ := a
  rw [hb]
  exact hz _ q
end

/-! .. sealed, so that a goal is not run -/
@[irreducible] def Od {α : Type} (r : R α) (P : α → Prop) (E : String → List (String × Int) → Prop) : Prop := out r P E
@[irreducible] def Al (Q : Rs → Prop) (r : Rs) : Prop := All Q r
theorem od {α : Type} {r : R α} {P : α → Prop} {E : String → List (String × Int) → Prop} (h : out r P E) : Od r P E := by unfold Od; exact h
theorem Od.raw {α : Type} {r : R α} {P : α → Prop} {E : String → List (String × Int) → Prop} (h : Od r P E) : out r P E := by unfold Od at h; exact h
theorem al {Q : Rs → Prop} {r : Rs} (h : All Q r) : Al Q r := by unfold Al; exact h
theorem Al.raw {Q : Rs → Prop} {r : Rs} (h : Al Q r) : All Q r := by unfold Al at h; exact h
abbrev Hd {α : Type} (r : R α) (P : α → Prop) : Prop := Od r P no
section
variable {α β : Type} {F : List Fn} {C : List D} {T : Tab} {ρ : Env} {rest : List Cm} {P : Nat × D → Prop} {E : String → List (String × Int) → Prop}
theorem Hd.bind {r : R α} {f : α → R β} {P : α → Prop} {Q : β → Prop} (h : Hd r P) (hf : ∀ a, P a → Hd (f a) Q) : Hd (r >>= f) Q := od (Hr.bind h.raw fun a p => (hf a p).raw)
theorem Hd.mono {r : R α} {P Q : α → Prop} (h : Hd r P) (hf : ∀ a, P a → Q a) : Hd r Q := od (Hr.mono h.raw hf)
theorem Hd.of {r : R α} {a : α} {P : α → Prop} (h : r = .ok a) (p : P a) : Hd r P := od (Hr.of h p)
theorem Hd.ok {a : α} {P : α → Prop} (p : P a) : Hd (.ok a) P := od p
theorem Hd.drw {g : Int → R α} {P : α → Prop} (h : ∀ n, 0 ≤ n → n < 1000 → Hd (g n) P) : Hd (.draw g) P := od fun n h1 h2 => (h n h1 h2).raw
theorem Due.up {k k' : Env → Prop} (hk : ∀ ρ, k ρ → k' ρ) {r : Rs} (h : Due P E k r) : Due P E k' r := by
  cases r with
  | nx ρ => exact hk ρ h
  | bk ρ => exact h
  | ct ρ => exact h
  | ret k d => exact h
  | exc x p ρ => exact h
  | stuck => exact h
  | draw f => exact h
theorem al_mono {r : Rs} {Q Q' : Rs → Prop} (h : Al Q r) (hq : ∀ r, Q r → Q' r) : Al Q' r := al (all_mono0 h.raw hq)
theorem all_fin {r : Rs} {f : Env → Rs} (h : Al (Due P E fun ρ => Od (fin (f ρ)) P E) r) : Od (fin (r.seq f)) P E := od (all_fin0 (all_mono0 h.raw fun r => Due.up fun ρ o => o.raw))
theorem loopF_all {p : Pat} {body els : Env → Rs} (Q : Rs → Prop) (I : List D → Env → Prop)
    (step : ∀ d ds ρ, I (d :: ds) ρ → ∃ ρ1, bindP p d ρ = .ok ρ1 ∧ Al (Stp Q (I ds)) (body ρ1)) (fin : ∀ ρ, I [] ρ → Al Q (els ρ)) (xs : List D) (ρ : Env) (h : I xs ρ) : Al Q (loopF p body els xs ρ) :=
  al (loopF_all0 Q I (fun d ds ρ i => let ⟨ρ1, e, a⟩ := step d ds ρ i; ⟨ρ1, e, a.raw⟩) (fun ρ i => (fin ρ i).raw) xs ρ h)
theorem oFor {p : Pat} {it : Ix} {b els : List Cm} {Qx : List D → Prop} (h : Hd (evI F C false it ρ) Qx) (hl : ∀ xs, Qx xs → Al (Due P E fun ρ' => Od (fin (runs F C T rest ρ')) P E) (loopF p (runs F C T b) (runs F C T els) xs ρ)) : Od (fin (runs F C T (.for p it b els :: rest) ρ)) P E :=
  od (oFor0 h.raw fun xs q => all_mono0 (hl xs q).raw fun r => Due.up fun ρ o => o.raw)
theorem oSet {i k : Nat} {e : Ex} {d : D} (h : ev F C e ρ = .ok (some k, d)) (hi : i < ρ.length) (hr : Od (fin (runs F C T rest (ρ.set i (some (k, d))))) P E) : Od (fin (runs F C T (.set i e :: rest) ρ)) P E := od (oSet0 h hi hr.raw)
theorem hSet {i : Nat} {e : Ex} {Q : Kd → Prop} (h : Hd (ev F C e ρ) Q) (hi : i < ρ.length) (hr : ∀ a, Q a → ∃ k d, a = (some k, d) ∧ Od (fin (runs F C T rest (ρ.set i (some (k, d))))) P E) : Od (fin (runs F C T (.set i e :: rest) ρ)) P E :=
  od (hSet0 h.raw hi fun a q => let ⟨k, d, e, o⟩ := hr a q; ⟨k, d, e, o.raw⟩)
theorem oNo {c : Tx} {a : List Cm} (h : tst F C c ρ = .ok false) (hr : Od (fin (runs F C T rest ρ)) P E) : Od (fin (runs F C T (.ifs c a [] :: rest) ρ)) P E := od (oNo0 h hr.raw)
theorem oIfs {c : Tx} {a b : List Cm} {t : Bool} (h : tst F C c ρ = .ok t) (hr : Al (Due P E fun ρ' => Od (fin (runs F C T rest ρ')) P E) (if t then runs F C T a ρ else runs F C T b ρ)) : Od (fin (runs F C T (.ifs c a b :: rest) ρ)) P E :=
  od (oIfs0 h (all_mono0 hr.raw fun r => Due.up fun ρ o => o.raw))
theorem oRet {e : Ex} {k : Nat} {d : D} (h : ev F C e ρ = .ok (some k, d)) (p : P (k, d)) : Od (fin (runs F C T (.ret e :: rest) ρ)) P E := od (oRet0 h p)
theorem oRetv {i k : Nat} {d : D} (h : ρ[i]? = some (some (k, d))) (p : P (k, d)) : Od (fin (runs F C T (.retv i :: rest) ρ)) P E := od (oRetv0 h p)
theorem oIfR {c : Tx} {e : Ex} {b : List Cm} {d : D} {k : Nat} (h : tst F C c ρ = .ok true) (hr : ev F C e ρ = .ok (some k, d)) (p : P (k, d)) : Od (fin (runs F C T (.ifs c [.ret e] b :: rest) ρ)) P E := od (oIfR0 h hr p)
/-- a value that may be drawn is given back -/
theorem hRet {e : Ex} {Q : Kd → Prop} (h : Hd (ev F C e ρ) Q) (hr : ∀ a, Q a → ∃ k d, a = (some k, d) ∧ P (k, d)) : Od (fin (runs F C T (.ret e :: rest) ρ)) P E := by
  rw [runs_cons, run1_ret]
  refine all_fin (al ?_)
  refine all_lift0 h.raw fun a q => ?_
  obtain ⟨k, d, e, p⟩ := hr a q
  subst e
  exact p
theorem out_run {np n : Nat} {code : List Cm} {ds : List D} (h : ds.length = np) (o : Od (fin (runs F C T code (env0 np n ds))) P E) : Od (runFd F C T np n code ds) P E := od (out_run0 h o.raw)
theorem aSet {i : Nat} {e : Ex} {Q : Kd → Prop} {Z : Rs → Prop} (h : Hd (ev F C e ρ) Q) (hi : i < ρ.length) (hr : ∀ a, Q a → ∃ k d, a = (some k, d) ∧ Al Z (runs F C T rest (ρ.set i (some (k, d))))) : Al Z (runs F C T (.set i e :: rest) ρ) :=
  al (aSet0 h.raw hi fun a q => let ⟨k, d, e, o⟩ := hr a q; ⟨k, d, e, o.raw⟩)
theorem aApp {i j : Nat} {e : Ex} {xs : List D} {Q : Kd → Prop} {Z : Rs → Prop} (hx : ρ[i]? = some (some (j + 1, .lst xs))) (hl : xs.length < line) (h : Hd (ev F C e ρ) Q) (hr : ∀ a, Q a → ∃ k d, a = (some k, d) ∧ Al Z (runs F C T rest (ρ.set i (some (min j k + 1, .lst (xs ++ [d])))))) : Al Z (runs F C T (.app i e :: rest) ρ) :=
  al (aApp0 hx hl h.raw fun a q => let ⟨k, d, e, o⟩ := hr a q; ⟨k, d, e, o.raw⟩)
theorem all_nx {Z : Rs → Prop} (h : Z (.nx ρ)) : Al Z (.nx ρ) := al h
theorem aNil {Z : Rs → Prop} (h : Z (.nx ρ)) : Al Z (runs F C T [] ρ) := al (aNil0 h)
theorem aIf {c : Tx} {a b : List Cm} {t : Bool} {Z : Rs → Prop} (h : tst F C c ρ = .ok t) (hr : Al (fun r => match r with | .nx ρ' => Al Z (runs F C T rest ρ') | .draw _ => False | r => Z r) (if t then runs F C T a ρ else runs F C T b ρ)) : Al Z (runs F C T (.ifs c a b :: rest) ρ) :=
  al (aIf0 h (all_mono0 hr.raw fun r q => by cases r <;> first | exact Al.raw q | exact q))
theorem aNo {c : Tx} {a : List Cm} {Z : Rs → Prop} (h : tst F C c ρ = .ok false) (hr : Al Z (runs F C T rest ρ)) : Al Z (runs F C T (.ifs c a [] :: rest) ρ) := al (aNo0 h hr.raw)
theorem hd_call {f : Fn} {ks : List Kd} {Q : Nat × D → Prop} {Z : Kd → Prop} (h : Hd (f (ks.map (·.2))) Q) (hb : ks.any (fun x => x.1.isNone) = false) (hz : ∀ a, Q a → Z (kd a.1 a.2)) : Hd (callD f ks) Z := od (hd_call0 h.raw hb hz)
theorem all_true {r : R (Nat × D)} (h : Od r (fun a => a.2 = .bl true) no) : AllTrue r := h.raw
end
theorem ev_bin {F : List Fn} {C : List D} (o : Operator) (a b : Ex) (ρ : Env) : ev F C (.bin o a b) ρ = (do let x ← ev F C a ρ; let y ← ev F C b ρ; binD o x y) := by rw [ev]
theorem ev_idx {F : List Fn} {C : List D} (a b : Ex) (ρ : Env) : ev F C (.idx a b) ρ = (do let x ← ev F C a ρ; let y ← ev F C b ρ; idxD x y) := by rw [ev]
theorem ev_bi {F : List Fn} {C : List D} (b : Bi) (es : List Ex) (ρ : Env) : ev F C (.bi b es) ρ = (do let ks ← evs F C es ρ; biD b ks) := by rw [ev]
@[simp] theorem call_next (k : Nat) : callD mNext [(some k, .ext .draws)] = .draw fun n => .ok (at9 (.int n)) := rfl
@[simp] theorem kd_ext (k : Nat) (t : Tk) : kd k (.ext t) = (some 9, .ext t) := rfl
@[simp] theorem cont_ext (t : Tk) : D.cont (.ext t) = false := rfl
end Px

namespace Q
open PySem PySem.Spec L2 Px
section
variable {F : List Fn} {C : List D} {T : Tab} {ρ : Px.Env} {rest : List Cm} {R : R (Nat × D)}
theorem fm_in (n : Int) {z : Int} (h : 0 < z) : 0 ≤ n.fmod z ∧ n.fmod z < z := ⟨Int.fmod_nonneg_of_pos n h, Int.fmod_lt_of_pos n h⟩
theorem b_tp (ps : List Pat) (ds : List D) (ρ : Px.Env) : bindP (.tp ps) (.tup ds) ρ = bindPs ps ds ρ := by rw [bindP]
theorem b_cons (p : Pat) (ps : List Pat) (d : D) (ds : List D) (ρ : Px.Env) : bindPs (p :: ps) (d :: ds) ρ = (bindP p d ρ >>= fun ρ' => bindPs ps ds ρ') := by rw [bindPs]
theorem b_nil (ρ : Px.Env) : bindPs [] [] ρ = .ok ρ := by rw [bindPs]
theorem items_tup (b : Bool) (k : Option Nat) (xs : List D) : itemsD b (k, .tup xs) = .ok xs := rfl
theorem cut_take (s : List Nat) (a : Nat) : cutL s none (some (a : Int)) = s.take a := by
  unfold cutL HT.sIx
  have e : ¬ (a : Int) < 0 := by omega
  simp [e]
theorem cut_drop (s : List Nat) (a : Nat) : cutL s (some (a : Int)) none = s.drop a := by
  unfold cutL HT.sIx
  have e : ¬ (a : Int) < 0 := by omega
  simp [e]
  by_cases h : a ≤ s.length
  · rw [Nat.min_eq_left h]
    exact List.take_of_length_le (by simp)
  · rw [Nat.min_eq_right (by omega), List.drop_length, List.drop_eq_nil_of_le (by omega)]; simp
theorem cut_mid (s : List Nat) (a b : Nat) (h : a ≤ b) : cutL s (some (a : Int)) (some (b : Int)) = (s.drop a).take (b - a) := by
  unfold cutL HT.sIx
  have e : ¬ (a : Int) < 0 := by omega
  have e' : ¬ (b : Int) < 0 := by omega
  simp [e, e']
  by_cases h1 : a ≤ s.length
  · rw [Nat.min_eq_left h1, List.take_eq_take_iff]
    simp; omega
  · rw [show min a s.length = s.length from by omega, List.drop_length, List.drop_eq_nil_of_le (show s.length ≤ a by omega)]; simp
theorem sl_str (s : List Nat) (lo hi : Option Int) (k : Option Nat) (h : s.length ≤ line) : slD (k, .str s) lo hi = .ok (at9 (.str (cutL s lo hi))) := by
  show (if s.length ≤ line then R.ok (at9 (.str (cutL s lo hi))) else .stuck) = _
  rw [if_pos h]
theorem idx_str (w : List Nat) (n : Nat) (k : Option Nat) (h : n < w.length) (hw : w.length ≤ line) : idxD (k, .str w) (some 9, .int (n : Int)) = .ok (at9 (.str [w.getD n 0])) := by
  show (if w.length ≤ line then (match atI w (n : Int) with | some c => R.ok (at9 (.str [c])) | none => .stuck) else .stuck) = _
  rw [if_pos hw, atI_nat (j := n) (v := w.getD n 0) (by rw [List.getD_eq_getElem?_getD, List.getElem?_eq_getElem h]; rfl)]
theorem getD_lB {w : List Nat} (h : w.all lB = true) {n : Nat} (hn : n < w.length) : lB (w.getD n 0) = true := by
  rw [List.getD_eq_getElem?_getD, List.getElem?_eq_getElem hn]
  exact List.all_eq_true.mp h _ (List.getElem_mem hn)
theorem ev_sl {F : List Fn} {C : List D} (a : Ex) (l h : Ox) (ρ : Px.Env) : ev F C (.sl a l h) ρ = (do let x ← ev F C a ρ; let l ← evO F C l ρ; let h ← evO F C h ρ; slD x l h) := by rw [ev]
theorem sl_lo {F : List Fn} {C : List D} {ρ : Px.Env} {w : List Nat} {a : Int} {i j : Nat} (h1 : ρ[i]? = some (some (9, .str w))) (h4 : ρ[j]? = some (some (9, .int a))) (ha : 0 ≤ a) (hl : w.length ≤ line) : ev F C (.sl (.var i) (.no) (.yes (.var j))) ρ = .ok (at9 (.str (w.take a.toNat))) := by
  obtain ⟨n, rfl⟩ := Int.eq_ofNat_of_zero_le ha
  have c := cut_take w n
  simp only [ev, evO, h1, h4, cont_str, cont_int, Bool.false_eq_true, if_false, R.bind_ok]
  rw [sl_str _ _ _ _ hl, c]; rfl
theorem sl_hi {F : List Fn} {C : List D} {ρ : Px.Env} {w : List Nat} {a : Int} {e : Ex} {i : Nat} {k : Option Nat} (h1 : ρ[i]? = some (some (9, .str w))) (h4 : ev F C e ρ = .ok (k, .int a)) (ha : 0 ≤ a) (hl : w.length ≤ line) : ev F C (.sl (.var i) (.yes e) (.no)) ρ = .ok (at9 (.str (w.drop a.toNat))) := by
  obtain ⟨n, rfl⟩ := Int.eq_ofNat_of_zero_le ha
  have c := cut_drop w n
  simp only [ev, evO, h1, h4, cont_str, cont_int, Bool.false_eq_true, if_false, R.bind_ok]
  rw [sl_str _ _ _ _ hl, c]; rfl
theorem sl_mid {F : List Fn} {C : List D} {ρ : Px.Env} {w : List Nat} {a : Int} {n : Nat} {e : Ex} {i j : Nat} {k : Option Nat} (h1 : ρ[i]? = some (some (9, .str w))) (h3 : ρ[j]? = some (some (9, .int a))) (h4 : ev F C e ρ = .ok (k, .int (a + (n : Int)))) (ha : 0 ≤ a) (hl : w.length ≤ line) : ev F C (.sl (.var i) (.yes (.var j)) (.yes e)) ρ = .ok (at9 (.str ((w.drop a.toNat).take n))) := by
  obtain ⟨b, rfl⟩ := Int.eq_ofNat_of_zero_le ha
  have c := cut_mid w b (b + n) (by omega)
  rw [Nat.add_sub_cancel_left, show ((b + n : Nat) : Int) = (b : Int) + (n : Int) from by omega] at c
  simp only [ev, evO, h1, h3, h4, cont_str, cont_int, Bool.false_eq_true, if_false, R.bind_ok]
  rw [sl_str _ _ _ _ hl, c]; rfl
theorem line200 {a : Nat} (h : a ≤ 1000) : a ≤ line := by unfold line; omega
theorem gn_iv {c : Nat} (h : lB c = true) : gn (iv c) = gn c := by
  rcases l6 h with e | e | e | e | e | e <;> subst e <;> rfl
theorem lG_iv {g c : Nat} (h : lG g c = true) : lG g (iv c) = true := by
  unfold lG at h ⊢
  rw [Bool.and_eq_true] at h ⊢
  exact ⟨iv_in h.1, by rw [gn_iv h.1]; exact h.2⟩
theorem lpN {p : Pat} {b e : Px.Env → Rs} {d : D} {ds : List D} {ρ ρ1 ρ2 : Px.Env} (h1 : bindP p d ρ = .ok ρ1) (h2 : b ρ1 = .nx ρ2) : loopF p b e (d :: ds) ρ = loopF p b e ds ρ2 := by
  rw [loopF, h1]
  show (b ρ1).turn _ = _
  rw [h2]; rfl
theorem lpC {p : Pat} {b e : Px.Env → Rs} {d : D} {ds : List D} {ρ ρ1 ρ2 : Px.Env} (h1 : bindP p d ρ = .ok ρ1) (h2 : b ρ1 = .ct ρ2) : loopF p b e (d :: ds) ρ = loopF p b e ds ρ2 := by
  rw [loopF, h1]
  show (b ρ1).turn _ = _
  rw [h2]; rfl
theorem lpX {p : Pat} {b e : Px.Env → Rs} {d : D} {ds : List D} {ρ ρ1 ρ2 : Px.Env} {x : String} {q : List (String × Int)} (h1 : bindP p d ρ = .ok ρ1) (h2 : b ρ1 = .exc x q ρ2) : loopF p b e (d :: ds) ρ = .exc x q ρ2 := by
  rw [loopF, h1]
  show (b ρ1).turn _ = _
  rw [h2]; rfl
theorem lpR {p : Pat} {b e : Px.Env → Rs} {d : D} {ds : List D} {ρ ρ1 : Px.Env} {k : Nat} {r : D} (h1 : bindP p d ρ = .ok ρ1) (h2 : b ρ1 = .ret k r) : loopF p b e (d :: ds) ρ = .ret k r := by
  rw [loopF, h1]
  show (b ρ1).turn _ = _
  rw [h2]; rfl
theorem lp0 {p : Pat} {b e : Px.Env → Rs} (ρ : Px.Env) : loopF p b e [] ρ = e ρ := by rw [loopF]
theorem atI_last {α : Type} (l : List α) (d : α) : atI (l ++ [d]) (-1) = some d := by
  have e : ixN (l ++ [d]).length (-1) = some l.length := by
    unfold ixN
    simp
    omega
  unfold atI
  rw [e]
  show (l ++ [d])[l.length]? = some d
  simp
theorem idx_last (k : Option Nat) (l : List D) {d : D} (hd : d.cont = false) : idxD (k, .lst (l ++ [d])) (at9 (.int (-1))) = .ok (at9 d) := by
  show (match atI (l ++ [d]) (-1) with | some d => _ | none => _) = _
  rw [atI_last]
  show (if d.cont = true then _ else _) = _
  rw [hd]; rfl
theorem ev_last {F : List Fn} {C : List D} {ρ : Px.Env} {i k : Nat} {l : List D} {d : D} (h : ρ[i]? = some (some (k, .lst (l ++ [d])))) (hd : d.cont = false) : ev F C (.idx (.var i) (.un .USub (.lit (.int 1)))) ρ = .ok (at9 d) := by
  have e1 : ∃ kk, ev F C (.var i) ρ = .ok (kk, .lst (l ++ [d])) := by
    simp only [ev, h, cont_lst, if_true]
    by_cases hk : k = 0
    · exact ⟨some 0, by rw [if_pos hk]⟩
    · exact ⟨none, by rw [if_neg hk]⟩
  obtain ⟨kk, e1⟩ := e1
  have e2 : ev F C (.un .USub (.lit (.int 1))) ρ = .ok (at9 (.int (-1))) := by simp [ev]
  rw [ev_idx, e1, e2, R.bind_ok, R.bind_ok]
  exact idx_last _ _ hd
theorem items_nc {xs : List D} (h : xs.any D.cont = false) (b : Bool) (k : Nat) : itemsD b (some k, .lst xs) = .ok xs := by
  unfold itemsD
  simp [chd, h]
theorem run1_of {c : Cm} {ρ' : Px.Env} (h : runs F C T [c] ρ = .nx ρ') : run1 F C T c ρ = .nx ρ' := by
  rw [runs_cons] at h
  generalize run1 F C T c ρ = r at h
  cases r with
  | nx ρ1 => rw [seq_nx, runs_nil] at h; exact h
  | bk ρ => cases h
  | ct ρ => cases h
  | ret k d => cases h
  | exc x p ρ => cases h
  | stuck => cases h
  | draw f => cases h
theorem t_and {a b : Tx} {x y : Bool} (ha : tst F C a ρ = .ok x) (hb : x = true → tst F C b ρ = .ok y) : tst F C (.and a b) ρ = .ok (x && y) := by
  rw [tst, ha, R.bind_ok]
  cases x with
  | true => exact hb rfl
  | false => rfl
theorem t_cmp {o : CmpOp} {a b : Ex} {x y : Kd} (ha : ev F C a ρ = .ok x) (hb : ev F C b ρ = .ok y) : tst F C (.cmp o a b) ρ = cmpD o x y := by
  rw [tst, ha, R.bind_ok, hb, R.bind_ok]
theorem mIf1 {c : Tx} {a b : List Cm} {t : Bool} {r : Rs} (h : tst F C c ρ = .ok t) (h1 : (if t then runs F C T a ρ else runs F C T b ρ) = r) : run1 F C T (.ifs c a b) ρ = r := by
  rw [run1_ifs, h, liftR_ok]; exact h1
theorem rng1_nats (n : Int) : rng1 0 n = (List.range n.toNat).map fun (i : Nat) => D.int (i : Int) := by
  unfold rng1
  simp
theorem callD_bor {f : Fn} {ks : List Kd} {ds : List D} {d : D} {k : Nat} (h : f ds = .ok (k, d)) (hks : ks.map (·.2) = ds) (ho : ownAll k d = true) : callD f ks = .ok (kd k d) := by
  subst hks
  unfold callD
  rw [h, R.bind_ok]
  show (if ((ks.any fun x => x.1.isNone) && !ownAll k d) = true then R.stuck else R.ok (kd k d)) = _
  rw [ho]
  simp
theorem strs_nc (ws : List (List Nat)) : (ws.map D.str).any D.cont = false := by
  rw [List.any_eq_false]
  intro d hd
  obtain ⟨i, _, e⟩ := List.mem_map.mp hd
  rw [← e]; simp
theorem take2 {w : List Nat} {n : Nat} (h : n + 1 < w.length) : (w.drop n).take 2 = [w.getD n 0, w.getD (n + 1) 0] := by
  rw [List.drop_eq_getElem_cons (by omega : n < w.length), List.drop_eq_getElem_cons h, List.take_succ_cons, List.take_succ_cons, List.take_zero]
  simp [List.getD_eq_getElem?_getD, List.getElem?_eq_getElem h, List.getElem?_eq_getElem (by omega : n < w.length)]
theorem fRaiseF {x fl : String} {e : Ex} {n : Int} {k : Option Nat} {c : Tx} {b : List Cm} (h : tst F C c ρ = .ok true) (he : ev F C e ρ = .ok (k, .int n)) : fin (runs F C T (.ifs c [.raiseF x fl e] b :: rest) ρ) = .exc x [(fl, n)] := by
  rw [runs_cons, run1_ifs, h, liftR_ok, if_pos rfl, runs_cons]
  simp only [run1]
  rw [he]; rfl
theorem canLay_of {d : D} (h : shp d = true) : PyData.canLay0 d.py = true := by
  have h : (PyData.canLay0 d.py && decide (d.py.depth ≤ 64)) = true := h
  exact ((Bool.and_eq_true _ _).mp h).1
theorem ne_self {d : D} (k l : Option Nat) (hs : scalB d d = none) (h : shp d = true) : cmpD .NotEq (k, d) (l, d) = .ok false := by
  have e : cmpD .NotEq (k, d) (l, d) = match scalB d d with
    | some r => .ok (!r)
    | none => if shp d && shp d then .ok (!eqD d d) else .stuck := by cases d <;> rfl
  rw [e, hs, h]
  have : eqD d d = true := PySem.SeqAt.eqv_refl _ (canLay_of h)
  rw [this]; rfl
theorem lay_str {w : List Nat} (h : w.all lB = true) : PyData.canLay0 (D.py (.str w)) = true := by
  show (mkS w).cps.all (· < 0x110000) = true
  have e : (mkS w).cps.toList = w := rfl
  rw [← Array.all_toList, e, List.all_eq_true]
  intro c m
  rcases l6 (List.all_eq_true.mp h c m) with e | e | e | e | e | e <;> subst e <;> rfl
theorem eqv_str (a b : List Nat) : PyData.eqv (D.py (.str a)) (D.py (.str b)) = decide (a = b) := by
  show (mkS a == mkS b) = _
  by_cases h : a = b
  · subst h; simp
  · rw [decide_eq_false h]
    exact beq_eq_false_iff_ne.mpr fun e => h (mkS_inj e)
theorem memD_strs (w : List Nat) (ts : List (List Nat)) : memD (.str w) (ts.map D.str) = decide (w ∈ ts) := by
  unfold memD
  rw [List.any_map]
  induction ts with
  | nil => rfl
  | cons t ts ih =>
    rw [List.any_cons, ih]
    show (PyData.eqv (D.py (.str t)) (D.py (.str w)) || _) = _
    rw [eqv_str]
    by_cases h : t = w
    · subst h; simp
    · by_cases h2 : w ∈ ts
      · simp [h, h2]
      · have : ¬ w = t := fun e => h e.symm
        simp [h, h2, this]
theorem rsz_desc (lo : Int) (m : Nat) : Builtin.Range.rangeSize (lo + (m : Int)) lo (-1) = (m : Int) := by
  unfold Builtin.Range.rangeSize
  rw [if_neg (by decide)]
  cases m with
  | zero => rw [if_neg (by simp)]; rfl
  | succ m =>
    rw [if_pos (by omega), show -(-1 : Int) = 1 from rfl, Int.ediv_one]
    omega
theorem rngL_desc (lo : Int) (m : Nat) : rngL (lo + (m : Int)) lo (-1) = ((List.range m).reverse).map fun (q : Nat) => D.int (lo + 1 + (q : Int)) := by
  unfold rngL
  rw [rsz_desc, Int.toNat_natCast]
  apply List.ext_getElem
  · simp
  · intro i h1 h2
    simp only [List.length_map, List.length_range] at h1
    simp only [List.getElem_map, List.getElem_range, List.getElem_reverse, List.length_range]
    congr 1
    omega
theorem fitsL {a : Int} (h : a.natAbs < 100000) : Builtin.Range.rangeFitsLong a = true := by
  unfold Builtin.Range.rangeFitsLong
  simp
  omega
theorem small_desc {lo : Int} (hlo : lo.natAbs ≤ 1) {m : Nat} (hm : m ≤ 1000) : Builtin.Range.small (lo + (m : Int)) lo (-1) = true := by
  unfold Builtin.Range.small
  rw [rsz_desc, fitsL (by omega), fitsL (by omega), fitsL (by decide), fitsL (by omega), if_neg (by decide), fitsL (by omega)]
  simp
theorem evI_desc {F : List Fn} {C : List D} {b : Bool} {x y z : Ex} {ρ : Px.Env} {lo : Int} {m : Nat} {k1 k2 k3 : Option Nat} (h1 : ev F C x ρ = .ok (k1, .int (lo + (m : Int)))) (h2 : ev F C y ρ = .ok (k2, .int lo)) (h3 : ev F C z ρ = .ok (k3, .int (-1))) (hlo : lo.natAbs ≤ 1) (hm : m ≤ 1000) :
    evI F C b (.rng3 x y z) ρ = .ok ((List.range m).reverse.map fun (q : Nat) => D.int (lo + 1 + (q : Int))) := by
  rw [evI, h1, h2, h3, R.bind_ok, R.bind_ok, R.bind_ok]
  show (if (inBig (lo + (m : Int)) && inBig lo && decide ((-1 : Int) ≠ 0) && decide ((-1 : Int).natAbs < 1073741824) && Builtin.Range.small (lo + (m : Int)) lo (-1) && decide (0 ≤ Builtin.Range.rangeSize (lo + (m : Int)) lo (-1))) = true then R.ok (rngL (lo + (m : Int)) lo (-1)) else R.stuck) = _
  rw [small_desc hlo hm, rsz_desc, rngL_desc]
  have i1 : inBig (lo + (m : Int)) = true := by unfold inBig big; simp; omega
  have i2 : inBig lo = true := by unfold inBig big; simp; omega
  rw [i1, i2, if_pos (by simp)]
end
end Q

namespace Q
theorem W60 {n : Nat} (h : n ≤ 200) : n ≤ Px.line := by unfold Px.line; omega
end Q

namespace Q
open PySem PySem.Spec L2 Px
/-! the order of words -/
def ltl : List Nat → List Nat → Bool
  | c :: a, d :: b => if c = d then ltl a b else decide (rk c < rk d)
  | _, _ => false
def slt (a b : List Nat) : Bool := if a.length = b.length then ltl a b else decide (a.length < b.length)
theorem rk_inj {c d : Nat} (hc : lB c = true) (hd : lB d = true) (h : rk c = rk d) : c = d := by
  rcases l6 hc with e | e | e | e | e | e <;> rcases l6 hd with e' | e' | e' | e' | e' | e' <;> subst e <;> subst e' <;> first | rfl | exact absurd h (by decide)
theorem ltl_ints : ∀ {a b : List Nat}, a.all lB = true → b.all lB = true → a.length = b.length → ltl a b = decide (a.map rk < b.map rk)
  | [], [], _, _, _ => by unfold ltl; simp
  | [], _ :: _, _, _, h => by cases h
  | _ :: _, [], _, _, h => by cases h
  | c :: a, d :: b, ha, hb, h => by
    simp only [List.all_cons, Bool.and_eq_true] at ha hb
    simp only [List.length_cons, Nat.add_right_cancel_iff] at h
    unfold ltl
    rw [List.map_cons, List.map_cons]
    by_cases e : c = d
    · subst e
      rw [if_pos rfl, ltl_ints ha.2 hb.2 h]
      exact decide_eq_decide.mpr ⟨fun q => List.cons_lt_cons_iff.mpr (.inr ⟨rfl, q⟩), fun q => by
        rcases List.cons_lt_cons_iff.mp q with q | q
        · exact absurd q (Int.lt_irrefl _)
        · exact q.2⟩
    · rw [if_neg e]
      exact decide_eq_decide.mpr ⟨fun q => List.cons_lt_cons_iff.mpr (.inl q), fun q => by
        rcases List.cons_lt_cons_iff.mp q with q | q
        · exact q
        · exact absurd (rk_inj ha.1 hb.1 q.1) e⟩
/-! the key of a word -/
abbrev rkD (a : List Nat) : List D := a.map fun c => .int (rk c)
theorem rkD_iL (a : List Nat) : rkD a = (a.map rk).map D.int := by rw [List.map_map]; rfl
theorem pys_ints : ∀ zs : List Int, D.pys (zs.map D.int) = zs.map PyData.int
  | [] => rfl
  | z :: zs => by show PyData.int z :: D.pys (zs.map D.int) = _; rw [pys_ints zs]; rfl
theorem keyD_py (n : Int) (a : List Nat) : D.py (.tup [.int n, .tup (rkD a)]) = .tuple [.int n, .tuple ((a.map rk).map PyData.int)] := by
  show PyData.tuple [.int n, .tuple (D.pys (rkD a))] = _
  rw [rkD_iL, pys_ints]
theorem lay_ints : ∀ zs : List Int, PyData.canLayAll0 (zs.map PyData.int) = true ∧ PyData.depthAll (zs.map PyData.int) = 0
  | [] => ⟨rfl, rfl⟩
  | z :: zs => by
    obtain ⟨a, b⟩ := lay_ints zs
    refine ⟨?_, ?_⟩
    · show (true && PyData.canLayAll0 (zs.map PyData.int)) = true
      rw [a]; rfl
    · show max 0 (PyData.depthAll (zs.map PyData.int)) = 0
      rw [b]; rfl
theorem shp_key (n : Int) (a : List Nat) : shp (.tup [.int n, .tup (rkD a)]) = true := by
  show (PyData.canLay0 (D.py (.tup [.int n, .tup (rkD a)])) && decide ((D.py (.tup [.int n, .tup (rkD a)])).depth ≤ 64)) = true
  rw [keyD_py]
  obtain ⟨h1, h2⟩ := lay_ints (a.map rk)
  show ((true && (PyData.canLayAll0 ((a.map rk).map PyData.int) && true)) && decide (max 0 (max (PyData.depthAll ((a.map rk).map PyData.int) + 1) 0) + 1 ≤ 64)) = true
  rw [h1, h2]; rfl
theorem lt_key {a b : List Nat} (ha : a.all lB = true) (hb : b.all lB = true) (k l : Option Nat) : cmpD .Lt (k, .tup [.int a.length, .tup (rkD a)]) (l, .tup [.int b.length, .tup (rkD b)]) = .ok (slt a b) := by
  have al : PySem.W.alike (.tuple ((a.map rk).map PyData.int)) (.tuple ((b.map rk).map PyData.int)) = true := by
    rw [PySem.W.alike]; exact PySem.W.alike_ints _ _
  have a0 : PySem.W.alike (.int (a.length : Int)) (.int (b.length : Int)) = true := by simp [PySem.W.alike]
  show (if ltOk (.tup [.int a.length, .tup (rkD a)]) (.tup [.int b.length, .tup (rkD b)]) = true then R.ok (ltD (.tup [.int a.length, .tup (rkD a)]) (.tup [.int b.length, .tup (rkD b)])) else .stuck) = _
  have e1 : ltOk (.tup [.int a.length, .tup (rkD a)]) (.tup [.int b.length, .tup (rkD b)]) = true := by
    unfold ltOk
    rw [shp_key, shp_key, keyD_py, keyD_py, PySem.W.alike, PySem.W.alikeAll, PySem.W.alikeAll, a0, al]; simp [PySem.W.alikeAll]
  rw [e1, if_pos rfl]
  unfold ltD slt
  rw [keyD_py, keyD_py, PySem.W.dataLt_pair a0 al]
  by_cases h : a.length = b.length
  · rw [if_pos h, ltl_ints ha hb h]
    have e : PyData.eqv (.int (a.length : Int)) (.int (b.length : Int)) = true := by simp [PyData.eqv, h]
    rw [e, if_pos rfl]
    have dl : PySem.W.dataLt (.tuple ((a.map rk).map PyData.int)) (.tuple ((b.map rk).map PyData.int)) = decide (a.map rk < b.map rk) := by
      rw [PySem.W.dataLt_tuple]; exact PySem.W.dataLt_ints _ _
    rw [dl]
    by_cases q : PyData.eqv (.tuple ((a.map rk).map PyData.int)) (.tuple ((b.map rk).map PyData.int)) = true
    · rw [if_pos q]
      have : a.map rk = b.map rk := by
        have q : PyData.eqvAll ((a.map rk).map PyData.int) ((b.map rk).map PyData.int) = true := by
          rw [PyData.eqv] at q; exact q
        revert q
        generalize a.map rk = xs
        generalize b.map rk = ys
        intro q
        induction xs generalizing ys with
        | nil => cases ys with
          | nil => rfl
          | cons y ys => simp [PyData.eqvAll] at q
        | cons x xs ih => cases ys with
          | nil => simp [PyData.eqvAll] at q
          | cons y ys =>
            simp [PyData.eqvAll, PyData.eqv] at q
            rw [q.1, ih ys q.2]
      rw [this, decide_eq_false (List.lt_irrefl _)]
    · rw [if_neg q]
  · rw [if_neg h]
    have e : PyData.eqv (.int (a.length : Int)) (.int (b.length : Int)) = false := by simp [PyData.eqv]; omega
    rw [e, if_neg Bool.false_ne_true, PySem.W.dataLt_int]
    congr 1
    exact decide_eq_decide.mpr (by omega)
theorem listV_ints (a : List Nat) (h : a.length ≤ line) : listV (a.map fun c => ((9 : Nat), D.int (rk c))) = .ok (some 9, .lst (rkD a)) := by
  unfold listV
  rw [if_pos (by simpa using h)]
  have e : dmin ((a.map fun c => ((9 : Nat), D.int (rk c))).map (·.1)) = 8 := by
    induction a with
    | nil => rfl
    | cons c a ih => rw [List.map_cons, List.map_cons, dmin, ih (by simp at h; omega)]; rfl
  rw [e]
  simp [newL, rkD, Function.comp_def]
theorem nc_ints (a : List Nat) : (rkD a).any D.cont = false := by
  rw [List.any_eq_false]
  intro d hd
  obtain ⟨i, _, e⟩ := List.mem_map.mp hd
  rw [← e]; simp
theorem key_gen {f : Fn} (hf : ∀ c, lB c = true → callD f [(some 9, .str [c])] = .ok (at9 (.int (rk c)))) {a : List Nat} (ha : a.all lB = true) (hl : a.length ≤ line) : runFd [f] [] tT 1 2 c_shortlex_key [.str a] = .ok (9, .tup [.int a.length, .tup (rkD a)]) := by
  rw [run_of (by rfl), show env0 1 2 [.str a] = [some (9, .str a), none] from rfl]
  unfold c_shortlex_key
  have e1 : ev [f] [] (.bi .tuple [.comp (.nm 1) (.val (.var 0)) [] (.call 0 [.var 1])]) [some (9, .str a), none] = .ok (at9 (.tup (rkD a))) := by
    rw [ev_bi]
    have e0 : ev [f] [] (.comp (.nm 1) (.val (.var 0)) [] (.call 0 [.var 1])) [some (9, .str a), none] = .ok (some 9, .lst (rkD a)) := by
      simp only [ev, evI, List.getElem?_cons_zero, cont_str, Bool.false_eq_true, if_false, R.bind_ok, items_str]
      rw [compR_map (g := fun d => match d with | .str [c] => (9, .int (rk c)) | _ => (9, d)) (fun d hd => ?_)]
      · rw [List.map_map]
        have e : List.map ((fun d => match d with | D.str [c] => ((9 : Nat), D.int (rk c)) | _ => (9, d)) ∘ fun c => D.str [c]) a = a.map fun c => ((9 : Nat), D.int (rk c)) := rfl
        rw [e, noExc_ok', R.bind_ok, listV_ints a hl]
      · obtain ⟨c, hc, e⟩ := List.mem_map.mp hd
        subst e
        have h1 := hf c (List.all_eq_true.mp ha c hc)
        simp [Pat.slots, wipeE, tsts, evs, ev, h1]
    simp only [evs, e0, R.bind_ok]
    show (do let _ ← chd (some 9) (rkD a); R.ok (at9 (.tup (rkD a)))) = _
    unfold chd
    rw [nc_ints]; rfl
  refine fRet ?_
  have e2 : ev [f] [] (.bi .len [.var 0]) [some (9, .str a), none] = .ok (at9 (.int a.length)) := by simp [ev, evs, hl]
  rw [ev]
  simp only [evs, e1, e2, R.bind_ok]
  rfl
theorem key_ok {a : List Nat} (ha : a.all lB = true) (hl : a.length ≤ line) : m_shortlex_key [.str a] = .ok (9, .tup [.int a.length, .tup (rkD a)]) := key_gen (fun c h => callD_of (rank_ok h) rfl (fun _ => rfl)) ha hl
end Q

namespace Px
open PySem PySem.Spec L2
/-! stepping by simplification -/
section
section
@[simp] theorem add_t (k l : Option Nat) (a b : List D) : binD .Add (k, .tup a) (l, .tup b) = if a.length + b.length ≤ line then .ok (at9 (.tup (a ++ b))) else .stuck := rfl
@[simp] theorem is_n (k l : Option Nat) (a : D) : cmpD .Is (k, a) (l, .non) = .ok (isNonD a) := by cases a <;> rfl
@[simp] theorem isnot_n (k l : Option Nat) (a : D) : cmpD .IsNot (k, a) (l, .non) = .ok (!isNonD a) := by cases a <;> rfl
@[simp] theorem nn_non : isNonD .non = true := rfl
@[simp] theorem nn_int (i : Int) : isNonD (.int i) = false := rfl
@[simp] theorem nn_str (i : List Nat) : isNonD (.str i) = false := rfl
@[simp] theorem nn_tup (i : List D) : isNonD (.tup i) = false := rfl
@[simp] theorem nn_lst (i : List D) : isNonD (.lst i) = false := rfl
theorem slT_lo (k : Option Nat) (xs : List D) (i : Nat) : slD (k, .tup xs) none (some (i : Int)) = .ok (at9 (.tup (xs.take i))) := by
  show R.ok (at9 (.tup (cutL xs none (some (i : Int))))) = _
  have e : cutL xs none (some (i : Int)) = xs.take i := by
    unfold cutL HT.sIx
    have e : ¬ (i : Int) < 0 := by omega
    simp [e]
  rw [e]
theorem slT_hi (k : Option Nat) (xs : List D) (i : Nat) : slD (k, .tup xs) (some (i : Int)) none = .ok (at9 (.tup (xs.drop i))) := by
  show R.ok (at9 (.tup (cutL xs (some (i : Int)) none))) = _
  have e : cutL xs (some (i : Int)) none = xs.drop i := by
    unfold cutL HT.sIx
    have e : ¬ (i : Int) < 0 := by omega
    simp [e]
    by_cases h : i ≤ xs.length
    · rw [Nat.min_eq_left h]
      exact List.take_of_length_le (by simp)
    · rw [Nat.min_eq_right (by omega), List.drop_length, List.drop_eq_nil_of_le (by omega)]; simp
  rw [e]
theorem cutN_lo {α : Type} (s : List α) (i : Nat) : cutL s none (some (i : Int)) = s.take i := by
  unfold cutL HT.sIx
  have e : ¬ (i : Int) < 0 := by omega
  simp [e]
theorem cutN_hi {α : Type} (s : List α) (i : Nat) : cutL s (some (i : Int)) none = s.drop i := by
  unfold cutL HT.sIx
  have e : ¬ (i : Int) < 0 := by omega
  simp [e]
  by_cases h : i ≤ s.length
  · rw [Nat.min_eq_left h]
    exact List.take_of_length_le (by simp)
  · rw [Nat.min_eq_right (by omega), List.drop_length, List.drop_eq_nil_of_le (by omega)]; simp
theorem cutN_mid {α : Type} (s : List α) (i n : Nat) : cutL s (some (i : Int)) (some ((i : Int) + (n : Int))) = (s.drop i).take n := by
  unfold cutL HT.sIx
  have e : ¬ (i : Int) < 0 := by omega
  have e' : ¬ ((i : Int) + (n : Int)) < 0 := by omega
  simp [e, e']
  by_cases h1 : i ≤ s.length
  · rw [Nat.min_eq_left h1, List.take_eq_take_iff]
    simp; omega
  · rw [show min i s.length = s.length from by omega, List.drop_length, List.drop_eq_nil_of_le (show s.length ≤ i by omega)]; simp
theorem slS_lo {k : Option Nat} {s : List Nat} {z : Int} (i : Nat) (hz : z = (i : Int)) (h : s.length ≤ line) : slD (k, .str s) none (some z) = .ok (some 9, .str (s.take i)) := by
  subst hz
  show (if s.length ≤ line then R.ok (at9 (.str (cutL s none (some (i : Int))))) else .stuck) = _
  rw [if_pos h, cutN_lo]
theorem slS_hi {k : Option Nat} {s : List Nat} {z : Int} (i : Nat) (hz : z = (i : Int)) (h : s.length ≤ line) : slD (k, .str s) (some z) none = .ok (some 9, .str (s.drop i)) := by
  subst hz
  show (if s.length ≤ line then R.ok (at9 (.str (cutL s (some (i : Int)) none))) else .stuck) = _
  rw [if_pos h, cutN_hi]
theorem slS_mid {k : Option Nat} {s : List Nat} {z y : Int} (i n : Nat) (hz : z = (i : Int)) (hy : y = (i : Int) + (n : Int)) (h : s.length ≤ line) : slD (k, .str s) (some z) (some y) = .ok (some 9, .str ((s.drop i).take n)) := by
  subst hz; subst hy
  show (if s.length ≤ line then R.ok (at9 (.str (cutL s (some (i : Int)) (some ((i : Int) + (n : Int)))))) else .stuck) = _
  rw [if_pos h, cutN_mid]
@[simp] theorem tupD2 (a b : D) : tupD [(some 9, a), (some 9, b)] = .ok (at9 (.tup [a, b])) := rfl
@[simp] theorem tupD1 (a : D) : tupD [(some 9, a)] = .ok (at9 (.tup [a])) := rfl
@[simp] theorem tupD3 (a b c : D) : tupD [(some 9, a), (some 9, b), (some 9, c)] = .ok (at9 (.tup [a, b, c])) := rfl
@[simp] theorem tupD4 (a b c d : D) : tupD [(some 9, a), (some 9, b), (some 9, c), (some 9, d)] = .ok (at9 (.tup [a, b, c, d])) := rfl
@[simp] theorem tupD0 : tupD [] = .ok (at9 (.tup [])) := rfl
end
variable {α β : Type} {F : List Fn} {C : List D} {T : Tab} {ρ : Env} {rest : List Cm} {P : Nat × D → Prop} {E : String → List (String × Int) → Prop}
@[simp] theorem bind_draw (g : Int → R α) (f : α → R β) : (R.draw g >>= f) = R.draw fun n => g n >>= f := rfl
@[simp] theorem bind_assocR {γ : Type} (r : R α) (f : α → R β) (g : β → R γ) : ((r >>= f) >>= g) = (r >>= fun a => f a >>= g) := by
  induction r with
  | draw k ih =>
    show (R.draw fun n => ((k n >>= f) >>= g)) = R.draw fun n => (k n >>= fun a => f a >>= g)
    congr 1
    funext n; exact ih n
  | ok a => rfl
  | exc x p => rfl
  | stuck => rfl
@[simp] theorem bind_exc (x : String) (p : List (String × Int)) (f : α → R β) : (R.exc x p >>= f) = R.exc x p := rfl
@[simp] theorem liftR_draw (g : Int → R α) (f : α → Rs) : liftR (.draw g) ρ f = .draw fun n => liftR (g n) ρ f := rfl
@[simp] theorem seq_draw (g : Int → Rs) (f : Env → Rs) : (Rs.draw g).seq f = .draw fun n => (g n).seq f := rfl
@[simp] theorem fin_draw (g : Int → Rs) : fin (.draw g) = .draw fun n => fin (g n) := rfl
/-! .. not told as unfolding, so that the kernel does not run what follows -/
theorem sq_nx (f : Env → Rs) : (Rs.nx ρ).seq f = f ρ := id rfl
theorem sq_draw (g : Int → Rs) (f : Env → Rs) : (Rs.draw g).seq f = .draw fun n => (g n).seq f := id rfl
theorem fn_draw (g : Int → Rs) : fin (.draw g) = .draw fun n => fin (g n) := id rfl
theorem sq_ret (k : Nat) (d : D) (f : Env → Rs) : (Rs.ret k d).seq f = .ret k d := id rfl
theorem fn_ret (k : Nat) (d : D) : fin (.ret k d) = .ok (k, d) := id rfl
theorem sq_exc (x : String) (p : List (String × Int)) (f : Env → Rs) : (Rs.exc x p ρ).seq f = .exc x p ρ := id rfl
theorem fn_exc (x : String) (p : List (String × Int)) : fin (.exc x p ρ) = .exc x p := id rfl
theorem sq_bk (f : Env → Rs) : (Rs.bk ρ).seq f = .bk ρ := id rfl
theorem sq_ct (f : Env → Rs) : (Rs.ct ρ).seq f = .ct ρ := id rfl
theorem lf_ok (a : α) (f : α → Rs) : liftR (.ok a) ρ f = f a := id rfl
theorem lf_draw (g : Int → R α) (f : α → Rs) : liftR (.draw g) ρ f = .draw fun n => liftR (g n) ρ f := id rfl
theorem seq_assoc (r : Rs) (f g : Env → Rs) : (r.seq f).seq g = r.seq fun ρ => (f ρ).seq g := by
  induction r with
  | draw h ih => simp only [seq_draw, ih]
  | nx ρ => rfl
  | bk ρ => rfl
  | ct ρ => rfl
  | ret k d => rfl
  | exc x p ρ => rfl
  | stuck => rfl
theorem runs_app (a b : List Cm) (ρ : Env) : runs F C T (a ++ b) ρ = (runs F C T a ρ).seq (runs F C T b) := by
  induction a generalizing ρ with
  | nil => rw [runs_nil]; rfl
  | cons c a ih =>
    rw [List.cons_append, runs_cons, runs_cons, seq_assoc]
    congr 1
    funext ρ; exact ih ρ
theorem sx_step {c : Cm} {r : Rs} (h : run1 F C T c ρ = r) (h2 : Od (fin (r.seq (runs F C T rest))) P E) : Od (fin (runs F C T (c :: rest) ρ)) P E := by
  rw [runs_cons, h]; exact h2
theorem sx_if {c : Tx} {a b : List Cm} {t : Bool} (h : tst F C c ρ = .ok t) (h2 : Od (fin (runs F C T (if t then a ++ rest else b ++ rest) ρ)) P E) : Od (fin (runs F C T (.ifs c a b :: rest) ρ)) P E := by
  rw [runs_cons, run1_ifs, h, liftR_ok]
  cases t
  · rw [if_neg Bool.false_ne_true] at h2 ⊢
    rw [runs_app] at h2; exact h2
  · rw [if_pos rfl] at h2 ⊢
    rw [runs_app] at h2; exact h2
theorem sx_draw {f : Int → R α} {P : α → Prop} (h : ∀ n, 0 ≤ n → n < 1000 → Od (f n) P E) : Od (R.draw f) P E := od fun n a b => (h n a b).raw
theorem sx_bind {r : R α} {f : α → R β} {Q : α → Prop} {P : β → Prop} (h : Hd r Q) (hf : ∀ a, Q a → Od (f a) P E) : Od (r >>= f) P E := od (out_bind.mpr (out_mono h.raw (fun a q => (hf a q).raw) fun _ _ z => z.elim))
theorem sx_lift {r : R α} {f : α → Rs} {g : Env → Rs} {Q : α → Prop} (h : Hd r Q) (hf : ∀ a, Q a → Od (fin ((f a).seq g)) P E) : Od (fin ((liftR r ρ f).seq g)) P E := by
  refine od ?_
  have h := h.raw
  revert h
  induction r with
  | ok a => exact fun h => (hf a h).raw
  | exc x p => exact fun h => h.elim
  | stuck => exact fun h => h.elim
  | draw k ih => exact fun h n h1 h2 => ih n (od (h n h1 h2)) (h n h1 h2)
theorem sx_liftb {γ : Type} {r : R γ} {f0 : γ → R α} {f : α → Rs} {g : Env → Rs} {Q : γ → Prop} (h : Hd r Q) (hf : ∀ a, Q a → Od (fin ((liftR (f0 a) ρ f).seq g)) P E) : Od (fin ((liftR (r >>= f0) ρ f).seq g)) P E := by
  refine od ?_
  have h := h.raw
  revert h
  induction r with
  | ok a => exact fun h => (hf a h).raw
  | exc x p => exact fun h => h.elim
  | stuck => exact fun h => h.elim
  | draw k ih => exact fun h n h1 h2 => ih n (od (h n h1 h2)) (h n h1 h2)
theorem sx_nil (h : P (9, .non)) : Od (fin (runs F C T [] ρ)) P E := by rw [runs_nil]; exact od h
theorem ax_step {c : Cm} {r : Rs} {Z : Rs → Prop} (h : run1 F C T c ρ = r) (h2 : Al Z (r.seq (runs F C T rest))) : Al Z (runs F C T (c :: rest) ρ) := by
  rw [runs_cons, h]; exact h2
theorem ax_if {c : Tx} {a b : List Cm} {t : Bool} {Z : Rs → Prop} (h : tst F C c ρ = .ok t) (h2 : Al Z (runs F C T (if t then a ++ rest else b ++ rest) ρ)) : Al Z (runs F C T (.ifs c a b :: rest) ρ) := by
  rw [runs_cons, run1_ifs, h, liftR_ok]
  cases t
  · rw [if_neg Bool.false_ne_true] at h2 ⊢
    rw [runs_app] at h2; exact h2
  · rw [if_pos rfl] at h2 ⊢
    rw [runs_app] at h2; exact h2
theorem ax_draw {f : Int → Rs} {Z : Rs → Prop} (h : ∀ n, 0 ≤ n → n < 1000 → Al Z (f n)) : Al Z (.draw f) := al fun n a b => (h n a b).raw
theorem ax_lift {r : R α} {f : α → Rs} {g : Env → Rs} {Q : α → Prop} {Z : Rs → Prop} (h : Hd r Q) (hf : ∀ a, Q a → Al Z ((f a).seq g)) : Al Z ((liftR r ρ f).seq g) := by
  refine al ?_
  have h := h.raw
  revert h
  induction r with
  | ok a => exact fun h => (hf a h).raw
  | exc x p => exact fun h => h.elim
  | stuck => exact fun h => h.elim
  | draw k ih => exact fun h n h1 h2 => ih n (od (h n h1 h2)) (h n h1 h2)
theorem ax_liftb {γ : Type} {r : R γ} {f0 : γ → R α} {f : α → Rs} {g : Env → Rs} {Q : γ → Prop} {Z : Rs → Prop} (h : Hd r Q) (hf : ∀ a, Q a → Al Z ((liftR (f0 a) ρ f).seq g)) : Al Z ((liftR (r >>= f0) ρ f).seq g) := by
  refine al ?_
  have h := h.raw
  revert h
  induction r with
  | ok a => exact fun h => (hf a h).raw
  | exc x p => exact fun h => h.elim
  | stuck => exact fun h => h.elim
  | draw k ih => exact fun h n h1 h2 => ih n (od (h n h1 h2)) (h n h1 h2)
theorem ax_nil {Z : Rs → Prop} (h : Z (.nx ρ)) : Al Z (runs F C T [] ρ) := by rw [runs_nil]; exact al h
theorem ax_end {Z : Rs → Prop} {r : Rs} (h : All Z r) : Al Z r := al h
theorem sx_ok {a : Nat × D} (h : P a) : Od (.ok a) P E := od h
end
/-- a loop that gathers: each turn adds its part -/
theorem loop_acc {γ : Type} {p : Pat} {body els : Env → Rs} {f : D → List γ} (M B : Nat) (I : List γ → Env → Prop) : ∀ (xs : List D), (∀ d ∈ xs, (f d).length ≤ M) →
    (∀ d ∈ xs, ∀ l ρ, l.length + M ≤ B → I l ρ → ∃ ρ1 ρ2, bindP p d ρ = .ok ρ1 ∧ (body ρ1 = .nx ρ2 ∨ body ρ1 = .ct ρ2) ∧ I (l ++ f d) ρ2) →
    ∀ l ρ, l.length + xs.length * M ≤ B → I l ρ → ∃ ρ2, loopF p body els xs ρ = els ρ2 ∧ I (l ++ xs.flatMap f) ρ2
  | [], _, _, l, ρ, _, h => ⟨ρ, by rw [loopF], by simpa using h⟩
  | d :: ds, hM, step, l, ρ, hB, h => by
    rw [List.length_cons, Nat.succ_mul] at hB
    obtain ⟨ρ1, ρ2, e1, e2, h2⟩ := step d (by simp) l ρ (by omega) h
    have := hM d (by simp)
    obtain ⟨ρ3, e3, h3⟩ := loop_acc M B I ds (fun d m => hM d (by simp [m])) (fun d m => step d (by simp [m])) (l ++ f d) ρ2 (by rw [List.length_append]; omega) h2
    refine ⟨ρ3, ?_, by simpa using h3⟩
    rw [loopF, e1]
    show (body ρ1).turn _ = _
    rcases e2 with e2 | e2 <;> (rw [e2]; exact e3)
end Px

namespace Q
open PySem PySem.Spec L2 Px
/-! ranges, gathered lists -/
theorem flatMap_nats {α : Type} (f : D → List α) (n : Nat) : (rng1 0 (n : Int)).flatMap f = (List.range n).flatMap fun (i : Nat) => f (.int (i : Int)) := by
  rw [rng1_nats, Int.toNat_natCast, List.flatMap_map]
theorem fmap_len {α β : Type} {f : α → List β} {M : Nat} : ∀ (xs : List α), (∀ x ∈ xs, (f x).length ≤ M) → (xs.flatMap f).length ≤ xs.length * M
  | [], _ => by simp
  | x :: xs, h => by
    have := fmap_len xs fun y m => h y (by simp [m])
    have := h x (by simp)
    simp only [List.flatMap_cons, List.length_append, List.length_cons]
    rw [Nat.succ_mul]; omega
theorem rng1_mem {n : Nat} {d : D} (h : d ∈ rng1 0 (n : Int)) : ∃ i : Nat, i < n ∧ d = .int (i : Int) := by
  rw [rng1_nats, Int.toNat_natCast] at h
  obtain ⟨i, hi, e⟩ := List.mem_map.mp h
  exact ⟨i, List.mem_range.mp hi, e.symm⟩
end Q

namespace Px
open PySem PySem.Spec L2
/-! data without True, False: == is equality -/
def dat : Nat → D → Bool
  | _, .non => true
  | _, .int _ => true
  | _, .str s => s.all fun c => decide (c < 1114112)
  | n + 1, .lst xs => xs.all (dat n)
  | n + 1, .tup xs => xs.all (dat n)
  | _, _ => false
theorem dat_lay : ∀ {n : Nat} {d : D}, dat n d = true → PyData.canLay0 d.py = true ∧ d.py.depth ≤ n
  | _, .non, _ => ⟨rfl, Nat.zero_le _⟩
  | _, .int _, _ => ⟨rfl, Nat.zero_le _⟩
  | n, .str s, h => by
    refine ⟨?_, Nat.zero_le _⟩
    have h : (s.all fun c => decide (c < 1114112)) = true := by cases n <;> simpa only [dat] using h
    show (mkS s).cps.all (· < 0x110000) = true
    rw [← Array.all_toList]
    exact h
  | n + 1, .lst xs, h => by
    have h : xs.all (dat n) = true := by simpa only [dat] using h
    have q : ∀ xs : List D, xs.all (dat n) = true → PyData.canLayAll0 (D.pys xs) = true ∧ PyData.depthAll (D.pys xs) ≤ n := fun xs => by
      induction xs with
      | nil => exact fun _ => ⟨rfl, Nat.zero_le _⟩
      | cons d ds ih =>
        intro h
        rw [List.all_cons, Bool.and_eq_true] at h
        obtain ⟨a, b⟩ := dat_lay h.1
        obtain ⟨c, e⟩ := ih h.2
        refine ⟨?_, ?_⟩
        · show (PyData.canLay0 d.py && PyData.canLayAll0 (D.pys ds)) = true
          rw [a, c]; rfl
        · show max d.py.depth (PyData.depthAll (D.pys ds)) ≤ n
          omega
    exact ⟨(q xs h).1, by show PyData.depthAll (D.pys xs) + 1 ≤ n + 1; have := (q xs h).2; omega⟩
  | n + 1, .tup xs, h => by
    have h : xs.all (dat n) = true := by simpa only [dat] using h
    have q : ∀ xs : List D, xs.all (dat n) = true → PyData.canLayAll0 (D.pys xs) = true ∧ PyData.depthAll (D.pys xs) ≤ n := fun xs => by
      induction xs with
      | nil => exact fun _ => ⟨rfl, Nat.zero_le _⟩
      | cons d ds ih =>
        intro h
        rw [List.all_cons, Bool.and_eq_true] at h
        obtain ⟨a, b⟩ := dat_lay h.1
        obtain ⟨c, e⟩ := ih h.2
        refine ⟨?_, ?_⟩
        · show (PyData.canLay0 d.py && PyData.canLayAll0 (D.pys ds)) = true
          rw [a, c]; rfl
        · show max d.py.depth (PyData.depthAll (D.pys ds)) ≤ n
          omega
    exact ⟨(q xs h).1, by show PyData.depthAll (D.pys xs) + 1 ≤ n + 1; have := (q xs h).2; omega⟩
  | 0, .lst xs, h => by simp [dat] at h
  | 0, .tup xs, h => by simp [dat] at h
  | n, .bl b, h => by cases n <;> simp [dat] at h
  | n, .dct _ _, h => by cases n <;> simp [dat] at h
  | n, .ext _, h => by cases n <;> simp [dat] at h
theorem dat_shp {n : Nat} {d : D} (h : dat n d = true) (hn : n ≤ 64) : shp d = true := by
  obtain ⟨a, b⟩ := dat_lay h
  show (PyData.canLay0 d.py && decide (d.py.depth ≤ 64)) = true
  rw [a, decide_eq_true (by omega)]; rfl
theorem mkS_inj' {a b : List Nat} (h : mkS a = mkS b) : a = b := by
  have := congrArg (fun x : Str => x.cps.toList) h
  exact this
theorem dat_eqv : ∀ {n : Nat} {m : Nat} {d e : D}, dat n d = true → dat m e = true → PyData.eqv d.py e.py = true → d = e := by
  intro n
  induction n with
  | zero =>
    intro m d e hd he h
    cases d with
    | non => cases e <;> first | rfl | (simp [D.py, PyData.eqv] at h; done) | (cases m <;> simp [dat] at he; done)
    | int i => cases e with
      | int j => simp [D.py, PyData.eqv] at h; rw [h]
      | bl b => cases m <;> simp [dat] at he
      | non => simp [D.py, PyData.eqv] at h
      | str s => simp [D.py, PyData.eqv] at h
      | lst s => simp [D.py, PyData.eqv] at h
      | tup s => simp [D.py, PyData.eqv] at h
      | dct k s => cases m <;> simp [dat] at he
      | ext t => cases m <;> simp [dat] at he
    | str s => cases e with
      | str t =>
        have h : (mkS s == mkS t) = true := h
        rw [mkS_inj' (eq_of_beq h)]
      | bl b => cases m <;> simp [dat] at he
      | non => simp [D.py, PyData.eqv] at h
      | int s => simp [D.py, PyData.eqv] at h
      | lst s => simp [D.py, PyData.eqv] at h
      | tup s => simp [D.py, PyData.eqv] at h
      | dct k s => cases m <;> simp [dat] at he
      | ext t => cases m <;> simp [dat] at he
    | lst xs => simp [dat] at hd
    | tup xs => simp [dat] at hd
    | bl b => simp [dat] at hd
    | dct k v => simp [dat] at hd
    | ext t => simp [dat] at hd
  | succ n ih =>
    intro m d e hd he h
    have all : ∀ (m : Nat) (xs ys : List D), xs.all (dat n) = true → ys.all (dat m) = true → PyData.eqvAll (D.pys xs) (D.pys ys) = true → xs = ys := fun m xs => by
      induction xs with
      | nil =>
        intro ys _ _ h
        cases ys with
        | nil => rfl
        | cons y ys => simp [D.pys, PyData.eqvAll] at h
      | cons x xs ih2 =>
        intro ys hx hy h
        cases ys with
        | nil => simp [D.pys, PyData.eqvAll] at h
        | cons y ys =>
          rw [List.all_cons, Bool.and_eq_true] at hx hy
          simp only [D.pys, PyData.eqvAll, Bool.and_eq_true] at h
          rw [ih hx.1 hy.1 h.1, ih2 ys hx.2 hy.2 h.2]
    cases d with
    | non => cases e <;> first | rfl | (simp [D.py, PyData.eqv] at h; done) | (cases m <;> simp [dat] at he; done)
    | int i => cases e with
      | int j => simp [D.py, PyData.eqv] at h; rw [h]
      | bl b => cases m <;> simp [dat] at he
      | non => simp [D.py, PyData.eqv] at h
      | str s => simp [D.py, PyData.eqv] at h
      | lst s => simp [D.py, PyData.eqv] at h
      | tup s => simp [D.py, PyData.eqv] at h
      | dct k s => cases m <;> simp [dat] at he
      | ext t => cases m <;> simp [dat] at he
    | str s => cases e with
      | str t =>
        have h : (mkS s == mkS t) = true := h
        rw [mkS_inj' (eq_of_beq h)]
      | bl b => cases m <;> simp [dat] at he
      | non => simp [D.py, PyData.eqv] at h
      | int s => simp [D.py, PyData.eqv] at h
      | lst s => simp [D.py, PyData.eqv] at h
      | tup s => simp [D.py, PyData.eqv] at h
      | dct k s => cases m <;> simp [dat] at he
      | ext t => cases m <;> simp [dat] at he
    | lst xs =>
      have hd : xs.all (dat n) = true := by simpa only [dat] using hd
      cases e with
      | lst ys => cases m with
        | zero => simp [dat] at he
        | succ m =>
          have he : ys.all (dat m) = true := by simpa only [dat] using he
          have h : PyData.eqvAll (D.pys xs) (D.pys ys) = true := by simpa only [D.py, PyData.eqv] using h
          rw [all m xs ys hd he h]
      | bl b => cases m <;> simp [dat] at he
      | non => simp [D.py, PyData.eqv] at h
      | int s => simp [D.py, PyData.eqv] at h
      | str s => simp [D.py, PyData.eqv] at h
      | tup s => simp [D.py, PyData.eqv] at h
      | dct k s => cases m <;> simp [dat] at he
      | ext t => cases m <;> simp [dat] at he
    | tup xs =>
      have hd : xs.all (dat n) = true := by simpa only [dat] using hd
      cases e with
      | tup ys => cases m with
        | zero => simp [dat] at he
        | succ m =>
          have he : ys.all (dat m) = true := by simpa only [dat] using he
          have h : PyData.eqvAll (D.pys xs) (D.pys ys) = true := by simpa only [D.py, PyData.eqv] using h
          rw [all m xs ys hd he h]
      | bl b => cases m <;> simp [dat] at he
      | non => simp [D.py, PyData.eqv] at h
      | int s => simp [D.py, PyData.eqv] at h
      | str s => simp [D.py, PyData.eqv] at h
      | lst s => simp [D.py, PyData.eqv] at h
      | dct k s => cases m <;> simp [dat] at he
      | ext t => cases m <;> simp [dat] at he
    | bl b => simp [dat] at hd
    | dct k v => simp [dat] at hd
    | ext t => simp [dat] at hd
theorem eqv_refl {n : Nat} {d : D} (h : dat n d = true) : PyData.eqv d.py d.py = true := PySem.SeqAt.eqv_refl _ (dat_lay h).1
theorem scal_cases (a b : D) (r : Bool) (h : scalB a b = some r) (na : ∃ n, dat n a = true) (nb : ∃ n, dat n b = true) : r = true ↔ a = b := by
  cases a <;> cases b <;> simp_all [scalB] <;> first | (rw [← h]; simp; done) | skip
  all_goals (obtain ⟨n, h⟩ := na; cases n <;> simp [dat] at h)
/-- equal data -/
theorem eq_same {n : Nat} {d : D} (h : dat n d = true) (hn : n ≤ 64) (k l : Option Nat) : cmpD .Eq (k, d) (l, d) = .ok true := by
  have e : cmpD .Eq (k, d) (l, d) = match scalB d d with
    | some r => .ok r
    | none => if shp d && shp d then .ok (eqD d d) else .stuck := by cases d <;> rfl
  rw [e]
  cases q : scalB d d with
  | some r =>
    have := (scal_cases d d r q ⟨n, h⟩ ⟨n, h⟩).mpr rfl
    rw [this]
  | none =>
    dsimp only
    rw [dat_shp h hn, if_pos (by rfl)]
    unfold eqD
    rw [eqv_refl h]
theorem ne_same {n : Nat} {d : D} (h : dat n d = true) (hn : n ≤ 64) (k l : Option Nat) : cmpD .NotEq (k, d) (l, d) = .ok false := by
  have e : cmpD .NotEq (k, d) (l, d) = match scalB d d with
    | some r => .ok (!r)
    | none => if shp d && shp d then .ok (!eqD d d) else .stuck := by cases d <;> rfl
  rw [e]
  cases q : scalB d d with
  | some r =>
    have := (scal_cases d d r q ⟨n, h⟩ ⟨n, h⟩).mpr rfl
    rw [this]; rfl
  | none =>
    dsimp only
    rw [dat_shp h hn, if_pos (by rfl)]
    unfold eqD
    rw [eqv_refl h]; rfl
/-- other data -/
theorem eq_other {n m : Nat} {d e : D} (h : dat n d = true) (h' : dat m e = true) (hn : n ≤ 64) (hm : m ≤ 64) (ne : d ≠ e) (k l : Option Nat) : cmpD .Eq (k, d) (l, e) = .ok false := by
  have q0 : cmpD .Eq (k, d) (l, e) = match scalB d e with
    | some r => .ok r
    | none => if shp d && shp e then .ok (eqD d e) else .stuck := by cases d <;> cases e <;> rfl
  rw [q0]
  cases q : scalB d e with
  | some r =>
    have := scal_cases d e r q ⟨n, h⟩ ⟨m, h'⟩
    cases r with
    | true => exact absurd (this.mp rfl) ne
    | false => rfl
  | none =>
    dsimp only
    rw [dat_shp h hn, dat_shp h' hm, if_pos (by rfl)]
    unfold eqD
    cases q : PyData.eqv d.py e.py with
    | true => exact absurd (dat_eqv h h' q) ne
    | false => rfl
theorem ne_other {n m : Nat} {d e : D} (h : dat n d = true) (h' : dat m e = true) (hn : n ≤ 64) (hm : m ≤ 64) (ne : d ≠ e) (k l : Option Nat) : cmpD .NotEq (k, d) (l, e) = .ok true := by
  have q0 : cmpD .NotEq (k, d) (l, e) = match scalB d e with
    | some r => .ok (!r)
    | none => if shp d && shp e then .ok (!eqD d e) else .stuck := by cases d <;> cases e <;> rfl
  rw [q0]
  cases q : scalB d e with
  | some r =>
    have := scal_cases d e r q ⟨n, h⟩ ⟨m, h'⟩
    cases r with
    | true => exact absurd (this.mp rfl) ne
    | false => rfl
  | none =>
    dsimp only
    rw [dat_shp h hn, dat_shp h' hm, if_pos (by rfl)]
    unfold eqD
    cases q : PyData.eqv d.py e.py with
    | true => exact absurd (dat_eqv h h' q) ne
    | false => rfl
theorem memD_dat {n m : Nat} {d : D} {xs : List D} (h : dat n d = true) (hx : ∀ x ∈ xs, dat m x = true) : memD d xs = true ↔ d ∈ xs := by
  unfold memD
  rw [List.any_eq_true]
  constructor
  · rintro ⟨x, m1, e⟩
    rw [← dat_eqv (hx x m1) h e]; exact m1
  · intro m1
    exact ⟨d, m1, eqv_refl h⟩
theorem dat_up : ∀ {n m : Nat} {d : D}, n ≤ m → dat n d = true → dat m d = true
  | n, m, .non, _, _ => by cases m <;> rfl
  | n, m, .int _, _, _ => by cases m <;> rfl
  | n, m, .str s, _, h => by cases n <;> cases m <;> simpa only [dat] using h
  | n + 1, m + 1, .lst xs, q, h => by
    simp only [dat, List.all_eq_true] at h ⊢
    exact fun x mx => dat_up (by omega) (h x mx)
  | n + 1, m + 1, .tup xs, q, h => by
    simp only [dat, List.all_eq_true] at h ⊢
    exact fun x mx => dat_up (by omega) (h x mx)
  | 0, _, .lst xs, _, h => by simp [dat] at h
  | 0, _, .tup xs, _, h => by simp [dat] at h
  | n + 1, 0, .lst xs, q, _ => by omega
  | n + 1, 0, .tup xs, q, _ => by omega
  | n, m, .bl b, _, h => by cases n <;> simp [dat] at h
  | n, m, .dct _ _, _, h => by cases n <;> simp [dat] at h
  | n, m, .ext _, _, h => by cases n <;> simp [dat] at h
end Px

namespace Q
open PySem PySem.Spec L2 Px
/-! general steps: comprehensions, tuples of indexes, loops that fold -/
theorem dminG {α : Type} (f : α → D) : ∀ xs : List α, dmin ((xs.map fun x => ((9 : Nat), f x)).map (·.1)) = 8
  | [] => rfl
  | x :: xs => by show min 9 (dmin ((xs.map fun x => ((9 : Nat), f x)).map (·.1))) = 8; rw [dminG f xs]; rfl
theorem listVG {α : Type} (f : α → D) (xs : List α) (h : xs.length ≤ line) : listV (xs.map fun x => ((9 : Nat), f x)) = .ok (some 9, .lst (xs.map f)) := by
  unfold listV
  rw [if_pos (by simpa using h), dminG]
  unfold newL
  rw [List.map_map]; rfl
def keD (kept : List Nat) : D := .tup (kept.map fun (i : Nat) => D.int (i : Int))
theorem compR_l {α : Type} {f : D → R (Option (Nat × D))} {fx g : α → D} : ∀ l : List α, (∀ x ∈ l, f (fx x) = .ok (some (9, g x))) → compR f (l.map fx) = .ok (l.map fun x => ((9 : Nat), g x))
  | [], _ => by rw [List.map_nil, compR]; rfl
  | x :: l, h => by
    rw [List.map_cons, compR, h x (by simp), R.bind_ok, compR_l l fun y m => h y (by simp [m])]
    rfl
section
variable {F : List Fn} {C : List D} {T : Tab} {ρ : Px.Env}
theorem ev_cmpL {p : Pat} {it : Ix} {e : Ex} {α : Type} (fx g : α → D) (l : List α) (hI : evI F C true it ρ = .ok (l.map fx)) (hl : l.length ≤ 3000)
    (hs : ∀ x ∈ l, ∃ ρ', bindP p (fx x) (wipeE ρ p.slots) = .ok ρ' ∧ ev F C e ρ' = .ok (some 9, g x)) : ev F C (.comp p it [] e) ρ = .ok (some 9, .lst (l.map g)) := by
  rw [ev, hI, R.bind_ok, compR_l (g := g) l (fun x m => by
    obtain ⟨ρ', e1, e2⟩ := hs x m
    rw [e1, R.bind_ok, show tsts F C [] ρ' = .ok true from by rw [tsts], R.bind_ok, if_pos rfl, e2]; rfl), noExc_ok', R.bind_ok]
  exact listVG g l (by unfold line; omega)
theorem cmp_items {j : Nat} {it : Ix} {e : Ex} {α : Type} (fx g : α → D) (xs : List α) (hI : evI F C true it ρ = .ok (xs.map fx)) (h0 : ∀ x, ((kd 0 (fx x)).1.getD 0) = 9) (hl : xs.length ≤ 3000) (hj : j < ρ.length) (hs : ∀ x ∈ xs, ev F C e (ρ.set j (some (9, fx x))) = .ok (some 9, g x)) :
    ev F C (.comp (.nm j) it [] e) ρ = .ok (some 9, .lst (xs.map g)) :=
  ev_cmpL fx g xs hI hl fun x m => ⟨ρ.set j (some (9, fx x)), by rw [show wipeE ρ (Pat.nm j).slots = ρ.set j none from rfl, bind_nm, if_pos (by simpa using hj), List.set_set, h0], hs x m⟩
theorem big1000 {n : Nat} (hn : n ≤ 1000) : inBig (n : Int) = true := by unfold inBig big; simp; omega
theorem evI_rngN {b : Bool} {a : Ex} {n : Nat} {k : Option Nat} (hn : n ≤ 1000) (h : ev F C a ρ = .ok (k, .int (n : Int))) : evI F C b (.rng1 a) ρ = .ok ((List.range n).map fun (i : Nat) => D.int (i : Int)) := by
  rw [evI_rng1 b a ρ (n : Int) k h (big1000 hn), rng1_nats, Int.toNat_natCast]
theorem seq_nilr {F : List Fn} {C : List D} {T : Tab} (r : Rs) : r.seq (runs F C T []) = r := by
  induction r with
  | draw h ih => rw [seq_draw]; congr 1; funext n; exact ih n
  | nx ρ => rw [sq_nx, runs_nil]
  | bk ρ => rfl
  | ct ρ => rfl
  | ret k d => rfl
  | exc x p ρ => rfl
  | stuck => rfl
theorem ke_idx {kept : List Nat} {i : Nat} (h : i < kept.length) (k : Option Nat) : idxD (k, keD kept) (some 9, .int (i : Int)) = .ok (some 9, .int ((kept.getD i 0 : Nat) : Int)) := by
  have ea : atI (kept.map fun (i : Nat) => D.int (i : Int)) (i : Int) = some (.int ((kept.getD i 0 : Nat) : Int)) := atI_nat (j := i) (by rw [List.getElem?_map, List.getD_eq_getElem?_getD, List.getElem?_eq_getElem h]; rfl)
  show (match atI (kept.map fun (i : Nat) => D.int (i : Int)) (i : Int) with | some d => _ | none => _) = _
  rw [ea]; rfl
/-- an item of a tuple of tuples -/
theorem tt_idx {α : Type} {f : α → D} {xs : List α} {i : Nat} {x : α} (h : xs[i]? = some x) (hc : (f x).cont = false) (k : Option Nat) : idxD (k, .tup (xs.map f)) (some 9, .int (i : Int)) = .ok (at9 (f x)) := by
  have ea : atI (xs.map f) (i : Int) = some (f x) := atI_nat (j := i) (by rw [List.getElem?_map, h]; rfl)
  show (match atI (xs.map f) (i : Int) with | some d => R.ok (kd 0 d) | none => _) = _
  rw [ea]
  show R.ok (kd 0 (f x)) = _
  unfold kd; rw [hc]; rfl
theorem ll_idx {α : Type} {f : α → D} {xs : List α} {i : Nat} {x : α} (h : xs[i]? = some x) (hc : (f x).cont = false) (k : Option Nat) : idxD (k, .lst (xs.map f)) (some 9, .int (i : Int)) = .ok (at9 (f x)) := by
  have ea : atI (xs.map f) (i : Int) = some (f x) := atI_nat (j := i) (by rw [List.getElem?_map, h]; rfl)
  show (match atI (xs.map f) (i : Int) with | some d => (if d.cont then _ else R.ok (at9 d)) | none => _) = _
  rw [ea]
  show (if (f x).cont then _ else R.ok (at9 (f x))) = _
  rw [hc]; rfl
end
/-- a loop that folds -/
theorem loop_fold {β : Type} {p : Pat} {body els : Px.Env → Rs} (f : β → D → β) (I : β → Px.Env → Prop) : ∀ (xs : List D), (∀ d ∈ xs, ∀ b ρ, I b ρ → ∃ ρ1 ρ2, bindP p d ρ = .ok ρ1 ∧ body ρ1 = .nx ρ2 ∧ I (f b d) ρ2) → ∀ b ρ, I b ρ → ∃ ρ2, loopF p body els xs ρ = els ρ2 ∧ I (xs.foldl f b) ρ2
  | [], _, b, ρ, h => ⟨ρ, by rw [loopF], h⟩
  | d :: ds, step, b, ρ, h => by
    obtain ⟨ρ1, ρ2, e1, e2, h2⟩ := step d (by simp) b ρ h
    obtain ⟨ρ3, e3, h3⟩ := loop_fold f I ds (fun d m => step d (by simp [m])) (f b d) ρ2 h2
    exact ⟨ρ3, by rw [lpN e1 e2, e3], h3⟩
theorem natI_inj {a b : List Nat} (h : a.map (fun (i : Nat) => D.int (i : Int)) = b.map (fun (i : Nat) => D.int (i : Int))) : a = b := by
  induction a generalizing b with
  | nil => cases b with
    | nil => rfl
    | cons y b => cases h
  | cons x a ih =>
    cases b with
    | nil => cases h
    | cons y b =>
      rw [List.map_cons, List.map_cons, List.cons.injEq] at h
      have h1 := h.1
      injection h1 with h1
      rw [ih h.2, show x = y by omega]
theorem ke_inj {a b : List Nat} (h : keD a = keD b) : a = b := by
  unfold keD at h
  injection h with h
  exact natI_inj h
theorem nat_dat (a : List Nat) (n : Nat) : (a.map fun (i : Nat) => D.int (i : Int)).all (dat n) = true := by
  rw [List.all_map, List.all_eq_true]
  intro x _
  cases n <;> rfl
theorem ke_dat (a : List Nat) : dat 1 (keD a) = true := by
  show ((a.map fun (i : Nat) => D.int (i : Int)).all (dat 0)) = true
  exact nat_dat a 0
theorem tts_dat (ps : List (List Nat)) : dat 2 (.tup (ps.map keD)) = true := by
  show ((ps.map keD).all (dat 1)) = true
  rw [List.all_map, List.all_eq_true]
  exact fun x _ => ke_dat x
theorem ke_eq (a b : List Nat) (k l : Option Nat) : cmpD .Eq (k, keD a) (l, keD b) = .ok (decide (a = b)) := by
  by_cases h : a = b
  · subst h; rw [eq_same (ke_dat a) (by decide)]; simp
  · rw [eq_other (ke_dat a) (ke_dat b) (by decide) (by decide) (fun e => h (ke_inj e)), decide_eq_false h]
theorem ke_ne (a b : List Nat) (k l : Option Nat) : cmpD .NotEq (k, keD a) (l, keD b) = .ok (!decide (a = b)) := by
  by_cases h : a = b
  · subst h; rw [ne_same (ke_dat a) (by decide)]; simp
  · rw [ne_other (ke_dat a) (ke_dat b) (by decide) (by decide) (fun e => h (ke_inj e)), decide_eq_false h]; rfl
theorem ints_dat (a : List Int) : dat 1 (.lst (a.map D.int)) = true := by
  show ((a.map D.int).all (dat 0)) = true
  rw [List.all_map, List.all_eq_true]
  intro x _; rfl
theorem ints_inj {a b : List Int} (h : a.map D.int = b.map D.int) : a = b := by
  induction a generalizing b with
  | nil => cases b with
    | nil => rfl
    | cons y b => cases h
  | cons x a ih =>
    cases b with
    | nil => cases h
    | cons y b =>
      rw [List.map_cons, List.map_cons, List.cons.injEq] at h
      have h1 := h.1
      injection h1 with h1
      rw [ih h.2, h1]
theorem il_eq (a b : List Int) (k l : Option Nat) : cmpD .Eq (k, .lst (a.map D.int)) (l, .lst (b.map D.int)) = .ok (decide (a = b)) := by
  by_cases h : a = b
  · subst h; rw [eq_same (ints_dat a) (by decide)]; simp
  · rw [eq_other (ints_dat a) (ints_dat b) (by decide) (by decide) (fun e => h (ints_inj (by injection e))), decide_eq_false h]
theorem intsOf_map (a : List Int) : intsOf (a.map D.int) = some a := by
  induction a with
  | nil => rfl
  | cons x a ih => show (intsOf (a.map D.int)).map (x :: ·) = _; rw [ih]; rfl
theorem intsOf_nat (a : List Nat) : intsOf (a.map fun (i : Nat) => D.int (i : Int)) = some (a.map fun (i : Nat) => (i : Int)) := by
  have := intsOf_map (a.map fun (i : Nat) => (i : Int))
  rw [List.map_map] at this
  exact this
theorem rngN (n : Nat) : rng1 0 (n : Int) = (List.range n).map fun (i : Nat) => D.int (i : Int) := by rw [rng1_nats, Int.toNat_natCast]
theorem rgl_t {n : Nat} (h : n ≤ 1000) : rglD true 0 (n : Int) = .ok (at9 (keD (List.range n))) := by
  unfold rglD
  rw [if_pos (by omega), rngN]; rfl
theorem rgl_l {n : Nat} (h : n ≤ 1000) : rglD false 0 (n : Int) = .ok (newL 8 ((List.range n).map fun (i : Nat) => D.int (i : Int))) := by
  unfold rglD
  rw [if_pos (by omega), rngN]; rfl
theorem pure_nats (p : List Nat) : puresD (p.map fun (i : Nat) => D.int (i : Int)) = true := by
  induction p with
  | nil => rfl
  | cons a p ih => show (true && puresD _) = true; rw [ih]; rfl
theorem ke_pure (p : List Nat) : pureD (keD p) = true := pure_nats p
theorem im_pure (ps : List (List Nat)) : pureD (.tup (ps.map keD)) = true := by
  show puresD (ps.map keD) = true
  induction ps with
  | nil => rfl
  | cons a p ih => show (pureD (keD a) && puresD _) = true; rw [ke_pure, ih]; rfl
section
variable {F : List Fn} {C : List D} {T : Tab} {ρ : Px.Env} {rest : List Cm} {r : Rs}
theorem nSet {i k : Nat} {e : Ex} {d : D} (h : ev F C e ρ = .ok (some k, d)) (hi : i < ρ.length) (hr : runs F C T rest (ρ.set i (some (k, d))) = r) : runs F C T (.set i e :: rest) ρ = r := by
  rw [runs_cons, run1_set, h, liftR_ok, needV_some, liftR_ok]
  show Rs.seq (setR i k d ρ) _ = r
  unfold setR
  rw [if_pos hi, seq_nx]; exact hr
theorem nNo {c : Tx} {a : List Cm} (h : tst F C c ρ = .ok false) (hr : runs F C T rest ρ = r) : runs F C T (.ifs c a [] :: rest) ρ = r := by
  rw [runs_cons, run1_ifs, h, liftR_ok, if_neg Bool.false_ne_true, runs_nil, seq_nx]; exact hr
end
section
variable {F : List Fn} {C : List D} {T : Tab} {ρ ρ' : Px.Env} {rest : List Cm} {r : R (Nat × D)}
theorem fForN {p : Pat} {it : Ix} {b els : List Cm} {xs : List D} (hI : evI F C false it ρ = .ok xs) (hl : loopF p (runs F C T b) (runs F C T els) xs ρ = .nx ρ') (hr : fin (runs F C T rest ρ') = r) : fin (runs F C T (.for p it b els :: rest) ρ) = r := by
  rw [runs_cons, run1_for, hI, liftR_ok, hl, sq_nx]; exact hr
theorem all_ok {r : R (Nat × D)} {k : Nat} (h : r = .ok (k, .bl true)) : AllTrue r := by rw [h]; rfl
end
theorem ev_rglN {F : List Fn} {C : List D} {ρ : Px.Env} {t : Bool} {a : Ex} {m : Int} {k : Option Nat} (h : ev F C a ρ = .ok (k, .int m)) : ev F C (.rgl1 t a) ρ = rglD t 0 m := by
  rw [ev, h, R.bind_ok]
theorem lst_idx {xs : List D} {i : Nat} {x : D} (h : xs[i]? = some x) (hc : x.cont = false) (k : Option Nat) : idxD (k, .lst xs) (some 9, .int (i : Int)) = .ok (at9 x) := by
  have := ll_idx (f := id) h hc k
  rw [List.map_id] at this
  exact this
end Q

namespace Px
open PySem PySem.Spec L2
/-! what repr shows of nested data is short enough -/
def pr : Nat → D → Bool
  | _, .non => true
  | _, .bl _ => true
  | _, .int i => decide (i.natAbs < 10 ^ 40)
  | _, .str s => s.all fun c => decide (c < 1114112)
  | n + 1, .lst xs => xs.all (pr n)
  | n + 1, .tup xs => xs.all (pr n)
  | _, _ => false
def PrOk (n : Nat) (d : D) : Prop := PyData.canLay0 d.py = true ∧ d.py.depth ≤ n ∧ d.py.showable = true ∧ d.py.leavesShort 50 = true
theorem pr_all {n : Nat} : ∀ xs : List D, (∀ x ∈ xs, PrOk n x) → PyData.canLayAll0 (D.pys xs) = true ∧ PyData.depthAll (D.pys xs) ≤ n ∧ PyData.showableAll (D.pys xs) = true ∧ PyData.leavesShortAll 50 (D.pys xs) = true
  | [], _ => ⟨rfl, Nat.zero_le _, rfl, rfl⟩
  | d :: ds, h => by
    obtain ⟨a1, a2, a3, a4⟩ := h d (by simp)
    obtain ⟨b1, b2, b3, b4⟩ := pr_all ds fun x m => h x (by simp [m])
    refine ⟨?_, ?_, ?_, ?_⟩
    · show (PyData.canLay0 d.py && PyData.canLayAll0 (D.pys ds)) = true
      rw [a1, b1]; rfl
    · show max d.py.depth (PyData.depthAll (D.pys ds)) ≤ n
      omega
    · show (PyData.showable d.py && PyData.showableAll (D.pys ds)) = true
      rw [a3, b3]; rfl
    · show (PyData.leavesShort 50 d.py && PyData.leavesShortAll 50 (D.pys ds)) = true
      rw [a4, b4]; rfl
theorem pr_ok : ∀ {n : Nat} {d : D}, pr n d = true → PrOk n d
  | _, .non, _ => ⟨rfl, Nat.zero_le _, rfl, rfl⟩
  | _, .bl b, _ => ⟨rfl, Nat.zero_le _, rfl, rfl⟩
  | n, .int i, h => by
    have h : decide (i.natAbs < 10 ^ 40) = true := by cases n <;> simpa only [pr] using h
    have hz := of_decide_eq_true h
    refine ⟨rfl, Nat.zero_le _, ?_, ?_⟩
    · show decide (i.natAbs.log2 < 1920) = true
      exact decide_eq_true (small_log (Nat.lt_trans hz (by decide)))
    · show decide (_ ≤ 50) = true
      rw [decide_eq_true_eq]
      show (Str.ofString (toString i)).length ≤ 50
      have q := int_text_length_le10 (k := 40) (by decide) hz
      rw [ofString_length]
      omega
  | n, .str s, h => by
    have h : (s.all fun c => decide (c < 1114112)) = true := by cases n <;> simpa only [pr] using h
    refine ⟨?_, Nat.zero_le _, rfl, ?_⟩
    · show (mkS s).cps.all (· < 0x110000) = true
      rw [← Array.all_toList]
      exact h
    · show ((mkS s).cps.toList.all fun c => decide (c < 16 ^ 8)) = true
      rw [List.all_eq_true] at h ⊢
      intro c m
      have := of_decide_eq_true (h c m)
      exact decide_eq_true (Nat.lt_trans this (by decide))
  | n + 1, .lst xs, h => by
    have h : xs.all (pr n) = true := by simpa only [pr] using h
    obtain ⟨a, b, c, d⟩ := pr_all xs fun x m => pr_ok (List.all_eq_true.mp h x m)
    exact ⟨a, by show PyData.depthAll (D.pys xs) + 1 ≤ n + 1; omega, c, d⟩
  | n + 1, .tup xs, h => by
    have h : xs.all (pr n) = true := by simpa only [pr] using h
    obtain ⟨a, b, c, d⟩ := pr_all xs fun x m => pr_ok (List.all_eq_true.mp h x m)
    exact ⟨a, by show PyData.depthAll (D.pys xs) + 1 ≤ n + 1; omega, c, d⟩
  | 0, .lst xs, h => by simp [pr] at h
  | 0, .tup xs, h => by simp [pr] at h
  | n, .dct _ _, h => by cases n <;> simp [pr] at h
  | n, .ext _, h => by cases n <;> simp [pr] at h
theorem rOk_pr {n : Nat} {d : D} (h : pr n d = true) (hn : n ≤ 64) (hw : d.py.weight ≤ 300000) : rOk d = true := by
  obtain ⟨a, b, c, e⟩ := pr_ok h
  have hs : shp d = true := by
    show (PyData.canLay0 d.py && decide (d.py.depth ≤ 64)) = true
    rw [a, decide_eq_true (by omega)]; rfl
  refine rOk_of hs c ?_
  have := PyData.shown_le 50 (by decide) d.py e
  unfold line
  omega
theorem rpOk_pr {n : Nat} {d : D} (h : pr n d = true) (hn : n ≤ 64) (hw : d.py.weight ≤ 300000) : rpOk d := by
  cases d <;> first | trivial | exact rOk_pr h hn hw
theorem wt_map {α : Type} (f : α → D) (W : Nat) : ∀ xs : List α, (∀ x ∈ xs, (f x).py.weight ≤ W) → PyData.weightAll (D.pys (xs.map f)) ≤ xs.length * (W + 1)
  | [], _ => by simp [D.pys, PyData.weightAll]
  | x :: xs, h => by
    have h1 := h x (by simp)
    have h2 := wt_map f W xs fun y m => h y (by simp [m])
    rw [List.map_cons, List.length_cons, Nat.succ_mul]
    show PyData.weight (f x).py + 1 + PyData.weightAll (D.pys (xs.map f)) ≤ _
    omega
theorem wt_int {i : Int} (h : i.natAbs < 2 ^ 60) : (D.int i).py.weight ≤ 60 := by
  show (if i == 0 then 0 else i.natAbs.log2 + 1) ≤ 60
  split
  · omega
  · rename_i h0
    have h0 : i.natAbs ≠ 0 := by
      intro e
      exact h0 (by rw [Int.natAbs_eq_zero.mp e]; rfl)
    exact (Nat.log2_lt h0).mpr h
theorem wt_tup {α : Type} {f : α → D} {W : Nat} {xs : List α} (h : ∀ x ∈ xs, (f x).py.weight ≤ W) : (D.py (.tup (xs.map f))).weight ≤ xs.length * (W + 1) := wt_map f W xs h
theorem wt_lst {α : Type} {f : α → D} {W : Nat} {xs : List α} (h : ∀ x ∈ xs, (f x).py.weight ≤ W) : (D.py (.lst (xs.map f))).weight ≤ xs.length * (W + 1) := wt_map f W xs h
theorem repr_pr (k : Option Nat) {n : Nat} {d : D} (h : pr n d = true) (hn : n ≤ 64) (hw : d.py.weight ≤ 300000) : biD .repr [(k, d)] = .ok (at9 (.str (rpT d))) := repr_any k (rpOk_pr h hn hw)
end Px

namespace Q
open PySem PySem.Spec L2 Px
/-! words by their keys, sorted -/
abbrev kT (a : List Nat) : D := .tup [.int a.length, .tup (rkD a)]
abbrev kL (a : List Nat) : D := .tup [.int a.length, .lst (rkD a)]
theorem kL_py (n : Int) (a : List Nat) : D.py (.tup [.int n, .lst (rkD a)]) = .tuple [.int n, .list ((a.map rk).map PyData.int)] := by
  show PyData.tuple [.int n, .list (D.pys (rkD a))] = _
  rw [rkD_iL, pys_ints]
theorem al_i (a b : List Nat) : PySem.W.alike (.int (a.length : Int)) (.int (b.length : Int)) = true := by simp [PySem.W.alike]
theorem al_t (a b : List Nat) : PySem.W.alike (.tuple ((a.map rk).map PyData.int)) (.tuple ((b.map rk).map PyData.int)) = true := by
  rw [PySem.W.alike]; exact PySem.W.alike_ints _ _
theorem al_l (a b : List Nat) : PySem.W.alike (.list ((a.map rk).map PyData.int)) (.list ((b.map rk).map PyData.int)) = true := by
  rw [PySem.W.alike]; exact PySem.W.alike_ints _ _
theorem alT (a b : List Nat) : PySem.W.alike (kT a).py (kT b).py = true := by
  rw [keyD_py, keyD_py, PySem.W.alike, PySem.W.alikeAll, PySem.W.alikeAll, al_i, al_t]; simp [PySem.W.alikeAll]
theorem alL (a b : List Nat) : PySem.W.alike (kL a).py (kL b).py = true := by
  rw [kL_py, kL_py, PySem.W.alike, PySem.W.alikeAll, PySem.W.alikeAll, al_i, al_l]; simp [PySem.W.alikeAll]
theorem shpL (a : List Nat) : shp (kL a) = true := by
  show (PyData.canLay0 (D.py (.tup [.int a.length, .lst (rkD a)])) && decide ((D.py (.tup [.int a.length, .lst (rkD a)])).depth ≤ 64)) = true
  rw [kL_py]
  obtain ⟨h1, h2⟩ := lay_ints (a.map rk)
  show ((true && (PyData.canLayAll0 ((a.map rk).map PyData.int) && true)) && decide (max 0 (max (PyData.depthAll ((a.map rk).map PyData.int) + 1) 0) + 1 ≤ 64)) = true
  rw [h1, h2]; rfl
theorem dpT (a : List Nat) : (kT a).py.depth ≤ 60 := by
  rw [keyD_py]
  obtain ⟨h1, h2⟩ := lay_ints (a.map rk)
  show max 0 (max (PyData.depthAll ((a.map rk).map PyData.int) + 1) 0) + 1 ≤ 60
  rw [h2]; decide
theorem dpL (a : List Nat) : (kL a).py.depth ≤ 60 := by
  rw [kL_py]
  obtain ⟨h1, h2⟩ := lay_ints (a.map rk)
  show max 0 (max (PyData.depthAll ((a.map rk).map PyData.int) + 1) 0) + 1 ≤ 60
  rw [h2]; decide
theorem eqvAll_ints {xs ys : List Int} (q : PyData.eqvAll (xs.map PyData.int) (ys.map PyData.int) = true) : xs = ys := by
  induction xs generalizing ys with
  | nil => cases ys with
    | nil => rfl
    | cons y ys => simp [PyData.eqvAll] at q
  | cons x xs ih => cases ys with
    | nil => simp [PyData.eqvAll] at q
    | cons y ys =>
      simp [PyData.eqvAll, PyData.eqv] at q
      rw [q.1, ih q.2]
theorem ltT {a b : List Nat} (ha : a.all lB = true) (hb : b.all lB = true) : ltD (kT a) (kT b) = slt a b := by
  have h := lt_key ha hb none none
  have e : cmpD .Lt (none, kT a) (none, kT b) = if ltOk (kT a) (kT b) = true then R.ok (ltD (kT a) (kT b)) else .stuck := rfl
  rw [e] at h
  split at h
  · injection h
  · cases h
theorem ltL {a b : List Nat} (ha : a.all lB = true) (hb : b.all lB = true) : ltD (kL a) (kL b) = slt a b := by
  unfold ltD slt
  rw [kL_py, kL_py, PySem.W.dataLt_pair (al_i a b) (al_l a b)]
  by_cases h : a.length = b.length
  · rw [if_pos h, ltl_ints ha hb h]
    have e : PyData.eqv (.int (a.length : Int)) (.int (b.length : Int)) = true := by simp [PyData.eqv, h]
    rw [e, if_pos rfl]
    have dl : PySem.W.dataLt (.list ((a.map rk).map PyData.int)) (.list ((b.map rk).map PyData.int)) = decide (a.map rk < b.map rk) := by
      rw [PySem.W.dataLt_list]; exact PySem.W.dataLt_ints _ _
    rw [dl]
    by_cases q : PyData.eqv (.list ((a.map rk).map PyData.int)) (.list ((b.map rk).map PyData.int)) = true
    · rw [if_pos q]
      have : a.map rk = b.map rk := eqvAll_ints (by rw [PyData.eqv] at q; exact q)
      rw [this, decide_eq_false (List.lt_irrefl _)]
    · rw [if_neg q]
  · rw [if_neg h]
    have e : PyData.eqv (.int (a.length : Int)) (.int (b.length : Int)) = false := by simp [PyData.eqv]; omega
    rw [e, if_neg Bool.false_ne_true, PySem.W.dataLt_int]
    exact decide_eq_decide.mpr (by omega)
theorem keyOk_map {f : List Nat → D} {ws : List (List Nat)} (h1 : ∀ a, shp (f a) = true) (h2 : ∀ a, (f a).py.depth ≤ 60) (h3 : ∀ a b, PySem.W.alike (f a).py (f b).py = true) (h4 : ∀ a, ntD (f a) = true) : keyOk (ws.map f) = true := by
  unfold keyOk
  rw [Bool.and_eq_true]
  refine ⟨List.all_eq_true.mpr fun d hd => ?_, List.all_eq_true.mpr fun d hd => List.all_eq_true.mpr fun e he => ?_⟩
  · obtain ⟨a, _, rfl⟩ := List.mem_map.mp hd
    rw [h1, h4, decide_eq_true (h2 a)]; rfl
  · obtain ⟨a, _, rfl⟩ := List.mem_map.mp hd
    obtain ⟨b, _, rfl⟩ := List.mem_map.mp he
    exact h3 a b
theorem keyOk_T (ws : List (List Nat)) : keyOk (ws.map kT) = true := keyOk_map (fun a => shp_key _ a) dpT alT fun _ => rfl
theorem keyOk_L (ws : List (List Nat)) : keyOk (ws.map kL) = true := keyOk_map shpL dpL alL fun _ => rfl
theorem srtB_T (ws : List (List Nat)) : srtB (ws.map kT) = true := by
  unfold srtB
  rw [Bool.or_eq_true]
  refine .inl (List.all_eq_true.mpr fun d hd => ?_)
  obtain ⟨a, _, rfl⟩ := List.mem_map.mp hd
  rfl
theorem srtB_L (ws : List (List Nat)) : srtB (ws.map kL) = true := by
  unfold srtB
  rw [Bool.or_eq_true]
  refine .inl (List.all_eq_true.mpr fun d hd => ?_)
  obtain ⟨a, _, rfl⟩ := List.mem_map.mp hd
  rfl
/-- words in shortlex -/
def wsort (ws : List (List Nat)) : List (List Nat) := ws.mergeSort fun a b => !slt b a
theorem wsort_perm (ws : List (List Nat)) : (wsort ws).Perm ws := List.mergeSort_perm _ _
theorem zip_map_self {α β : Type} (f : α → β) : ∀ l : List α, (l.map f).zip l = l.map fun x => (f x, x)
  | [] => rfl
  | x :: l => by rw [List.map_cons, List.zip_cons_cons, zip_map_self f l, List.map_cons]
theorem sortKL_T {ws : List (List Nat)} (h : ∀ w ∈ ws, w.all lB = true) : sortKL (ws.map kT) ws = wsort ws := by
  unfold sortKL wsort
  rw [zip_map_self, ← List.map_mergeSort (r := fun a b => !slt b a) (f := fun x => (kT x, x)) (fun a ha b hb => by show _ = leD (kT a) (kT b); unfold leD; rw [ltT (h b hb) (h a ha)]), List.map_map]
  exact List.map_id _
theorem sort_L {ws : List (List Nat)} (h : ∀ w ∈ ws, w.all lB = true) : (ws.map kL).mergeSort leD = (wsort ws).map kL := by
  unfold wsort
  rw [← List.map_mergeSort (r := fun a b => !slt b a) (f := kL) (fun a ha b hb => by show _ = leD (kL a) (kL b); unfold leD; rw [ltL (h b hb) (h a ha)])]
theorem intsOf_L : ∀ ws : List (List Nat), ws ≠ [] → intsOf (ws.map kL) = none
  | [], h => absurd rfl h
  | w :: ws, _ => rfl
theorem keysOf_T {f : Fn} : ∀ {ws : List (List Nat)}, (∀ w ∈ ws, f [.str w] = .ok (9, kT w)) → keysOf f ws = some (ws.map kT)
  | [], _ => rfl
  | w :: ws, h => by
    unfold keysOf
    rw [h w (by simp), keysOf_T fun x m => h x (by simp [m])]; rfl
end Q

namespace Q
open PySem PySem.Spec L2 Px
/-! the least of words -/
def kv (a : List Nat) : List Int := (a.length : Int) :: a.map rk
theorem slt_kv {a b : List Nat} (ha : a.all lB = true) (hb : b.all lB = true) : slt a b = decide (kv a < kv b) := by
  unfold slt kv
  by_cases h : a.length = b.length
  · rw [if_pos h, ltl_ints ha hb h]
    exact decide_eq_decide.mpr ⟨fun q => List.cons_lt_cons_iff.mpr (.inr ⟨by rw [h], q⟩), fun q => by
      rcases List.cons_lt_cons_iff.mp q with q | q
      · omega
      · exact q.2⟩
  · rw [if_neg h]
    exact decide_eq_decide.mpr ⟨fun q => List.cons_lt_cons_iff.mpr (.inl (by omega)), fun q => by
      rcases List.cons_lt_cons_iff.mp q with q | q
      · omega
      · exact absurd (Int.ofNat.inj q.1) h⟩
theorem best_le (f : Nat → List Int) : ∀ k, PySem.argBest (fun i j => decide (f i < f j)) k ≤ k ∧ ∀ i, i ≤ k → f (PySem.argBest (fun i j => decide (f i < f j)) k) ≤ f i
  | 0 => ⟨Nat.le_refl _, fun i h => by rw [Nat.le_zero.mp h]; exact List.le_refl _⟩
  | k + 1 => by
    obtain ⟨h1, h2⟩ := best_le f k
    unfold PySem.argBest
    by_cases hb : f (k + 1) < f (PySem.argBest (fun i j => decide (f i < f j)) k)
    · rw [if_pos (decide_eq_true hb)]
      refine ⟨Nat.le_refl _, fun i hi => ?_⟩
      by_cases e : i = k + 1
      · rw [e]; exact List.le_refl _
      · have q := h2 i (by omega)
        intro c
        exact q (List.lt_trans c hb)
    · rw [if_neg (by simpa using hb)]
      refine ⟨by omega, fun i hi => ?_⟩
      by_cases e : i = k + 1
      · rw [e]; exact hb
      · exact h2 i (by omega)
theorem best_min {ws : List (List Nat)} (h : ∀ w ∈ ws, w.all lB = true) (hne : ws ≠ []) : ∃ b, ws[bestK (ws.map kT) (ws.length - 1)]? = some b ∧ b ∈ ws ∧ ∀ w ∈ ws, slt w b = false := by
  have hl : 0 < ws.length := List.length_pos_iff.mpr hne
  have go : ∀ k, k < ws.length → bestK (ws.map kT) k = PySem.argBest (fun i j => decide (kv (ws.getD i []) < kv (ws.getD j []))) k := by
    intro k
    unfold bestK
    induction k with
    | zero => intro _; rfl
    | succ k ih =>
      intro hk
      have ih := ih (by omega)
      obtain ⟨b1, _⟩ := best_le (fun i => kv (ws.getD i [])) k
      unfold PySem.argBest
      rw [ih]
      have d1 : (ws.map kT).getD (k + 1) .non = kT (ws.getD (k + 1) []) := by
        rw [List.getD_eq_getElem?_getD, List.getD_eq_getElem?_getD, List.getElem?_map, List.getElem?_eq_getElem hk]; rfl
      have hb : PySem.argBest (fun i j => decide (kv (ws.getD i []) < kv (ws.getD j []))) k < ws.length := by
        have b1 : PySem.argBest (fun i j => decide (kv (ws.getD i []) < kv (ws.getD j []))) k ≤ k := b1
        omega
      have d2 : (ws.map kT).getD (PySem.argBest (fun i j => decide (kv (ws.getD i []) < kv (ws.getD j []))) k) .non = kT (ws.getD (PySem.argBest (fun i j => decide (kv (ws.getD i []) < kv (ws.getD j []))) k) []) := by
        rw [List.getD_eq_getElem?_getD, List.getD_eq_getElem?_getD, List.getElem?_map, List.getElem?_eq_getElem hb]; rfl
      have m : ∀ i, i < ws.length → (ws.getD i []).all lB = true := fun i hi => by
        rw [List.getD_eq_getElem?_getD, List.getElem?_eq_getElem hi]
        exact h _ (List.getElem_mem hi)
      rw [d1, d2, ltT (m _ hk) (m _ hb), slt_kv (m _ hk) (m _ hb)]
  have hk := go (ws.length - 1) (by omega)
  obtain ⟨b1, b2⟩ := best_le (fun i => kv (ws.getD i [])) (ws.length - 1)
  rw [hk]
  have hb : PySem.argBest (fun i j => decide (kv (ws.getD i []) < kv (ws.getD j []))) (ws.length - 1) < ws.length := by
    have b1 : PySem.argBest (fun i j => decide (kv (ws.getD i []) < kv (ws.getD j []))) (ws.length - 1) ≤ ws.length - 1 := b1
    omega
  refine ⟨_, List.getElem?_eq_getElem hb, List.getElem_mem hb, fun w m => ?_⟩
  obtain ⟨i, hi, e⟩ := List.getElem_of_mem m
  rw [slt_kv (h _ m) (h _ (List.getElem_mem hb))]
  refine decide_eq_false ?_
  have q := b2 i (by omega)
  have g : ∀ j (hj : j < ws.length), ws.getD j [] = ws[j] := fun j hj => by rw [List.getD_eq_getElem?_getD, List.getElem?_eq_getElem hj]; rfl
  have q : kv (ws.getD (PySem.argBest (fun i j => decide (kv (ws.getD i []) < kv (ws.getD j []))) (ws.length - 1)) []) ≤ kv (ws.getD i []) := q
  rw [g _ hb, g i hi, e] at q
  exact q
end Q

namespace Q
open PySem PySem.Spec L2 Px
theorem lkey_ok {a : List Nat} (ha : a.all lB = true) (hl : a.length ≤ 200) : m__law_key [.str a] = .ok (9, kL a) := by
  unfold m__law_key
  rw [run_of (by rfl), show env0 1 2 [.str a] = [some (9, .str a), none] from rfl]
  unfold c__law_key
  have hl' : a.length ≤ line := W60 hl
  have e0 : ev [] [] (.comp (.nm 1) (.val (.var 0)) [] (.me .sindex (.lit (.str [97, 65, 98, 66, 99, 67])) [.var 1])) [some (9, .str a), none] = .ok (some 9, .lst (rkD a)) := by
    simp only [ev, evI, List.getElem?_cons_zero, cont_str, Bool.false_eq_true, if_false, R.bind_ok, items_str]
    rw [compR_map (g := fun d => match d with | .str [c] => (9, .int (rk c)) | _ => (9, d)) (fun d hd => ?_)]
    · rw [List.map_map]
      have e : List.map ((fun d => match d with | D.str [c] => ((9 : Nat), D.int (rk c)) | _ => (9, d)) ∘ fun c => D.str [c]) a = a.map fun c => ((9 : Nat), D.int (rk c)) := rfl
      rw [e, noExc_ok', R.bind_ok, listV_ints a hl']
    · obtain ⟨c, hc, e⟩ := List.mem_map.mp hd
      subst e
      have hm : meD .sindex (some 9, .str [97, 65, 98, 66, 99, 67]) [(some 9, .str [c])] = .ok (at9 (.int (rk c))) := by
        rcases l6 (List.all_eq_true.mp ha c hc) with e | e | e | e | e | e <;> subst e <;> rfl
      simp [Pat.slots, wipeE, tsts, evs, ev, hm, meOk, line]
  refine fRet ?_
  have e2 : ev [] [] (.bi .len [.var 0]) [some (9, .str a), none] = .ok (at9 (.int a.length)) := by simp [ev, evs, hl']
  rw [ev]
  simp only [evs, e0, e2, R.bind_ok]
  rfl
section
variable {F : List Fn} {C : List D} {T : Tab} {ρ ρ' : Px.Env} {rest : List Cm}
theorem fForXc {p : Pat} {it : Ix} {b els : List Cm} {xs : List D} {x : String} {q : List (String × Int)} (hI : evI F C false it ρ = .ok xs) (hl : loopF p (runs F C T b) (runs F C T els) xs ρ = .exc x q ρ') : fin (runs F C T (.for p it b els :: rest) ρ) = .exc x q := by
  rw [runs_cons, run1_for, hI, liftR_ok, hl]; rfl
end
section
variable {fc fk : Fn}
theorem strs_chd (k : Option Nat) (ws : List (List Nat)) : chd k (ws.map D.str) = .ok 8 := by
  unfold chd; rw [strs_nc]; rfl
theorem ord_it (ws : List (List Nat)) : evI [fc, fk] [] false (.val (.var 0)) [some (0, .lst (ws.map D.str)), none] = .ok (ws.map D.str) := by
  simp only [evI, ev, List.getElem?_cons_zero, cont_lst, if_true, R.bind_ok]
  show (if ((some 0).isNone && !false) = true then R.stuck else do let _ ← chd (some 0) (ws.map D.str); R.ok (ws.map D.str)) = _
  rw [strs_chd]; rfl
end
theorem nw : isA tT "NotWord" "NotWord" = some true := by decide +kernel
theorem chk_ok {w : List Nat} (h : w.all lB = true) (hl : w.length ≤ 60) : callD m__check [(some 9, .str w)] = .ok (at9 .non) :=
  callD_of (by rw [List.map_cons, List.map_nil, check3 w (W60 (by omega)), if_pos (by simp [h, hl])]) rfl (fun _ => rfl)
theorem chk_bad {w : List Nat} (h : (w.all lB && decide (w.length ≤ 60)) = false) (hl : w.length ≤ 200) : callD m__check [(some 9, .str w)] = .exc "NotWord" [] :=
  callD_exc (by rw [List.map_cons, List.map_nil, check3 w (W60 (by omega)), h]; rfl)
end Q

namespace Q
open PySem PySem.Spec L2 Px
def Gd3 (w : List Nat) : Prop := w.all lB = true ∧ w.length ≤ 60
theorem ne_str (k l : Option Nat) (s : List Nat) : cmpD .NotEq (k, .str s) (l, .str s) = .ok false := by simp [cmpD, scalB]
theorem t_or' {F : List Fn} {C : List D} {ρ : Px.Env} {a b : Tx} {y : Bool} (ha : tst F C a ρ = .ok false) (hb : tst F C b ρ = .ok y) : tst F C (.or a b) ρ = .ok y := by
  rw [tst, ha, R.bind_ok, if_neg (by decide)]; exact hb
theorem gd_pr {ws : List (List Nat)} (h : ∀ w ∈ ws, Gd3 w) (hl : ws.length ≤ 100) (k : Option Nat) : biD .repr [(k, .lst (ws.map D.str))] = .ok (at9 (.str (rpT (.lst (ws.map D.str))))) := by
  refine repr_pr k (n := 1) ?_ (by decide) ?_
  · show (ws.map D.str).all (pr 0) = true
    rw [List.all_map, List.all_eq_true]
    intro w m
    show (w.all fun c => decide (c < 1114112)) = true
    rw [List.all_eq_true]
    intro c hc
    rcases l6 (List.all_eq_true.mp (h w m).1 c hc) with e | e | e | e | e | e <;> subst e <;> decide
  · have q : ∀ w ∈ ws, (D.str w).py.weight ≤ 60 := fun w m => by
      show (mkS w).cps.size ≤ 60
      have := (h w m).2
      show w.toArray.size ≤ 60
      simpa using this
    have := wt_lst (f := D.str) q
    have e : ws.length * (60 + 1) ≤ 300000 := by omega
    omega
theorem gd_dat {ws : List (List Nat)} (h : ∀ w ∈ ws, Gd3 w) : dat 1 (.lst (ws.map D.str)) = true := by
  show (ws.map D.str).all (dat 0) = true
  rw [List.all_map, List.all_eq_true]
  intro w m
  show (w.all fun c => decide (c < 1114112)) = true
  rw [List.all_eq_true]
  intro c hc
  rcases l6 (List.all_eq_true.mp (h w m).1 c hc) with e | e | e | e | e | e <;> subst e <;> decide
end Q

namespace Q
open PySem PySem.Spec L2 Px
/-! the core of a word -/
/-- s letters at both ends are inverse to one another -/
def Mir (w : List Nat) (s : Nat) : Prop := 2 * s ≤ w.length ∧ ∀ i, i < s → w.getD i 0 = iv (w.getD (w.length - 1 - i) 0)
def goB (w : List Nat) (s : Nat) : Bool := decide (2 * s + 1 < w.length) && decide (w.getD s 0 = iv (w.getD (w.length - 1 - s) 0))
theorem mir_next {w : List Nat} {s : Nat} (h : Mir w s) (g : goB w s = true) : Mir w (s + 1) := by
  unfold goB at g
  rw [Bool.and_eq_true, decide_eq_true_eq, decide_eq_true_eq] at g
  refine ⟨by omega, fun i hi => ?_⟩
  by_cases e : i = s
  · rw [e]; exact g.2
  · exact h.2 i (by omega)
theorem mir_end {w : List Nat} (hw : w.all lB = true) {s : Nat} (h : Mir w s) : w.drop (w.length - s) = inv (w.take s) := by
  obtain ⟨h1, h2⟩ := h
  refine List.ext_getElem (by simp; omega) fun i a b => ?_
  rw [List.length_drop] at a
  have q := h2 (s - 1 - i) (by omega)
  have e : w.length - 1 - (s - 1 - i) = w.length - s + i := by omega
  have p1 : w.length - s + i < w.length := by omega
  have p2 : s - 1 - i < w.length := by omega
  rw [e, List.getD_eq_getElem?_getD, List.getD_eq_getElem?_getD, List.getElem?_eq_getElem p1, List.getElem?_eq_getElem p2] at q
  have q : w[s - 1 - i] = iv w[w.length - s + i] := q
  have hi : lB w[w.length - s + i] = true := List.all_eq_true.mp hw _ (List.getElem_mem p1)
  have m : min s w.length = s := Nat.min_eq_left (by omega)
  simp only [List.getElem_drop, inv, List.getElem_map, List.getElem_reverse, List.getElem_take, List.length_take, m]
  rw [q, iv_iv hi]
abbrev stm (w : List Nat) (s : Nat) : List Nat := w.take s
abbrev cor (w : List Nat) (s : Nat) : List Nat := (w.drop s).take (w.length - 2 * s)
theorem cor_split {w : List Nat} (hw : w.all lB = true) {s : Nat} (h : Mir w s) : stm w s ++ cor w s ++ inv (stm w s) = w := by
  rw [← mir_end hw h]
  have h1 := h.1
  have e : w.drop (w.length - s) = (w.drop s).drop (w.length - 2 * s) := by
    rw [List.drop_drop]; congr 1; omega
  rw [e, List.append_assoc, List.take_append_drop, List.take_append_drop]
theorem rd_mid3 {a b c : List Nat} (h : Rd (a ++ b ++ c)) : Rd b := fun u x y v e => h (a ++ u) x y (v ++ c) (by rw [e]; simp)
theorem cor_rd {w : List Nat} (hw : w.all lB = true) (hr : Rd w) {s : Nat} (h : Mir w s) : red (cor w s) = cor w s := by
  rw [← cor_split hw h] at hr
  exact red_id (rd_mid3 hr)
theorem cor_nil {w : List Nat} (hw : w.all lB = true) (hr : Rd w) {s : Nat} (h : Mir w s) : cor w s = [] ↔ w = [] := by
  have h1 := h.1
  constructor
  · intro e
    have el := congrArg List.length e
    simp only [cor, List.length_take, List.length_drop, List.length_nil] at el
    have sp := cor_split hw h
    rw [e, List.append_nil] at sp
    have sw : (stm w s).all lB = true := by
      rw [List.all_eq_true] at hw ⊢
      exact fun c m => hw c (List.mem_of_mem_take m)
    rcases List.eq_nil_or_concat (stm w s) with en | ⟨t, x, en⟩
    · rw [en] at sp; exact sp.symm
    · exfalso
      rw [List.concat_eq_append] at en
      rw [en] at sp sw
      have hx : lB x = true := by
        rw [List.all_append, Bool.and_eq_true] at sw
        simpa using sw.2
      refine hr t x (iv x) (inv t) ?_ (iv_iv hx).symm
      rw [← sp]; simp [inv]
  · intro e; simp [cor, e]
theorem cor_ends {w : List Nat} (hw : w.all lB = true) {s : Nat} (h : Mir w s) (g : goB w s = false) (hn : cor w s ≠ []) : ∃ c l z m, lB c = true ∧ cor w s = c :: m ∧ cor w s = l ++ [z] ∧ z ≠ iv c := by
  have h1 := h.1
  have ln : 0 < (cor w s).length := List.length_pos_iff.mpr hn
  have le : (cor w s).length = w.length - 2 * s := by simp [cor]; omega
  have cw : ∀ c ∈ cor w s, lB c = true := fun c m => List.all_eq_true.mp hw c (List.mem_of_mem_drop (List.mem_of_mem_take m))
  refine ⟨(cor w s).head hn, (cor w s).dropLast, (cor w s).getLast hn, (cor w s).tail, cw _ (List.head_mem hn), (List.cons_head_tail hn).symm, (List.dropLast_concat_getLast hn).symm, fun e => ?_⟩
  have a1 : s < w.length := by omega
  have a2 : w.length - 1 - s < w.length := by omega
  have e1 : (cor w s).head hn = w[s] := by
    rw [List.head_eq_getElem]; simp [cor]
  have e2 : (cor w s).getLast hn = w[w.length - 1 - s] := by
    rw [List.getLast_eq_getElem]; simp only [cor, List.getElem_take, List.getElem_drop]
    congr 1
    have le' : ((w.drop s).take (w.length - 2 * s)).length = w.length - 2 * s := le
    rw [le']; omega
  rw [e1, e2] at e
  have l1 := List.all_eq_true.mp hw _ (List.getElem_mem a1)
  by_cases c1 : 2 * s + 1 < w.length
  · unfold goB at g
    rw [decide_eq_true c1, Bool.true_and, decide_eq_false_iff_not] at g
    rw [List.getD_eq_getElem?_getD, List.getD_eq_getElem?_getD, List.getElem?_eq_getElem a1, List.getElem?_eq_getElem a2] at g
    refine g ?_
    show w[s] = iv w[w.length - 1 - s]
    rw [e, iv_iv l1]
  · have : w.length - 1 - s = s := by omega
    simp only [this] at e
    exact iv_ne l1 e.symm
section
variable {f : Fn}
theorem pt_cond (hf : ∀ c, lB c = true → callD f [(some 9, .str [c])] = .ok (at9 (.str [iv c]))) {w : List Nat} (hw : w.all lB = true) (hl : w.length ≤ line) {s : Nat} (hs : 2 * s ≤ w.length) :
    tst [f] [] (.and (.cmp .Gt (.bin .Sub (.bi .len [.var 0]) (.bin .Mult (.lit (.int 2)) (.var 1))) (.lit (.int 1))) (.cmp .Eq (.idx (.var 0) (.var 1)) (.call 0 [.idx (.var 0) (.bin .Sub (.bin .Sub (.bi .len [.var 0]) (.lit (.int 1))) (.var 1))]))) [some (9, .str w), some (9, .int (s : Int))] = .ok (goB w s) := by
  unfold goB
  have mk : mulOk 2 (s : Int) = true := by
    unfold line at hl
    simp [mulOk]
  refine t_and ?_ fun hgo => ?_
  · simp [tst, ev, evs, cmpD, mk, hl]
    by_cases c : 2 * s + 1 < w.length
    · simp [c]; omega
    · simp [c]; omega
  · rw [decide_eq_true_eq] at hgo
    have a1 : s < w.length := by omega
    have a2 : w.length - 1 - s < w.length := by omega
    have l2 : lB (w.getD (w.length - 1 - s) 0) = true := by
      rw [List.getD_eq_getElem?_getD, List.getElem?_eq_getElem a2]
      exact List.all_eq_true.mp hw _ (List.getElem_mem a2)
    have i1 := fun k => idx_str w s k a1 hl
    have i2 := fun k => idx_str w (w.length - 1 - s) k a2 hl
    rw [show ((w.length - 1 - s : Nat) : Int) = (w.length : Int) - 1 - (s : Int) from by omega] at i2
    have h2 := hf _ l2
    simp only [List.getD_eq_getElem?_getD] at h2
    simp [tst, ev, evs, i1, i2, hl, h2, cmpD, scalB]
theorem pt_loop (hf : ∀ c, lB c = true → callD f [(some 9, .str [c])] = .ok (at9 (.str [iv c]))) {w : List Nat} (hw : w.all lB = true) (hl : w.length ≤ 1000) : ∀ (n s : Nat), Mir w s → w.length < s + n →
    ∃ s', Mir w s' ∧ goB w s' = false ∧ loopW (tst [f] [] (.and (.cmp .Gt (.bin .Sub (.bi .len [.var 0]) (.bin .Mult (.lit (.int 2)) (.var 1))) (.lit (.int 1))) (.cmp .Eq (.idx (.var 0) (.var 1)) (.call 0 [.idx (.var 0) (.bin .Sub (.bin .Sub (.bi .len [.var 0]) (.lit (.int 1))) (.var 1))])))) (runs [f] [] tT b__parted_1) n [some (9, .str w), some (9, .int (s : Int))] = .nx [some (9, .str w), some (9, .int (s' : Int))]
  | 0, s, h, hn => by have := h.1; omega
  | n + 1, s, h, hn => by
    have c := pt_cond hf hw (by unfold line; omega) h.1
    unfold loopW
    rw [c, liftR_ok]
    cases g : goB w s with
    | false => exact ⟨s, h, g, by rw [if_neg Bool.false_ne_true]⟩
    | true =>
      obtain ⟨s', h1, h2, h3⟩ := pt_loop hf hw hl n (s + 1) (mir_next h g) (by omega)
      refine ⟨s', h1, h2, ?_⟩
      rw [if_pos rfl, ← h3]
      have := h.1
      have e : runs [f] [] tT b__parted_1 [some (9, .str w), some (9, .int (s : Int))] = .nx [some (9, .str w), some (9, .int ((s + 1 : Nat) : Int))] := by
        unfold b__parted_1
        simp [runs, run1, ev, setR]
      rw [e]; rfl
theorem parted_gen (hf : ∀ c, lB c = true → callD f [(some 9, .str [c])] = .ok (at9 (.str [iv c]))) {w : List Nat} (hw : w.all lB = true) (hl : w.length ≤ 1000) : ∃ s, Mir w s ∧ goB w s = false ∧ runFd [f] [] tT 1 2 c__parted [.str w] = .ok (9, .tup [.str (stm w s), .str (cor w s)]) := by
  obtain ⟨s, h1, h2, h3⟩ := pt_loop hf hw hl 1000000 0 ⟨by omega, fun i hi => by omega⟩ (by omega)
  refine ⟨s, h1, h2, ?_⟩
  have h10 := h1.1
  rw [run_of (by rfl), show env0 1 2 [.str w] = [some (9, .str w), none] from rfl]
  unfold c__parted
  refine fSet (k := 9) (d := .int 0) (by simp [ev]) (by simp) ?_
  rw [runs_cons, run1_whl]
  have h3' := h3
  simp only [List.set_cons_succ, List.set_cons_zero]
  rw [show some (9, D.int 0) = some ((9 : Nat), D.int ((0 : Nat) : Int)) from rfl, h3', sq_nx]
  have hl' : w.length ≤ line := by unfold line; omega
  have s1 : ∀ k, slD (k, .str w) none (some (s : Int)) = .ok (some 9, .str (w.take s)) := fun k => slS_lo s rfl hl'
  have s2 : ∀ k, slD (k, .str w) (some (s : Int)) (some ((w.length : Int) - (s : Int))) = .ok (some 9, .str ((w.drop s).take (w.length - 2 * s))) := fun k => slS_mid s (w.length - 2 * s) rfl (by omega) hl'
  refine fRet ?_
  simp [ev, evs, evO, s1, s2, hl', stm, cor, tupD]
  rfl
end
end Q

namespace Q
open PySem PySem.Spec L2 Px
/-! rotations -/
abbrev rot (w : List Nat) (i : Nat) : List Nat := w.drop i ++ w.take i
abbrev rots (w : List Nat) : List (List Nat) := (List.range (max 1 w.length)).map (rot w)
theorem rot_mem {w z : List Nat} (h : z ∈ rots w) : ∃ i, z = rot w i := by
  obtain ⟨i, _, e⟩ := List.mem_map.mp h
  exact ⟨i, e.symm⟩
theorem rot_all {w : List Nat} (h : w.all lB = true) (i : Nat) : (rot w i).all lB = true := by
  rw [List.all_eq_true] at h ⊢
  intro c m
  rcases List.mem_append.mp m with m | m
  · exact h c (List.mem_of_mem_drop m)
  · exact h c (List.mem_of_mem_take m)
theorem rot_len (w : List Nat) (i : Nat) : (rot w i).length = w.length := by simp [rot]; omega
theorem rots_gd {w : List Nat} (h : w.all lB = true) (hl : w.length ≤ 60) : ∀ z ∈ rots w, z.all lB = true ∧ z.length ≤ 60 := fun z m => by
  obtain ⟨i, e⟩ := rot_mem m
  rw [e]
  exact ⟨rot_all h i, by rw [rot_len]; exact hl⟩
theorem rots_ne (w : List Nat) : rots w ≠ [] := by
  intro e
  have := congrArg List.length e
  rw [List.length_map, List.length_range] at this
  have h : 1 ≤ max 1 w.length := Nat.le_max_left _ _
  rw [this] at h
  exact absurd h (by decide)
section
variable {F : List Fn} {C : List D} {ρ : Px.Env} {fc fk fr : Fn}
theorem ev_rot {w : List Nat} (hl : w.length ≤ 60) {a j i : Nat} (hw : ρ[a]? = some (some (9, .str w))) (hj : ρ[j]? = some (some (9, .int (i : Int)))) : ev F C (.bin .Add (.sl (.var a) (.yes (.var j)) (.no)) (.sl (.var a) (.no) (.yes (.var j)))) ρ = .ok (some 9, .str (rot w i)) := by
  have hl' : w.length ≤ line := by unfold line; omega
  have s1 : ∀ k, slD (k, .str w) none (some (i : Int)) = .ok (some 9, .str (w.take i)) := fun k => slS_lo i rfl hl'
  have s2 : ∀ k, slD (k, .str w) (some (i : Int)) none = .ok (some 9, .str (w.drop i)) := fun k => slS_hi i rfl hl'
  have h1 : (w.drop i).length + (w.take i).length ≤ line := by
    rw [List.length_drop, List.length_take]; unfold line; omega
  simp only [ev, evO, hw, hj, cont_str, cont_int, Bool.false_eq_true, if_false, R.bind_ok, s1, s2]
  show (if (w.drop i).length + (w.take i).length ≤ line then R.ok (at9 (.str (w.drop i ++ w.take i))) else .stuck) = _
  rw [if_pos h1]
theorem rot_gen {w : List Nat} (hc : callD fc [(some 9, .str w)] = .ok (at9 .non)) (hl : w.length ≤ 60) : runFd [fc] [] tT 1 2 c_rotations [.str w] = .ok (9, .lst ((rots w).map D.str)) := by
  rw [run_of (by rfl), show env0 1 2 [.str w] = [some (9, .str w), none] from rfl]
  unfold c_rotations
  refine fExp (kd := at9 .non) (by simp [ev, evs, hc]) ?_
  cases w with
  | nil =>
    refine fIfR (k := 9) (d := .lst [.str []]) (by simp [tst, ev, cmpD, scalB]) ?_
    simp only [ev, evs, R.bind_ok]; rfl
  | cons c w =>
    refine fNo (by simp [tst, ev, cmpD, scalB]) ?_
    refine fRet ?_
    have e : rots (c :: w) = (List.range (c :: w).length).map (rot (c :: w)) := by
      show (List.range (max 1 (c :: w).length)).map _ = _
      rw [Nat.max_eq_right (by simp)]
    rw [e, List.map_map]
    refine cmp_items (fun (i : Nat) => D.int (i : Int)) (D.str ∘ rot (c :: w)) (List.range (c :: w).length) (evI_rngN (k := some 9) (by omega) ?_) (fun _ => rfl) (by simp only [List.length_range]; omega) (by simp) (fun i m => ev_rot hl rfl rfl)
    have hl' : (c :: w).length ≤ line := by unfold line; omega
    simp only [ev, evs, List.getElem?_cons_zero, cont_str, Bool.false_eq_true, if_false, R.bind_ok]
    show (if (c :: w).length ≤ line then R.ok (at9 (.int (c :: w).length)) else .stuck) = _
    rw [if_pos hl']
theorem least_gen {w : List Nat} (hw : w.all lB = true) (hr : callD fr [(some 9, .str w)] = .ok (some 9, .lst ((rots w).map D.str))) (hk : ∀ z ∈ rots w, fk [.str z] = .ok (9, kT z)) : ∃ b, b ∈ rots w ∧ (∀ z ∈ rots w, slt z b = false) ∧ runFd [fk, fr] [] tT 1 1 c_least_rotation [.str w] = .ok (9, .str b) := by
  have ha : ∀ z ∈ rots w, z.all lB = true := fun z m => by
    obtain ⟨i, e⟩ := rot_mem m
    rw [e]; exact rot_all hw i
  obtain ⟨b, h1, h2, h3⟩ := best_min ha (rots_ne w)
  refine ⟨b, h2, h3, ?_⟩
  rw [run_of (by rfl), show env0 1 1 [.str w] = [some (9, .str w)] from rfl]
  unfold c_least_rotation
  refine fRet ?_
  have e1 : ev [fk, fr] [] (.call 1 [.var 0]) [some (9, .str w)] = .ok (some 9, .lst ((rots w).map D.str)) := by
    simp only [ev, evs, List.getElem?_cons_zero, cont_str, Bool.false_eq_true, if_false, R.bind_ok]
    exact hr
  rw [ev]
  simp only [evs, e1, R.bind_ok]
  show keyedD true fk [(some 9, .lst ((rots w).map D.str))] = _
  unfold keyedD
  have e2 : strsOf ((rots w).map D.str) = some (rots w) := strsOf_map (rots w)
  simp only [e2, keysOf_T hk]
  unfold keyedS
  rw [keyOk_T, if_pos rfl, if_pos rfl, h1]
end
theorem chkW {w : List Nat} (h : w.all lB = true) (hl : w.length ≤ 60) : callD m__check [(some 9, .str w)] = .ok (at9 .non) :=
  callD_of (by rw [List.map_cons, List.map_nil, check3 w (W60 (by omega)), if_pos (by simp [h, hl])]) rfl (fun _ => rfl)
theorem rotations_ok {w : List Nat} (h : w.all lB = true) (hl : w.length ≤ 60) : m_rotations [.str w] = .ok (9, .lst ((rots w).map D.str)) := rot_gen (fc := m__check) (chkW h hl) hl
theorem ownSr (ws : List (List Nat)) : ownAll 9 (.lst (ws.map D.str)) = true := by
  show (ws.map D.str).all (ownAll 8) = true
  rw [List.all_map, List.all_eq_true]
  intro t _; rfl
theorem callRot {w : List Nat} (h : w.all lB = true) (hl : w.length ≤ 60) : callD m_rotations [(some 9, .str w)] = .ok (some 9, .lst ((rots w).map D.str)) :=
  callD_bor (f := m_rotations) (k := 9) (rotations_ok h hl) rfl (ownSr _)
theorem least_ok {w : List Nat} (h : w.all lB = true) (hl : w.length ≤ 60) : ∃ b, b ∈ rots w ∧ (∀ z ∈ rots w, slt z b = false) ∧ m_least_rotation [.str w] = .ok (9, .str b) :=
  least_gen (fk := m_shortlex_key) (fr := m_rotations) h (callRot h hl) fun z m => key_ok (rots_gd h hl z m).1 (W60 (by have := (rots_gd h hl z m).2; omega))
/-- the core of a word -/
theorem core_gen {fp fr : Fn} {w : List Nat} {d : D} (h1 : callD fr [(some 9, .str w)] = .ok (at9 (.str (red w)))) (h2 : callD fp [(some 9, .str (red w))] = .ok (at9 d)) (hd : d.cont = false) : runFd [fp, fr] [] tT 1 1 c_core_of [.str w] = .ok (9, d) := by
  rw [run_of (by rfl), show env0 1 1 [.str w] = [some (9, .str w)] from rfl]
  unfold c_core_of
  refine fRet ?_
  simp [ev, evs, h1, h2]
theorem reduced_gen {f0 f1 : Fn} {w : List Nat} (h0 : callD f0 [(some 9, .str w)] = .ok (at9 .non)) (h1 : callD f1 [(some 9, .str w)] = .ok (at9 (.str (red w)))) : runFd [f0, f1] [] tT 1 1 c_reduced [.str w] = .ok (9, .str (red w)) := by
  rw [run_of (by rfl), show env0 1 1 [.str w] = [some (9, .str w)] from rfl]
  unfold c_reduced
  refine fExp (kd := at9 .non) (by simp [ev, evs, h0]) ?_
  refine fRet ?_
  simp [ev, evs, h1]
theorem reduced_ok {w : List Nat} (h : w.all lB = true) (hl : w.length ≤ 60) : m_reduced [.str w] = .ok (9, .str (red w)) :=
  reduced_gen (f0 := m__check) (f1 := m_cut_down) (chkW h hl) (callD_of (cut_ok w (W60 (by omega)) h) rfl (fun _ => rfl))
theorem core_ok {w : List Nat} (h : w.all lB = true) (hl : w.length ≤ 60) : ∃ s, Mir (red w) s ∧ goB (red w) s = false ∧ m_core_of [.str w] = .ok (9, .tup [.str (stm (red w) s), .str (cor (red w) s)]) := by
  have := red_len w
  obtain ⟨s, h1, h2, h3⟩ := parted_gen (f := m_inverse_letter) (fun c hc => callD_of (rank_in hc) rfl (fun _ => rfl)) (red_all h) (by omega)
  exact ⟨s, h1, h2, core_gen (fp := m__parted) (fr := m_reduced) (callD_of (reduced_ok h hl) rfl (fun _ => rfl)) (callD_of (f := m__parted) h3 rfl (fun _ => rfl)) rfl⟩
end Q

namespace Q
open PySem PySem.Spec L2 Px
theorem str_endD (k : Option Nat) (l : List Nat) (z : Nat) (h : (l ++ [z]).length ≤ line) : idxD (k, .str (l ++ [z])) (at9 (.int (-1))) = .ok (at9 (.str [z])) := by
  show (if (l ++ [z]).length ≤ line then (match atI (l ++ [z]) (-1) with | some c => R.ok (at9 (.str [c])) | none => .stuck) else .stuck) = _
  rw [if_pos h, atI_last]
theorem le_keyL {a b : List Nat} (ha : a.all lB = true) (hb : b.all lB = true) (k l : Option Nat) : cmpD .LtE (k, kL a) (l, kL b) = .ok (!slt b a) := by
  show (if ltOk (kL a) (kL b) = true then R.ok (leD (kL a) (kL b)) else .stuck) = _
  have e : ltOk (kL a) (kL b) = true := by unfold ltOk; rw [shpL, shpL, alL]; rfl
  rw [e, if_pos rfl]
  unfold leD
  rw [ltL hb ha]
structure L4 (f2 f3 f4 f5 f6 f7 : Fn) : Prop where
  hI : ∀ w, Gd3 w → callD f2 [(some 9, .str w)] = .ok (at9 (.str (inv w)))
  hR : ∀ w, Gd3 w → callD f3 [(some 9, .str w)] = .ok (at9 (.str (red w)))
  hC : ∀ w, Gd3 w → ∃ s, Mir (red w) s ∧ goB (red w) s = false ∧ callD f4 [(some 9, .str w)] = .ok (at9 (.tup [.str (stm (red w) s), .str (cor (red w) s)]))
  hO : ∀ w, Gd3 w → callD f5 [(some 9, .str w)] = .ok (some 9, .lst ((rots w).map D.str))
  hL : ∀ w, Gd3 w → ∃ b, b ∈ rots w ∧ (∀ z ∈ rots w, slt z b = false) ∧ callD f6 [(some 9, .str w)] = .ok (at9 (.str b))
  hK : ∀ a, Gd3 a → callD f7 [(some 9, .str a)] = .ok (at9 (kL a))
section
variable {f0 f1 f2 f3 f4 f5 f6 f7 : Fn} {x0 x1 x3 : Option (Nat × D)}
theorem tail4b {w : List Nat} {x4 x5 x6 : Option (Nat × D)} (H : L4 f2 f3 f4 f5 f6 f7) (hw : Gd3 w) :
    fin (runs [f0, f1, f2, f3, f4, f5, f6, f7] [] tT (c_law.drop 10) [x0, x1, some (9, .str w), x3, x4, x5, x6, none, none, none, none]) = .ok (9, .bl true) := by
  have rg : ∀ z ∈ rots w, Gd3 z := fun z m => rots_gd hw.1 hw.2 z m
  have wl := hw.2
  have rl : (rots w).length ≤ 60 := by simp; omega
  have hl' : w.length ≤ line := by unfold line; omega
  have e7 : ev [f0, f1, f2, f3, f4, f5, f6, f7] [] (.comp (.nm 8) (.rng1 (.bi .max2 [.lit (.int 1), .bi .len [.var 2]])) [] (.bin .Add (.sl (.var 2) (.yes (.var 8)) (.no)) (.sl (.var 2) (.no) (.yes (.var 8))))) [x0, x1, some (9, .str w), x3, x4, x5, x6, none, none, none, none] = .ok (some 9, .lst ((rots w).map D.str)) := by
    rw [List.map_map]
    refine cmp_items (fun (i : Nat) => D.int (i : Int)) (D.str ∘ rot w) (List.range (max 1 w.length)) (evI_rngN (k := some 9) (by omega) ?_) (fun _ => rfl) (by simp only [List.length_range]; omega) (by simp) (fun i m => ev_rot wl rfl rfl)
    simp only [ev, evs, List.getElem?_cons_zero, List.getElem?_cons_succ, cont_str, Bool.false_eq_true, if_false, R.bind_ok]
    rw [show biD .len [at9 (.str w)] = R.ok (at9 (.int (w.length : Int))) from by
      show (if w.length ≤ line then R.ok (at9 (.int w.length)) else .stuck) = _
      rw [if_pos hl'], R.bind_ok, R.bind_ok]
    show R.ok (at9 (.int (if (w.length : Int) > 1 then (w.length : Int) else 1))) = _
    congr 3
    split <;> omega
  show fin (runs [f0, f1, f2, f3, f4, f5, f6, f7] [] tT (.set 7 (.comp (.nm 8) (.rng1 (.bi .max2 [.lit (.int 1), .bi .len [.var 2]])) [] (.bin .Add (.sl (.var 2) (.yes (.var 8)) (.no)) (.sl (.var 2) (.no) (.yes (.var 8))))) :: c_law.drop 11) _) = _
  refine fSet e7 (by simp) ?_
  simp only [List.set_cons_succ, List.set_cons_zero]
  generalize hρ : [x0, x1, some (9, D.str w), x3, x4, x5, x6, some (9, D.lst ((rots w).map D.str)), none, none, none] = ρ
  have r2 : ρ[2]? = some (some (9, .str w)) := by rw [← hρ]; rfl
  have r7 : ρ[7]? = some (some (9, .lst ((rots w).map D.str))) := by rw [← hρ]; rfl
  have rn : ρ.length = 11 := by rw [← hρ]; rfl
  show fin (runs [f0, f1, f2, f3, f4, f5, f6, f7] [] tT (.ifs (.cmp .NotEq (.bi .repr [.call 5 [.var 2]]) (.bi .repr [.var 7])) [.ret (.lit (.bl false))] [] :: c_law.drop 12) _) = _
  refine fNo (t_cmp (x := at9 (.str (rpT (.lst ((rots w).map D.str))))) (y := at9 (.str (rpT (.lst ((rots w).map D.str))))) ?_ ?_ |>.trans (ne_str (some 9) (some 9) _)) ?_
  · have e : ev [f0, f1, f2, f3, f4, f5, f6, f7] [] (.call 5 [.var 2]) ρ = .ok (some 9, .lst ((rots w).map D.str)) := by
      simp only [ev, evs, r2, cont_str, Bool.false_eq_true, if_false, R.bind_ok]
      exact H.hO w hw
    rw [ev_bi, evs, e, R.bind_ok, evs]
    exact gd_pr rg (by omega) (some 9)
  · rw [ev_bi]
    simp only [evs, ev, r7, cont_lst, if_true, R.bind_ok]
    exact gd_pr rg (by omega) none
  obtain ⟨b, b1, b2, b3⟩ := H.hL w hw
  show fin (runs [f0, f1, f2, f3, f4, f5, f6, f7] [] tT (.set 9 (.call 6 [.var 2]) :: c_law.drop 13) _) = _
  refine fSet (k := 9) (d := .str b) (by simp [ev, evs, r2, b3]) (by omega) ?_
  generalize hσ : ρ.set 9 (some (9, D.str b)) = σ
  have s7 : σ[7]? = some (some (9, .lst ((rots w).map D.str))) := by rw [← hσ, List.getElem?_set_ne (by decide)]; exact r7
  have s9 : σ[9]? = some (some (9, .str b)) := by rw [← hσ, List.getElem?_set_self (by omega)]
  have sn : σ.length = 11 := by rw [← hσ, List.length_set]; exact rn
  have v7 : ev [f0, f1, f2, f3, f4, f5, f6, f7] [] (.var 7) σ = .ok (none, .lst ((rots w).map D.str)) := by
    simp only [ev, s7, cont_lst, if_true]; rfl
  have v9 : ev [f0, f1, f2, f3, f4, f5, f6, f7] [] (.var 9) σ = .ok (at9 (.str b)) := by
    simp only [ev, s9, cont_str, Bool.false_eq_true, if_false]
  have bd : dat 0 (.str b) = true := by
    have := gd_dat (ws := [b]) (fun z m => by rw [List.mem_singleton.mp m]; exact rg b b1)
    simpa [dat] using this
  have hin : cmpD .In (at9 (.str b)) (none, .lst ((rots w).map D.str)) = .ok true := by
    show (if shp (.str b) && shp (.lst ((rots w).map D.str)) then R.ok (memD (.str b) ((rots w).map D.str)) else .stuck) = _
    rw [dat_shp bd (by decide), dat_shp (gd_dat rg) (by decide)]
    rw [show memD (.str b) ((rots w).map D.str) = true from (memD_dat bd (m := 0) (fun x m => by
      obtain ⟨z, hz, rfl⟩ := List.mem_map.mp m
      have := gd_dat (ws := [z]) (fun y m => by rw [List.mem_singleton.mp m]; exact rg z hz)
      simpa [dat] using this)).mpr (List.mem_map_of_mem b1)]
    rfl
  show fin (runs [f0, f1, f2, f3, f4, f5, f6, f7] [] tT (.ret (.and (.cmp .In (.var 9) (.var 7)) (.bi .all [.comp (.nm 10) (.val (.var 7)) [] (.cmp .LtE (.call 7 [.var 9]) (.call 7 [.var 10]))])) :: []) _) = _
  refine fRet ?_
  have iv7 : evI [f0, f1, f2, f3, f4, f5, f6, f7] [] true (.val (.var 7)) σ = .ok ((rots w).map D.str) := by
    rw [evI, v7, R.bind_ok]
    show (do let _ ← chd none ((rots w).map D.str); R.ok ((rots w).map D.str)) = _
    rw [strs_chd]; rfl
  have ec := cmp_items (F := [f0, f1, f2, f3, f4, f5, f6, f7]) (C := []) (ρ := σ) (j := 10) (e := .cmp .LtE (.call 7 [.var 9]) (.call 7 [.var 10])) D.str (fun z => D.bl (!slt z b)) (rots w) iv7 (fun _ => rfl) (by omega) (by omega) (fun z m => by
    have q9 : (σ.set 10 (some (9, D.str z)))[9]? = some (some (9, .str b)) := by rw [List.getElem?_set_ne (by decide)]; exact s9
    have q10 : (σ.set 10 (some (9, D.str z)))[10]? = some (some (9, .str z)) := List.getElem?_set_self (by omega)
    have k1 : ev [f0, f1, f2, f3, f4, f5, f6, f7] [] (.call 7 [.var 9]) (σ.set 10 (some (9, D.str z))) = .ok (at9 (kL b)) := by
      simp [ev, evs, q9, H.hK b (rg b b1)]
    have k2 : ev [f0, f1, f2, f3, f4, f5, f6, f7] [] (.call 7 [.var 10]) (σ.set 10 (some (9, D.str z))) = .ok (at9 (kL z)) := by
      simp [ev, evs, q10, H.hK z (rg z m)]
    rw [ev, k1, R.bind_ok, k2, R.bind_ok, le_keyL (rg b b1).1 (rg z m).1]; rfl)
  have e1 : ev [f0, f1, f2, f3, f4, f5, f6, f7] [] (.cmp .In (.var 9) (.var 7)) σ = .ok (at9 (.bl true)) := by
    rw [ev, v9, R.bind_ok, v7, R.bind_ok, hin]; rfl
  rw [ev, e1, R.bind_ok]
  show ev [f0, f1, f2, f3, f4, f5, f6, f7] [] (.bi .all [.comp (.nm 10) (.val (.var 7)) [] (.cmp .LtE (.call 7 [.var 9]) (.call 7 [.var 10]))]) σ = _
  rw [ev_bi, evs, ec, R.bind_ok, evs]
  show biD .all [(some 9, .lst ((rots w).map fun z => D.bl (!slt z b)))] = _
  rw [all_bls, show ((rots w).all fun z => !slt z b) = true from List.all_eq_true.mpr fun z m => by rw [b2 z m]; rfl]
end
end Q

namespace Q
open PySem PySem.Spec L2 Px
theorem kit_t : kitB "tuple" "tuple" = some true := rfl
theorem kit_s : kitB "str" "str" = some true := rfl
theorem gd_red {w : List Nat} (h : Gd3 w) : Gd3 (red w) := ⟨red_all h.1, by have := red_len w; have := h.2; omega⟩
theorem gd_take {w : List Nat} (h : Gd3 w) (i : Nat) : Gd3 (w.take i) := ⟨List.all_eq_true.mpr fun c m => List.all_eq_true.mp h.1 c (List.mem_of_mem_take m), by have := h.2; rw [List.length_take]; omega⟩
theorem gd_drop {w : List Nat} (h : Gd3 w) (i : Nat) : Gd3 (w.drop i) := ⟨List.all_eq_true.mpr fun c m => List.all_eq_true.mp h.1 c (List.mem_of_mem_drop m), by have := h.2; rw [List.length_drop]; omega⟩
theorem ne_st (k l : Option Nat) (a b : List Nat) : cmpD .NotEq (k, .str a) (l, .str b) = .ok (!decide (a = b)) := by
  by_cases h : a = b
  · subst h; simp [cmpD, scalB]
  · simp [cmpD, scalB, h]
theorem eq_st (k l : Option Nat) (a b : List Nat) : cmpD .Eq (k, .str a) (l, .str b) = .ok (decide (a = b)) := by
  by_cases h : a = b
  · subst h; simp [cmpD, scalB]
  · simp [cmpD, scalB, h]
theorem add_st (k l : Option Nat) (a b : List Nat) (h : a.length + b.length ≤ line) : binD .Add (k, .str a) (l, .str b) = .ok (at9 (.str (a ++ b))) := by
  show (if a.length + b.length ≤ line then R.ok (at9 (.str (a ++ b))) else .stuck) = _
  rw [if_pos h]
section
variable {f0 f1 f2 f3 f4 f5 f6 f7 : Fn} {x0 x1 x3 : Option (Nat × D)}
theorem tail4a {w : List Nat} (H : L4 f2 f3 f4 f5 f6 f7) (hw : Gd3 w) :
    fin (runs [f0, f1, f2, f3, f4, f5, f6, f7] [] tT (c_law.drop 3) [x0, x1, some (9, .str w), x3, none, none, none, none, none, none, none]) = .ok (9, .bl true) := by
  obtain ⟨s, m1, m2, hc⟩ := H.hC w hw
  have rr := rd_red w
  have ra := red_all hw.1
  have gr := gd_red hw
  have sp := cor_split ra m1
  have cn := cor_nil ra rr m1
  have cr := cor_rd ra rr m1
  have ce := cor_ends ra m1 m2
  have gs : Gd3 (stm (red w) s) := gd_take gr s
  have gc : Gd3 (cor (red w) s) := gd_take (gd_drop gr s) _
  have hI := H.hI _ gs
  have hRc := H.hR _ gc
  rw [cr] at hRc
  have hRw := H.hR _ hw
  generalize hr : red w = r at *
  generalize hs : stm r s = st at *
  generalize hcc : cor r s = co at *
  show fin (runs [f0, f1, f2, f3, f4, f5, f6, f7] [] tT (.set 4 (.call 3 [.var 2]) :: c_law.drop 4) _) = _
  refine fSet (k := 9) (d := .str r) (by simp [ev, evs, hRw]) (by simp) ?_
  simp only [List.set_cons_succ, List.set_cons_zero]
  show fin (runs [f0, f1, f2, f3, f4, f5, f6, f7] [] tT (.set 5 (.call 4 [.var 2]) :: c_law.drop 5) _) = _
  refine fSet (k := 9) (d := .tup [.str st, .str co]) (by simp [ev, evs, hc]) (by simp) ?_
  simp only [List.set_cons_succ, List.set_cons_zero]
  have v5 : ∀ {ρ : Px.Env}, ρ[5]? = some (some (9, .tup [.str st, .str co])) → ev [f0, f1, f2, f3, f4, f5, f6, f7] [] (.var 5) ρ = .ok (at9 (.tup [.str st, .str co])) := fun h => by
    rw [ev, h]; rfl
  have v50 : ∀ {ρ : Px.Env}, ρ[5]? = some (some (9, .tup [.str st, .str co])) → ev [f0, f1, f2, f3, f4, f5, f6, f7] [] (.idx (.var 5) (.lit (.int 0))) ρ = .ok (at9 (.str st)) := fun h => by
    rw [ev, v5 h, R.bind_ok, ev, R.bind_ok]; rfl
  have v51 : ∀ {ρ : Px.Env}, ρ[5]? = some (some (9, .tup [.str st, .str co])) → ev [f0, f1, f2, f3, f4, f5, f6, f7] [] (.idx (.var 5) (.lit (.int 1))) ρ = .ok (at9 (.str co)) := fun h => by
    rw [ev, v5 h, R.bind_ok, ev, R.bind_ok]; rfl
  show fin (runs [f0, f1, f2, f3, f4, f5, f6, f7] [] tT (.ifs (.or (.not (.val (.isTy (.var 5) "tuple"))) (.or (.cmp .NotEq (.bi .len [.var 5]) (.lit (.int 2))) (.or (.not (.val (.isTy (.idx (.var 5) (.lit (.int 0))) "str"))) (.not (.val (.isTy (.idx (.var 5) (.lit (.int 1))) "str")))))) [.ret (.lit (.bl false))] [] :: c_law.drop 6) _) = _
  refine fNo (t_or' ?_ (t_or' ?_ (t_or' ?_ ?_))) ?_
  · rw [tst, tst, ev, v5 rfl, R.bind_ok]
    show (do let r ← (do let x ← (match kitB "tuple" "tuple" with | some b => R.ok (at9 (.bl b)) | none => R.stuck); truD x); R.ok (!r)) = _
    rw [kit_t]; rfl
  · exact (t_cmp (x := at9 (.int 2)) (y := at9 (.int 2)) (by rw [ev_bi, evs, v5 rfl, R.bind_ok, evs]; rfl) (by rw [ev])).trans rfl
  · rw [tst, tst, ev, v50 rfl, R.bind_ok]
    show (do let r ← (do let x ← (match kitB "str" "str" with | some b => R.ok (at9 (.bl b)) | none => R.stuck); truD x); R.ok (!r)) = _
    rw [kit_s]; rfl
  · rw [tst, tst, ev, v51 rfl, R.bind_ok]
    show (do let r ← (do let x ← (match kitB "str" "str" with | some b => R.ok (at9 (.bl b)) | none => R.stuck); truD x); R.ok (!r)) = _
    rw [kit_s]; rfl
  show fin (runs [f0, f1, f2, f3, f4, f5, f6, f7] [] tT (.set 3 (.idx (.var 5) (.lit (.int 0))) :: c_law.drop 7) _) = _
  refine fSet (k := 9) (d := .str st) (v50 rfl) (by simp) ?_
  simp only [List.set_cons_succ, List.set_cons_zero]
  show fin (runs [f0, f1, f2, f3, f4, f5, f6, f7] [] tT (.set 6 (.idx (.var 5) (.lit (.int 1))) :: c_law.drop 8) _) = _
  refine fSet (k := 9) (d := .str co) (v51 rfl) (by simp) ?_
  simp only [List.set_cons_succ, List.set_cons_zero]
  have go := tail4b (f0 := f0) (f1 := f1) (x0 := x0) (x1 := x1) (x3 := some (9, D.str st)) (x4 := some (9, D.str r)) (x5 := some (9, D.tup [.str st, .str co])) (x6 := some (9, D.str co)) H hw
  generalize hρ : [x0, x1, some (9, D.str w), some (9, D.str st), some (9, D.str r), some (9, D.tup [.str st, .str co]), some (9, D.str co), none, none, none, none] = ρ at *
  have r3 : ρ[3]? = some (some (9, .str st)) := by rw [← hρ]; rfl
  have r4 : ρ[4]? = some (some (9, .str r)) := by rw [← hρ]; rfl
  have r6 : ρ[6]? = some (some (9, .str co)) := by rw [← hρ]; rfl
  have v : ∀ {i : Nat} {z : List Nat}, ρ[i]? = some (some (9, .str z)) → ev [f0, f1, f2, f3, f4, f5, f6, f7] [] (.var i) ρ = .ok (at9 (.str z)) := fun h => by rw [ev, h]; rfl
  have l1 := gs.2
  have l2 := gc.2
  have l3 : (inv st).length ≤ 60 := by simp [inv]; omega
  have c3 : ev [f0, f1, f2, f3, f4, f5, f6, f7] [] (.call 2 [.var 3]) ρ = .ok (at9 (.str (inv st))) := by
    simp [ev, evs, r3, hI]
  have le : ev [f0, f1, f2, f3, f4, f5, f6, f7] [] (.lit (.str [])) ρ = .ok (at9 (.str [])) := by rw [ev]
  show fin (runs [f0, f1, f2, f3, f4, f5, f6, f7] [] tT (.ifs (.or (.cmp .NotEq (.bin .Add (.bin .Add (.var 3) (.var 6)) (.call 2 [.var 3])) (.var 4)) (.cmp .NotEq (.cmp .Eq (.var 6) (.lit (.str []))) (.cmp .Eq (.var 4) (.lit (.str []))))) [.ret (.lit (.bl false))] [] :: c_law.drop 9) _) = _
  refine fNo (t_or' (t_cmp (x := at9 (.str r)) (y := at9 (.str r)) ?_ (v r4) |>.trans (ne_str (some 9) (some 9) _)) (t_cmp (x := at9 (.bl (decide (r = [])))) (y := at9 (.bl (decide (r = [])))) ?_ ?_ |>.trans ?_)) ?_
  · rw [ev, ev, v r3, R.bind_ok, v r6, R.bind_ok, add_st _ _ _ _ (by unfold line; omega), R.bind_ok, c3, R.bind_ok, add_st _ _ _ _ (by simp only [List.length_append]; unfold line; omega), sp]
  · rw [ev, v r6, R.bind_ok, le, R.bind_ok, eq_st, R.bind_ok, decide_eq_decide.mpr cn]
  · rw [ev, v r4, R.bind_ok, le, R.bind_ok, eq_st, R.bind_ok]
  · cases decide (r = []) <;> rfl
  show fin (runs [f0, f1, f2, f3, f4, f5, f6, f7] [] tT (.ifs (.and (.cmp .NotEq (.var 6) (.lit (.str []))) (.or (.cmp .Eq (.idx (.var 6) (.un .USub (.lit (.int 1)))) (.call 2 [.idx (.var 6) (.lit (.int 0))])) (.cmp .NotEq (.call 3 [.var 6]) (.var 6)))) [.ret (.lit (.bl false))] [] :: c_law.drop 10) _) = _
  refine fNo ?_ go
  have t1 : tst [f0, f1, f2, f3, f4, f5, f6, f7] [] (.cmp .NotEq (.var 6) (.lit (.str []))) ρ = .ok (!decide (co = [])) := by
    rw [tst, v r6, R.bind_ok, le, R.bind_ok, ne_st]
  rw [tst, t1, R.bind_ok]
  by_cases hn : co = []
  · rw [decide_eq_true hn]; rfl
  · rw [decide_eq_false hn, if_pos (by rfl)]
    obtain ⟨c, l, z, m, h1, h2, h3, h4⟩ := ce hn
    have i1 : ev [f0, f1, f2, f3, f4, f5, f6, f7] [] (.idx (.var 6) (.un .USub (.lit (.int 1)))) ρ = .ok (at9 (.str [z])) := by
      rw [ev, v r6, R.bind_ok, h3]
      show (do let y ← R.ok (at9 (.int (-1))); idxD (at9 (.str (l ++ [z]))) y) = _
      rw [R.bind_ok]
      exact str_endD _ _ _ (by rw [← h3]; unfold line; omega)
    have i2 : ev [f0, f1, f2, f3, f4, f5, f6, f7] [] (.call 2 [.idx (.var 6) (.lit (.int 0))]) ρ = .ok (at9 (.str [iv c])) := by
      have i0 : ev [f0, f1, f2, f3, f4, f5, f6, f7] [] (.idx (.var 6) (.lit (.int 0))) ρ = .ok (at9 (.str [c])) := by
        have := idx_str co 0 (some 9) (by rw [h2]; simp) (by unfold line; omega)
        rw [ev, v r6, R.bind_ok, ev, R.bind_ok]
        rw [h2] at this ⊢
        exact this
      have hi := H.hI [c] ⟨by simp [h1], by simp⟩
      rw [ev, evs, i0, R.bind_ok, evs]
      exact hi
    refine t_or' ?_ ?_
    · rw [tst, i1, R.bind_ok, i2, R.bind_ok, eq_st]
      simp [h4]
    · have c6 : ev [f0, f1, f2, f3, f4, f5, f6, f7] [] (.call 3 [.var 6]) ρ = .ok (at9 (.str co)) := by
        simp [ev, evs, r6, hRc]
      rw [tst, c6, R.bind_ok, v r6, R.bind_ok]
      exact ne_str (some 9) (some 9) _
end
end Q

namespace Q
open PySem PySem.Spec L2 Px
section
variable {f0 f1 f2 f3 f4 f5 f6 f7 : Fn}
theorem law4_gen {ns : List Int} {cl : Nat → Int} {g : Int} {u t : List Nat} (H : L4 f2 f3 f4 f5 f6 f7) (cc : ∀ k : Nat, callD f0 [(some 0, .lst (iL ns)), (some 9, .int (k : Int))] = .ok (at9 (.int (cl k)))) (hg : 1 + (cl 0).fmod 3 = g)
    (hu : callD f1 [(some 9, .int (cl 1)), (some 9, .int g), (some 9, .int 12)] = .ok (at9 (.str u))) (ht : callD f1 [(some 9, .int (cl 2)), (some 9, .int g), (some 9, .int 4)] = .ok (at9 (.str t)))
    (au : u.all lB = true) (lu : u.length ≤ 12) (at_ : t.all lB = true) (lt : t.length ≤ 4) : runFd [f0, f1, f2, f3, f4, f5, f6, f7] [] tT 1 11 c_law [.lst (iL ns)] = .ok (9, .bl true) := by
  have k0 := cc 0
  have k1 := cc 1
  have k2 := cc 2
  simp only [Int.cast_ofNat_Int] at k0 k1 k2
  have gt : Gd3 t := ⟨at_, by omega⟩
  have hI := H.hI t gt
  rw [run_of (by rfl), show env0 1 11 [.lst (iL ns)] = [some (0, .lst (iL ns)), none, none, none, none, none, none, none, none, none, none] from rfl]
  show fin (runs [f0, f1, f2, f3, f4, f5, f6, f7] [] tT (.set 1 (.bin .Add (.lit (.int 1)) (.bin .Mod (.call 0 [.var 0, .lit (.int 0)]) (.lit (.int 3)))) :: c_law.drop 1) _) = _
  refine fSet (k := 9) (d := .int g) (by simp [ev, evs, k0, hg]) (by simp) ?_
  simp only [List.set_cons_succ, List.set_cons_zero]
  show fin (runs [f0, f1, f2, f3, f4, f5, f6, f7] [] tT (.set 2 (.call 1 [.call 0 [.var 0, .lit (.int 1)], .var 1, .lit (.int 12)]) :: c_law.drop 2) _) = _
  refine fSet (k := 9) (d := .str u) (by simp [ev, evs, k1, hu]) (by simp) ?_
  simp only [List.set_cons_succ, List.set_cons_zero]
  show fin (runs [f0, f1, f2, f3, f4, f5, f6, f7] [] tT (.ifs (.cmp .Eq (.bin .Mod (.bin .FloorDiv (.call 0 [.var 0, .lit (.int 0)]) (.lit (.int 3))) (.lit (.int 2))) (.lit (.int 0))) [.set 3 (.call 1 [.call 0 [.var 0, .lit (.int 2)], .var 1, .lit (.int 4)]), .set 2 (.bin .Add (.bin .Add (.var 3) (.var 2)) (.call 2 [.var 3]))] [] :: c_law.drop 3) _) = _
  have tt : tst [f0, f1, f2, f3, f4, f5, f6, f7] [] (.cmp .Eq (.bin .Mod (.bin .FloorDiv (.call 0 [.var 0, .lit (.int 0)]) (.lit (.int 3))) (.lit (.int 2))) (.lit (.int 0))) [some (0, .lst (iL ns)), some (9, .int g), some (9, .str u), none, none, none, none, none, none, none, none] = .ok (decide (((cl 0).fdiv 3).fmod 2 = 0)) := by
    simp [tst, ev, evs, k0, cmpD, scalB]
  by_cases c : ((cl 0).fdiv 3).fmod 2 = 0
  · rw [decide_eq_true c] at tt
    have li : (inv t).length ≤ 4 := by simp [inv]; omega
    refine fIf (ρ' := [some (0, .lst (iL ns)), some (9, .int g), some (9, .str (t ++ u ++ inv t)), some (9, .str t), none, none, none, none, none, none, none]) tt ?_ ?_
    · rw [if_pos rfl]
      have e3 : ev [f0, f1, f2, f3, f4, f5, f6, f7] [] (.call 1 [.call 0 [.var 0, .lit (.int 2)], .var 1, .lit (.int 4)]) [some (0, .lst (iL ns)), some (9, .int g), some (9, .str u), none, none, none, none, none, none, none, none] = .ok (at9 (.str t)) := by
        simp [ev, evs, k2, ht]
      refine nSet (k := 9) (d := .str t) e3 (by simp) ?_
      simp only [List.set_cons_succ, List.set_cons_zero]
      refine nSet (k := 9) (d := .str (t ++ u ++ inv t)) ?_ (by simp) (by rw [runs_nil]; rfl)
      have c3 : ev [f0, f1, f2, f3, f4, f5, f6, f7] [] (.call 2 [.var 3]) [some (0, .lst (iL ns)), some (9, .int g), some (9, .str u), some (9, .str t), none, none, none, none, none, none, none] = .ok (at9 (.str (inv t))) := by
        simp [ev, evs, hI]
      have v3 : ev [f0, f1, f2, f3, f4, f5, f6, f7] [] (.var 3) [some (0, .lst (iL ns)), some (9, .int g), some (9, .str u), some (9, .str t), none, none, none, none, none, none, none] = .ok (at9 (.str t)) := rfl
      have v2 : ev [f0, f1, f2, f3, f4, f5, f6, f7] [] (.var 2) [some (0, .lst (iL ns)), some (9, .int g), some (9, .str u), some (9, .str t), none, none, none, none, none, none, none] = .ok (at9 (.str u)) := rfl
      rw [ev, ev, v3, R.bind_ok, v2, R.bind_ok, add_st _ _ _ _ (by unfold line; omega), R.bind_ok, c3, R.bind_ok, add_st _ _ _ _ (by simp only [List.length_append]; unfold line; omega)]
    · exact tail4a H ⟨all_app (all_app at_ au) (inv_all at_), by simp only [List.length_append]; omega⟩
  · rw [decide_eq_false c] at tt
    refine fIf (ρ' := [some (0, .lst (iL ns)), some (9, .int g), some (9, .str u), none, none, none, none, none, none, none, none]) tt ?_ ?_
    · rw [if_neg Bool.false_ne_true, runs_nil]
    · exact tail4a H ⟨au, by omega⟩
end
theorem math : ∀ ns : List Int, ns.length ≤ 63 → AllTrue (m_law [.lst (ns.map D.int)]) := fun ns hn => by
  refine all_ok (k := 9) ?_
  obtain ⟨cl, hc⟩ := Classical.axiomOfChoice (cell_ok ns)
  have a0 := Int.fmod_nonneg_of_pos (cl 0) (b := 3) (by decide)
  have a1 := Int.fmod_lt_of_pos (cl 0) (b := 3) (by decide)
  obtain ⟨g, hg⟩ := Int.eq_ofNat_of_zero_le (show 0 ≤ 1 + (cl 0).fmod 3 by omega)
  obtain ⟨u, u1, u2, u3⟩ := word_ok (cl 1) g 12 (by omega) (by omega) (by omega)
  obtain ⟨t, t1, t2, t3⟩ := word_ok (cl 2) g 4 (by omega) (by omega) (by omega)
  have q60 : ∀ {w : List Nat}, Gd3 w → w.length ≤ line := fun h => W60 (by have := h.2; omega)
  refine law4_gen (f0 := m__law_cell) (f1 := m__law_word) (f2 := m__law_inverse) (f3 := m__law_reduced) (f4 := m_core_of) (f5 := m_rotations) (f6 := m_least_rotation) (f7 := m__law_key) (cl := cl) (g := g) (u := u) (t := t) ⟨?_, ?_, ?_, ?_, ?_, ?_⟩ (fun k => callD_at (f := m__law_cell) (k := 9) (hc k) rfl rfl (fun _ => rfl)) hg (callD_at (f := m__law_word) (k := 9) u3 rfl rfl (fun _ => rfl)) (callD_at (f := m__law_word) (k := 9) t3 rfl rfl (fun _ => rfl)) u1 u2 t1 t2
  · exact fun w h => callD_at (f := m__law_inverse) (k := 9) (linv_ok w (q60 h) h.1) rfl rfl (fun _ => rfl)
  · exact fun w h => callD_at (f := m__law_reduced) (k := 9) (lred_ok w (q60 h) h.1) rfl rfl (fun _ => rfl)
  · intro w h
    obtain ⟨s, h1, h2, h3⟩ := core_ok h.1 h.2
    exact ⟨s, h1, h2, callD_at (f := m_core_of) (k := 9) h3 rfl rfl (fun e => by cases e)⟩
  · exact fun w h => callRot h.1 h.2
  · intro w h
    obtain ⟨b, h1, h2, h3⟩ := least_ok h.1 h.2
    exact ⟨b, h1, h2, callD_at (f := m_least_rotation) (k := 9) h3 rfl rfl (fun _ => rfl)⟩
  · exact fun a ha => callD_at (f := m__law_key) (k := 9) (lkey_ok ha.1 (by have := ha.2; omega)) rfl rfl (fun e => by cases e)
end Q

namespace Q
open PySem PySem.Spec PyProof.Rows L2 Px
open PySem (Expr Stmt)
def top (i : Nat) : Stmt := PySem.Challenge.pw_cayleywalk_k04_cores_and_rotations.main.body.getD i (.Pass ⟨0, 0, 0, 0⟩)
theorem sc_check_generators : FnScope f_check_generators.N ["g"] (defScope (top 8)) := ⟨rfl, rfl, rfl, by decide +kernel, rfl, by decide +kernel, by decide +kernel⟩
theorem o_check_generators : okSs f_check_generators tT c_check_generators (defScope (top 8)) (defBody (top 8)) = true := by decide +kernel
theorem sc_letters_of : FnScope f_letters_of.N ["g"] (defScope (top 9)) := ⟨rfl, rfl, rfl, by decide +kernel, rfl, by decide +kernel, by decide +kernel⟩
theorem o_letters_of : okSs f_letters_of tT c_letters_of (defScope (top 9)) (defBody (top 9)) = true := by decide +kernel
theorem sc_rank_of : FnScope f_rank_of.N ["letter"] (defScope (top 10)) := ⟨rfl, rfl, rfl, by decide +kernel, rfl, by decide +kernel, by decide +kernel⟩
theorem o_rank_of : okSs f_rank_of tT c_rank_of (defScope (top 10)) (defBody (top 10)) = true := by decide +kernel
theorem sc_inverse_letter : FnScope f_inverse_letter.N ["letter"] (defScope (top 11)) := ⟨rfl, rfl, rfl, by decide +kernel, rfl, by decide +kernel, by decide +kernel⟩
theorem o_inverse_letter : okSs f_inverse_letter tT c_inverse_letter (defScope (top 11)) (defBody (top 11)) = true := by decide +kernel
theorem sc_shortlex_key : FnScope f_shortlex_key.N ["word"] (defScope (top 12)) := ⟨rfl, rfl, rfl, by decide +kernel, rfl, by decide +kernel, by decide +kernel⟩
theorem o_shortlex_key : okSs f_shortlex_key tT c_shortlex_key (defScope (top 12)) (defBody (top 12)) = true := by decide +kernel
theorem sc__is_over : FnScope f__is_over.N ["letters", "text"] (defScope (top 13)) := ⟨rfl, rfl, rfl, by decide +kernel, rfl, by decide +kernel, by decide +kernel⟩
theorem o__is_over : okSs f__is_over tT c__is_over (defScope (top 13)) (defBody (top 13)) = true := by decide +kernel
theorem sc_is_word : FnScope f_is_word.N ["g", "text"] (defScope (top 14)) := ⟨rfl, rfl, rfl, by decide +kernel, rfl, by decide +kernel, by decide +kernel⟩
theorem o_is_word : okSs f_is_word tT c_is_word (defScope (top 14)) (defBody (top 14)) = true := by decide +kernel
theorem sc_check_word : FnScope f_check_word.N ["g", "text"] (defScope (top 15)) := ⟨rfl, rfl, rfl, by decide +kernel, rfl, by decide +kernel, by decide +kernel⟩
theorem o_check_word : okSs f_check_word tT c_check_word (defScope (top 15)) (defBody (top 15)) = true := by decide +kernel
theorem sc__check : FnScope f__check.N ["word"] (defScope (top 17)) := ⟨rfl, rfl, rfl, by decide +kernel, rfl, by decide +kernel, by decide +kernel⟩
theorem o__check : okSs f__check tT c__check (defScope (top 17)) (defBody (top 17)) = true := by decide +kernel
theorem sc_cut_down : FnScope f_cut_down.N ["word"] (defScope (top 18)) := ⟨rfl, rfl, rfl, by decide +kernel, rfl, by decide +kernel, by decide +kernel⟩
theorem o_cut_down : okSs f_cut_down tT c_cut_down (defScope (top 18)) (defBody (top 18)) = true := by decide +kernel
theorem sc_reduced : FnScope f_reduced.N ["word"] (defScope (top 19)) := ⟨rfl, rfl, rfl, by decide +kernel, rfl, by decide +kernel, by decide +kernel⟩
theorem o_reduced : okSs f_reduced tT c_reduced (defScope (top 19)) (defBody (top 19)) = true := by decide +kernel
theorem sc__parted : FnScope f__parted.N ["word"] (defScope (top 20)) := ⟨rfl, rfl, rfl, by decide +kernel, rfl, by decide +kernel, by decide +kernel⟩
theorem o__parted : okSs f__parted tT c__parted (defScope (top 20)) (defBody (top 20)) = true := by decide +kernel
theorem sc_core_of : FnScope f_core_of.N ["word"] (defScope (top 21)) := ⟨rfl, rfl, rfl, by decide +kernel, rfl, by decide +kernel, by decide +kernel⟩
theorem o_core_of : okSs f_core_of tT c_core_of (defScope (top 21)) (defBody (top 21)) = true := by decide +kernel
theorem sc_rotations : FnScope f_rotations.N ["word"] (defScope (top 22)) := ⟨rfl, rfl, rfl, by decide +kernel, rfl, by decide +kernel, by decide +kernel⟩
theorem o_rotations : okSs f_rotations tT c_rotations (defScope (top 22)) (defBody (top 22)) = true := by decide +kernel
theorem sc_least_rotation : FnScope f_least_rotation.N ["word"] (defScope (top 23)) := ⟨rfl, rfl, rfl, by decide +kernel, rfl, by decide +kernel, by decide +kernel⟩
theorem o_least_rotation : okSs f_least_rotation tT c_least_rotation (defScope (top 23)) (defBody (top 23)) = true := by decide +kernel
theorem sc__law_cell : FnScope f__law_cell.N ["_law_script", "_law_k"] (defScope (top 25)) := ⟨rfl, rfl, rfl, by decide +kernel, rfl, by decide +kernel, by decide +kernel⟩
theorem o__law_cell : okSs f__law_cell tT c__law_cell (defScope (top 25)) (defBody (top 25)) = true := by decide +kernel
theorem sc__law_values : FnScope f__law_values.N ["_law_cell_here", "_law_count", "_law_size"] (defScope (top 26)) := ⟨rfl, rfl, rfl, by decide +kernel, rfl, by decide +kernel, by decide +kernel⟩
theorem o__law_values : okSs f__law_values tT c__law_values (defScope (top 26)) (defBody (top 26)) = true := by decide +kernel
theorem sc__law_word : FnScope f__law_word.N ["_law_cell_here", "_law_g", "_law_most"] (defScope (top 27)) := ⟨rfl, rfl, rfl, by decide +kernel, rfl, by decide +kernel, by decide +kernel⟩
theorem o__law_word : okSs f__law_word tT c__law_word (defScope (top 27)) (defBody (top 27)) = true := by decide +kernel
theorem sc__law_inverse : FnScope f__law_inverse.N ["_law_word_here"] (defScope (top 28)) := ⟨rfl, rfl, rfl, by decide +kernel, rfl, by decide +kernel, by decide +kernel⟩
theorem o__law_inverse : okSs f__law_inverse tT c__law_inverse (defScope (top 28)) (defBody (top 28)) = true := by decide +kernel
theorem sc__law_reduced : FnScope f__law_reduced.N ["_law_word_here"] (defScope (top 29)) := ⟨rfl, rfl, rfl, by decide +kernel, rfl, by decide +kernel, by decide +kernel⟩
theorem o__law_reduced : okSs f__law_reduced tT c__law_reduced (defScope (top 29)) (defBody (top 29)) = true := by decide +kernel
theorem sc__law_key : FnScope f__law_key.N ["_law_word_here"] (defScope (top 30)) := ⟨rfl, rfl, rfl, by decide +kernel, rfl, by decide +kernel, by decide +kernel⟩
theorem o__law_key : okSs f__law_key tT c__law_key (defScope (top 30)) (defBody (top 30)) = true := by decide +kernel
theorem sc_law : FnScope f_law.N ["_law_script"] (defScope (top 31)) := ⟨rfl, rfl, rfl, by decide +kernel, rfl, by decide +kernel, by decide +kernel⟩
theorem o_law : okSs f_law tT c_law (defScope (top 31)) (defBody (top 31)) = true := by decide +kernel
theorem all_mk {P : Program} {w : World} {K : PySem.W.Frag} {h : Heap} {mg : Str → Option Value} {fa : Addr} (X : K.In h) (G : h.Ns mainGlobals mg) (hfa : mg "law" = some (.ref fa))
    {F_check_generators : Addr} {F_letters_of : Addr} {F_rank_of : Addr} {F_inverse_letter : Addr} {F_shortlex_key : Addr} {F__is_over : Addr} {F_is_word : Addr} {F_check_word : Addr} {F__check : Addr} {F_cut_down : Addr} {F_reduced : Addr} {F__parted : Addr} {F_core_of : Addr} {F_rotations : Addr} {F_least_rotation : Addr} {F__law_cell : Addr} {F__law_values : Addr} {F__law_word : Addr} {F__law_inverse : Addr} {F__law_reduced : Addr} {F__law_key : Addr} {F_law : Addr} {D_CayleyError : Addr} {D_NotWord : Addr} {D_BadNumber : Addr} {od_check_generators an_check_generators : Option Addr} {sl_check_generators : Array (Option Value)} {oc_check_generators kV_check_generators dc_check_generators pm_check_generators cd_check_generators ct_check_generators : Value} {od_letters_of an_letters_of : Option Addr} {sl_letters_of : Array (Option Value)} {oc_letters_of kV_letters_of dc_letters_of pm_letters_of cd_letters_of ct_letters_of : Value} {od_rank_of an_rank_of : Option Addr} {sl_rank_of : Array (Option Value)} {oc_rank_of kV_rank_of dc_rank_of pm_rank_of cd_rank_of ct_rank_of : Value} {od_inverse_letter an_inverse_letter : Option Addr} {sl_inverse_letter : Array (Option Value)} {oc_inverse_letter kV_inverse_letter dc_inverse_letter pm_inverse_letter cd_inverse_letter ct_inverse_letter : Value} {od_shortlex_key an_shortlex_key : Option Addr} {sl_shortlex_key : Array (Option Value)} {oc_shortlex_key kV_shortlex_key dc_shortlex_key pm_shortlex_key cd_shortlex_key ct_shortlex_key : Value} {od__is_over an__is_over : Option Addr} {sl__is_over : Array (Option Value)} {oc__is_over kV__is_over dc__is_over pm__is_over cd__is_over ct__is_over : Value} {od_is_word an_is_word : Option Addr} {sl_is_word : Array (Option Value)} {oc_is_word kV_is_word dc_is_word pm_is_word cd_is_word ct_is_word : Value} {od_check_word an_check_word : Option Addr} {sl_check_word : Array (Option Value)} {oc_check_word kV_check_word dc_check_word pm_check_word cd_check_word ct_check_word : Value} {od__check an__check : Option Addr} {sl__check : Array (Option Value)} {oc__check kV__check dc__check pm__check cd__check ct__check : Value} {od_cut_down an_cut_down : Option Addr} {sl_cut_down : Array (Option Value)} {oc_cut_down kV_cut_down dc_cut_down pm_cut_down cd_cut_down ct_cut_down : Value} {od_reduced an_reduced : Option Addr} {sl_reduced : Array (Option Value)} {oc_reduced kV_reduced dc_reduced pm_reduced cd_reduced ct_reduced : Value} {od__parted an__parted : Option Addr} {sl__parted : Array (Option Value)} {oc__parted kV__parted dc__parted pm__parted cd__parted ct__parted : Value} {od_core_of an_core_of : Option Addr} {sl_core_of : Array (Option Value)} {oc_core_of kV_core_of dc_core_of pm_core_of cd_core_of ct_core_of : Value} {od_rotations an_rotations : Option Addr} {sl_rotations : Array (Option Value)} {oc_rotations kV_rotations dc_rotations pm_rotations cd_rotations ct_rotations : Value} {od_least_rotation an_least_rotation : Option Addr} {sl_least_rotation : Array (Option Value)} {oc_least_rotation kV_least_rotation dc_least_rotation pm_least_rotation cd_least_rotation ct_least_rotation : Value} {od__law_cell an__law_cell : Option Addr} {sl__law_cell : Array (Option Value)} {oc__law_cell kV__law_cell dc__law_cell pm__law_cell cd__law_cell ct__law_cell : Value} {od__law_values an__law_values : Option Addr} {sl__law_values : Array (Option Value)} {oc__law_values kV__law_values dc__law_values pm__law_values cd__law_values ct__law_values : Value} {od__law_word an__law_word : Option Addr} {sl__law_word : Array (Option Value)} {oc__law_word kV__law_word dc__law_word pm__law_word cd__law_word ct__law_word : Value} {od__law_inverse an__law_inverse : Option Addr} {sl__law_inverse : Array (Option Value)} {oc__law_inverse kV__law_inverse dc__law_inverse pm__law_inverse cd__law_inverse ct__law_inverse : Value} {od__law_reduced an__law_reduced : Option Addr} {sl__law_reduced : Array (Option Value)} {oc__law_reduced kV__law_reduced dc__law_reduced pm__law_reduced cd__law_reduced ct__law_reduced : Value} {od__law_key an__law_key : Option Addr} {sl__law_key : Array (Option Value)} {oc__law_key kV__law_key dc__law_key pm__law_key cd__law_key ct__law_key : Value} {od_law an_law : Option Addr} {sl_law : Array (Option Value)} {oc_law kV_law dc_law pm_law cd_law ct_law : Value} {t_MOST_GENERATORS : Tok} {t_LETTERS : Tok} {t_MOST_LETTERS : Tok}
    (a_check_generators : PySem.W.nsIn K mainGlobals "check_generators" = some (some (.ref F_check_generators)))
    (l_check_generators : K.lookup F_check_generators = some ⟨oc_check_generators, od_check_generators, .func (PySem.W.fnOf "check_generators" "check_generators" (defArgs (top 8)) (defBody (top 8)) (defScope (top 8)) .none kV_check_generators dc_check_generators pm_check_generators an_check_generators cd_check_generators ct_check_generators), sl_check_generators⟩)
    (e_check_generators : PySem.W.codeIn K cd_check_generators "check_generators" = true)
    (k_check_generators : PySem.W.keepIn K (.ref F_check_generators) = true)
    (a_letters_of : PySem.W.nsIn K mainGlobals "letters_of" = some (some (.ref F_letters_of)))
    (l_letters_of : K.lookup F_letters_of = some ⟨oc_letters_of, od_letters_of, .func (PySem.W.fnOf "letters_of" "letters_of" (defArgs (top 9)) (defBody (top 9)) (defScope (top 9)) .none kV_letters_of dc_letters_of pm_letters_of an_letters_of cd_letters_of ct_letters_of), sl_letters_of⟩)
    (e_letters_of : PySem.W.codeIn K cd_letters_of "letters_of" = true)
    (k_letters_of : PySem.W.keepIn K (.ref F_letters_of) = true)
    (a_rank_of : PySem.W.nsIn K mainGlobals "rank_of" = some (some (.ref F_rank_of)))
    (l_rank_of : K.lookup F_rank_of = some ⟨oc_rank_of, od_rank_of, .func (PySem.W.fnOf "rank_of" "rank_of" (defArgs (top 10)) (defBody (top 10)) (defScope (top 10)) .none kV_rank_of dc_rank_of pm_rank_of an_rank_of cd_rank_of ct_rank_of), sl_rank_of⟩)
    (e_rank_of : PySem.W.codeIn K cd_rank_of "rank_of" = true)
    (k_rank_of : PySem.W.keepIn K (.ref F_rank_of) = true)
    (a_inverse_letter : PySem.W.nsIn K mainGlobals "inverse_letter" = some (some (.ref F_inverse_letter)))
    (l_inverse_letter : K.lookup F_inverse_letter = some ⟨oc_inverse_letter, od_inverse_letter, .func (PySem.W.fnOf "inverse_letter" "inverse_letter" (defArgs (top 11)) (defBody (top 11)) (defScope (top 11)) .none kV_inverse_letter dc_inverse_letter pm_inverse_letter an_inverse_letter cd_inverse_letter ct_inverse_letter), sl_inverse_letter⟩)
    (e_inverse_letter : PySem.W.codeIn K cd_inverse_letter "inverse_letter" = true)
    (k_inverse_letter : PySem.W.keepIn K (.ref F_inverse_letter) = true)
    (a_shortlex_key : PySem.W.nsIn K mainGlobals "shortlex_key" = some (some (.ref F_shortlex_key)))
    (l_shortlex_key : K.lookup F_shortlex_key = some ⟨oc_shortlex_key, od_shortlex_key, .func (PySem.W.fnOf "shortlex_key" "shortlex_key" (defArgs (top 12)) (defBody (top 12)) (defScope (top 12)) .none kV_shortlex_key dc_shortlex_key pm_shortlex_key an_shortlex_key cd_shortlex_key ct_shortlex_key), sl_shortlex_key⟩)
    (e_shortlex_key : PySem.W.codeIn K cd_shortlex_key "shortlex_key" = true)
    (k_shortlex_key : PySem.W.keepIn K (.ref F_shortlex_key) = true)
    (a__is_over : PySem.W.nsIn K mainGlobals "_is_over" = some (some (.ref F__is_over)))
    (l__is_over : K.lookup F__is_over = some ⟨oc__is_over, od__is_over, .func (PySem.W.fnOf "_is_over" "_is_over" (defArgs (top 13)) (defBody (top 13)) (defScope (top 13)) .none kV__is_over dc__is_over pm__is_over an__is_over cd__is_over ct__is_over), sl__is_over⟩)
    (e__is_over : PySem.W.codeIn K cd__is_over "_is_over" = true)
    (k__is_over : PySem.W.keepIn K (.ref F__is_over) = true)
    (a_is_word : PySem.W.nsIn K mainGlobals "is_word" = some (some (.ref F_is_word)))
    (l_is_word : K.lookup F_is_word = some ⟨oc_is_word, od_is_word, .func (PySem.W.fnOf "is_word" "is_word" (defArgs (top 14)) (defBody (top 14)) (defScope (top 14)) .none kV_is_word dc_is_word pm_is_word an_is_word cd_is_word ct_is_word), sl_is_word⟩)
    (e_is_word : PySem.W.codeIn K cd_is_word "is_word" = true)
    (k_is_word : PySem.W.keepIn K (.ref F_is_word) = true)
    (a_check_word : PySem.W.nsIn K mainGlobals "check_word" = some (some (.ref F_check_word)))
    (l_check_word : K.lookup F_check_word = some ⟨oc_check_word, od_check_word, .func (PySem.W.fnOf "check_word" "check_word" (defArgs (top 15)) (defBody (top 15)) (defScope (top 15)) .none kV_check_word dc_check_word pm_check_word an_check_word cd_check_word ct_check_word), sl_check_word⟩)
    (e_check_word : PySem.W.codeIn K cd_check_word "check_word" = true)
    (k_check_word : PySem.W.keepIn K (.ref F_check_word) = true)
    (a__check : PySem.W.nsIn K mainGlobals "_check" = some (some (.ref F__check)))
    (l__check : K.lookup F__check = some ⟨oc__check, od__check, .func (PySem.W.fnOf "_check" "_check" (defArgs (top 17)) (defBody (top 17)) (defScope (top 17)) .none kV__check dc__check pm__check an__check cd__check ct__check), sl__check⟩)
    (e__check : PySem.W.codeIn K cd__check "_check" = true)
    (k__check : PySem.W.keepIn K (.ref F__check) = true)
    (a_cut_down : PySem.W.nsIn K mainGlobals "cut_down" = some (some (.ref F_cut_down)))
    (l_cut_down : K.lookup F_cut_down = some ⟨oc_cut_down, od_cut_down, .func (PySem.W.fnOf "cut_down" "cut_down" (defArgs (top 18)) (defBody (top 18)) (defScope (top 18)) .none kV_cut_down dc_cut_down pm_cut_down an_cut_down cd_cut_down ct_cut_down), sl_cut_down⟩)
    (e_cut_down : PySem.W.codeIn K cd_cut_down "cut_down" = true)
    (k_cut_down : PySem.W.keepIn K (.ref F_cut_down) = true)
    (a_reduced : PySem.W.nsIn K mainGlobals "reduced" = some (some (.ref F_reduced)))
    (l_reduced : K.lookup F_reduced = some ⟨oc_reduced, od_reduced, .func (PySem.W.fnOf "reduced" "reduced" (defArgs (top 19)) (defBody (top 19)) (defScope (top 19)) .none kV_reduced dc_reduced pm_reduced an_reduced cd_reduced ct_reduced), sl_reduced⟩)
    (e_reduced : PySem.W.codeIn K cd_reduced "reduced" = true)
    (k_reduced : PySem.W.keepIn K (.ref F_reduced) = true)
    (a__parted : PySem.W.nsIn K mainGlobals "_parted" = some (some (.ref F__parted)))
    (l__parted : K.lookup F__parted = some ⟨oc__parted, od__parted, .func (PySem.W.fnOf "_parted" "_parted" (defArgs (top 20)) (defBody (top 20)) (defScope (top 20)) .none kV__parted dc__parted pm__parted an__parted cd__parted ct__parted), sl__parted⟩)
    (e__parted : PySem.W.codeIn K cd__parted "_parted" = true)
    (k__parted : PySem.W.keepIn K (.ref F__parted) = true)
    (a_core_of : PySem.W.nsIn K mainGlobals "core_of" = some (some (.ref F_core_of)))
    (l_core_of : K.lookup F_core_of = some ⟨oc_core_of, od_core_of, .func (PySem.W.fnOf "core_of" "core_of" (defArgs (top 21)) (defBody (top 21)) (defScope (top 21)) .none kV_core_of dc_core_of pm_core_of an_core_of cd_core_of ct_core_of), sl_core_of⟩)
    (e_core_of : PySem.W.codeIn K cd_core_of "core_of" = true)
    (k_core_of : PySem.W.keepIn K (.ref F_core_of) = true)
    (a_rotations : PySem.W.nsIn K mainGlobals "rotations" = some (some (.ref F_rotations)))
    (l_rotations : K.lookup F_rotations = some ⟨oc_rotations, od_rotations, .func (PySem.W.fnOf "rotations" "rotations" (defArgs (top 22)) (defBody (top 22)) (defScope (top 22)) .none kV_rotations dc_rotations pm_rotations an_rotations cd_rotations ct_rotations), sl_rotations⟩)
    (e_rotations : PySem.W.codeIn K cd_rotations "rotations" = true)
    (k_rotations : PySem.W.keepIn K (.ref F_rotations) = true)
    (a_least_rotation : PySem.W.nsIn K mainGlobals "least_rotation" = some (some (.ref F_least_rotation)))
    (l_least_rotation : K.lookup F_least_rotation = some ⟨oc_least_rotation, od_least_rotation, .func (PySem.W.fnOf "least_rotation" "least_rotation" (defArgs (top 23)) (defBody (top 23)) (defScope (top 23)) .none kV_least_rotation dc_least_rotation pm_least_rotation an_least_rotation cd_least_rotation ct_least_rotation), sl_least_rotation⟩)
    (e_least_rotation : PySem.W.codeIn K cd_least_rotation "least_rotation" = true)
    (k_least_rotation : PySem.W.keepIn K (.ref F_least_rotation) = true)
    (a__law_cell : PySem.W.nsIn K mainGlobals "_law_cell" = some (some (.ref F__law_cell)))
    (l__law_cell : K.lookup F__law_cell = some ⟨oc__law_cell, od__law_cell, .func (PySem.W.fnOf "_law_cell" "_law_cell" (defArgs (top 25)) (defBody (top 25)) (defScope (top 25)) .none kV__law_cell dc__law_cell pm__law_cell an__law_cell cd__law_cell ct__law_cell), sl__law_cell⟩)
    (e__law_cell : PySem.W.codeIn K cd__law_cell "_law_cell" = true)
    (k__law_cell : PySem.W.keepIn K (.ref F__law_cell) = true)
    (a__law_values : PySem.W.nsIn K mainGlobals "_law_values" = some (some (.ref F__law_values)))
    (l__law_values : K.lookup F__law_values = some ⟨oc__law_values, od__law_values, .func (PySem.W.fnOf "_law_values" "_law_values" (defArgs (top 26)) (defBody (top 26)) (defScope (top 26)) .none kV__law_values dc__law_values pm__law_values an__law_values cd__law_values ct__law_values), sl__law_values⟩)
    (e__law_values : PySem.W.codeIn K cd__law_values "_law_values" = true)
    (k__law_values : PySem.W.keepIn K (.ref F__law_values) = true)
    (a__law_word : PySem.W.nsIn K mainGlobals "_law_word" = some (some (.ref F__law_word)))
    (l__law_word : K.lookup F__law_word = some ⟨oc__law_word, od__law_word, .func (PySem.W.fnOf "_law_word" "_law_word" (defArgs (top 27)) (defBody (top 27)) (defScope (top 27)) .none kV__law_word dc__law_word pm__law_word an__law_word cd__law_word ct__law_word), sl__law_word⟩)
    (e__law_word : PySem.W.codeIn K cd__law_word "_law_word" = true)
    (k__law_word : PySem.W.keepIn K (.ref F__law_word) = true)
    (a__law_inverse : PySem.W.nsIn K mainGlobals "_law_inverse" = some (some (.ref F__law_inverse)))
    (l__law_inverse : K.lookup F__law_inverse = some ⟨oc__law_inverse, od__law_inverse, .func (PySem.W.fnOf "_law_inverse" "_law_inverse" (defArgs (top 28)) (defBody (top 28)) (defScope (top 28)) .none kV__law_inverse dc__law_inverse pm__law_inverse an__law_inverse cd__law_inverse ct__law_inverse), sl__law_inverse⟩)
    (e__law_inverse : PySem.W.codeIn K cd__law_inverse "_law_inverse" = true)
    (k__law_inverse : PySem.W.keepIn K (.ref F__law_inverse) = true)
    (a__law_reduced : PySem.W.nsIn K mainGlobals "_law_reduced" = some (some (.ref F__law_reduced)))
    (l__law_reduced : K.lookup F__law_reduced = some ⟨oc__law_reduced, od__law_reduced, .func (PySem.W.fnOf "_law_reduced" "_law_reduced" (defArgs (top 29)) (defBody (top 29)) (defScope (top 29)) .none kV__law_reduced dc__law_reduced pm__law_reduced an__law_reduced cd__law_reduced ct__law_reduced), sl__law_reduced⟩)
    (e__law_reduced : PySem.W.codeIn K cd__law_reduced "_law_reduced" = true)
    (k__law_reduced : PySem.W.keepIn K (.ref F__law_reduced) = true)
    (a__law_key : PySem.W.nsIn K mainGlobals "_law_key" = some (some (.ref F__law_key)))
    (l__law_key : K.lookup F__law_key = some ⟨oc__law_key, od__law_key, .func (PySem.W.fnOf "_law_key" "_law_key" (defArgs (top 30)) (defBody (top 30)) (defScope (top 30)) .none kV__law_key dc__law_key pm__law_key an__law_key cd__law_key ct__law_key), sl__law_key⟩)
    (e__law_key : PySem.W.codeIn K cd__law_key "_law_key" = true)
    (k__law_key : PySem.W.keepIn K (.ref F__law_key) = true)
    (a_law : PySem.W.nsIn K mainGlobals "law" = some (some (.ref F_law)))
    (l_law : K.lookup F_law = some ⟨oc_law, od_law, .func (PySem.W.fnOf "law" "law" (defArgs (top 31)) (defBody (top 31)) (defScope (top 31)) .none kV_law dc_law pm_law an_law cd_law ct_law), sl_law⟩)
    (e_law : PySem.W.codeIn K cd_law "law" = true)
    (k_law : PySem.W.keepIn K (.ref F_law) = true)
    (z_len : PySem.W.nsIn K mainGlobals "len" = some none)
    (z_tuple : PySem.W.nsIn K mainGlobals "tuple" = some none)
    (z_range : PySem.W.nsIn K mainGlobals "range" = some none)
    (z_min : PySem.W.nsIn K mainGlobals "min" = some none)
    (z_int : PySem.W.nsIn K mainGlobals "int" = some none)
    (z_isinstance : PySem.W.nsIn K mainGlobals "isinstance" = some none)
    (z_str : PySem.W.nsIn K mainGlobals "str" = some none)
    (z_max : PySem.W.nsIn K mainGlobals "max" = some none)
    (z_repr : PySem.W.nsIn K mainGlobals "repr" = some none)
    (z_all : PySem.W.nsIn K mainGlobals "all" = some none)
    (g_MOST_GENERATORS : PySem.W.nsIn K mainGlobals "MOST_GENERATORS" = some (some (.int (3) t_MOST_GENERATORS)))
    (g_LETTERS : PySem.W.nsIn K mainGlobals "LETTERS" = some (some (.str "aAbBcC" t_LETTERS)))
    (g_MOST_LETTERS : PySem.W.nsIn K mainGlobals "MOST_LETTERS" = some (some (.int (60) t_MOST_LETTERS)))
    (xg_CayleyError : PySem.W.nsIn K mainGlobals "CayleyError" = some (some (.ref D_CayleyError)))
    (xg_NotWord : PySem.W.nsIn K mainGlobals "NotWord" = some (some (.ref D_NotWord)))
    (xg_BadNumber : PySem.W.nsIn K mainGlobals "BadNumber" = some (some (.ref D_BadNumber)))
    (xk_CayleyError : PySem.W.keepIn K (.ref D_CayleyError) = true)
    (xb_CayleyError : PySem.W.subIn K (.ref D_CayleyError) (.type "BaseException") = some true)
    (xt_CayleyError : PySem.W.typeIn K (.ref D_CayleyError) = some (.type "type"))
    (xa_CayleyError : PySem.W.findIn K (.ref D_CayleyError) "__getattribute__" = some (some (.builtin "BaseException.__getattribute__")))
    (xn_CayleyError : PySem.W.findIn K (.ref D_CayleyError) "__getattr__" = some none)
    (xd_CayleyError : PySem.W.hasDictIn K D_CayleyError = true)
    (xc_CayleyError : PySem.W.findIn K (.ref D_CayleyError) "__class__" = some (some (.builtin "object.__class__")))
    (xm_CayleyError : PySem.W.mroIn K D_CayleyError (.type "object") = some true)
    (s_CayleyError_CayleyError : PySem.W.subIn K (.ref D_CayleyError) (.ref D_CayleyError) = some true)
    (s_CayleyError_NotWord : PySem.W.subIn K (.ref D_CayleyError) (.ref D_NotWord) = some false)
    (s_CayleyError_BadNumber : PySem.W.subIn K (.ref D_CayleyError) (.ref D_BadNumber) = some false)
    (xk_NotWord : PySem.W.keepIn K (.ref D_NotWord) = true)
    (xb_NotWord : PySem.W.subIn K (.ref D_NotWord) (.type "BaseException") = some true)
    (xt_NotWord : PySem.W.typeIn K (.ref D_NotWord) = some (.type "type"))
    (xa_NotWord : PySem.W.findIn K (.ref D_NotWord) "__getattribute__" = some (some (.builtin "BaseException.__getattribute__")))
    (xn_NotWord : PySem.W.findIn K (.ref D_NotWord) "__getattr__" = some none)
    (xd_NotWord : PySem.W.hasDictIn K D_NotWord = true)
    (xc_NotWord : PySem.W.findIn K (.ref D_NotWord) "__class__" = some (some (.builtin "object.__class__")))
    (xm_NotWord : PySem.W.mroIn K D_NotWord (.type "object") = some true)
    (xr_NotWord : PySem.W.excIn K D_NotWord chainVE "ValueError.__new__" = true)
    (s_NotWord_CayleyError : PySem.W.subIn K (.ref D_NotWord) (.ref D_CayleyError) = some true)
    (s_NotWord_NotWord : PySem.W.subIn K (.ref D_NotWord) (.ref D_NotWord) = some true)
    (s_NotWord_BadNumber : PySem.W.subIn K (.ref D_NotWord) (.ref D_BadNumber) = some false)
    (xk_BadNumber : PySem.W.keepIn K (.ref D_BadNumber) = true)
    (xb_BadNumber : PySem.W.subIn K (.ref D_BadNumber) (.type "BaseException") = some true)
    (xt_BadNumber : PySem.W.typeIn K (.ref D_BadNumber) = some (.type "type"))
    (xa_BadNumber : PySem.W.findIn K (.ref D_BadNumber) "__getattribute__" = some (some (.builtin "BaseException.__getattribute__")))
    (xn_BadNumber : PySem.W.findIn K (.ref D_BadNumber) "__getattr__" = some none)
    (xd_BadNumber : PySem.W.hasDictIn K D_BadNumber = true)
    (xc_BadNumber : PySem.W.findIn K (.ref D_BadNumber) "__class__" = some (some (.builtin "object.__class__")))
    (xm_BadNumber : PySem.W.mroIn K D_BadNumber (.type "object") = some true)
    (xr_BadNumber : PySem.W.excIn K D_BadNumber chainVE "ValueError.__new__" = true)
    (s_BadNumber_CayleyError : PySem.W.subIn K (.ref D_BadNumber) (.ref D_CayleyError) = some true)
    (s_BadNumber_NotWord : PySem.W.subIn K (.ref D_BadNumber) (.ref D_NotWord) = some false)
    (s_BadNumber_BadNumber : PySem.W.subIn K (.ref D_BadNumber) (.ref D_BadNumber) = some true)
    (hn : PySem.W.specialIn K (.builtin "object.__class__") "__get__" = some (some (.builtin "getset_descriptor.__get__")))
    (ht : PySem.W.takesIn K (.builtin "object.__class__") = some true)
    (n_CayleyError_NotWord : decide (D_CayleyError = D_NotWord) = false)
    (n_CayleyError_BadNumber : decide (D_CayleyError = D_BadNumber) = false)
    (n_NotWord_BadNumber : decide (D_NotWord = D_BadNumber) = false)
    (n_BadNumber_NotWord : decide (D_BadNumber = D_NotWord) = false)
    (math : ∀ ns : List Int, ns.length ≤ 63 → AllTrue (m_law [.lst (ns.map D.int)])) :
    ∃ fd : FuncData, (∀ (s : Shared) (v : Value), BindsTo s fd ⟨[v], []⟩ [("_law_script", v)]) ∧ ∀ base : Heap, K.In base → base.Ns mainGlobals mg → FnG P w K mg base 8 fa fd ["_law_script"] (spLaw K) := by
  have e := hfa.symm.trans (PySem.W.mg_of X G a_law)
  have e2 : F_law = fa := by cases e; rfl
  clear e
  subst e2
  have A : Amb K mg (ecL [("CayleyError", D_CayleyError), ("NotWord", D_NotWord), ("BadNumber", D_BadNumber)]) tT ["BadNumber", "NotWord"] [] := amb_mk hn ht (by rfl) (And.intro (⟨PySem.W.mg_of X G xg_CayleyError, xk_CayleyError, xb_CayleyError, xt_CayleyError, xa_CayleyError, xn_CayleyError, xd_CayleyError, xc_CayleyError, xm_CayleyError⟩) (And.intro (⟨PySem.W.mg_of X G xg_NotWord, xk_NotWord, xb_NotWord, xt_NotWord, xa_NotWord, xn_NotWord, xd_NotWord, xc_NotWord, xm_NotWord⟩) (And.intro (⟨PySem.W.mg_of X G xg_BadNumber, xk_BadNumber, xb_BadNumber, xt_BadNumber, xa_BadNumber, xn_BadNumber, xd_BadNumber, xc_BadNumber, xm_BadNumber⟩) (trivial)))) (And.intro (And.intro (⟨_, s_CayleyError_CayleyError, show isA tT "CayleyError" "CayleyError" = some true by decide +kernel, fun _ => rfl⟩) (And.intro (⟨_, s_CayleyError_NotWord, show isA tT "CayleyError" "NotWord" = some false by decide +kernel, fun z => absurd z (of_decide_eq_false n_CayleyError_NotWord)⟩) (And.intro (⟨_, s_CayleyError_BadNumber, show isA tT "CayleyError" "BadNumber" = some false by decide +kernel, fun z => absurd z (of_decide_eq_false n_CayleyError_BadNumber)⟩) (trivial)))) (And.intro (And.intro (⟨_, s_NotWord_CayleyError, show isA tT "NotWord" "CayleyError" = some true by decide +kernel, fun _ => rfl⟩) (And.intro (⟨_, s_NotWord_NotWord, show isA tT "NotWord" "NotWord" = some true by decide +kernel, fun _ => rfl⟩) (And.intro (⟨_, s_NotWord_BadNumber, show isA tT "NotWord" "BadNumber" = some false by decide +kernel, fun z => absurd z (of_decide_eq_false n_NotWord_BadNumber)⟩) (trivial)))) (And.intro (And.intro (⟨_, s_BadNumber_CayleyError, show isA tT "BadNumber" "CayleyError" = some true by decide +kernel, fun _ => rfl⟩) (And.intro (⟨_, s_BadNumber_NotWord, show isA tT "BadNumber" "NotWord" = some false by decide +kernel, fun z => absurd z (of_decide_eq_false n_BadNumber_NotWord)⟩) (And.intro (⟨_, s_BadNumber_BadNumber, show isA tT "BadNumber" "BadNumber" = some true by decide +kernel, fun _ => rfl⟩) (trivial)))) (trivial)))) (trivial) (And.intro (⟨show (List.lookup "BadNumber" tT).isSome = true by decide +kernel, D_BadNumber, rfl, xr_BadNumber⟩) (And.intro (⟨show (List.lookup "NotWord" tT).isSome = true by decide +kernel, D_NotWord, rfl, xr_NotWord⟩) (trivial)))
  have Fu_check_generators := fun_mk (st := top 8) l_check_generators e_check_generators k_check_generators
  have b_check_generators := Fu_check_generators.binds (ps := ["g"]) fun _ _ _ _ _ _ us hl => match us, hl with | [_], _ => rfl
  have Fu_letters_of := fun_mk (st := top 9) l_letters_of e_letters_of k_letters_of
  have b_letters_of := Fu_letters_of.binds (ps := ["g"]) fun _ _ _ _ _ _ us hl => match us, hl with | [_], _ => rfl
  have Fu_rank_of := fun_mk (st := top 10) l_rank_of e_rank_of k_rank_of
  have b_rank_of := Fu_rank_of.binds (ps := ["letter"]) fun _ _ _ _ _ _ us hl => match us, hl with | [_], _ => rfl
  have Fu_inverse_letter := fun_mk (st := top 11) l_inverse_letter e_inverse_letter k_inverse_letter
  have b_inverse_letter := Fu_inverse_letter.binds (ps := ["letter"]) fun _ _ _ _ _ _ us hl => match us, hl with | [_], _ => rfl
  have Fu_shortlex_key := fun_mk (st := top 12) l_shortlex_key e_shortlex_key k_shortlex_key
  have b_shortlex_key := Fu_shortlex_key.binds (ps := ["word"]) fun _ _ _ _ _ _ us hl => match us, hl with | [_], _ => rfl
  have Fu__is_over := fun_mk (st := top 13) l__is_over e__is_over k__is_over
  have b__is_over := Fu__is_over.binds (ps := ["letters", "text"]) fun _ _ _ _ _ _ us hl => match us, hl with | [_, _], _ => rfl
  have Fu_is_word := fun_mk (st := top 14) l_is_word e_is_word k_is_word
  have b_is_word := Fu_is_word.binds (ps := ["g", "text"]) fun _ _ _ _ _ _ us hl => match us, hl with | [_, _], _ => rfl
  have Fu_check_word := fun_mk (st := top 15) l_check_word e_check_word k_check_word
  have b_check_word := Fu_check_word.binds (ps := ["g", "text"]) fun _ _ _ _ _ _ us hl => match us, hl with | [_, _], _ => rfl
  have Fu__check := fun_mk (st := top 17) l__check e__check k__check
  have b__check := Fu__check.binds (ps := ["word"]) fun _ _ _ _ _ _ us hl => match us, hl with | [_], _ => rfl
  have Fu_cut_down := fun_mk (st := top 18) l_cut_down e_cut_down k_cut_down
  have b_cut_down := Fu_cut_down.binds (ps := ["word"]) fun _ _ _ _ _ _ us hl => match us, hl with | [_], _ => rfl
  have Fu_reduced := fun_mk (st := top 19) l_reduced e_reduced k_reduced
  have b_reduced := Fu_reduced.binds (ps := ["word"]) fun _ _ _ _ _ _ us hl => match us, hl with | [_], _ => rfl
  have Fu__parted := fun_mk (st := top 20) l__parted e__parted k__parted
  have b__parted := Fu__parted.binds (ps := ["word"]) fun _ _ _ _ _ _ us hl => match us, hl with | [_], _ => rfl
  have Fu_core_of := fun_mk (st := top 21) l_core_of e_core_of k_core_of
  have b_core_of := Fu_core_of.binds (ps := ["word"]) fun _ _ _ _ _ _ us hl => match us, hl with | [_], _ => rfl
  have Fu_rotations := fun_mk (st := top 22) l_rotations e_rotations k_rotations
  have b_rotations := Fu_rotations.binds (ps := ["word"]) fun _ _ _ _ _ _ us hl => match us, hl with | [_], _ => rfl
  have Fu_least_rotation := fun_mk (st := top 23) l_least_rotation e_least_rotation k_least_rotation
  have b_least_rotation := Fu_least_rotation.binds (ps := ["word"]) fun _ _ _ _ _ _ us hl => match us, hl with | [_], _ => rfl
  have Fu__law_cell := fun_mk (st := top 25) l__law_cell e__law_cell k__law_cell
  have b__law_cell := Fu__law_cell.binds (ps := ["_law_script", "_law_k"]) fun _ _ _ _ _ _ us hl => match us, hl with | [_, _], _ => rfl
  have Fu__law_values := fun_mk (st := top 26) l__law_values e__law_values k__law_values
  have b__law_values := Fu__law_values.binds (ps := ["_law_cell_here", "_law_count", "_law_size"]) fun _ _ _ _ _ _ us hl => match us, hl with | [_, _, _], _ => rfl
  have Fu__law_word := fun_mk (st := top 27) l__law_word e__law_word k__law_word
  have b__law_word := Fu__law_word.binds (ps := ["_law_cell_here", "_law_g", "_law_most"]) fun _ _ _ _ _ _ us hl => match us, hl with | [_, _, _], _ => rfl
  have Fu__law_inverse := fun_mk (st := top 28) l__law_inverse e__law_inverse k__law_inverse
  have b__law_inverse := Fu__law_inverse.binds (ps := ["_law_word_here"]) fun _ _ _ _ _ _ us hl => match us, hl with | [_], _ => rfl
  have Fu__law_reduced := fun_mk (st := top 29) l__law_reduced e__law_reduced k__law_reduced
  have b__law_reduced := Fu__law_reduced.binds (ps := ["_law_word_here"]) fun _ _ _ _ _ _ us hl => match us, hl with | [_], _ => rfl
  have Fu__law_key := fun_mk (st := top 30) l__law_key e__law_key k__law_key
  have b__law_key := Fu__law_key.binds (ps := ["_law_word_here"]) fun _ _ _ _ _ _ us hl => match us, hl with | [_], _ => rfl
  have Fu_law := fun_mk (st := top 31) l_law e_law k_law
  have b_law := Fu_law.binds (ps := ["_law_script"]) fun _ _ _ _ _ _ us hl => match us, hl with | [_], _ => rfl
  refine ⟨PySem.W.fnOf "law" "law" (defArgs (top 31)) (defBody (top 31)) (defScope (top 31)) .none kV_law dc_law pm_law an_law cd_law ct_law, fun s v => .of_eq rfl, fun base _ _ => ?_⟩
  have G_check_generators : FnG P w K mg base 1 F_check_generators _ ["g"] (spD K _ 1 m_check_generators) := def_mk (k := 0) (cf := f_check_generators) Fu_check_generators sc_check_generators A (And.intro (by decide +kernel) (trivial)) (trivial) (trivial) [] [conI (name := "MOST_GENERATORS") (3) (PySem.W.mg_of X G g_MOST_GENERATORS)] (by rfl) (by rfl) (trivial) [] (by rfl) (trivial) [] (by rfl) (trivial) (by rfl) o_check_generators
  have G_rank_of : FnG P w K mg base 1 F_rank_of _ ["letter"] (spD K _ 1 m_rank_of) := def_mk (k := 0) (cf := f_rank_of) Fu_rank_of sc_rank_of A (And.intro (by decide +kernel) (trivial)) (trivial) (And.intro (PySem.W.mg_none_of X G z_len) (trivial)) [] [conS (name := "LETTERS") [97, 65, 98, 66, 99, 67] (PySem.W.mg_of X G g_LETTERS) (by decide +kernel)] (by rfl) (by rfl) (trivial) [] (by rfl) (trivial) [] (by rfl) (trivial) (by rfl) o_rank_of
  have G__is_over : FnG P w K mg base 1 F__is_over _ ["letters", "text"] (spD K _ 2 m__is_over) := def_mk (k := 0) (cf := f__is_over) Fu__is_over sc__is_over A (trivial) (trivial) (trivial) [] [] (by rfl) (by rfl) (trivial) [] (by rfl) (trivial) [] (by rfl) (trivial) (by rfl) o__is_over
  have G__law_cell : FnG P w K mg base 1 F__law_cell _ ["_law_script", "_law_k"] (spD K _ 2 m__law_cell) := def_mk (k := 0) (cf := f__law_cell) Fu__law_cell sc__law_cell A (trivial) (trivial) (And.intro (PySem.W.mg_none_of X G z_len) (trivial)) [] [] (by rfl) (by rfl) (trivial) [] (by rfl) (trivial) [] (by rfl) (trivial) (by rfl) o__law_cell
  have G__law_values : FnG P w K mg base 1 F__law_values _ ["_law_cell_here", "_law_count", "_law_size"] (spD K _ 3 m__law_values) := def_mk (k := 0) (cf := f__law_values) Fu__law_values sc__law_values A (trivial) (trivial) (And.intro (PySem.W.mg_none_of X G z_range) (And.intro (PySem.W.mg_none_of X G z_int) (trivial))) [] [] (by rfl) (by rfl) (trivial) [] (by rfl) (trivial) [] (by rfl) (trivial) (by rfl) o__law_values
  have G__law_inverse : FnG P w K mg base 1 F__law_inverse _ ["_law_word_here"] (spD K _ 1 m__law_inverse) := def_mk (k := 0) (cf := f__law_inverse) Fu__law_inverse sc__law_inverse A (trivial) (trivial) (trivial) [] [] (by rfl) (by rfl) (trivial) [] (by rfl) (trivial) [] (by rfl) (trivial) (by rfl) o__law_inverse
  have G__law_reduced : FnG P w K mg base 1 F__law_reduced _ ["_law_word_here"] (spD K _ 1 m__law_reduced) := def_mk (k := 0) (cf := f__law_reduced) Fu__law_reduced sc__law_reduced A (trivial) (trivial) (And.intro (PySem.W.mg_none_of X G z_len) (trivial)) [] [] (by rfl) (by rfl) (trivial) [] (by rfl) (trivial) [] (by rfl) (trivial) (by rfl) o__law_reduced
  have G__law_key : FnG P w K mg base 1 F__law_key _ ["_law_word_here"] (spD K _ 1 m__law_key) := def_mk (k := 0) (cf := f__law_key) Fu__law_key sc__law_key A (trivial) (trivial) (And.intro (PySem.W.mg_none_of X G z_len) (trivial)) [] [] (by rfl) (by rfl) (trivial) [] (by rfl) (trivial) [] (by rfl) (trivial) (by rfl) o__law_key
  have G_letters_of : FnG P w K mg base 2 F_letters_of _ ["g"] (spD K _ 1 m_letters_of) := def_mk (k := 1) (cf := f_letters_of) Fu_letters_of sc_letters_of A (trivial) (trivial) (trivial) [⟨"check_generators", 1, m_check_generators, 1, F_check_generators, _, _, G_check_generators, PySem.W.mg_of X G a_check_generators, k_check_generators, b_check_generators⟩] [conS (name := "LETTERS") [97, 65, 98, 66, 99, 67] (PySem.W.mg_of X G g_LETTERS) (by decide +kernel)] (by rfl) (by rfl) (And.intro (show (1 : Nat) ≤ 1 by decide) (trivial)) [] (by rfl) (trivial) [] (by rfl) (trivial) (by rfl) o_letters_of
  have G_inverse_letter : FnG P w K mg base 2 F_inverse_letter _ ["letter"] (spD K _ 1 m_inverse_letter) := def_mk (k := 1) (cf := f_inverse_letter) Fu_inverse_letter sc_inverse_letter A (trivial) (trivial) (trivial) [⟨"rank_of", 1, m_rank_of, 1, F_rank_of, _, _, G_rank_of, PySem.W.mg_of X G a_rank_of, k_rank_of, b_rank_of⟩] [conS (name := "LETTERS") [97, 65, 98, 66, 99, 67] (PySem.W.mg_of X G g_LETTERS) (by decide +kernel)] (by rfl) (by rfl) (And.intro (show (1 : Nat) ≤ 1 by decide) (trivial)) [] (by rfl) (trivial) [] (by rfl) (trivial) (by rfl) o_inverse_letter
  have G_shortlex_key : FnG P w K mg base 2 F_shortlex_key _ ["word"] (spD K _ 1 m_shortlex_key) := def_mk (k := 1) (cf := f_shortlex_key) Fu_shortlex_key sc_shortlex_key A (trivial) (trivial) (And.intro (PySem.W.mg_none_of X G z_len) (And.intro (PySem.W.mg_none_of X G z_tuple) (trivial))) [⟨"rank_of", 1, m_rank_of, 1, F_rank_of, _, _, G_rank_of, PySem.W.mg_of X G a_rank_of, k_rank_of, b_rank_of⟩] [] (by rfl) (by rfl) (And.intro (show (1 : Nat) ≤ 1 by decide) (trivial)) [] (by rfl) (trivial) [] (by rfl) (trivial) (by rfl) o_shortlex_key
  have G__law_word : FnG P w K mg base 2 F__law_word _ ["_law_cell_here", "_law_g", "_law_most"] (spD K _ 3 m__law_word) := def_mk (k := 1) (cf := f__law_word) Fu__law_word sc__law_word A (trivial) (trivial) (trivial) [⟨"_law_values", 3, m__law_values, 1, F__law_values, _, _, G__law_values, PySem.W.mg_of X G a__law_values, k__law_values, b__law_values⟩] [] (by rfl) (by rfl) (And.intro (show (1 : Nat) ≤ 1 by decide) (trivial)) [] (by rfl) (trivial) [] (by rfl) (trivial) (by rfl) o__law_word
  have G_is_word : FnG P w K mg base 3 F_is_word _ ["g", "text"] (spD K _ 2 m_is_word) := def_mk (k := 2) (cf := f_is_word) Fu_is_word sc_is_word A (trivial) (trivial) (trivial) [⟨"_is_over", 2, m__is_over, 1, F__is_over, _, _, G__is_over, PySem.W.mg_of X G a__is_over, k__is_over, b__is_over⟩, ⟨"letters_of", 1, m_letters_of, 2, F_letters_of, _, _, G_letters_of, PySem.W.mg_of X G a_letters_of, k_letters_of, b_letters_of⟩] [] (by rfl) (by rfl) (And.intro (show (1 : Nat) ≤ 2 by decide) (And.intro (show (2 : Nat) ≤ 2 by decide) (trivial))) [] (by rfl) (trivial) [] (by rfl) (trivial) (by rfl) o_is_word
  have G_cut_down : FnG P w K mg base 3 F_cut_down _ ["word"] (spD K _ 1 m_cut_down) := def_mk (k := 2) (cf := f_cut_down) Fu_cut_down sc_cut_down A (trivial) (trivial) (trivial) [⟨"inverse_letter", 1, m_inverse_letter, 2, F_inverse_letter, _, _, G_inverse_letter, PySem.W.mg_of X G a_inverse_letter, k_inverse_letter, b_inverse_letter⟩] [] (by rfl) (by rfl) (And.intro (show (2 : Nat) ≤ 2 by decide) (trivial)) [] (by rfl) (trivial) [] (by rfl) (trivial) (by rfl) o_cut_down
  have G__parted : FnG P w K mg base 3 F__parted _ ["word"] (spD K _ 1 m__parted) := def_mk (k := 2) (cf := f__parted) Fu__parted sc__parted A (trivial) (trivial) (And.intro (PySem.W.mg_none_of X G z_len) (trivial)) [⟨"inverse_letter", 1, m_inverse_letter, 2, F_inverse_letter, _, _, G_inverse_letter, PySem.W.mg_of X G a_inverse_letter, k_inverse_letter, b_inverse_letter⟩] [] (by rfl) (by rfl) (And.intro (show (2 : Nat) ≤ 2 by decide) (trivial)) [] (by rfl) (trivial) [] (by rfl) (trivial) (by rfl) o__parted
  have G_check_word : FnG P w K mg base 4 F_check_word _ ["g", "text"] (spD K _ 2 m_check_word) := def_mk (k := 3) (cf := f_check_word) Fu_check_word sc_check_word A (And.intro (by decide +kernel) (trivial)) (trivial) (And.intro (PySem.W.mg_none_of X G z_len) (trivial)) [⟨"is_word", 2, m_is_word, 3, F_is_word, _, _, G_is_word, PySem.W.mg_of X G a_is_word, k_is_word, b_is_word⟩] [conI (name := "MOST_LETTERS") (60) (PySem.W.mg_of X G g_MOST_LETTERS)] (by rfl) (by rfl) (And.intro (show (3 : Nat) ≤ 3 by decide) (trivial)) [] (by rfl) (trivial) [] (by rfl) (trivial) (by rfl) o_check_word
  have G__check : FnG P w K mg base 5 F__check _ ["word"] (spD K _ 1 m__check) := def_mk (k := 4) (cf := f__check) Fu__check sc__check A (trivial) (trivial) (trivial) [⟨"check_word", 2, m_check_word, 4, F_check_word, _, _, G_check_word, PySem.W.mg_of X G a_check_word, k_check_word, b_check_word⟩] [conI (name := "MOST_GENERATORS") (3) (PySem.W.mg_of X G g_MOST_GENERATORS)] (by rfl) (by rfl) (And.intro (show (4 : Nat) ≤ 4 by decide) (trivial)) [] (by rfl) (trivial) [] (by rfl) (trivial) (by rfl) o__check
  have G_reduced : FnG P w K mg base 6 F_reduced _ ["word"] (spD K _ 1 m_reduced) := def_mk (k := 5) (cf := f_reduced) Fu_reduced sc_reduced A (trivial) (trivial) (trivial) [⟨"_check", 1, m__check, 5, F__check, _, _, G__check, PySem.W.mg_of X G a__check, k__check, b__check⟩, ⟨"cut_down", 1, m_cut_down, 3, F_cut_down, _, _, G_cut_down, PySem.W.mg_of X G a_cut_down, k_cut_down, b_cut_down⟩] [] (by rfl) (by rfl) (And.intro (show (5 : Nat) ≤ 5 by decide) (And.intro (show (3 : Nat) ≤ 5 by decide) (trivial))) [] (by rfl) (trivial) [] (by rfl) (trivial) (by rfl) o_reduced
  have G_rotations : FnG P w K mg base 6 F_rotations _ ["word"] (spD K _ 1 m_rotations) := def_mk (k := 5) (cf := f_rotations) Fu_rotations sc_rotations A (trivial) (trivial) (And.intro (PySem.W.mg_none_of X G z_len) (And.intro (PySem.W.mg_none_of X G z_range) (trivial))) [⟨"_check", 1, m__check, 5, F__check, _, _, G__check, PySem.W.mg_of X G a__check, k__check, b__check⟩] [] (by rfl) (by rfl) (And.intro (show (5 : Nat) ≤ 5 by decide) (trivial)) [] (by rfl) (trivial) [] (by rfl) (trivial) (by rfl) o_rotations
  have G_core_of : FnG P w K mg base 7 F_core_of _ ["word"] (spD K _ 1 m_core_of) := def_mk (k := 6) (cf := f_core_of) Fu_core_of sc_core_of A (trivial) (trivial) (trivial) [⟨"_parted", 1, m__parted, 3, F__parted, _, _, G__parted, PySem.W.mg_of X G a__parted, k__parted, b__parted⟩, ⟨"reduced", 1, m_reduced, 6, F_reduced, _, _, G_reduced, PySem.W.mg_of X G a_reduced, k_reduced, b_reduced⟩] [] (by rfl) (by rfl) (And.intro (show (3 : Nat) ≤ 6 by decide) (And.intro (show (6 : Nat) ≤ 6 by decide) (trivial))) [] (by rfl) (trivial) [] (by rfl) (trivial) (by rfl) o_core_of
  have G_least_rotation : FnG P w K mg base 7 F_least_rotation _ ["word"] (spD K _ 1 m_least_rotation) := def_mk (k := 6) (cf := f_least_rotation) Fu_least_rotation sc_least_rotation A (trivial) (trivial) (And.intro (PySem.W.mg_none_of X G z_min) (trivial)) [⟨"shortlex_key", 1, m_shortlex_key, 2, F_shortlex_key, _, _, G_shortlex_key, PySem.W.mg_of X G a_shortlex_key, k_shortlex_key, b_shortlex_key⟩, ⟨"rotations", 1, m_rotations, 6, F_rotations, _, _, G_rotations, PySem.W.mg_of X G a_rotations, k_rotations, b_rotations⟩] [] (by rfl) (by rfl) (And.intro (show (2 : Nat) ≤ 6 by decide) (And.intro (show (6 : Nat) ≤ 6 by decide) (trivial))) [] (by rfl) (trivial) [] (by rfl) (trivial) (by rfl) o_least_rotation
  have G_law : FnG P w K mg base 8 F_law _ ["_law_script"] (spD K _ 1 m_law) := def_mk (k := 7) (cf := f_law) Fu_law sc_law A (trivial) (trivial) (And.intro (PySem.W.mg_none_of X G z_isinstance) (And.intro (PySem.W.mg_none_of X G z_tuple) (And.intro (PySem.W.mg_none_of X G z_len) (And.intro (PySem.W.mg_none_of X G z_str) (And.intro (PySem.W.mg_none_of X G z_max) (And.intro (PySem.W.mg_none_of X G z_range) (And.intro (PySem.W.mg_none_of X G z_repr) (And.intro (PySem.W.mg_none_of X G z_all) (trivial))))))))) [⟨"_law_cell", 2, m__law_cell, 1, F__law_cell, _, _, G__law_cell, PySem.W.mg_of X G a__law_cell, k__law_cell, b__law_cell⟩, ⟨"_law_word", 3, m__law_word, 2, F__law_word, _, _, G__law_word, PySem.W.mg_of X G a__law_word, k__law_word, b__law_word⟩, ⟨"_law_inverse", 1, m__law_inverse, 1, F__law_inverse, _, _, G__law_inverse, PySem.W.mg_of X G a__law_inverse, k__law_inverse, b__law_inverse⟩, ⟨"_law_reduced", 1, m__law_reduced, 1, F__law_reduced, _, _, G__law_reduced, PySem.W.mg_of X G a__law_reduced, k__law_reduced, b__law_reduced⟩, ⟨"core_of", 1, m_core_of, 7, F_core_of, _, _, G_core_of, PySem.W.mg_of X G a_core_of, k_core_of, b_core_of⟩, ⟨"rotations", 1, m_rotations, 6, F_rotations, _, _, G_rotations, PySem.W.mg_of X G a_rotations, k_rotations, b_rotations⟩, ⟨"least_rotation", 1, m_least_rotation, 7, F_least_rotation, _, _, G_least_rotation, PySem.W.mg_of X G a_least_rotation, k_least_rotation, b_least_rotation⟩, ⟨"_law_key", 1, m__law_key, 1, F__law_key, _, _, G__law_key, PySem.W.mg_of X G a__law_key, k__law_key, b__law_key⟩] [] (by rfl) (by rfl) (And.intro (show (1 : Nat) ≤ 7 by decide) (And.intro (show (2 : Nat) ≤ 7 by decide) (And.intro (show (1 : Nat) ≤ 7 by decide) (And.intro (show (1 : Nat) ≤ 7 by decide) (And.intro (show (7 : Nat) ≤ 7 by decide) (And.intro (show (6 : Nat) ≤ 7 by decide) (And.intro (show (7 : Nat) ≤ 7 by decide) (And.intro (show (1 : Nat) ≤ 7 by decide) (trivial))))))))) [] (by rfl) (trivial) [] (by rfl) (trivial) (by rfl) o_law
  exact G_law.imp (law_imp math)
end Q

open PySem PySem.W PyProof.Rows
set_option maxHeartbeats 0 in
theorem PySem.Challenge.cw_cayleywalk_k04_cores_and_rotations_holds : PySem.Challenge.rw_cayleywalk_k04_cores_and_rotations.Holds := by
  w_on; o_law; k_head; (case hw => w_witness2)
  k_fill
  refine Px.walkG (l := PySem.Challenge.rw_cayleywalk_k04_cores_and_rotations) (k := 8) (x := "_law_script") rfl rfl ⟨rfl, by decide, by decide⟩ (fun w h Y => PySem.W.kIn_of Y) ?F
  case F =>
    intro w mg fa h KX G hmg
    refine' Q.all_mk KX G hmg ?a_check_generators ?l_check_generators ?e_check_generators ?k_check_generators ?a_letters_of ?l_letters_of ?e_letters_of ?k_letters_of ?a_rank_of ?l_rank_of ?e_rank_of ?k_rank_of ?a_inverse_letter ?l_inverse_letter ?e_inverse_letter ?k_inverse_letter ?a_shortlex_key ?l_shortlex_key ?e_shortlex_key ?k_shortlex_key ?a__is_over ?l__is_over ?e__is_over ?k__is_over ?a_is_word ?l_is_word ?e_is_word ?k_is_word ?a_check_word ?l_check_word ?e_check_word ?k_check_word ?a__check ?l__check ?e__check ?k__check ?a_cut_down ?l_cut_down ?e_cut_down ?k_cut_down ?a_reduced ?l_reduced ?e_reduced ?k_reduced ?a__parted ?l__parted ?e__parted ?k__parted ?a_core_of ?l_core_of ?e_core_of ?k_core_of ?a_rotations ?l_rotations ?e_rotations ?k_rotations ?a_least_rotation ?l_least_rotation ?e_least_rotation ?k_least_rotation ?a__law_cell ?l__law_cell ?e__law_cell ?k__law_cell ?a__law_values ?l__law_values ?e__law_values ?k__law_values ?a__law_word ?l__law_word ?e__law_word ?k__law_word ?a__law_inverse ?l__law_inverse ?e__law_inverse ?k__law_inverse ?a__law_reduced ?l__law_reduced ?e__law_reduced ?k__law_reduced ?a__law_key ?l__law_key ?e__law_key ?k__law_key ?a_law ?l_law ?e_law ?k_law ?z_len ?z_tuple ?z_range ?z_min ?z_int ?z_isinstance ?z_str ?z_max ?z_repr ?z_all ?g_MOST_GENERATORS ?g_LETTERS ?g_MOST_LETTERS ?xg_CayleyError ?xg_NotWord ?xg_BadNumber ?xk_CayleyError ?xb_CayleyError ?xt_CayleyError ?xa_CayleyError ?xn_CayleyError ?xd_CayleyError ?xc_CayleyError ?xm_CayleyError ?s_CayleyError_CayleyError ?s_CayleyError_NotWord ?s_CayleyError_BadNumber ?xk_NotWord ?xb_NotWord ?xt_NotWord ?xa_NotWord ?xn_NotWord ?xd_NotWord ?xc_NotWord ?xm_NotWord ?xr_NotWord ?s_NotWord_CayleyError ?s_NotWord_NotWord ?s_NotWord_BadNumber ?xk_BadNumber ?xb_BadNumber ?xt_BadNumber ?xa_BadNumber ?xn_BadNumber ?xd_BadNumber ?xc_BadNumber ?xm_BadNumber ?xr_BadNumber ?s_BadNumber_CayleyError ?s_BadNumber_NotWord ?s_BadNumber_BadNumber ?hn ?ht ?n_CayleyError_NotWord ?n_CayleyError_BadNumber ?n_NotWord_BadNumber ?n_BadNumber_NotWord Q.math
    (case a_check_generators => k_is)
    (case l_check_generators => k_is)
    (case e_check_generators => k_is)
    (case k_check_generators => k_is)
    (case a_letters_of => k_is)
    (case l_letters_of => k_is)
    (case e_letters_of => k_is)
    (case k_letters_of => k_is)
    (case a_rank_of => k_is)
    (case l_rank_of => k_is)
    (case e_rank_of => k_is)
    (case k_rank_of => k_is)
    (case a_inverse_letter => k_is)
    (case l_inverse_letter => k_is)
    (case e_inverse_letter => k_is)
    (case k_inverse_letter => k_is)
    (case a_shortlex_key => k_is)
    (case l_shortlex_key => k_is)
    (case e_shortlex_key => k_is)
    (case k_shortlex_key => k_is)
    (case a__is_over => k_is)
    (case l__is_over => k_is)
    (case e__is_over => k_is)
    (case k__is_over => k_is)
    (case a_is_word => k_is)
    (case l_is_word => k_is)
    (case e_is_word => k_is)
    (case k_is_word => k_is)
    (case a_check_word => k_is)
    (case l_check_word => k_is)
    (case e_check_word => k_is)
    (case k_check_word => k_is)
    (case a__check => k_is)
    (case l__check => k_is)
    (case e__check => k_is)
    (case k__check => k_is)
    (case a_cut_down => k_is)
    (case l_cut_down => k_is)
    (case e_cut_down => k_is)
    (case k_cut_down => k_is)
    (case a_reduced => k_is)
    (case l_reduced => k_is)
    (case e_reduced => k_is)
    (case k_reduced => k_is)
    (case a__parted => k_is)
    (case l__parted => k_is)
    (case e__parted => k_is)
    (case k__parted => k_is)
    (case a_core_of => k_is)
    (case l_core_of => k_is)
    (case e_core_of => k_is)
    (case k_core_of => k_is)
    (case a_rotations => k_is)
    (case l_rotations => k_is)
    (case e_rotations => k_is)
    (case k_rotations => k_is)
    (case a_least_rotation => k_is)
    (case l_least_rotation => k_is)
    (case e_least_rotation => k_is)
    (case k_least_rotation => k_is)
    (case a__law_cell => k_is)
    (case l__law_cell => k_is)
    (case e__law_cell => k_is)
    (case k__law_cell => k_is)
    (case a__law_values => k_is)
    (case l__law_values => k_is)
    (case e__law_values => k_is)
    (case k__law_values => k_is)
    (case a__law_word => k_is)
    (case l__law_word => k_is)
    (case e__law_word => k_is)
    (case k__law_word => k_is)
    (case a__law_inverse => k_is)
    (case l__law_inverse => k_is)
    (case e__law_inverse => k_is)
    (case k__law_inverse => k_is)
    (case a__law_reduced => k_is)
    (case l__law_reduced => k_is)
    (case e__law_reduced => k_is)
    (case k__law_reduced => k_is)
    (case a__law_key => k_is)
    (case l__law_key => k_is)
    (case e__law_key => k_is)
    (case k__law_key => k_is)
    (case a_law => k_is)
    (case l_law => k_is)
    (case e_law => k_is)
    (case k_law => k_is)
    (case z_len => k_is)
    (case z_tuple => k_is)
    (case z_range => k_is)
    (case z_min => k_is)
    (case z_int => k_is)
    (case z_isinstance => k_is)
    (case z_str => k_is)
    (case z_max => k_is)
    (case z_repr => k_is)
    (case z_all => k_is)
    (case g_MOST_GENERATORS => k_is)
    (case g_LETTERS => k_is)
    (case g_MOST_LETTERS => k_is)
    (case xg_CayleyError => k_is)
    (case xg_NotWord => k_is)
    (case xg_BadNumber => k_is)
    (case xk_CayleyError => k_is)
    (case xb_CayleyError => k_is)
    (case xt_CayleyError => k_is)
    (case xa_CayleyError => k_is)
    (case xn_CayleyError => k_is)
    (case xd_CayleyError => k_is)
    (case xc_CayleyError => k_is)
    (case xm_CayleyError => k_is)
    (case s_CayleyError_CayleyError => k_is)
    (case s_CayleyError_NotWord => k_is)
    (case s_CayleyError_BadNumber => k_is)
    (case xk_NotWord => k_is)
    (case xb_NotWord => k_is)
    (case xt_NotWord => k_is)
    (case xa_NotWord => k_is)
    (case xn_NotWord => k_is)
    (case xd_NotWord => k_is)
    (case xc_NotWord => k_is)
    (case xm_NotWord => k_is)
    (case xr_NotWord => first | k_exc | k_is)
    (case s_NotWord_CayleyError => k_is)
    (case s_NotWord_NotWord => k_is)
    (case s_NotWord_BadNumber => k_is)
    (case xk_BadNumber => k_is)
    (case xb_BadNumber => k_is)
    (case xt_BadNumber => k_is)
    (case xa_BadNumber => k_is)
    (case xn_BadNumber => k_is)
    (case xd_BadNumber => k_is)
    (case xc_BadNumber => k_is)
    (case xm_BadNumber => k_is)
    (case xr_BadNumber => first | k_exc | k_is)
    (case s_BadNumber_CayleyError => k_is)
    (case s_BadNumber_NotWord => k_is)
    (case s_BadNumber_BadNumber => k_is)
    (case hn => k_is)
    (case ht => k_is)
    (case n_CayleyError_NotWord => decide)
    (case n_CayleyError_BadNumber => decide)
    (case n_NotWord_BadNumber => decide)
    (case n_BadNumber_NotWord => decide)
