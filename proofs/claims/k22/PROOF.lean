import PyProof.Rows.All
import Wide.All
import OpenK.AllK
import Wide.FinOn
import HandS.ForMost
import HandS.IsInst
import HandS.Conv
import HandS.TupSets
import HandS.Zip
import HandS.Walk
import HandS.TupAny
import HandS.TupLe
import HandS.WideBits
import HandS.EndBits
import PySem.Challenge.RW_websolids_k22_whole_partings
set_option Elab.async false
set_option linter.all false
set_option maxRecDepth 100000
/-! The plain law: webs on the corners below n, cuts, sides, the search from corner to corner; no program in sight. -/
namespace Wp
abbrev Tie := Nat × Nat
def Adj (ts : List Tie) (x y : Nat) : Prop := (x, y) ∈ ts ∨ (y, x) ∈ ts
theorem Adj.symm {ts : List Tie} {x y : Nat} (h : Adj ts x y) : Adj ts y x := Or.symm h
def Ok (n : Nat) (C : List Nat) (x : Nat) : Prop := x < n ∧ x ∉ C
structure Side (n : Nat) (A : Nat → Nat → Prop) (C : List Nat) (S : Nat → Prop) : Prop where
  ne : ∃ x, S x
  ok : ∀ x, S x → Ok n C x
  rest : ∃ y, Ok n C y ∧ ¬ S y
  shut : ∀ x y, S x → A x y → Ok n C y → S y
def Parts (n : Nat) (A : Nat → Nat → Prop) (C : List Nat) : Prop := ∃ S, Side n A C S
/-- joined with v by a way outside of the cut -/
def InPart (n : Nat) (A : Nat → Nat → Prop) (C : List Nat) (v x : Nat) : Prop :=
  Ok n C x ∧ ∀ S : Nat → Prop, S v → (∀ a b, S a → A a b → Ok n C b → S b) → S x
theorem InPart.refl {n : Nat} {A : Nat → Nat → Prop} {C : List Nat} {v : Nat} (h : Ok n C v) : InPart n A C v v := ⟨h, fun _ h _ => h⟩
theorem InPart.step {n : Nat} {A : Nat → Nat → Prop} {C : List Nat} {v x y : Nat} (h : InPart n A C v x) (a : A x y) (o : Ok n C y) : InPart n A C v y :=
  ⟨o, fun S hv hs => hs x y (h.2 S hv hs) a o⟩
/-- a lot is the part of v -/
structure IsPart (n : Nat) (A : Nat → Nat → Prop) (C : List Nat) (v : Nat) (F : List Nat) : Prop where
  nd : F.Nodup
  mem : ∀ x, x ∈ F ↔ InPart n A C v x
section
variable {n : Nat} {A : Nat → Nat → Prop} {C : List Nat} {v : Nat} {F : List Nat}
theorem parts_of_part (hA : ∀ x y, A x y → A y x) (hv : Ok n C v) (P : IsPart n A C v F) : Parts n A C ↔ ∃ y, Ok n C y ∧ y ∉ F := by
  constructor
  · rintro ⟨S, s⟩
    refine Classical.byContradiction fun hno => ?_
    have all : ∀ y, Ok n C y → y ∈ F := fun y hy => Classical.byContradiction fun q => hno ⟨y, hy, q⟩
    by_cases h : S v
    · obtain ⟨y, hy, hn⟩ := s.rest
      exact hn (((P.mem y).mp (all y hy)).2 S h fun a b ha hab hb => s.shut a b ha hab hb)
    · obtain ⟨x, hx⟩ := s.ne
      have hT := ((P.mem x).mp (all x (s.ok x hx))).2 (fun z => Ok n C z ∧ ¬ S z) ⟨hv, h⟩ fun a b ha hab hb => ⟨hb, fun hS => ha.2 (s.shut b a hS (hA _ _ hab) ha.1)⟩
      exact hT.2 hx
  · rintro ⟨y, hy, hn⟩
    exact ⟨fun x => x ∈ F, ⟨v, (P.mem v).mpr (InPart.refl hv)⟩, fun x hx => ((P.mem x).mp hx).1, ⟨y, hy, hn⟩, fun x z hx hxz hz => (P.mem z).mpr (((P.mem x).mp hx).step hxz hz)⟩
theorem no_parts (h : ∀ x, ¬ Ok n C x) : ¬ Parts n A C := fun ⟨S, s⟩ => let ⟨x, hx⟩ := s.ne; h x (s.ok x hx)
/-- by counting -/
theorem count_all {l : List Nat} (hn : l.Nodup) (hl : ∀ x ∈ l, x < n) : l.length = n ↔ ∀ x, x < n → x ∈ l := by
  constructor
  · intro e x hx
    refine Classical.byContradiction fun q => ?_
    have := List.Nodup.length_le_of_subset (l₁ := x :: l) (l₂ := List.range n) (List.nodup_cons.mpr ⟨q, hn⟩) fun y hy => List.mem_range.mpr (by
      rcases List.mem_cons.mp hy with rfl | hy
      · exact hx
      · exact hl y hy)
    simp at this
    omega
  · intro h
    have h1 := List.Nodup.length_le_of_subset hn (l₂ := List.range n) fun y hy => List.mem_range.mpr (hl y hy)
    have h2 := List.Nodup.length_le_of_subset (l₁ := List.range n) List.nodup_range (l₂ := l) fun y hy => h y (List.mem_range.mp hy)
    simp at h1 h2
    omega
theorem count_part (hC : C.Nodup) (hCn : ∀ x ∈ C, x < n) (P : IsPart n A C v F) : F.length + C.length ≠ n ↔ ∃ y, Ok n C y ∧ y ∉ F := by
  have hnd : (F ++ C).Nodup := List.nodup_append.mpr ⟨P.nd, hC, fun a ha b hb e => ((P.mem a).mp ha).1.2 (e ▸ hb)⟩
  have := count_all (n := n) hnd fun x hx => by
    rcases List.mem_append.mp hx with h | h
    · exact ((P.mem x).mp h).1.1
    · exact hCn x h
  rw [List.length_append] at this
  rw [Ne, this]
  constructor
  · intro h
    refine Classical.byContradiction fun q => h fun x hx => ?_
    by_cases hc : x ∈ C
    · exact List.mem_append_right _ hc
    · exact List.mem_append_left _ (Classical.byContradiction fun hf => q ⟨x, ⟨hx, hc⟩, hf⟩)
  · rintro ⟨y, hy, hf⟩ h
    rcases List.mem_append.mp (h y hy.1) with h | h
    · exact hf h
    · exact hy.2 h
end
/-! ### the first corner outside of a cut, its part as a rising list -/
def firstOk (n : Nat) (C : List Nat) : Option Nat := ((List.range n).filter fun x => !C.contains x).head?
theorem rising_nodup {l : List Nat} (h : l.Pairwise (· < ·)) : l.Nodup := h.imp fun h => Nat.ne_of_lt h
theorem rising_eq {l k : List Nat} (hl : l.Pairwise (· < ·)) (hk : k.Pairwise (· < ·)) (h : ∀ x, x ∈ l ↔ x ∈ k) : l = k :=
  List.Perm.eq_of_pairwise (le := (· < ·)) (fun a b _ _ h1 h2 => absurd (Nat.lt_trans h1 h2) (Nat.lt_irrefl _)) hl hk ((List.perm_ext_iff_of_nodup (rising_nodup hl) (rising_nodup hk)).mpr h)
theorem rising_of_perm {l k : List Nat} (hp : l.Perm k) (hl : l.Pairwise (· ≤ ·)) (hk : k.Nodup) : l.Pairwise (· < ·) := by
  have hn : l.Nodup := hp.symm.nodup hk
  exact (List.pairwise_and_iff.mpr ⟨hl, hn⟩).imp fun h => Nat.lt_of_le_of_ne h.1 h.2
open Classical in
noncomputable def sideOf (n : Nat) (A : Nat → Nat → Prop) (C : List Nat) : List Nat :=
  match firstOk n C with
  | none => []
  | some v => (List.range n).filter fun x => decide (InPart n A C v x)
open Classical in
theorem sideOf_some {n : Nat} {A : Nat → Nat → Prop} {C : List Nat} {v : Nat} (h : firstOk n C = some v) : sideOf n A C = (List.range n).filter fun x => decide (InPart n A C v x) := by
  unfold sideOf
  rw [h]
theorem sideOf_none {n : Nat} {A : Nat → Nat → Prop} {C : List Nat} (h : firstOk n C = none) : sideOf n A C = [] := by
  unfold sideOf
  rw [h]
section
variable {n : Nat} {A : Nat → Nat → Prop} {C : List Nat} {v : Nat} {F : List Nat}
theorem firstOk_ok (h : firstOk n C = some v) : Ok n C v := by
  unfold firstOk at h
  have := List.mem_of_mem_head? (by rw [h]; rfl)
  simp at this
  exact this
theorem firstOk_no (h : firstOk n C = none) (x : Nat) : ¬ Ok n C x := by
  unfold firstOk at h
  rw [List.head?_eq_none_iff, List.filter_eq_nil_iff] at h
  intro hx
  have := h x (List.mem_range.mpr hx.1)
  simp [hx.2] at this
theorem sideOf_rising : (sideOf n A C).Pairwise (· < ·) := by
  cases h : firstOk n C with
  | none => rw [sideOf_none h]; exact List.Pairwise.nil
  | some v => rw [sideOf_some h]; exact List.pairwise_lt_range.filter _
theorem sideOf_part (h : firstOk n C = some v) : IsPart n A C v (sideOf n A C) := by
  refine ⟨rising_nodup sideOf_rising, fun x => ?_⟩
  rw [sideOf_some h]
  simp
  exact fun q => q.1.1
/-- whatever list was found: sorted, it is the side -/
theorem side_eq (h : firstOk n C = some v) (P : IsPart n A C v F) {l : List Nat} (hp : l.Perm F) (hl : l.Pairwise (· ≤ ·)) : l = sideOf n A C := by
  refine rising_eq (rising_of_perm hp hl P.nd) sideOf_rising fun x => ?_
  rw [hp.mem_iff, P.mem, (sideOf_part h).mem]
theorem sideOf_ok (x : Nat) (h : x ∈ sideOf n A C) : Ok n C x := by
  cases e : firstOk n C with
  | none => rw [sideOf_none e] at h; cases h
  | some v => exact (((sideOf_part e).mem x).mp h).1
theorem sideOf_shut (x y : Nat) (h : x ∈ sideOf n A C) (a : A x y) (o : Ok n C y) : y ∈ sideOf n A C := by
  cases e : firstOk n C with
  | none => rw [sideOf_none e] at h; cases h
  | some v => exact ((sideOf_part e).mem y).mpr ((((sideOf_part e).mem x).mp h).step a o)
theorem sideOf_ne (h : firstOk n C = some v) : sideOf n A C ≠ [] := by
  have := ((sideOf_part (A := A) h).mem v).mpr (InPart.refl (firstOk_ok h))
  intro e
  rw [e] at this
  cases this
theorem sideOf_nil : sideOf n A C = [] ↔ firstOk n C = none := by
  cases e : firstOk n C with
  | none => simp [sideOf_none e]
  | some v => simp [sideOf_ne e]
/-- what the two counts tell -/
theorem parts_iff (hA : ∀ x y, A x y → A y x) (hC : C.Nodup) (hCn : ∀ x ∈ C, x < n) : Parts n A C ↔ sideOf n A C ≠ [] ∧ (sideOf n A C).length + C.length ≠ n := by
  cases e : firstOk n C with
  | none =>
    rw [sideOf_none e]
    simp
    exact no_parts (firstOk_no e)
  | some v =>
    rw [parts_of_part hA (firstOk_ok e) (sideOf_part e), count_part hC hCn (sideOf_part e)]
    simp [sideOf_ne e]
end
end Wp
namespace Wp
/-! ### the search: found, waiting; E: ties not yet looked at -/
structure Bfs (n : Nat) (A : Nat → Nat → Prop) (C : List Nat) (v : Nat) (E : Nat → Nat → Prop) (F W : List Nat) : Prop where
  v0 : v ∈ F
  nd : F.Nodup
  ok : ∀ x ∈ F, Ok n C x
  wf : ∀ x ∈ W, x ∈ F
  shut : ∀ x ∈ F, x ∉ W → ∀ y, A x y → Ok n C y → ¬ E x y → y ∈ F
  part : ∀ x ∈ F, InPart n A C v x
section
variable {n : Nat} {A : Nat → Nat → Prop} {C : List Nat} {v : Nat} {E E' : Nat → Nat → Prop} {F W : List Nat}
theorem Bfs.start (h : Ok n C v) : Bfs n A C v (fun _ _ => False) [v] [v] :=
  ⟨by simp, by simp, by simpa using h, by simp, fun x hx hw => absurd hx hw, by simpa using InPart.refl h⟩
/-- the last one is taken off: none of its ties is looked at yet -/
theorem Bfs.pop {c : Nat} (B : Bfs n A C v (fun _ _ => False) F (W ++ [c])) : Bfs n A C v (fun x _ => x = c) F W :=
  ⟨B.v0, B.nd, B.ok, fun x hx => B.wf x (by simp [hx]), fun x hx hw y a o e => B.shut x hx (by simp [hw, e]) y a o (by simp), B.part⟩
/-- nothing to do at this tie -/
theorem Bfs.skip (B : Bfs n A C v E F W) (h : ∀ x y, x ∈ F → E x y → ¬ E' x y → A x y → Ok n C y → y ∈ F) : Bfs n A C v E' F W := by
  refine ⟨B.v0, B.nd, B.ok, B.wf, fun x hx hw y a o e => ?_, B.part⟩
  by_cases q : E x y
  · exact h x y hx q e a o
  · exact B.shut x hx hw y a o q
/-- a new corner -/
theorem Bfs.add {c z : Nat} (B : Bfs n A C v E F W) (hc : c ∈ F) (a : A c z) (o : Ok n C z) (hz : z ∉ F) (h : ∀ x y, x ∈ F → E x y → ¬ E' x y → A x y → Ok n C y → y ∈ z :: F) : Bfs n A C v E' (F ++ [z]) (W ++ [z]) := by
  refine ⟨by simp [B.v0], ?_, fun x hx => ?_, fun x hx => ?_, fun x hx hw y ay oy e => ?_, fun x hx => ?_⟩
  · refine List.nodup_append.mpr ⟨B.nd, by simp, fun p hp q hq e => ?_⟩
    simp at hq
    exact hz (by rw [← hq, ← e]; exact hp)
  · rcases List.mem_append.mp hx with h | h
    · exact B.ok x h
    · simp at h; rw [h]; exact o
  · rcases List.mem_append.mp hx with h | h
    · exact List.mem_append_left _ (B.wf x h)
    · exact List.mem_append_right _ h
  · have hx' : x ∈ F := by
      rcases List.mem_append.mp hx with h | h
      · exact h
      · exact absurd (List.mem_append_right _ h) hw
    by_cases q : E x y
    · have := h x y hx' q e ay oy
      rcases List.mem_cons.mp this with h | h
      · simp [h]
      · simp [h]
    · exact List.mem_append_left _ (B.shut x hx' (fun z => hw (List.mem_append_left _ z)) y ay oy q)
  · rcases List.mem_append.mp hx with h | h
    · exact B.part x h
    · simp at h; rw [h]; exact (B.part c hc).step a o
theorem Bfs.done (B : Bfs n A C v (fun _ _ => False) F []) : IsPart n A C v F := by
  refine ⟨B.nd, fun x => ⟨B.part x, fun h => ?_⟩⟩
  exact h.2 (fun y => y ∈ F) B.v0 fun a b ha hab hb => B.shut a ha (by simp) b hab hb (by simp)
/-- how many are found at most -/
theorem Bfs.small (B : Bfs n A C v E F W) : F.length ≤ n := by
  have := List.Nodup.length_le_of_subset B.nd (l₂ := List.range n) fun y hy => List.mem_range.mpr (B.ok y hy).1
  simpa using this
end
/-! ### cuts of at most two corners -/
def lots2 (n : Nat) : List (List Nat) := (List.range n).flatMap fun a => (List.range' (a + 1) (n - (a + 1))).map fun b => [a, b]
def lotsOf (n : Nat) : Nat → List (List Nat)
  | 0 => [[]]
  | 1 => (List.range n).map fun a => [a]
  | _ => lots2 n
def cutsOf (n : Nat) : List (List Nat) := lotsOf n 0 ++ lotsOf n 1 ++ lotsOf n 2
theorem mem_lots2 {n : Nat} {c : List Nat} : c ∈ lots2 n ↔ ∃ a b, a < b ∧ b < n ∧ c = [a, b] := by
  unfold lots2
  simp only [List.mem_flatMap, List.mem_map, List.mem_range, List.mem_range'_1]
  constructor
  · rintro ⟨a, ha, b, ⟨h1, h2⟩, rfl⟩
    exact ⟨a, b, by omega, by omega, rfl⟩
  · rintro ⟨a, b, h1, h2, rfl⟩
    exact ⟨a, by omega, b, ⟨by omega, by omega⟩, rfl⟩
structure CutOk (n : Nat) (c : List Nat) : Prop where
  rising : c.Pairwise (· < ·)
  small : c.length ≤ 2
  low : ∀ x ∈ c, x < n
theorem lots_ok {n s : Nat} {c : List Nat} (hs : s ≤ 2) (h : c ∈ lotsOf n s) : CutOk n c ∧ c.length = s := by
  match s, hs, h with
  | 0, _, h => simp [lotsOf] at h; subst h; exact ⟨⟨by simp, by simp, by simp⟩, rfl⟩
  | 1, _, h =>
    simp [lotsOf] at h
    obtain ⟨a, ha, rfl⟩ := h
    exact ⟨⟨by simp, by simp, by simpa using ha⟩, rfl⟩
  | 2, _, h =>
    obtain ⟨a, b, h1, h2, rfl⟩ := mem_lots2.mp h
    exact ⟨⟨by simpa using h1, by simp, by simp; omega⟩, rfl⟩
theorem cuts_ok {n : Nat} {c : List Nat} (h : c ∈ cutsOf n) : CutOk n c := by
  unfold cutsOf at h
  rcases List.mem_append.mp h with h | h
  · rcases List.mem_append.mp h with h | h
    · exact (lots_ok (by omega) h).1
    · exact (lots_ok (by omega) h).1
  · exact (lots_ok (by omega) h).1
theorem CutOk.nd {n : Nat} {c : List Nat} (h : CutOk n c) : c.Nodup := rising_nodup h.rising
theorem mem_cuts {n : Nat} (C : List Nat) (h : C.length ≤ 2) : ∃ c ∈ cutsOf n, ∀ x, x < n → (x ∈ c ↔ x ∈ C) := by
  have e0 : [] ∈ cutsOf n := by simp [cutsOf, lotsOf]
  have e1 : ∀ a, a < n → [a] ∈ cutsOf n := fun a ha => by simp [cutsOf, lotsOf, ha]
  have e2 : ∀ a b, a < b → b < n → [a, b] ∈ cutsOf n := fun a b h1 h2 => List.mem_append_right _ (mem_lots2.mpr ⟨a, b, h1, h2, rfl⟩)
  have one : ∀ a, ∃ c ∈ cutsOf n, ∀ x, x < n → (x ∈ c ↔ x = a) := fun a => by
    by_cases ha : a < n
    · exact ⟨[a], e1 a ha, by simp⟩
    · exact ⟨[], e0, fun x hx => by simp; omega⟩
  match C, h with
  | [], _ => exact ⟨[], e0, by simp⟩
  | [a], _ =>
    obtain ⟨c, hc, h⟩ := one a
    exact ⟨c, hc, by simpa using h⟩
  | [a, b], _ =>
    by_cases ha : a < n
    · by_cases hb : b < n
      · rcases Nat.lt_trichotomy a b with h | h | h
        · exact ⟨[a, b], e2 a b h hb, by simp⟩
        · exact ⟨[a], e1 a ha, by simp [h]⟩
        · exact ⟨[b, a], e2 b a h ha, by simp; omega⟩
      · exact ⟨[a], e1 a ha, fun x hx => by simp; omega⟩
    · obtain ⟨c, hc, h⟩ := one b
      refine ⟨c, hc, fun x hx => ?_⟩
      rw [h x hx]
      simp
      omega
theorem Parts.congr {n : Nat} {A A' : Nat → Nat → Prop} {C D : List Nat} (hA : ∀ x y, x < n → y < n → (A x y ↔ A' x y)) (h : ∀ x, x < n → (x ∈ C ↔ x ∈ D)) (p : Parts n A C) : Parts n A' D := by
  obtain ⟨S, s⟩ := p
  have ok : ∀ x, Ok n C x ↔ Ok n D x := fun x => by
    unfold Ok
    constructor
    · rintro ⟨a, b⟩; exact ⟨a, fun q => b ((h x a).mpr q)⟩
    · rintro ⟨a, b⟩; exact ⟨a, fun q => b ((h x a).mp q)⟩
  refine ⟨S, s.ne, fun x hx => (ok x).mp (s.ok x hx), ?_, fun x y hx a o => s.shut x y hx ((hA x y (s.ok x hx).1 o.1).mpr a) ((ok y).mpr o)⟩
  obtain ⟨y, hy, hn⟩ := s.rest
  exact ⟨y, (ok y).mp hy, hn⟩
open Classical in
/-- the first cut -/
noncomputable def firstCut (n : Nat) (A : Nat → Nat → Prop) : Option (List Nat) := (cutsOf n).find? fun c => decide (Parts n A c)
def Three (n : Nat) (A : Nat → Nat → Prop) : Prop := 4 ≤ n ∧ ∀ C : List Nat, C.length ≤ 2 → ¬ Parts n A C
section
variable {n : Nat} {A A' : Nat → Nat → Prop} {c : List Nat}
theorem firstCut_none : firstCut n A = none ↔ ∀ C : List Nat, C.length ≤ 2 → ¬ Parts n A C := by
  unfold firstCut
  rw [List.find?_eq_none]
  constructor
  · intro h C hC p
    obtain ⟨c, hc, e⟩ := mem_cuts (n := n) C hC
    have := h c hc
    simp at this
    exact this (p.congr (fun _ _ _ _ => Iff.rfl) fun x hx => (e x hx).symm)
  · intro h c hc
    simp
    exact h c (cuts_ok hc).small
theorem three_iff : Three n A ↔ 4 ≤ n ∧ firstCut n A = none := by
  unfold Three
  rw [firstCut_none]
theorem firstCut_some (h : firstCut n A = some c) : c ∈ cutsOf n ∧ Parts n A c := by
  unfold firstCut at h
  exact ⟨List.mem_of_find?_eq_some h, by simpa using List.find?_some h⟩
/-- the loop over all cuts: up to the i-th none parts -/
theorem firstCut_at {i : Nat} (hi : (cutsOf n)[i]? = some c) (hno : ∀ j d, j < i → (cutsOf n)[j]? = some d → ¬ Parts n A d) (p : Parts n A c) : firstCut n A = some c := by
  unfold firstCut
  rw [List.find?_eq_some_iff_getElem]
  obtain ⟨h, e⟩ := List.getElem?_eq_some_iff.mp hi
  refine ⟨by simpa using p, i, h, e, fun j hj => ?_⟩
  simp
  exact hno j _ hj (List.getElem?_eq_getElem (Nat.lt_trans hj h))
theorem firstCut_all (hno : ∀ (j : Nat) d, (cutsOf n)[j]? = some d → ¬ Parts n A d) : firstCut n A = none := by
  unfold firstCut
  rw [List.find?_eq_none]
  intro d hd
  obtain ⟨j, h⟩ := List.mem_iff_getElem?.mp hd
  simpa using hno j d h
/-- the least size by trying sizes one by one -/
theorem firstCut_size {s : Nat} (hs : s ≤ 2) (hno : ∀ r, r < s → ∀ d ∈ lotsOf n r, ¬ Parts n A d) (h : ∃ d ∈ lotsOf n s, Parts n A d) : (firstCut n A).map List.length = some s := by
  cases e : firstCut n A with
  | none =>
    obtain ⟨d, hd, p⟩ := h
    exact absurd p (firstCut_none.mp e d (lots_ok hs hd).1.small)
  | some c =>
    obtain ⟨hc, p⟩ := firstCut_some e
    simp
    -- its size is not less, as none of a lesser size parts; not more, as one of size s comes first
    have key : ∀ r, r ≤ 2 → c ∈ lotsOf n r → r = s := by
      intro r hr hcr
      rcases Nat.lt_trichotomy r s with q | q | q
      · exact absurd p (hno r q c hcr)
      · exact q
      · exfalso
        obtain ⟨d, hd, pd⟩ := h
        have hl := (lots_ok hr hcr).2
        have hls := (lots_ok hs hd).2
        unfold firstCut cutsOf at e
        rw [List.find?_append, List.find?_append] at e
        have f0 : ∀ (k : Nat), k ≤ 2 → k < r → (lotsOf n k).find? (fun c => @decide (Parts n A c) (Classical.propDecidable _)) ≠ some c := by
          intro k hk hkr q
          have := (lots_ok hk (List.mem_of_find?_eq_some q)).2
          omega
        have fs : (lotsOf n s).find? (fun c => @decide (Parts n A c) (Classical.propDecidable _)) ≠ none := by
          intro q
          rw [List.find?_eq_none] at q
          have := q d hd
          simp at this
          exact this pd
        have g : ∀ (o : Option (List Nat)) (x : Option (List Nat)), o.or x = some c → (o = some c ∨ (o = none ∧ x = some c)) := by
          intro o x h
          cases o with
          | none => exact Or.inr ⟨rfl, h⟩
          | some y => exact Or.inl h
        rcases g _ _ e with e1 | ⟨e1, e2⟩
        · rcases g _ _ e1 with e3 | ⟨e3, e4⟩
          · exact f0 0 (by omega) (by omega) e3
          · by_cases hr1 : r = 1
            · have : s = 0 := by omega
              subst this
              exact fs e3
            · exact f0 1 (by omega) (by omega) e4
        · rw [Option.or_eq_none_iff] at e1
          have : s = 0 ∨ s = 1 := by omega
          rcases this with rfl | rfl
          · exact fs e1.1
          · exact fs e1.2
    unfold cutsOf at hc
    rcases List.mem_append.mp hc with hc | hc
    · rcases List.mem_append.mp hc with hc | hc
      · rw [(lots_ok (by omega) hc).2, key 0 (by omega) hc]
      · rw [(lots_ok (by omega) hc).2, key 1 (by omega) hc]
    · rw [(lots_ok (by omega) hc).2, key 2 (by omega) hc]
theorem firstCut_none_sizes (hno : ∀ r, r ≤ 2 → ∀ d ∈ lotsOf n r, ¬ Parts n A d) : firstCut n A = none := by
  refine firstCut_all fun j d hj => ?_
  have hd := List.mem_of_getElem? hj
  unfold cutsOf at hd
  rcases List.mem_append.mp hd with hd | hd
  · rcases List.mem_append.mp hd with hd | hd
    · exact hno 0 (by omega) d hd
    · exact hno 1 (by omega) d hd
  · exact hno 2 (by omega) d hd
/-- each corner has three neighbours -/
theorem Three.degree (h : Three n A) (irr : ∀ x, ¬ A x x) {k : Nat} (hk : k < n) {row : List Nat} (hr : ∀ y, y ∈ row ↔ A k y) : 2 < row.length := by
  refine Nat.lt_of_not_le fun q => h.2 row q ⟨fun x => x = k, ⟨k, rfl⟩, fun x e => ⟨by omega, fun m => irr k (by rw [e] at m; exact (hr k).mp m)⟩, ?_, fun x y e a o => absurd ((hr y).mpr (by rw [← e]; exact a)) o.2⟩
  -- some corner is beyond
  refine Classical.byContradiction fun no => ?_
  have all : ∀ x, x < n → x ∈ k :: row := fun x hx => Classical.byContradiction fun hm => no ⟨x, ⟨hx, fun z => hm (List.mem_cons_of_mem _ z)⟩, fun e => hm (by rw [e]; exact List.mem_cons_self)⟩
  have := List.Nodup.length_le_of_subset (l₁ := List.range n) List.nodup_range (l₂ := k :: row) fun y hy => all y (List.mem_range.mp hy)
  simp at this
  have := h.1
  omega
/-- four corners all tied -/
theorem three_four (h : ∀ x y, x < 4 → y < 4 → x ≠ y → A x y) : Three 4 A := by
  refine ⟨Nat.le_refl 4, fun C _ ⟨S, s⟩ => ?_⟩
  obtain ⟨x, hx⟩ := s.ne
  obtain ⟨y, hy, hn⟩ := s.rest
  exact hn (s.shut x y hx (h x y (s.ok x hx).1 hy.1 fun e => hn (e ▸ hx)) hy)
/-- a corner more, tied to three -/
theorem Three.grow (h : Three n A) {a b c : Nat} (ha : a < n) (hb : b < n) (hc : c < n) (hab : a ≠ b) (hac : a ≠ c) (hbc : b ≠ c)
    (hA : ∀ x y, x < n → y < n → A x y → A' x y) (hs : ∀ x y, A' x y → A' y x) (h1 : A' a n) (h2 : A' b n) (h3 : A' c n) : Three (n + 1) A' := by
  refine ⟨by have := h.1; omega, fun C hC ⟨S, s⟩ => ?_⟩
  -- C and S without the new corner
  have inner : ∀ T : Nat → Prop, (∃ x, x < n ∧ T x) → (∀ x, T x → Ok (n + 1) C x) → (∃ y, y < n ∧ y ∉ C ∧ ¬ T y) → (∀ x y, T x → A' x y → Ok (n + 1) C y → T y) → False := by
    intro T ⟨x0, hx0, tx0⟩ hok ⟨y0, hy0, hyC, hyT⟩ hshut
    exact h.2 C hC ⟨fun x => x < n ∧ T x, ⟨x0, hx0, tx0⟩, fun x hx => ⟨hx.1, (hok x hx.2).2⟩, ⟨y0, ⟨hy0, hyC⟩, fun z => hyT z.2⟩, fun x y hx axy oy => ⟨oy.1, hshut x y hx.2 (hA x y hx.1 oy.1 axy) ⟨by have := oy.1; omega, oy.2⟩⟩⟩
  obtain ⟨y, hy, hyS⟩ := s.rest
  obtain ⟨x, hx⟩ := s.ne
  -- one of the three is not in the cut
  have pick : ∃ d, d < n ∧ A' d n ∧ d ∉ C := by
    refine Classical.byContradiction fun no => ?_
    have ia : a ∈ C := Classical.byContradiction fun q => no ⟨a, ha, h1, q⟩
    have ib : b ∈ C := Classical.byContradiction fun q => no ⟨b, hb, h2, q⟩
    have ic : c ∈ C := Classical.byContradiction fun q => no ⟨c, hc, h3, q⟩
    have := List.Nodup.length_le_of_subset (l₁ := [a, b, c]) (by simp [hab, hac, hbc]) (l₂ := C) fun z hz => by
      simp at hz
      rcases hz with rfl | rfl | rfl
      · exact ia
      · exact ib
      · exact ic
    simp at this
    omega
  obtain ⟨d, hd, had, hdC⟩ := pick
  by_cases hxn : ∃ x, x < n ∧ S x
  · by_cases hyn : ∃ y, y < n ∧ y ∉ C ∧ ¬ S y
    · exact inner S hxn s.ok hyn s.shut
    · -- all old corners outside of the cut are in S; the new one is the rest
      have hyn' : y = n := by
        have := hy.1
        refine Classical.byContradiction fun q => hyn ⟨y, by omega, hy.2, hyS⟩
      have hdS : S d := Classical.byContradiction fun q => hyn ⟨d, hd, hdC, q⟩
      subst hyn'
      exact hyS (s.shut d _ hdS had hy)
  · -- S is the new corner alone
    have hxn' : x = n := by
      have := (s.ok x hx).1
      refine Classical.byContradiction fun q => hxn ⟨x, by omega, hx⟩
    subst hxn'
    exact hxn ⟨d, hd, s.shut _ d hx (hs _ _ had) ⟨by omega, hdC⟩⟩
/-- named anew -/
theorem Three.named (h : Three n A) {f : Nat → Nat} (hf : ∀ x, x < n → f x < n) (inj : ∀ x y, x < n → y < n → f x = f y → x = y) (sur : ∀ y, y < n → ∃ x, x < n ∧ f x = y) (hA : ∀ x y, x < n → y < n → A x y → A' (f x) (f y)) : Three n A' := by
  refine ⟨h.1, fun C hC ⟨S, s⟩ => ?_⟩
  have pre : ∀ D : List Nat, ∃ D' : List Nat, D'.length ≤ D.length ∧ ∀ x, x < n → (x ∈ D' ↔ f x ∈ D) := by
    intro D
    induction D with
    | nil => exact ⟨[], Nat.le_refl _, by simp⟩
    | cons d D ih =>
      obtain ⟨D', h1, h2⟩ := ih
      by_cases q : ∃ x, x < n ∧ f x = d
      · obtain ⟨x0, hx0, rfl⟩ := q
        refine ⟨x0 :: D', by simpa using h1, fun x hx => ?_⟩
        simp [h2 x hx]
        constructor
        · rintro (rfl | z)
          · exact Or.inl rfl
          · exact Or.inr z
        · rintro (z | z)
          · exact Or.inl (inj x x0 hx hx0 z)
          · exact Or.inr z
      · refine ⟨D', by simp; omega, fun x hx => ?_⟩
        simp [h2 x hx]
        exact fun e => absurd ⟨x, hx, e⟩ q
  obtain ⟨C', hl, hm⟩ := pre C
  have ok : ∀ x, x < n → (Ok n C' x ↔ Ok n C (f x)) := fun x hx => by
    unfold Ok
    rw [hm x hx]
    simp [hx, hf x hx]
  refine h.2 C' (by omega) ⟨fun x => x < n ∧ S (f x), ?_, fun x hx => (ok x hx.1).mpr (s.ok _ hx.2), ?_, fun x y hx a o => ⟨o.1, s.shut _ _ hx.2 (hA x y hx.1 o.1 a) ((ok y o.1).mp o)⟩⟩
  · obtain ⟨z, hz⟩ := s.ne
    obtain ⟨x, hx, e⟩ := sur z (s.ok z hz).1
    exact ⟨x, hx, by rw [e]; exact hz⟩
  · obtain ⟨z, hz, hn⟩ := s.rest
    obtain ⟨x, hx, e⟩ := sur z hz.1
    exact ⟨x, (ok x hx).mpr (by rw [e]; exact hz), fun q => hn (by rw [← e]; exact q.2)⟩
theorem Three.mono (h : Three n A) (hA : ∀ x y, x < n → y < n → A x y → A' x y) : Three n A' :=
  h.named (f := id) (fun _ h => h) (fun _ _ _ _ e => e) (fun y h => ⟨y, h, rfl⟩) hA
end
end Wp
namespace Wp
open PySem L2
/-! ### the text by places -/
def top (i : Nat) : Stmt := PySem.Challenge.pw_websolids_k22_whole_partings.main.body.getD i (.Pass ⟨0, 0, 0, 0⟩)
abbrev sIsInt : Stmt := top 5
abbrev sIsCount : Stmt := top 6
abbrev sIsTie : Stmt := top 11
abbrev sIsMany : Stmt := top 12
abbrev sIsWeb : Stmt := top 13
abbrev sIsCorner : Stmt := top 14
abbrev sWantWeb : Stmt := top 15
abbrev sWantCorner : Stmt := top 16
abbrev sNear : Stmt := top 17
abbrev sNeighbours : Stmt := top 18
abbrev sDegree : Stmt := top 19
abbrev sCuts : Stmt := top 23
abbrev sFirstSide : Stmt := top 24
abbrev sTwoSides : Stmt := top 25
abbrev sFound : Stmt := top 26
abbrev sIsThreeWeb : Stmt := top 27
abbrev sRising : Stmt := top 28
abbrev sPartingOf : Stmt := top 29
abbrev sParting : Stmt := top 30
abbrev sIsParting : Stmt := top 31
abbrev sLeastCut : Stmt := top 32
abbrev sIsThree : Stmt := top 33
abbrev sPot : Stmt := top 35
abbrev sDraw : Stmt := top 36
abbrev sPick : Stmt := top 37
abbrev sMixed : Stmt := top 38
abbrev sWeb : Stmt := top 39
abbrev sParts : Stmt := top 40
abbrev sLots : Stmt := top 41
abbrev sLeast : Stmt := top 42
abbrev sThree : Stmt := top 43
abbrev sWhole : Stmt := top 44
abbrev sLRising : Stmt := top 45
abbrev sLParting : Stmt := top 46
abbrev sDrawn : Stmt := top 47
abbrev sSolid : Stmt := top 48
abbrev sNamed : Stmt := top 49
abbrev sAny : Stmt := top 50
abbrev sRight : Stmt := top 51
abbrev sLaw : Stmt := top 52
/-! ### a def that is called by its name -/
structure Cal (P : Program) (w : World) (K : PySem.W.Frag) (mg : Str → Option Value) (base : Heap) (k : Nat) (x : Str) (sp : Sp) : Prop where
  ex : ∃ (f : Addr) (fd : FuncData) (ps : List Str), FnOk P w K mg base CX0 k f fd ps sp ∧ mg x = some (.ref f) ∧ PySem.W.keepIn K (.ref f) = true ∧ Binds K fd ps []
theorem pe_cal {X : Cx} {k j : Nat} {x : Str} {sp : Sp} {p pos : Pos} {e : Expr} {es : List Expr} {t : TA} (c : Cal X.prog X.w X.K X.mg X.base k x sp) (hr : Room j X.A) (hk : k ≤ j) (hg : Gl X x) (ha : PA X (e :: es) t)
    (hdb : (x == ("__debug__" : Str)) = false := by decide) (he : starEach (e :: es) X.env = (false, eval e X.env) :: starEach es X.env := by rfl) (hpl : (backTo pos (starEach es X.env)).any (·.1) = false := by rfl) :
    PE X (.Call (.Name x p) (e :: es) [] pos) (tCall sp [] E0 t) := by
  obtain ⟨f, fd, ps, F, hm, kp, b⟩ := c.ex
  exact pe_call F (hr.mono hk) hg hm kp b .nil pass0 ha hdb he hpl
/-! ### what the module's own names and the built-in names hold -/
structure Txt (mg : Str → Option Value) : Prop where
  cMC : ∃ t, mg "MOST_CORNERS" = some (.int 20 t)
  cMT : ∃ t, mg "MOST_TIES" = some (.int 60 t)
  cWEB : ∃ t, mg "WEB" = some (.str "web" t)
  cMCut : ∃ t, mg "MOST_CUT" = some (.int 2 t)
  cLC : ∃ t, mg "LEAST_CORNERS" = some (.int 4 t)
  isinst : mg "isinstance" = none
  int : mg "int" = none
  bool : mg "bool" = none
  str : mg "str" = none
  tuple : mg "tuple" = none
  list : mg "list" = none
  dict : mg "dict" = none
  set : mg "set" = none
  len : mg "len" = none
  all : mg "all" = none
  any : mg "any" = none
  zip : mg "zip" = none
  range : mg "range" = none
  sorted : mg "sorted" = none
  min : mg "min" = none
  max : mg "max" = none
  abs : mg "abs" = none
  divmod : mg "divmod" = none
  repr : mg "repr" = none
section
variable {P : Program} {w : World} {K : PySem.W.Frag} {mg : Str → Option Value} {base : Heap}
/-! ### is_integer, is_count -/
def spIsInt : Sp := fun vs H Q _ => ∃ n : Int, vs = [.int n] ∧ Q (.bl true) H
theorem sc_isInt : FnScope ["value"] ["value"] (defScope sIsInt) := ⟨rfl, rfl, rfl, by decide +kernel, rfl, by decide +kernel, by decide +kernel⟩
theorem ok_isInt {f : Addr} {fd : FuncData} (F : Fun K "is_integer" "is_integer" sIsInt f fd) (T : Txt mg) : FnOk P w K mg base CX0 1 f fd ["value"] spIsInt := by
  refine F.ok sc_isInt (fun vs H Q E h => ?_) (fun cdv A outer s H vs Q E hr h => ?_)
  · obtain ⟨n, rfl, _⟩ := h
    rfl
  · obtain ⟨n, rfl, k⟩ := h
    refine ⟨_, pss_one (ps_ret (pe_and (pe_callB call_isi (by rfl) T.isinst (by decide +kernel) (pa_cons (pv 0) (pa_cons (pe_bltn (by rfl) T.int (by decide +kernel) (v := .ty "int") rfl) pa_nil)))
      (pe_one (pe_not (pe_callB call_isi (by rfl) T.isinst (by decide +kernel) (pa_cons (pv 0) (pa_cons (pe_bltn (by rfl) T.bool (by decide +kernel) (v := .ty "bool") rfl) pa_nil))))))), ?_⟩
    refine ⟨_, rfl, .int n, .ty "int", _, _, true, rfl, .ty _, .base (.int n), kit_ty (by decide +kernel), true, rfl, iteT ?_⟩
    refine ⟨_, rfl, .int n, .ty "bool", _, _, false, rfl, .ty _, .base (.int n), kit_ty (by decide +kernel), false, rfl, k⟩
end
end Wp
namespace Wp
open PySem L2
/-! ### lists paired item by item -/
def All2 {α β : Type} (R : α → β → Prop) (l : List α) (m : List β) : Prop := l.length = m.length ∧ ∀ (i : Nat) (a : α) (b : β), l[i]? = some a → m[i]? = some b → R a b
section
variable {α β : Type} {R R' : α → β → Prop} {l : List α} {m : List β}
theorem All2.nil : All2 R [] [] := ⟨rfl, fun i a b h => by simp at h⟩
theorem All2.mono (h : All2 R l m) (f : ∀ a b, a ∈ l → b ∈ m → R a b → R' a b) : All2 R' l m := ⟨h.1, fun i a b h1 h2 => f a b (List.mem_of_getElem? h1) (List.mem_of_getElem? h2) (h.2 i a b h1 h2)⟩
theorem All2.getL (h : All2 R l m) {i : Nat} {a : α} (e : l[i]? = some a) : ∃ b, m[i]? = some b ∧ R a b := by
  obtain ⟨hi, _⟩ := List.getElem?_eq_some_iff.mp e
  have hm : i < m.length := by rw [← h.1]; exact hi
  exact ⟨m[i], List.getElem?_eq_getElem hm, h.2 i a _ e (List.getElem?_eq_getElem hm)⟩
theorem All2.getR (h : All2 R l m) {i : Nat} {b : β} (e : m[i]? = some b) : ∃ a, l[i]? = some a ∧ R a b := by
  obtain ⟨hi, _⟩ := List.getElem?_eq_some_iff.mp e
  have hm : i < l.length := by rw [h.1]; exact hi
  exact ⟨l[i], List.getElem?_eq_getElem hm, h.2 i _ b (List.getElem?_eq_getElem hm) e⟩
theorem All2.memL (h : All2 R l m) {a : α} (e : a ∈ l) : ∃ b, b ∈ m ∧ R a b := by
  obtain ⟨i, hi⟩ := List.mem_iff_getElem?.mp e
  obtain ⟨b, hb, r⟩ := h.getL hi
  exact ⟨b, List.mem_of_getElem? hb, r⟩
theorem All2.memR (h : All2 R l m) {b : β} (e : b ∈ m) : ∃ a, a ∈ l ∧ R a b := by
  obtain ⟨i, hi⟩ := List.mem_iff_getElem?.mp e
  obtain ⟨a, ha, r⟩ := h.getR hi
  exact ⟨a, List.mem_of_getElem? ha, r⟩
theorem All2.append {l2 : List α} {m2 : List β} (h : All2 R l m) (h2 : All2 R l2 m2) : All2 R (l ++ l2) (m ++ m2) := by
  refine ⟨by simp [h.1, h2.1], fun i a b e1 e2 => ?_⟩
  by_cases hi : i < l.length
  · rw [List.getElem?_append_left hi] at e1
    rw [List.getElem?_append_left (by rw [← h.1]; exact hi)] at e2
    exact h.2 i a b e1 e2
  · rw [List.getElem?_append_right (by omega)] at e1
    rw [List.getElem?_append_right (by rw [← h.1]; omega), ← h.1] at e2
    exact h2.2 _ a b e1 e2
theorem All2.one {a : α} {b : β} (h : R a b) : All2 R [a] [b] := by
  refine ⟨rfl, fun i x y e1 e2 => ?_⟩
  cases i with
  | zero =>
    simp at e1 e2
    subst e1
    subst e2
    exact h
  | succ i => simp at e1
theorem All2.snoc {a : α} {b : β} (h : All2 R l m) (r : R a b) : All2 R (l ++ [a]) (m ++ [b]) := h.append (All2.one r)
theorem All2.take (h : All2 R l m) (n : Nat) : All2 R (l.take n) (m.take n) := by
  refine ⟨by simp [h.1], fun i a b e1 e2 => ?_⟩
  rw [List.getElem?_take] at e1 e2
  split at e1
  · rename_i hi
    rw [if_pos hi] at e2
    exact h.2 i a b e1 e2
  · cases e1
end
theorem All2.mapR {α β γ : Type} {R : α → β → Prop} {R' : α → γ → Prop} {l : List α} {m : List β} {g : β → γ} (h : All2 R l m) (f : ∀ a b, R a b → R' a (g b)) : All2 R' l (m.map g) := by
  refine ⟨by simp [h.1], fun i a c h1 h2 => ?_⟩
  rw [List.getElem?_map] at h2
  cases e : m[i]? with
  | none => rw [e] at h2; cases h2
  | some b =>
    rw [e] at h2
    cases h2
    exact f a b (h.2 i a b h1 e)
theorem paired_of {α β : Type} {R : α → β → Prop} : ∀ {l : List α} {m : List β}, All2 R l m → PySem.Paired R l m
  | [], [], _ => .nil
  | [], _ :: _, h => absurd h.1 (by simp)
  | _ :: _, [], h => absurd h.1 (by simp)
  | a :: l, b :: m, h => .cons (h.2 0 a b rfl rfl) (paired_of ⟨by simpa using h.1, fun i x y h1 h2 => h.2 (i + 1) x y (by simpa using h1) (by simpa using h2)⟩)
theorem take_succ {α : Type} {l : List α} {i : Nat} {a : α} (h : l[i]? = some a) : l.take (i + 1) = l.take i ++ [a] := by
  rw [List.take_add_one, h]
  rfl
theorem map_get {α : Type} {l : List α} {f : α → V} {i : Nat} {x : V} (h : (l.map f)[i]? = some x) : ∃ a, l[i]? = some a ∧ x = f a := by
  rw [List.getElem?_map] at h
  cases e : l[i]? with
  | none => rw [e] at h; cases h
  | some a => rw [e] at h; exact ⟨a, rfl, (Option.some.inj h).symm⟩
theorem get_lt {α : Type} {l : List α} {i : Nat} {a : α} (h : l[i]? = some a) : i < l.length := (List.getElem?_eq_some_iff.mp h).1
/-! ### heaps -/
theorem same_new {H : Hp} {p : Addr} {o : HO} (h : H p = none) : Same H (upd H p o) := fun b u e => by rw [upd_ne (ne_of_none e h)]; exact e
theorem Same.upd {H0 H : Hp} {p : Addr} {o : HO} (s : Same H0 H) (h : H0 p = none) : Same H0 (upd H p o) := fun b u e => by rw [upd_ne (ne_of_none e h)]; exact s b u e
theorem Same.new {H0 H : Hp} {p : Addr} {o : HO} (s : Same H0 H) (h : H p = none) : Same H0 (L2.upd H p o) := s.trans (same_new h)
/-- all but what stands at p is kept -/
def Keep (p : Addr) (H H' : Hp) : Prop := ∀ b o, H b = some o → b ≠ p → H' b = some o
theorem Keep.of {p : Addr} {H H' : Hp} (s : Same H H') : Keep p H H' := fun b o e _ => s b o e
theorem Keep.trans {p : Addr} {H H1 H2 : Hp} (a : Keep p H H1) (b : Keep p H1 H2) : Keep p H H2 := fun c o e n => b c o (a c o e n) n
theorem Keep.upd {p : Addr} {H H' : Hp} {o : HO} (a : Keep p H H') : Keep p H (L2.upd H' p o) := fun c u e n => by rw [upd_ne n]; exact a c u e n
/-- a rising or other list of corners, as values -/
def cI (l : List Nat) : List V := l.map fun (k : Nat) => V.int (k : Int)
theorem cI_len (l : List Nat) : (cI l).length = l.length := List.length_map ..
theorem cI_get {l : List Nat} {i : Nat} {x : V} (h : (cI l)[i]? = some x) : ∃ k, l[i]? = some k ∧ x = V.int (k : Int) := map_get h
theorem cI_ints (l : List Nat) : cI l = (l.map fun (k : Nat) => (k : Int)).map V.int := by
  unfold cI
  rw [List.map_map]
  rfl
theorem cI_append (l m : List Nat) : cI (l ++ m) = cI l ++ cI m := List.map_append ..
theorem cI_flat (l : List Nat) : (cI l).all flatV = true := by
  rw [List.all_eq_true]
  intro x hx
  obtain ⟨k, _, rfl⟩ := List.mem_map.mp hx
  rfl
/-! ### ties, webs -/
def TieAt (H : Hp) (a : Addr) (x : Tie) : Prop := H a = some (.tup [.int (x.1 : Int), .int (x.2 : Int)])
def TiesAt (H : Hp) (t : Addr) (ts : List Tie) : Prop := ∃ as : List Addr, H t = some (.tup (as.map V.ref)) ∧ All2 (TieAt H) as ts
def WebAt (H : Hp) (a : Addr) (n : Nat) (ts : List Tie) : Prop := ∃ t, H a = some (.tup [.str "web", .int (n : Int), .ref t]) ∧ TiesAt H t ts
theorem TieAt.same {H H' : Hp} {a : Addr} {x : Tie} (h : TieAt H a x) (s : Same H H') : TieAt H' a x := s _ _ h
theorem TiesAt.same {H H' : Hp} {t : Addr} {ts : List Tie} (h : TiesAt H t ts) (s : Same H H') : TiesAt H' t ts := by
  obtain ⟨as, h1, h2⟩ := h
  exact ⟨as, s _ _ h1, h2.mono fun a b _ _ r => r.same s⟩
theorem WebAt.same {H H' : Hp} {a : Addr} {n : Nat} {ts : List Tie} (h : WebAt H a n ts) (s : Same H H') : WebAt H' a n ts := by
  obtain ⟨t, h1, h2⟩ := h
  exact ⟨t, s _ _ h1, h2.same s⟩
/-- the same where only a list at p changes -/
theorem TieAt.keep {p : Addr} {H H' : Hp} {a : Addr} {x : Tie} (h : TieAt H a x) (s : Keep p H H') (hp : ∃ l, H p = some (.lst l)) : TieAt H' a x := by
  obtain ⟨l, hl⟩ := hp
  exact s _ _ h (ne_of h hl (by intro z; cases z))
theorem TiesAt.keep {p : Addr} {H H' : Hp} {t : Addr} {ts : List Tie} (h : TiesAt H t ts) (s : Keep p H H') (hp : ∃ l, H p = some (.lst l)) : TiesAt H' t ts := by
  obtain ⟨as, h1, h2⟩ := h
  refine ⟨as, ?_, h2.mono fun a b _ _ r => r.keep s hp⟩
  obtain ⟨l, hl⟩ := hp
  exact s _ _ h1 (ne_of h1 hl (by intro z; cases z))
theorem WebAt.keep {p : Addr} {H H' : Hp} {a : Addr} {n : Nat} {ts : List Tie} (h : WebAt H a n ts) (s : Keep p H H') (hp : ∃ l, H p = some (.lst l)) : WebAt H' a n ts := by
  obtain ⟨t, h1, h2⟩ := h
  refine ⟨t, ?_, h2.keep s hp⟩
  obtain ⟨l, hl⟩ := hp
  exact s _ _ h1 (ne_of h1 hl (by intro z; cases z))
/-- ties in the sequence of Python -/
def tieLt (x y : Tie) : Prop := x.1 < y.1 ∨ (x.1 = y.1 ∧ x.2 < y.2)
structure WebOk (n : Nat) (ts : List Tie) : Prop where
  lo : 1 ≤ n
  hi : n ≤ 20
  few : ts.length ≤ 60
  tie : ∀ x ∈ ts, x.1 < x.2 ∧ x.2 < n
  rise : ts.Pairwise tieLt
theorem WebOk.adj {n : Nat} {ts : List Tie} (h : WebOk n ts) {x y : Nat} (a : Adj ts x y) : x < n ∧ y < n ∧ x ≠ y := by
  rcases a with a | a
  · have := h.tie _ a
    simp at this
    omega
  · have := h.tie _ a
    simp at this
    omega
/-! ### a zip of two tuples, walked -/
theorem walk_zipT {K : PySem.W.Frag} {a b : Addr} {xs ys : List V} {n : Nat} (hn : n = min xs.length ys.length) : Walk (RZ.ItzT K a b) n (fun H => SqT K H a xs ∧ SqT K H b ys) (YPair (fun i => xs[i]?) (fun i => ys[i]?)) := by
  subst hn
  refine ⟨fun i H hi q => ?_, fun H q => ⟨xs, ys, q.1, q.2, by omega⟩, fun i H v H' _ q y => ?_⟩
  · exact ⟨xs, ys, xs[i]'(by omega), ys[i]'(by omega), q.1, q.2, List.getElem?_eq_getElem _, List.getElem?_eq_getElem _⟩
  · obtain ⟨T, x, z, h1, h2, h3, h4, h5⟩ := y
    exact ⟨T, x, z, h1, h2, h3, h4 xs q.1, h5 ys q.2⟩
theorem sl1 : (1 : Nat) ≤ sizeLine := by decide
theorem small {n : Nat} (h : n ≤ 1000) : n ≤ sizeLine := Nat.le_trans h (by decide)
end Wp
namespace Wp
open PySem L2
section
variable {P : Program} {w : World} {K : PySem.W.Frag} {mg : Str → Option Value} {base : Heap}
/-! ### is_count -/
def spIsCount : Sp := fun vs H Q _ => ∃ n : Int, vs = [.int n] ∧ 0 ≤ n ∧ Q (.bl true) H
theorem sc_isCount : FnScope ["value"] ["value"] (defScope sIsCount) := ⟨rfl, rfl, rfl, by decide +kernel, rfl, by decide +kernel, by decide +kernel⟩
theorem ok_isCount {f : Addr} {fd : FuncData} (F : Fun K "is_count" "is_count" sIsCount f fd) (c1 : Cal P w K mg base 1 "is_integer" spIsInt) : FnOk P w K mg base CX0 2 f fd ["value"] spIsCount := by
  refine F.ok sc_isCount (fun vs H Q E h => ?_) (fun cdv A outer s H vs Q E hr h => ?_)
  · obtain ⟨n, rfl, _⟩ := h
    rfl
  · obtain ⟨n, rfl, hn, k⟩ := h
    refine ⟨_, pss_one (ps_ret (pe_and (pe_cal c1 hr (by decide) (by rfl) (pa_cons (pv 0) pa_nil)) (pe_one (pe_cmp (pc_ge (pv 0) pe_int) rfl)))), ?_⟩
    refine ⟨_, rfl, n, rfl, true, rfl, iteT ?_⟩
    refine ⟨_, rfl, _, _, rfl, rfl, ?_⟩
    show Q (.bl (decide ((0 : Int) ≤ n))) H
    rw [decide_eq_true hn]
    exact k
/-! ### is_tie -/
def spIsTie : Sp := fun vs H Q _ => ∃ (n : Nat) (a : Addr) (x : Tie), vs = [.int (n : Int), .ref a] ∧ TieAt H a x ∧ x.1 < x.2 ∧ x.2 < n ∧ ∀ H', Same H H' → Q (.bl true) H'
theorem sc_isTie : FnScope ["many", "value", "one"] ["many", "value"] (defScope sIsTie) := ⟨rfl, rfl, rfl, by decide +kernel, rfl, by decide +kernel, by decide +kernel⟩
theorem ok_isTie {f : Addr} {fd : FuncData} (F : Fun K "is_tie" "is_tie" sIsTie f fd) (T : Txt mg) (c1 : Cal P w K mg base 2 "is_count" spIsCount) : FnOk P w K mg base CX0 3 f fd ["many", "value"] spIsTie := by
  refine F.ok sc_isTie (fun vs H Q E h => ?_) (fun cdv A outer s H vs Q E hr h => ?_)
  · obtain ⟨n, a, x, rfl, _⟩ := h
    rfl
  · obtain ⟨n, a, x, rfl, ha, h1, h2, k⟩ := h
    refine ⟨_, pss_cons (ps_if (PW.pt (pw_or (pt_not (pt_val (pe_callB call_isi (by rfl) T.isinst (by decide +kernel) (pa_cons (pv 1) (pa_cons (pe_bltn (by rfl) T.tuple (by decide +kernel) (v := .ty "tuple") rfl) pa_nil)))))
        (pw_or (pt_cmpR op_ne (pe_callB call_len_seq (by rfl) T.len PySem.boot_len (pa_cons (pv 1) pa_nil)) pe_int (nomark _))
        (pw_or1 (pt_not (pt_val (pe_callB (cr_all rfl) (by rfl) T.all (by decide +kernel) (pa_cons
          (pe_lc (own := [("one", 2)]) (g := gName 2) (tt := tYes) rfl sc_isTie.nd (pi_tup (pv 1)) (blkOk_by (own := [("one", 2)]) (N := ["many", "value", "one"]) (sc := defScope sIsTie) (by decide +kernel))
            (fun _ _ _ _ _ => pg_name (i := 2) sc_isTie.nd rfl (Or.inl rfl)) (fun _ _ _ _ _ => pts_nil) (fun _ _ _ _ _ => pe_cal c1 hr (by decide) (by rfl) (pa_cons (pv 2) pa_nil)))
          pa_nil)))))))) (pss_one (ps_ret pe_bl)) pss_nil)
      (pss_one (ps_ret (pe_chain op_lt op_lt (pe_ix ix_tup (pv 1) pe_int (fun _ _ => rfl)) (pe_ix ix_tup (pv 1) pe_int (fun _ _ => rfl)) (pv 0)))), ?_⟩
    refine ⟨_, rfl, .ref a, .ty "tuple", _, _, true, rfl, .ty _, .base (.tup ha), kit_ty (by decide +kernel), true, rfl, iteF ?_⟩
    refine ⟨_, rfl, a, _, rfl, .inr (SqT.of ha), rfl, _, rfl, iteF ?_⟩
    refine ⟨_, rfl, a, rfl, ⟨_, SqT.of ha⟩, fun D hD => ?_⟩
    refine lc_it (walk_tup (K := K) (a := a) (xs := [.int (x.1 : Int), .int (x.2 : Int)])) (fun i H1 => Same H H1 ∧ H1 D = some (.lst (List.replicate i (V.bl true))))
      ⟨same_new hD, upd_same⟩ (fun i H1 _ p => SqT.of (p.1 _ _ ha)) ?_ ?_
    · rintro i y H1 H2 hi ⟨s1, d1⟩ ⟨rfl, hy⟩
      have hy2 : ∃ z : Int, 0 ≤ z ∧ y = .int z := by
        match i, hy with
        | 0, hy => exact ⟨(x.1 : Int), Int.natCast_nonneg _, (Option.some.inj hy).symm⟩
        | 1, hy => exact ⟨(x.2 : Int), Int.natCast_nonneg _, (Option.some.inj hy).symm⟩
        | i + 2, hy => simp at hy
      obtain ⟨z, hz, rfl⟩ := hy2
      refine ⟨rfl, _, rfl, z, rfl, hz, _, d1, by rw [List.length_replicate]; exact Nat.lt_of_lt_of_le hi (show (2 : Nat) ≤ sizeLine by decide), Same.upd s1 hD, ?_⟩
      rw [upd_same, List.replicate_succ']
    · rintro H1 ⟨s1, d1⟩
      refine ⟨D, [true, true], rfl, SqL.of d1, true, rfl, iteF ?_⟩
      have ha1 := s1 _ _ ha
      refine ⟨_, rfl, a, _, 0, .int (x.1 : Int), rfl, rfl, SqT.of ha1, rfl, _, rfl, a, _, 1, .int (x.2 : Int), rfl, rfl, SqT.of ha1, rfl, _, _, rfl, rfl, decide ((x.1 : Int) < (x.2 : Int)), rfl, ?_⟩
      rw [decide_eq_true (show (x.1 : Int) < (x.2 : Int) by omega)]
      refine iteT ⟨_, rfl, _, _, rfl, rfl, ?_⟩
      show Q (.bl (decide ((x.2 : Int) < (n : Int)))) H1
      rw [decide_eq_true (show (x.2 : Int) < (n : Int) by omega)]
      exact k H1 s1
/-! ### is_many -/
def spIsMany : Sp := fun vs H Q _ => ∃ n : Nat, vs = [.int (n : Int)] ∧ 1 ≤ n ∧ n ≤ 20 ∧ Q (.bl true) H
theorem sc_isMany : FnScope ["value"] ["value"] (defScope sIsMany) := ⟨rfl, rfl, rfl, by decide +kernel, rfl, by decide +kernel, by decide +kernel⟩
theorem ok_isMany {f : Addr} {fd : FuncData} (F : Fun K "is_many" "is_many" sIsMany f fd) (T : Txt mg) (c1 : Cal P w K mg base 2 "is_count" spIsCount) : FnOk P w K mg base CX0 3 f fd ["value"] spIsMany := by
  refine F.ok sc_isMany (fun vs H Q E h => ?_) (fun cdv A outer s H vs Q E hr h => ?_)
  · obtain ⟨n, rfl, _⟩ := h
    rfl
  · obtain ⟨n, rfl, h1, h2, k⟩ := h
    obtain ⟨tk, hmc⟩ := T.cMC
    refine ⟨_, pss_one (ps_ret (pe_and (pe_cal c1 hr (by decide) (by rfl) (pa_cons (pv 0) pa_nil)) (pe_one (pe_chain op_le op_le pe_int (pv 0) (pe_glob (v := .int 20) rfl hmc ⟨_, rfl⟩))))), ?_⟩
    refine ⟨_, rfl, (n : Int), rfl, Int.natCast_nonneg _, true, rfl, iteT ?_⟩
    refine ⟨_, rfl, _, _, rfl, rfl, decide ((1 : Int) ≤ (n : Int)), rfl, ?_⟩
    rw [decide_eq_true (show (1 : Int) ≤ (n : Int) by omega)]
    refine iteT ⟨_, _, rfl, rfl, ?_⟩
    show Q (.bl (decide ((n : Int) ≤ 20))) H
    rw [decide_eq_true (show (n : Int) ≤ 20 by omega)]
    exact k
end
end Wp
namespace Wp
open PySem L2
/-! ### t[1:] of a tuple -/
theorem sl_tail {K : PySem.W.Frag} {H : Hp} {a : Addr} {xs : List V} {Q : VK} (h : SqT K H a xs) (k : ∀ b H', Same H H' → SqT K H' b xs.tail → Q (.ref b) H') : rSlA K (.ref a) (some 1) none H Q := by
  have e1 : HT.sIx xs.length 0 (some 1) = min 1 xs.length := HT.sIx_nat xs.length 0 1
  have e2 : HT.sIx xs.length xs.length none = xs.length := rfl
  refine ⟨a, xs, rfl, h, fun q => ?_, fun _ p hp => k p _ (same_new hp) (SqT.of ?_)⟩
  · rw [e1, e2] at q
    have : xs = [] := List.eq_nil_of_length_eq_zero (by omega)
    subst this
    exact k a H (Same.refl H) h
  · rw [upd_same]
    unfold cutV
    rw [e1, e2]
    cases xs with
    | nil => rfl
    | cons x r =>
      have : min 1 (x :: r).length = 1 := by simp
      rw [this]
      simp
theorem sl_tailR {K : PySem.W.Frag} {σ : St} {H : Hp} {a : Addr} {xs : List V} {Q : VK} (h : SqT K H a xs) (k : ∀ b H', Same H H' → SqT K H' b xs.tail → Q (.ref b) H') : tNoPart σ H fun u H3 => rSlA K (.ref a) (some 1) u H3 Q := sl_tail h k
theorem tail_get {α : Type} {l : List α} {i : Nat} : l.tail[i]? = l[i + 1]? := by
  cases l <;> simp
/-- neighbours of a rising list -/
theorem pw_next {α : Type} {R : α → α → Prop} {l : List α} (h : l.Pairwise R) {i : Nat} {a b : α} (ha : l[i]? = some a) (hb : l[i + 1]? = some b) : R a b := by
  obtain ⟨h1, rfl⟩ := List.getElem?_eq_some_iff.mp ha
  obtain ⟨h2, rfl⟩ := List.getElem?_eq_some_iff.mp hb
  exact List.pairwise_iff_getElem.mp h i (i + 1) h1 h2 (Nat.lt_succ_self i)
theorem lex_tie {x y : Tie} (h : tieLt x y) : HT.lexLt [(x.1 : Int), (x.2 : Int)] [(y.1 : Int), (y.2 : Int)] = true := by
  unfold HT.lexLt HT.lexLt
  rcases h with h | ⟨h1, h2⟩
  · rw [if_neg (by omega)]
    exact decide_eq_true (by omega)
  · rw [if_pos (by omega), if_neg (by omega)]
    exact decide_eq_true (by omega)
section
variable {P : Program} {w : World} {K : PySem.W.Frag} {mg : Str → Option Value} {base : Heap}
/-! ### is_web_value -/
def spIsWeb : Sp := fun vs H Q _ => ∃ (a : Addr) (n : Nat) (ts : List Tie), vs = [.ref a] ∧ WebAt H a n ts ∧ WebOk n ts ∧ ∀ H', Same H H' → Q (.bl true) H'
theorem sc_isWeb : FnScope ["value", "many", "ties", "tie", "one", "other"] ["value"] (defScope sIsWeb) := ⟨rfl, rfl, rfl, by decide +kernel, rfl, by decide +kernel, by decide +kernel⟩
theorem ok_isWeb {f : Addr} {fd : FuncData} (F : Fun K "is_web_value" "is_web_value" sIsWeb f fd) (T : Txt mg) (c1 : Cal P w K mg base 3 "is_tie" spIsTie) (c2 : Cal P w K mg base 3 "is_many" spIsMany) : FnOk P w K mg base CX0 4 f fd ["value"] spIsWeb := by
  refine F.ok sc_isWeb (fun vs H Q E h => ?_) (fun cdv A outer s H vs Q E hr h => ?_)
  · obtain ⟨a, n, ts, rfl, _⟩ := h
    rfl
  · obtain ⟨a, n, ts, rfl, ⟨t, ha, as, ht, hts⟩, W, k⟩ := h
    obtain ⟨t1, hmt⟩ := T.cMT
    obtain ⟨t2, hweb⟩ := T.cWEB
    refine ⟨_, pss_cons (ps_if (PW.pt (pw_or (pt_not (pt_val (pe_callB call_isi (by rfl) T.isinst (by decide +kernel) (pa_cons (pv 0) (pa_cons (pe_bltn (by rfl) T.tuple (by decide +kernel) (v := .ty "tuple") rfl) pa_nil)))))
        (pw_or (pt_cmpR op_ne (pe_callB call_len_seq (by rfl) T.len PySem.boot_len (pa_cons (pv 0) pa_nil)) pe_int (nomark _))
        (pw_or (pt_not (pt_val (pe_callB call_isi (by rfl) T.isinst (by decide +kernel) (pa_cons (pe_ix ix_tup (pv 0) pe_int (fun _ _ => rfl)) (pa_cons (pe_bltn (by rfl) T.str (by decide +kernel) (v := .ty "str") rfl) pa_nil)))))
        (pw_or1 (pt_cmpR op_ne (pe_ix ix_tup (pv 0) pe_int (fun _ _ => rfl)) (pe_glob (v := .str "web") rfl hweb ⟨_, rfl⟩) (nomark _))))))) (pss_one (ps_ret pe_bl)) pss_nil)
      (pss_cons (ps_asg (pe_tup (pa_cons (pe_ix ix_tup (pv 0) pe_int (fun _ _ => rfl)) (pa_cons (pe_ix ix_tup (pv 0) pe_int (fun _ _ => rfl)) pa_nil)))
        (pg_tup (by rfl) (pgs_cons (pg_name (i := 1) sc_isWeb.nd rfl (Or.inr rfl)) (pgs_cons (pg_name (i := 2) sc_isWeb.nd rfl (Or.inl rfl)) pgs_nil))))
      (pss_cons (ps_if (PW.pt (pw_or (pt_not (pt_val (pe_cal c2 hr (by decide) (by rfl) (pa_cons (pv 1) pa_nil))))
        (pw_or (pt_not (pt_val (pe_callB call_isi (by rfl) T.isinst (by decide +kernel) (pa_cons (pv 2) (pa_cons (pe_bltn (by rfl) T.tuple (by decide +kernel) (v := .ty "tuple") rfl) pa_nil)))))
        (pw_or1 (pt_cmpR op_gt (pe_callB call_len_seq (by rfl) T.len PySem.boot_len (pa_cons (pv 2) pa_nil)) (pe_glob (v := .int 60) rfl hmt ⟨_, rfl⟩) (nomark _)))))) (pss_one (ps_ret pe_bl)) pss_nil)
      (pss_cons (ps_if (pt_not (pt_val (pe_callB (cr_all rfl) (by rfl) T.all (by decide +kernel) (pa_cons
          (pe_lc (own := [("tie", 3)]) (g := gName 3) (tt := tYes) rfl sc_isWeb.nd (pi_tup (pv 2)) (blkOk_by (own := [("tie", 3)]) (N := ["value", "many", "ties", "tie", "one", "other"]) (sc := defScope sIsWeb) (by decide +kernel))
            (fun _ _ _ _ _ => pg_name (i := 3) sc_isWeb.nd rfl (Or.inl rfl)) (fun _ _ _ _ _ => pts_nil) (fun _ _ _ _ _ => pe_cal c1 hr (by decide) (by rfl) (pa_cons (pv 1) (pa_cons (pv 3) pa_nil)))) pa_nil)))) (pss_one (ps_ret pe_bl)) pss_nil)
      (pss_one (ps_ret (pe_callB (cr_all rfl) (by rfl) T.all (by decide +kernel) (pa_cons
          (pe_lc (own := [("one", 4), ("other", 5)]) (g := gTup K 2 (gCons (gName 4) (gCons (gName 5) gNil))) (tt := tYes) rfl sc_isWeb.nd
            (RZ.pi_zipA (by rfl) T.zip (pa_cons (pv 2) (pa_cons (pe_slice sl_tupA (pv 2) (po_some pe_int) po_none) pa_nil)))
            (blkOk_by (own := [("one", 4), ("other", 5)]) (N := ["value", "many", "ties", "tie", "one", "other"]) (sc := defScope sIsWeb) (by decide +kernel))
            (fun _ _ _ _ _ => pg_tup (by rfl) (pgs_cons (pg_name (i := 4) sc_isWeb.nd rfl (Or.inl rfl)) (pgs_cons (pg_name (i := 5) sc_isWeb.nd rfl (Or.inl rfl)) pgs_nil))) (fun _ _ _ _ _ => pts_nil)
            (fun _ _ _ _ _ => pe_cmpR (r := rLtT K) (op_ltT hr.units0) (pv 4) (pv 5) (nomark _))) pa_nil))))))), ?_⟩
    -- the form
    refine ⟨_, rfl, .ref a, .ty "tuple", _, _, true, rfl, .ty _, .base (.tup ha), kit_ty (by decide +kernel), true, rfl, iteF ?_⟩
    refine ⟨_, rfl, a, _, rfl, .inr (SqT.of ha), rfl, _, rfl, iteF ?_⟩
    refine ⟨_, rfl, a, _, 0, .str "web", rfl, rfl, SqT.of ha, rfl, .str "web", .ty "str", _, _, true, rfl, .ty _, .base (.str _), kit_ty (by decide +kernel), true, rfl, iteF ?_⟩
    refine ⟨_, rfl, a, _, 0, .str "web", rfl, rfl, SqT.of ha, rfl, rfl, _, rfl, ?_⟩
    refine iteNS rfl ?_
    -- many, ties
    refine ⟨_, rfl, a, _, 1, .int (n : Int), rfl, rfl, SqT.of ha, rfl, _, rfl, a, _, 2, .ref t, rfl, rfl, SqT.of ha, rfl, (show (2 : Nat) ≤ sizeLine by decide), fun p hp => ?_⟩
    refine ⟨p, _, rfl, SqT.of upd_same, rfl, _, _, rfl, _, _, rfl, rfl, ?_⟩
    have s1 : Same H (upd H p (.tup [.int (n : Int), .ref t])) := same_new hp
    generalize (upd H p (.tup [.int (n : Int), .ref t])) = H1 at s1 ⊢
    have ht1 := s1 _ _ ht
    refine ⟨_, rfl, n, rfl, W.lo, W.hi, true, rfl, iteF ?_⟩
    refine ⟨_, rfl, .ref t, .ty "tuple", _, _, true, rfl, .ty _, .base (.tup ht1), kit_ty (by decide +kernel), true, rfl, iteF ?_⟩
    refine ⟨_, rfl, t, _, rfl, .inr (SqT.of ht1), _, _, rfl, rfl, _, rfl, ?_⟩
    have hlen : (as.map V.ref).length = ts.length := by rw [List.length_map]; exact hts.1
    rw [decide_eq_false (show ¬ (60 : Int) < ((as.map V.ref).length : Int) by have := W.few; omega)]
    refine iteF ?_
    -- all ties
    refine ⟨_, rfl, t, rfl, ⟨_, SqT.of ht1⟩, fun D hD => ?_⟩
    refine lc_it (walk_tup (K := K) (a := t) (xs := as.map V.ref)) (fun i H2 => Same H1 H2 ∧ H2 D = some (.lst (List.replicate i (V.bl true))))
      ⟨same_new hD, upd_same⟩ (fun i H2 _ p => SqT.of (p.1 _ _ ht1)) ?_ ?_
    · rintro i y H2 H3 hi ⟨s2, d2⟩ ⟨rfl, hy⟩
      obtain ⟨b, hb, rfl⟩ := map_get hy
      obtain ⟨x, hx, hbx⟩ := hts.getL hb
      have hxm := W.tie x (List.mem_of_getElem? hx)
      refine ⟨rfl, _, rfl, _, rfl, n, b, x, rfl, s2 _ _ (s1 _ _ hbx), hxm.1, hxm.2, fun H4 s4 => ?_⟩
      refine ⟨_, s4 _ _ d2, by rw [List.length_replicate]; exact Nat.lt_of_lt_of_le hi (small (by have := W.few; omega)), Same.upd (s2.trans s4) hD, ?_⟩
      rw [upd_same, List.replicate_succ']
    · rintro H2 ⟨s2, d2⟩
      have hall : (List.replicate (as.map V.ref).length true).all id = true := by simp
      refine ⟨D, List.replicate (as.map V.ref).length true, rfl, SqL.of (by rw [d2, List.map_replicate]), ?_⟩
      rw [hall]
      refine ⟨true, rfl, iteF ?_⟩
      -- rising
      have ht2 := s2 _ _ ht1
      refine ⟨_, rfl, _, rfl, 1, rfl, ?_⟩
      refine sl_tailR (SqT.of ht2) fun b H3 s3 hb => ?_
      have ht3 := s3 _ _ ht2
      refine ⟨t, b, _, _, rfl, .inr ⟨SqT.of ht3, hb, fun D2 hD2 => ?_⟩⟩
      have sB : ∀ {H' : Hp}, Same H3 H' → SqT K H' b (as.map V.ref).tail := fun {H'} q => by
        rcases hb with (h | ⟨o, h⟩) | h
        · exact .inl (.inl (q _ _ h))
        · exact .inl (.inr ⟨o, q _ _ h⟩)
        · exact .inr h
      refine lc_it (walk_zipT (K := K) (a := t) (b := b) (xs := as.map V.ref) (ys := (as.map V.ref).tail) rfl) (fun i H4 => Same H3 H4 ∧ H4 D2 = some (.lst (List.replicate i (V.bl true))))
        ⟨same_new hD2, upd_same⟩ (fun i H4 _ p => ⟨SqT.of (p.1 _ _ ht3), sB p.1⟩) ?_ ?_
      · rintro i y H4 H5 hi ⟨s4, d4⟩ ⟨T1, x, z, rfl, hT, rfl, hx, hz⟩
        obtain ⟨b1, hb1, rfl⟩ := map_get hx
        obtain ⟨b2, hb2, rfl⟩ := map_get (tail_get.symm.trans hz)
        obtain ⟨x1, hx1, r1⟩ := hts.getL hb1
        obtain ⟨x2, hx2, r2⟩ := hts.getL hb2
        have hlt := lex_tie (pw_next W.rise hx1 hx2)
        have s5 : Same H (upd H4 T1 (.tup [.ref b1, .ref b2])) := Same.new (((s1.trans s2).trans s3).trans s4) hT
        refine ⟨T1, _, rfl, SqT.of upd_same, rfl, _, _, rfl, _, _, rfl, rfl, rfl, _, rfl, _, rfl, b1, b2, [(x1.1 : Int), (x1.2 : Int)], [(x2.1 : Int), (x2.2 : Int)], rfl, rfl, SqT.of (s5 _ _ r1), SqT.of (s5 _ _ r2), ?_⟩
        rw [hlt]
        have nd : D2 ≠ T1 := ne_of_none d4 hT
        refine ⟨_, by rw [upd_ne nd]; exact d4, ?_, Same.upd (Same.new s4 hT) hD2, ?_⟩
        · rw [List.length_replicate]
          refine Nat.lt_of_lt_of_le hi (Nat.le_trans (Nat.min_le_left _ _) (small ?_))
          have := W.few
          omega
        · rw [upd_same, List.replicate_succ']
      · rintro H4 ⟨s4, d4⟩
        generalize min (as.map V.ref).length (as.map V.ref).tail.length = m at d4
        refine ⟨D2, List.replicate m true, rfl, SqL.of (by rw [d4, List.map_replicate]), ?_⟩
        have hall : (List.replicate m true).all id = true := by simp
        rw [hall]
        exact k H4 (((s1.trans s2).trans s3).trans s4)
end
end Wp
namespace Wp
open PySem L2
/-! ### the neighbours as they are found -/
def nbr (ts : List Tie) (k : Nat) : List Nat := ts.flatMap fun x => if x.1 = k then [x.2] else if x.2 = k then [x.1] else []
theorem nbr_snoc (ts : List Tie) (x : Tie) (k : Nat) : nbr (ts ++ [x]) k = nbr ts k ++ (if x.1 = k then [x.2] else if x.2 = k then [x.1] else []) := by
  unfold nbr
  simp
theorem nbr_len (ts : List Tie) (k : Nat) : (nbr ts k).length ≤ ts.length := by
  unfold nbr
  induction ts with
  | nil => simp
  | cons x r ih =>
    simp only [List.flatMap_cons, List.length_append, List.length_cons]
    have : (if x.1 = k then [x.2] else if x.2 = k then [x.1] else []).length ≤ 1 := by
      split
      · simp
      · split <;> simp
    omega
theorem nbr_mem {ts : List Tie} (h : ∀ x ∈ ts, x.1 ≠ x.2) (k y : Nat) : y ∈ nbr ts k ↔ Adj ts k y := by
  unfold nbr Adj
  rw [List.mem_flatMap]
  constructor
  · rintro ⟨x, hx, hy⟩
    split at hy
    · rename_i e
      simp at hy
      left
      rw [hy, ← e]
      exact hx
    · split at hy
      · rename_i e
        simp at hy
        right
        rw [hy, ← e]
        exact hx
      · cases hy
  · rintro (hx | hx)
    · exact ⟨_, hx, by simp⟩
    · refine ⟨_, hx, ?_⟩
      have := h _ hx
      simp at this
      simp [this]
/-- a sorted row of corners -/
theorem perm_nat {l : List Nat} {ns : List Int} (h : ns.Perm (l.map fun (k : Nat) => (k : Int))) : ∃ r : List Nat, r.Perm l ∧ ns = r.map fun (k : Nat) => (k : Int) := by
  refine ⟨ns.map Int.toNat, ?_, ?_⟩
  · have := h.map Int.toNat
    rw [List.map_map] at this
    have e : (Int.toNat ∘ fun (k : Nat) => (k : Int)) = id := by
      funext k
      simp
    rw [e, List.map_id] at this
    exact this
  · rw [List.map_map]
    have : ∀ x ∈ ns, ((fun (k : Nat) => (k : Int)) ∘ Int.toNat) x = id x := fun x hx => by
      obtain ⟨k, _, rfl⟩ := List.mem_map.mp (h.mem_iff.mp hx)
      simp
    rw [List.map_congr_left this, List.map_id]
theorem pairwise_nat {r : List Nat} (h : (r.map fun (k : Nat) => (k : Int)).Pairwise (· ≤ ·)) : r.Pairwise (· ≤ ·) := by
  rw [List.pairwise_map] at h
  exact h.imp fun h => by omega
/-- the neighbours' lists -/
def NearAt (H : Hp) (p : Addr) (rows : List (List Nat)) : Prop := ∃ bs : List Addr, H p = some (.lst (bs.map V.ref)) ∧ All2 (fun b r => H b = some (.lst (cI r))) bs rows
structure RowsOk (n : Nat) (ts : List Tie) (rows : List (List Nat)) : Prop where
  len : rows.length = n
  few : ∀ (k : Nat) r, rows[k]? = some r → r.length ≤ 60
  mem : ∀ (k : Nat) r, rows[k]? = some r → ∀ y, y ∈ r ↔ Adj ts k y
theorem NearAt.same {H H' : Hp} {p : Addr} {rows : List (List Nat)} (h : NearAt H p rows) (s : Same H H') : NearAt H' p rows := by
  obtain ⟨bs, h1, h2⟩ := h
  exact ⟨bs, s _ _ h1, h2.mono fun a b _ _ r => s _ _ r⟩
section
variable {P : Program} {w : World} {K : PySem.W.Frag} {mg : Str → Option Value} {base : Heap}
/-! ### want_web, is_corner, want_corner -/
def spWantWeb : Sp := fun vs H Q _ => ∃ (a : Addr) (n : Nat) (ts : List Tie), vs = [.ref a] ∧ WebAt H a n ts ∧ WebOk n ts ∧ ∀ H', Same H H' → Q (.ref a) H'
theorem sc_wantWeb : FnScope ["value"] ["value"] (defScope sWantWeb) := ⟨rfl, rfl, rfl, by decide +kernel, rfl, by decide +kernel, by decide +kernel⟩
theorem ok_wantWeb {f : Addr} {fd : FuncData} (F : Fun K "want_web" "want_web" sWantWeb f fd) (c1 : Cal P w K mg base 4 "is_web_value" spIsWeb) : FnOk P w K mg base CX0 5 f fd ["value"] spWantWeb := by
  refine F.ok sc_wantWeb (fun vs H Q E h => ?_) (fun cdv A outer s H vs Q E hr h => ?_)
  · obtain ⟨a, n, ts, rfl, _⟩ := h
    rfl
  · obtain ⟨a, n, ts, rfl, hw, W, k⟩ := h
    refine ⟨_, pss_cons (ps_if (pt_not (pt_val (pe_cal c1 hr (by decide) (by rfl) (pa_cons (pv 0) pa_nil)))) (pss_one ps_never) pss_nil) (pss_one (ps_ret (pv 0))), ?_⟩
    refine ⟨_, rfl, a, n, ts, rfl, hw, W, fun H1 s1 => ⟨true, rfl, iteF ?_⟩⟩
    exact ⟨_, rfl, k H1 s1⟩
def spIsCorner : Sp := fun vs H Q _ => ∃ (a : Addr) (n k : Nat) (ts : List Tie), vs = [.ref a, .int (k : Int)] ∧ WebAt H a n ts ∧ k < n ∧ Q (.bl true) H
theorem sc_isCorner : FnScope ["web", "value"] ["web", "value"] (defScope sIsCorner) := ⟨rfl, rfl, rfl, by decide +kernel, rfl, by decide +kernel, by decide +kernel⟩
theorem ok_isCorner {f : Addr} {fd : FuncData} (F : Fun K "is_corner" "is_corner" sIsCorner f fd) (c1 : Cal P w K mg base 2 "is_count" spIsCount) : FnOk P w K mg base CX0 3 f fd ["web", "value"] spIsCorner := by
  refine F.ok sc_isCorner (fun vs H Q E h => ?_) (fun cdv A outer s H vs Q E hr h => ?_)
  · obtain ⟨a, n, k, ts, rfl, _⟩ := h
    rfl
  · obtain ⟨a, n, c, ts, rfl, ⟨t, ha, _⟩, hc, k⟩ := h
    refine ⟨_, pss_one (ps_ret (pe_and (pe_cal c1 hr (by decide) (by rfl) (pa_cons (pv 1) pa_nil)) (pe_one (pe_cmp (pc_lt (pv 1) (pe_ix ix_tup (pv 0) pe_int (fun _ _ => rfl))) rfl)))), ?_⟩
    refine ⟨_, rfl, (c : Int), rfl, Int.natCast_nonneg _, true, rfl, iteT ?_⟩
    refine ⟨_, rfl, _, rfl, a, _, 1, .int (n : Int), rfl, rfl, SqT.of ha, rfl, _, _, rfl, rfl, ?_⟩
    show Q (.bl (decide ((c : Int) < (n : Int)))) H
    rw [decide_eq_true (show (c : Int) < (n : Int) by omega)]
    exact k
def spWantCorner : Sp := fun vs H Q _ => ∃ (a : Addr) (n k : Nat) (ts : List Tie), vs = [.ref a, .int (k : Int)] ∧ WebAt H a n ts ∧ k < n ∧ Q .non H
theorem sc_wantCorner : FnScope ["web", "value"] ["web", "value"] (defScope sWantCorner) := ⟨rfl, rfl, rfl, by decide +kernel, rfl, by decide +kernel, by decide +kernel⟩
theorem ok_wantCorner {f : Addr} {fd : FuncData} (F : Fun K "want_corner" "want_corner" sWantCorner f fd) (c1 : Cal P w K mg base 3 "is_corner" spIsCorner) : FnOk P w K mg base CX0 4 f fd ["web", "value"] spWantCorner := by
  refine F.ok sc_wantCorner (fun vs H Q E h => ?_) (fun cdv A outer s H vs Q E hr h => ?_)
  · obtain ⟨a, n, k, ts, rfl, _⟩ := h
    rfl
  · obtain ⟨a, n, c, ts, rfl, hw, hc, k⟩ := h
    refine ⟨_, pss_one (ps_if (pt_not (pt_val (pe_cal c1 hr (by decide) (by rfl) (pa_cons (pv 0) (pa_cons (pv 1) pa_nil))))) (pss_one ps_never) pss_nil), ?_⟩
    exact ⟨_, rfl, _, rfl, a, n, c, ts, rfl, hw, hc, true, rfl, iteF k⟩
/-! ### neighbours_of -/
def spNear : Sp := fun vs H Q _ => ∃ (a : Addr) (n : Nat) (ts : List Tie), vs = [.ref a] ∧ WebAt H a n ts ∧ WebOk n ts ∧ ∀ H' p rows, Same H H' → NearAt H' p rows → RowsOk n ts rows → Q (.ref p) H'
theorem sc_near : FnScope ["web", "found", "one", "other", "corner", "row"] ["web"] (defScope sNear) := ⟨rfl, rfl, rfl, by decide +kernel, rfl, by decide +kernel, by decide +kernel⟩
theorem ok_near {f : Addr} {fd : FuncData} (F : Fun K "neighbours_of" "neighbours_of" sNear f fd) (T : Txt mg) : FnOk P w K mg base CX0 1 f fd ["web"] spNear := by
  refine F.ok sc_near (fun vs H Q E h => ?_) (fun cdv A outer s H vs Q E hr h => ?_)
  · obtain ⟨a, n, ts, rfl, _⟩ := h
    rfl
  · obtain ⟨a, n, ts, rfl, ⟨t, ha, tas, ht, hts⟩, W, k⟩ := h
    refine ⟨_, pss_cons (ps_setLc (i := 1) (own := [("corner", 4)]) (g := gName 4) (tt := tYes) rfl sc_near.nd rfl rfl (sw_true rfl rfl rfl (by decide +kernel))
          (pi_range1 rfl T.range (pa_cons (pe_ix ix_tup (pv 0) pe_int (fun _ _ => rfl)) pa_nil)) (blkOk_by (own := [("corner", 4)]) (N := ["web", "found", "one", "other", "corner", "row"]) (sc := defScope sNear) (by decide +kernel))
          (fun _ _ _ _ _ => pg_name (i := 4) sc_near.nd rfl (Or.inl rfl)) (fun _ _ _ _ _ => pts_nil) (fun _ _ _ _ _ => pe_lst pa_nil))
      (pss_cons (ps_for PassesOwn.never rfl (pi_tup (pe_ix ix_tup (pv 0) pe_int (fun _ _ => rfl)))
          (pg_tup (by rfl) (pgs_cons (pg_name (i := 2) sc_near.nd rfl (Or.inl rfl)) (pgs_cons (pg_name (i := 3) sc_near.nd rfl (Or.inl rfl)) pgs_nil)))
          (pss_cons (ps_expr (pe_bm PySem.F.plainAttrs_list PySem.F.slot_list_append PySem.F.type_list_append mt_append (pe_ix ix_list (pv 1) (pv 2) (fun _ _ => rfl)) (pa_cons (pv 3) pa_nil)))
          (pss_one (ps_expr (pe_bm PySem.F.plainAttrs_list PySem.F.slot_list_append PySem.F.type_list_append mt_append (pe_ix ix_list (pv 1) (pv 3) (fun _ _ => rfl)) (pa_cons (pv 2) pa_nil))))))
      (pss_one (ps_ret (pe_lc (own := [("row", 5)]) (g := gName 5) (tt := tYes) rfl sc_near.nd (pi_list (pv 1)) (blkOk_by (own := [("row", 5)]) (N := ["web", "found", "one", "other", "corner", "row"]) (sc := defScope sNear) (by decide +kernel))
          (fun _ _ _ _ _ => pg_name (i := 5) sc_near.nd rfl (Or.inl rfl)) (fun _ _ _ _ _ => pts_nil) (fun _ _ _ _ _ => pe_callB (r := rSorted K) (id := "sorted") cr_sorted (by rfl) T.sorted (by decide +kernel) (pa_cons (pv 5) pa_nil)))))), ?_⟩
    -- found = [[] for corner in range(web[1])]
    have hn20 := W.hi
    refine ⟨_, rfl, a, _, 1, .int (n : Int), rfl, rfl, SqT.of ha, rfl, (n : Int), rfl, by omega, by omega, fun D hD => ?_⟩
    refine lc_it (walk_range (lo := 0) (n := (n : Int).toNat)) (fun i H1 => Same H H1 ∧ ∃ as : List Addr, H1 D = some (.lst (as.map V.ref)) ∧ as.length = i ∧ as.Nodup ∧ ∀ b ∈ as, H b = none ∧ H1 b = some (.lst []))
      ⟨same_new hD, [], upd_same, rfl, List.nodup_nil, by simp⟩ (fun i H1 _ _ => trivial) ?_ ?_
    · rintro i y Hx H1 hi ⟨s1, as, d1, hl, hnd, hb⟩ ⟨rfl, rfl⟩
      refine ⟨rfl, Nat.zero_le _, fun p hp => ?_⟩
      have npD : D ≠ p := ne_of_none d1 hp
      refine ⟨_, by rw [upd_ne npD]; exact d1, by rw [List.length_map, hl]; exact Nat.lt_of_lt_of_le hi (small (by omega)), Same.upd (Same.new s1 hp) hD, as ++ [p], by rw [upd_same, List.map_append]; rfl, by simp [hl], ?_, ?_⟩
      · refine List.nodup_append.mpr ⟨hnd, by simp, fun x hx y hy e => ?_⟩
        simp at hy
        exact ne_of_none (hb x hx).2 hp (e.trans hy)
      · intro b hm
        rcases List.mem_append.mp hm with hm | hm
        · obtain ⟨h1, h2⟩ := hb b hm
          have nD : b ≠ D := by
            rintro rfl
            rw [d1] at h2
            have h3 := Option.some.inj h2
            have h4 : as.map V.ref = [] := by
              injection h3
            have h5 : as = [] := List.map_eq_nil_iff.mp h4
            rw [h5] at hm
            cases hm
          exact ⟨h1, by rw [upd_ne nD, upd_ne (ne_of_none h2 hp)]; exact h2⟩
        · simp at hm
          subst hm
          exact ⟨s1.free hp, by rw [upd_ne npD.symm, upd_same]⟩
    · rintro H1 ⟨s1, as, d1, hl, hnd, hb⟩
      have hl2 : as.length = n := by rw [hl]; exact Int.toNat_natCast n
      have ht1 := s1 _ _ ht
      have haD : ∀ b ∈ as, b ≠ D := fun b hm e => by
        have h2 := (hb b hm).2
        rw [e, d1] at h2
        have h4 : as.map V.ref = [] := by
          have h3 := Option.some.inj h2
          injection h3
        rw [List.map_eq_nil_iff.mp h4] at hm
        cases hm
      -- the loop over the ties
      refine ⟨_, rfl, a, _, 2, .ref t, rfl, rfl, SqT.of (s1 _ _ ha), rfl, t, rfl, ⟨_, SqT.of ht1⟩, ?_⟩
      refine for_it (walk_tup (K := K) (a := t) (xs := tas.map V.ref)) (fun i σ H2 => Same H H2 ∧ H2 D = some (.lst (as.map V.ref)) ∧ (∀ (j : Nat) b, as[j]? = some b → H2 b = some (.lst (cI (nbr (ts.take i) j)))) ∧ ∃ v2 v3, σ = [some (.ref a), some (.ref D), v2, v3, none, none])
        ⟨s1, d1, fun j b hj => by rw [(hb b (List.mem_of_getElem? hj)).2]; rfl, none, none, rfl⟩ (fun i σ H2 _ p => SqT.of (p.1 _ _ ht)) ?_ ?_
      · rintro i y σ Hx H2 hi ⟨s2, d2, hrow, v2, v3, rfl⟩ ⟨rfl, hy⟩
        obtain ⟨b, hb1, rfl⟩ := map_get hy
        obtain ⟨x, hx, hbx⟩ := hts.getL hb1
        have hxm := W.tie x (List.mem_of_getElem? hx)
        obtain ⟨b1, e1⟩ : ∃ b1, as[x.1]? = some b1 := ⟨as[x.1]'(by omega), List.getElem?_eq_getElem _⟩
        obtain ⟨b2, e2⟩ : ∃ b2, as[x.2]? = some b2 := ⟨as[x.2]'(by omega), List.getElem?_eq_getElem _⟩
        have n12 : b1 ≠ b2 := fun e => by
          have := nd_ix hnd e1 (e ▸ e2)
          omega
        have m1 := List.mem_of_getElem? e1
        have m2 := List.mem_of_getElem? e2
        have r1 := hrow _ _ e1
        have r2 := hrow _ _ e2
        have hil : i ≤ 60 := by have := get_lt hx; have := W.few; omega
        have len1 : (cI (nbr (ts.take i) x.1)).length < sizeLine := by
          have := nbr_len (ts.take i) x.1
          rw [List.length_take] at this
          rw [cI_len]
          exact small1000 (by omega)
        have len2 : (cI (nbr (ts.take i) x.2)).length < sizeLine := by
          have := nbr_len (ts.take i) x.2
          rw [List.length_take] at this
          rw [cI_len]
          exact small1000 (by omega)
        refine ⟨b, _, rfl, SqT.of (s2 _ _ hbx), rfl, _, _, rfl, _, _, rfl, rfl, ?_⟩
        refine ⟨_, rfl, _, rfl, D, _, (x.1 : Int), .ref b1, rfl, rfl, SqL.of d2, atI_nat (by rw [List.getElem?_map, e1]; rfl), .inl ⟨rfl, _, SqL.of r1⟩, _, rfl, b1, _, _, rfl, rfl, r1, len1, ?_⟩
        have d3 : (upd H2 b1 (.lst (cI (nbr (ts.take i) x.1) ++ [.int (x.2 : Int)]))) D = some (.lst (as.map V.ref)) := by
          rw [upd_ne (haD b1 m1).symm]
          exact d2
        refine ⟨_, rfl, _, rfl, D, _, (x.2 : Int), .ref b2, rfl, rfl, SqL.of d3, atI_nat (by rw [List.getElem?_map, e2]; rfl), .inl ⟨rfl, _, SqL.of (by rw [upd_ne n12.symm]; exact r2)⟩, _, rfl, b2, _, _, rfl, rfl, by rw [upd_ne n12.symm]; exact r2, len2, ?_⟩
        refine ⟨Same.upd (Same.upd s2 (hb b1 m1).1) (hb b2 m2).1, by rw [upd_ne (haD b2 m2).symm]; exact d3, fun j c hj => ?_, _, _, rfl⟩
        rw [take_succ hx, nbr_snoc]
        by_cases j2 : j = x.2
        · subst j2
          rw [e2] at hj
          cases hj
          rw [upd_same, if_neg (by omega), if_pos rfl, cI_append]
          rfl
        · have nc2 : c ≠ b2 := fun e => j2 (nd_ix hnd hj (e ▸ e2))
          rw [upd_ne nc2]
          by_cases j1 : j = x.1
          · subst j1
            rw [e1] at hj
            cases hj
            rw [upd_same, if_pos rfl, cI_append]
            rfl
          · have nc1 : c ≠ b1 := fun e => j1 (nd_ix hnd hj (e ▸ e1))
            rw [upd_ne nc1, if_neg (fun e => j1 e.symm), if_neg (fun e => j2 e.symm), List.append_nil]
            exact hrow _ _ hj
      · rintro σ H2 ⟨s2, d2, hrow, v2, v3, rfl⟩
        have hall : ts.take (tas.map V.ref).length = ts := by
          rw [List.length_map, hts.1, List.take_length]
        rw [hall] at hrow
        -- [sorted(row) for row in found]
        refine ⟨_, rfl, D, rfl, ⟨_, SqL.of d2⟩, fun D2 hD2 => ?_⟩
        refine lc_it (walk_list (K := K) (a := D) (xs := as.map V.ref)) (fun i H3 => Same H2 H3 ∧ ∃ (bs : List Addr) (rows : List (List Nat)), H3 D2 = some (.lst (bs.map V.ref)) ∧ rows.length = i ∧ All2 (fun b r => H3 b = some (.lst (cI r))) bs rows ∧ (∀ b ∈ bs, b ≠ D2) ∧ ∀ (j : Nat) r, rows[j]? = some r → r.Perm (nbr ts j))
          ⟨same_new hD2, [], [], upd_same, rfl, All2.nil, by simp, by simp⟩ (fun i H3 _ p => SqL.of (p.1 _ _ d2)) ?_ ?_
        · rintro i y Hx H3 hi ⟨s3, bs, rows, d3, hl3, hbs, hne, hperm⟩ ⟨rfl, hy⟩
          obtain ⟨b, hb1, rfl⟩ := map_get hy
          have r1 := s3 _ _ (hrow _ _ hb1)
          refine ⟨rfl, _, rfl, b, (nbr ts i).map fun (k : Nat) => (k : Int), rfl, SqL.of (by rw [r1, cI_ints]), ?_, fun ns p hp hs hfree => ?_⟩
          · rw [List.length_map]
            have := nbr_len ts i
            have := W.few
            omega
          obtain ⟨r, hr1, rfl⟩ := perm_nat hp
          have npD : D2 ≠ p := ne_of_none d3 hfree
          refine ⟨_, by rw [upd_ne npD]; exact d3, ?_, Same.upd (Same.new s3 hfree) hD2, bs ++ [p], rows ++ [r], by rw [upd_same, List.map_append]; rfl, by simp [hl3], ?_, ?_, ?_⟩
          · rw [List.length_map, hbs.1, hl3]
            refine Nat.lt_of_lt_of_le hi (small ?_)
            rw [List.length_map]
            omega
          · refine All2.snoc (hbs.mono fun x y hx _ hxy => ?_) ?_
            · rw [upd_ne (hne x hx), upd_ne (ne_of_none hxy hfree)]
              exact hxy
            · rw [upd_ne npD.symm, upd_same, cI_ints]
          · intro x hx
            rcases List.mem_append.mp hx with hx | hx
            · exact hne x hx
            · simp at hx
              rw [hx]
              exact npD.symm
          · intro j r' hj
            by_cases hjl : j < rows.length
            · rw [List.getElem?_append_left hjl] at hj
              exact hperm j r' hj
            · rw [List.getElem?_append_right (by omega)] at hj
              have hj0 : j = i := by
                have := get_lt hj
                simp at this
                omega
              subst hj0
              have : j - rows.length = 0 := by omega
              rw [this] at hj
              simp at hj
              rw [← hj]
              exact hr1
        · rintro H3 ⟨s3, bs, rows, d3, hl3, hbs, hne, hperm⟩
          refine k H3 D2 rows (s2.trans s3) ⟨bs, d3, hbs⟩ ⟨by rw [hl3, List.length_map]; exact hl2, fun j r hj => ?_, fun j r hj y => ?_⟩
          · rw [(hperm j r hj).length_eq]
            have := nbr_len ts j
            have := W.few
            omega
          · rw [(hperm j r hj).mem_iff]
            exact nbr_mem (fun x hx => by have := W.tie x hx; omega) j y
end
end Wp
namespace Wp
open PySem L2
/-! ### lists of tuples of corners -/
def TupsAre (H : Hp) (as : List Addr) (css : List (List Nat)) : Prop := All2 (fun a c => H a = some (.tup (cI c))) as css
def LotsAt (H : Hp) (p : Addr) (css : List (List Nat)) : Prop := ∃ as : List Addr, H p = some (.lst (as.map V.ref)) ∧ TupsAre H as css
section
variable {H H' : Hp} {as : List Addr} {css : List (List Nat)} {D : Addr} {o : HO}
theorem TupsAre.same (h : TupsAre H as css) (s : Same H H') : TupsAre H' as css := h.mono fun a b _ _ r => s _ _ r
theorem TupsAre.updL {l : List V} (h : TupsAre H as css) (hD : H D = some (.lst l)) : TupsAre (L2.upd H D o) as css := h.mono fun a b _ _ r => by
  rw [upd_ne (ne_of r hD (by intro z; cases z))]
  exact r
theorem TupsAre.new (h : TupsAre H as css) (hD : H D = none) : TupsAre (L2.upd H D o) as css := h.same (same_new hD)
theorem LotsAt.same {p : Addr} (h : LotsAt H p css) (s : Same H H') : LotsAt H' p css := by
  obtain ⟨as, h1, h2⟩ := h
  exact ⟨as, s _ _ h1, TupsAre.same h2 s⟩
end
theorem flat_len {α β : Type} (f : α → List β) (m : Nat) (hf : ∀ a, (f a).length ≤ m) : ∀ l : List α, (l.flatMap f).length ≤ l.length * m
  | [] => by simp
  | a :: r => by
    have := flat_len f m hf r
    have := hf a
    simp only [List.flatMap_cons, List.length_append, List.length_cons]
    rw [Nat.add_mul]
    omega
def pairsOf (n a : Nat) : List (List Nat) := (List.range' (a + 1) (n - (a + 1))).map fun b => [a, b]
theorem pairsOf_len (n a : Nat) : (pairsOf n a).length ≤ n := by
  unfold pairsOf
  rw [List.length_map, List.length_range']
  exact Nat.sub_le _ _
def cutsTo (n i : Nat) : List (List Nat) := ([[]] ++ (List.range n).map fun a => [a]) ++ (List.range i).flatMap (pairsOf n)
theorem cutsTo_all (n : Nat) : cutsTo n n = cutsOf n := rfl
theorem cutsTo_succ (n i : Nat) : cutsTo n (i + 1) = cutsTo n i ++ pairsOf n i := by
  unfold cutsTo
  rw [List.range_succ, List.flatMap_append]
  simp
theorem cutsTo_len {n i : Nat} (hn : n ≤ 20) (hi : i ≤ n) : (cutsTo n i).length ≤ 500 := by
  unfold cutsTo
  have h1 := flat_len (pairsOf n) n (pairsOf_len n) (List.range i)
  rw [List.length_range] at h1
  have h2 : i * n ≤ 20 * 20 := Nat.mul_le_mul (by omega) hn
  rw [List.length_append, List.length_append, List.length_map, List.length_range, List.length_singleton]
  omega
section
variable {P : Program} {w : World} {K : PySem.W.Frag} {mg : Str → Option Value} {base : Heap}
/-! ### neighbours, degree -/
def spNeighbours : Sp := fun vs H Q _ => ∃ (a : Addr) (n k : Nat) (ts : List Tie), vs = [.ref a, .int (k : Int)] ∧ WebAt H a n ts ∧ WebOk n ts ∧ k < n ∧ ∀ H' b r, Same H H' → H' b = some (.lst (cI r)) → (∀ y, y ∈ r ↔ Adj ts k y) → Q (.ref b) H'
theorem sc_neighbours : FnScope ["web", "corner"] ["web", "corner"] (defScope sNeighbours) := ⟨rfl, rfl, rfl, by decide +kernel, rfl, by decide +kernel, by decide +kernel⟩
theorem ok_neighbours {f : Addr} {fd : FuncData} (F : Fun K "neighbours" "neighbours" sNeighbours f fd) (c1 : Cal P w K mg base 5 "want_web" spWantWeb) (c2 : Cal P w K mg base 4 "want_corner" spWantCorner) (c3 : Cal P w K mg base 1 "neighbours_of" spNear) : FnOk P w K mg base CX0 6 f fd ["web", "corner"] spNeighbours := by
  refine F.ok sc_neighbours (fun vs H Q E h => ?_) (fun cdv A outer s H vs Q E hr h => ?_)
  · obtain ⟨a, n, k, ts, rfl, _⟩ := h
    rfl
  · obtain ⟨a, n, c, ts, rfl, hw, W, hc, k⟩ := h
    refine ⟨_, pss_cons (ps_expr (pe_cal c1 hr (by decide) (by rfl) (pa_cons (pv 0) pa_nil)))
      (pss_cons (ps_expr (pe_cal c2 hr (by decide) (by rfl) (pa_cons (pv 0) (pa_cons (pv 1) pa_nil))))
      (pss_one (ps_ret (pe_ix ix_list (pe_cal c3 hr (by decide) (by rfl) (pa_cons (pv 0) pa_nil)) (pv 1) (fun _ _ => rfl))))), ?_⟩
    refine ⟨_, rfl, a, n, ts, rfl, hw, W, fun H1 s1 => ?_⟩
    refine ⟨_, rfl, _, rfl, a, n, c, ts, rfl, hw.same s1, hc, ?_⟩
    refine ⟨_, rfl, a, n, ts, rfl, hw.same s1, W, fun H2 p rows s2 hp hrows => ?_⟩
    obtain ⟨bs, hb, hall⟩ := hp
    have hc2 : c < rows.length := by rw [hrows.len]; exact hc
    obtain ⟨b, e, hbr⟩ := hall.getR (List.getElem?_eq_getElem hc2)
    refine ⟨_, rfl, p, _, (c : Int), .ref b, rfl, rfl, SqL.of hb, atI_nat (by rw [List.getElem?_map, e]; rfl), ?_⟩
    exact k H2 b _ (s1.trans s2) hbr (hrows.mem c _ (List.getElem?_eq_getElem hc2))
def spDegree : Sp := fun vs H Q _ => ∃ (a : Addr) (n k : Nat) (ts : List Tie), vs = [.ref a, .int (k : Int)] ∧ WebAt H a n ts ∧ WebOk n ts ∧ k < n ∧ ∀ H' (r : List Nat), Same H H' → (∀ y, y ∈ r ↔ Adj ts k y) → Q (.int (r.length : Int)) H'
theorem sc_degree : FnScope ["web", "corner"] ["web", "corner"] (defScope sDegree) := ⟨rfl, rfl, rfl, by decide +kernel, rfl, by decide +kernel, by decide +kernel⟩
theorem ok_degree {f : Addr} {fd : FuncData} (F : Fun K "degree" "degree" sDegree f fd) (T : Txt mg) (c1 : Cal P w K mg base 6 "neighbours" spNeighbours) : FnOk P w K mg base CX0 7 f fd ["web", "corner"] spDegree := by
  refine F.ok sc_degree (fun vs H Q E h => ?_) (fun cdv A outer s H vs Q E hr h => ?_)
  · obtain ⟨a, n, k, ts, rfl, _⟩ := h
    rfl
  · obtain ⟨a, n, c, ts, rfl, hw, W, hc, k⟩ := h
    refine ⟨_, pss_one (ps_ret (pe_callB call_len_seq (by rfl) T.len PySem.boot_len (pa_cons (pe_cal c1 hr (by decide) (by rfl) (pa_cons (pv 0) (pa_cons (pv 1) pa_nil))) pa_nil))), ?_⟩
    refine ⟨_, rfl, _, rfl, a, n, c, ts, rfl, hw, W, hc, fun H1 b r s1 hb hm => ?_⟩
    refine ⟨b, _, rfl, .inl (SqL.of hb), ?_⟩
    rw [cI_len]
    exact k H1 r s1 hm
/-! ### cuts_of -/
def spCuts : Sp := fun vs H Q _ => ∃ n : Nat, vs = [.int (n : Int)] ∧ n ≤ 20 ∧ ∀ H' p, Same H H' → LotsAt H' p (cutsOf n) → Q (.ref p) H'
theorem sc_cuts : FnScope ["many", "one", "found", "other"] ["many"] (defScope sCuts) := ⟨rfl, rfl, rfl, by decide +kernel, rfl, by decide +kernel, by decide +kernel⟩
theorem ok_cuts {f : Addr} {fd : FuncData} (F : Fun K "cuts_of" "cuts_of" sCuts f fd) (T : Txt mg) : FnOk P w K mg base CX0 1 f fd ["many"] spCuts := by
  refine F.ok sc_cuts (fun vs H Q E h => ?_) (fun cdv A outer s H vs Q E hr h => ?_)
  · obtain ⟨n, rfl, _⟩ := h
    rfl
  · obtain ⟨n, rfl, hn, k⟩ := h
    refine ⟨_, pss_cons (ps_set (i := 2) sc_cuts.nd rfl (Or.inl rfl) (pe_op op_cat (pe_lst (pa_cons (pe_tup pa_nil) pa_nil))
          (pe_lc (own := [("one", 1)]) (g := gName 1) (tt := tYes) rfl sc_cuts.nd (pi_range1 rfl T.range (pa_cons (pv 0) pa_nil)) (blkOk_by (own := [("one", 1)]) (N := ["many", "one", "found", "other"]) (sc := defScope sCuts) (by decide +kernel))
            (fun _ _ _ _ _ => pg_name (i := 1) sc_cuts.nd rfl (Or.inl rfl)) (fun _ _ _ _ _ => pts_nil) (fun _ _ _ _ _ => pe_tup (pa_cons (pv 1) pa_nil)))))
      (pss_cons (ps_for PassesOwn.never rfl (pi_range1 rfl T.range (pa_cons (pv 0) pa_nil)) (pg_name (i := 1) sc_cuts.nd rfl (Or.inr rfl))
        (pss_one (ps_expr (pe_bm PySem.F.plainAttrs_list PySem.F.slot_list_extend PySem.F.type_list_extend mt_extend (pv 2) (pa_cons
          (pe_lc (own := [("other", 3)]) (g := gName 3) (tt := tYes) rfl sc_cuts.nd (pi_range2 rfl T.range (pa_cons (pe_op op_add (pv 1) pe_int) (pa_cons (pv 0) pa_nil))) (blkOk_by (own := [("other", 3)]) (N := ["many", "one", "found", "other"]) (sc := defScope sCuts) (by decide +kernel))
            (fun _ _ _ _ _ => pg_name (i := 3) sc_cuts.nd rfl (Or.inl rfl)) (fun _ _ _ _ _ => pts_nil) (fun _ _ _ _ _ => pe_tup (pa_cons (pv 1) (pa_cons (pv 3) pa_nil)))) pa_nil)))))
      (pss_one (ps_ret (pv 2)))), ?_⟩
    -- [()] + [(one,) for one in range(many)]
    refine ⟨Nat.zero_le _, fun p0 h0 => ⟨small (by show 1 ≤ 1000; omega), fun l0 hl0 => ?_⟩⟩
    have s0 : Same H (upd (upd H p0 (.tup [])) l0 (.lst [.ref p0])) := Same.new (same_new h0) hl0
    have e0 : (upd (upd H p0 (.tup [])) l0 (.lst [.ref p0])) p0 = some (.tup []) := by rw [upd_ne (ne_of_none upd_same hl0), upd_same]
    have e1 : (upd (upd H p0 (.tup [])) l0 (.lst [.ref p0])) l0 = some (.lst [.ref p0]) := upd_same
    generalize (upd (upd H p0 (.tup [])) l0 (.lst [.ref p0])) = H0 at s0 e0 e1 ⊢
    refine ⟨_, rfl, (n : Int), rfl, by omega, by omega, fun D hD => ?_⟩
    refine lc_it (walk_range (lo := 0) (n := (n : Int).toNat)) (fun i H1 => Same H0 H1 ∧ ∃ as : List Addr, H1 D = some (.lst (as.map V.ref)) ∧ TupsAre H1 as ((List.range i).map fun a => [a]))
      ⟨same_new hD, [], upd_same, All2.nil⟩ (fun _ _ _ _ => trivial) ?_ ?_
    · rintro i y Hx H1 hi ⟨s1, as, d1, hall⟩ ⟨rfl, rfl⟩
      refine ⟨rfl, _, rfl, sl1, fun p hp => ?_⟩
      have npD : D ≠ p := ne_of_none d1 hp
      refine ⟨_, by rw [upd_ne npD]; exact d1, ?_, Same.upd (Same.new s1 hp) hD, as ++ [p], by rw [upd_same, List.map_append]; rfl, ?_⟩
      · rw [List.length_map, hall.1]
        simp
        exact small1000 (by omega)
      · rw [List.range_succ, List.map_append]
        refine All2.snoc (TupsAre.updL (TupsAre.new hall hp) (by rw [upd_ne npD]; exact d1)) ?_
        rw [upd_ne npD.symm, upd_same]
        show some (HO.tup [V.int (0 + (i : Int))]) = _
        rw [Int.zero_add]
        rfl
    · rintro H1 ⟨s1, as, d1, hall⟩
      rw [Int.toNat_natCast] at hall
      have hlen : as.length = n := by rw [hall.1]; simp
      refine ⟨l0, D, _, _, rfl, rfl, s1 _ _ e1, d1, by simp [hlen]; exact small (by omega), fun L hL => ?_⟩
      have s2 := (s0.trans s1).trans (same_new (o := .lst ([.ref p0] ++ as.map V.ref)) hL)
      -- for one in range(many)
      refine ⟨_, rfl, (n : Int), rfl, by omega, by omega, ?_⟩
      refine for_it (walk_range (lo := 0) (n := (n : Int).toNat)) (fun i σ H2 => Same H H2 ∧ (∃ bs : List Addr, H2 L = some (.lst (bs.map V.ref)) ∧ TupsAre H2 bs (cutsTo n i)) ∧ ∃ v, σ = [some (.int (n : Int)), v, some (.ref L), none])
        ⟨s2, ⟨p0 :: as, by rw [upd_same]; rfl, ?_⟩, none, rfl⟩ (fun _ _ _ _ _ => trivial) ?_ ?_
      · have : TupsAre H1 (p0 :: as) (([[]] ++ (List.range n).map fun a => [a]) ++ (List.range 0).flatMap (pairsOf n)) := by
          rw [List.range_zero, List.flatMap_nil, List.append_nil]
          exact All2.append (R := fun a c => H1 a = some (.tup (cI c))) (All2.one (s1 _ _ e0)) hall
        exact TupsAre.new this hL
      · rintro i y σ Hx H2 hi ⟨s3, ⟨bs, d2, hbs⟩, v, rfl⟩ ⟨rfl, rfl⟩
        rw [Int.toNat_natCast] at hi
        have hlb : bs.length ≤ 500 := by rw [hbs.1]; exact cutsTo_len hn (Nat.le_of_lt hi)
        refine ⟨_, rfl, .inl ⟨rfl, _, SqL.of d2⟩, _, rfl, _, _, rfl, rfl, _, rfl, 0 + (i : Int) + 1, (n : Int), rfl, ⟨by omega, by omega, by omega, by omega⟩, fun D2 hD2 => ?_⟩
        refine lc_it (walk_range (lo := 0 + (i : Int) + 1) (n := ((n : Int) - (0 + (i : Int) + 1)).toNat)) (fun j H3 => Same H2 H3 ∧ ∃ cs : List Addr, H3 D2 = some (.lst (cs.map V.ref)) ∧ TupsAre H3 cs ((List.range' (i + 1) j).map fun b => [i, b]))
          ⟨same_new hD2, [], upd_same, All2.nil⟩ (fun _ _ _ _ => trivial) ?_ ?_
        · rintro j y Hx H3 hj ⟨s4, cs, d3, hcs⟩ ⟨rfl, rfl⟩
          refine ⟨rfl, _, rfl, _, rfl, small (by show 2 ≤ 1000; omega), fun p hp => ?_⟩
          have npD : D2 ≠ p := ne_of_none d3 hp
          refine ⟨_, by rw [upd_ne npD]; exact d3, ?_, Same.upd (Same.new s4 hp) hD2, cs ++ [p], by rw [upd_same, List.map_append]; rfl, ?_⟩
          · rw [List.length_map, hcs.1]
            simp
            exact small1000 (by omega)
          · rw [List.range'_concat, List.map_append]
            refine All2.snoc (TupsAre.updL (TupsAre.new hcs hp) (by rw [upd_ne npD]; exact d3)) ?_
            rw [upd_ne npD.symm, upd_same]
            show some (HO.tup [V.int (0 + (i : Int)), V.int (0 + (i : Int) + 1 + (j : Int))]) = some (HO.tup [V.int (i : Int), V.int ((i + 1 + 1 * j : Nat) : Int)])
            have z1 : 0 + (i : Int) = (i : Int) := by omega
            have z2 : 0 + (i : Int) + 1 + (j : Int) = ((i + 1 + 1 * j : Nat) : Int) := by omega
            rw [z2, z1]
        · rintro H3 ⟨s4, cs, d3, hcs⟩
          have ej : ((n : Int) - (0 + (i : Int) + 1)).toNat = n - (i + 1) := by omega
          rw [ej] at hcs
          have hlc : cs.length ≤ 20 := by rw [hcs.1]; simp; omega
          have d4 := s4 _ _ d2
          refine ⟨L, D2, _, _, rfl, rfl, d4, d3, by simp; exact small (by omega), Same.upd (s3.trans s4) ?_, ⟨bs ++ cs, by rw [upd_same, List.map_append], ?_⟩, _, rfl⟩
          · exact (s0.trans s1).free hL
          · rw [cutsTo_succ]
            exact All2.append (TupsAre.updL (TupsAre.same hbs s4) d4) (TupsAre.updL hcs d4)
      · rintro σ H2 ⟨s3, ⟨bs, d2, hbs⟩, v, rfl⟩
        rw [Int.toNat_natCast] at hbs
        exact ⟨_, rfl, k H2 L s3 ⟨bs, d2, by rw [← cutsTo_all]; exact hbs⟩⟩
end
end Wp
namespace Wp
open PySem L2
/-! ### data of corners, for == -/
def dI (l : List Nat) : List PyData := l.map fun (k : Nat) => PyData.int (k : Int)
theorem dpAll_ints {K : PySem.W.Frag} {H : Hp} : ∀ l : List Nat, DpAll K H (cI l) (dI l)
  | [] => .nil
  | k :: r => .cons (.int _) (dpAll_ints r)
theorem eqvAll_refl_ints : ∀ l : List Nat, PyData.eqvAll (dI l) (dI l) = true
  | [] => rfl
  | k :: r => by
    show (((k : Int) == (k : Int)) && PyData.eqvAll (dI r) (dI r)) = true
    rw [eqvAll_refl_ints r]
    simp
theorem eqvAll_nil (l : List Nat) : PyData.eqvAll (dI l) [] = decide (l = []) := by
  cases l with
  | nil => rfl
  | cons k r => rfl
theorem canLay_ints : ∀ l : List Nat, PyData.canLayAll0 (dI l) = true
  | [] => rfl
  | k :: r => by
    show (true && PyData.canLayAll0 (dI r)) = true
    rw [canLay_ints r]
    rfl
theorem depth_ints : ∀ l : List Nat, PyData.depthAll (dI l) ≤ 1
  | [] => by decide
  | k :: r => by
    have := depth_ints r
    show max _ (PyData.depthAll (dI r)) ≤ 1
    exact Nat.max_le.mpr ⟨by show (0 : Nat) ≤ 1; omega, this⟩
theorem shaped_ints (l : List Nat) : SeqAt.shaped (.list (dI l)) = true := by
  unfold SeqAt.shaped
  rw [show PyData.canLay0 (.list (dI l)) = PyData.canLayAll0 (dI l) from rfl, canLay_ints]
  have := depth_ints l
  exact decide_eq_true (by show PyData.depthAll (dI l) + 1 ≤ 64; omega)
theorem shaped_intsT (l : List Nat) : SeqAt.shaped (.tuple (dI l)) = true := by
  unfold SeqAt.shaped
  rw [show PyData.canLay0 (.tuple (dI l)) = PyData.canLayAll0 (dI l) from rfl, canLay_ints]
  have := depth_ints l
  exact decide_eq_true (by show PyData.depthAll (dI l) + 1 ≤ 64; omega)
/-! ### a dict's keys -/
def HasK (kvs : List (Key × V)) (S : Nat → Prop) : Prop := ∀ x : Nat, (valV kvs (Sum.inl (x : Int) : Key)).isSome = true ↔ S x
theorem HasK.put {kvs : List (Key × V)} {S : Nat → Prop} (h : HasK kvs S) (c : Nat) (v : V) : HasK (putK kvs (Sum.inl (c : Int) : Key) v) (fun x => S x ∨ x = c) := by
  intro x
  rw [valV_put]
  by_cases e : x = c
  · subst e
    rw [if_pos rfl]
    simp
  · rw [if_neg (by intro q; exact e (by have := Sum.inl.inj q; omega)), h x]
    simp [e]
theorem HasK.congr {kvs : List (Key × V)} {S S' : Nat → Prop} (h : HasK kvs S) (e : ∀ x, S x ↔ S' x) : HasK kvs S' := fun x => (h x).trans (e x)
theorem hasK_merge : ∀ (l : List Nat) (kvs : List (Key × V)) (S : Nat → Prop), HasK kvs S → HasK (mergeK kvs (l.map fun (k : Nat) => ((Sum.inl (k : Int) : Key), V.bl true))) (fun x => S x ∨ x ∈ l)
  | [], kvs, S, h => h.congr fun x => by simp
  | c :: r, kvs, S, h => (hasK_merge r (putK kvs (Sum.inl (c : Int)) (.bl true)) _ (h.put c _)).congr fun x => by
    simp
    constructor
    · rintro ((q | q) | q)
      · exact .inl q
      · exact .inr (.inl q)
      · exact .inr (.inr q)
    · rintro (q | q | q)
      · exact .inl (.inl q)
      · exact .inl (.inr q)
      · exact .inr q
theorem hasK_nil : HasK [] (fun _ => False) := fun x => by simp [valV_nil]
/-! ### the search, with or without a first corner -/
def Srch (n : Nat) (A : Nat → Nat → Prop) (C : List Nat) (E : Nat → Nat → Prop) (F W : List Nat) : Prop :=
  match firstOk n C with
  | none => F = [] ∧ W = []
  | some v => Bfs n A C v E F W
theorem Srch.start (n : Nat) (A : Nat → Nat → Prop) (C : List Nat) : Srch n A C (fun _ _ => False) (firstOk n C).toList (firstOk n C).toList := by
  unfold Srch
  cases e : firstOk n C with
  | none => exact ⟨rfl, rfl⟩
  | some v => exact Bfs.start (firstOk_ok e)
theorem Srch.fst {n : Nat} {A : Nat → Nat → Prop} {C : List Nat} {E : Nat → Nat → Prop} {F W : List Nat} (h : Srch n A C E F W) (hF : F ≠ []) : ∃ v, firstOk n C = Option.some v ∧ Bfs n A C v E F W := by
  unfold Srch at h
  cases e : firstOk n C with
  | none =>
    rw [e] at h
    exact absurd h.1 hF
  | some v =>
    rw [e] at h
    exact ⟨v, rfl, h⟩
theorem Srch.of {n : Nat} {A : Nat → Nat → Prop} {C : List Nat} {E : Nat → Nat → Prop} {F W : List Nat} {v : Nat} (e : firstOk n C = some v) (h : Bfs n A C v E F W) : Srch n A C E F W := by
  unfold Srch
  rw [e]
  exact h
theorem Srch.done {n : Nat} {A : Nat → Nat → Prop} {C F l : List Nat} (h : Srch n A C (fun _ _ => False) F []) (hp : l.Perm F) (hl : l.Pairwise (· ≤ ·)) : l = sideOf n A C := by
  unfold Srch at h
  cases e : firstOk n C with
  | none =>
    rw [e] at h
    rw [h.1] at hp
    rw [sideOf_none e]
    exact hp.eq_nil
  | some v =>
    rw [e] at h
    exact side_eq e (Bfs.done h) hp hl
theorem Srch.small {n : Nat} {A : Nat → Nat → Prop} {C F W : List Nat} {E : Nat → Nat → Prop} (h : Srch n A C E F W) : F.length ≤ n := by
  unfold Srch at h
  cases e : firstOk n C with
  | none =>
    rw [e] at h
    rw [h.1]
    exact Nat.zero_le _
  | some v =>
    rw [e] at h
    exact Bfs.small h
theorem cutV_one (xs : List V) : cutV xs none (some 1) = xs.take 1 := by
  unfold cutV
  have e1 : HT.sIx xs.length xs.length (some 1) = min 1 xs.length := HT.sIx_nat xs.length xs.length 1
  have e2 : HT.sIx xs.length 0 none = 0 := rfl
  rw [e1, e2, List.drop_zero, Nat.sub_zero]
  cases xs <;> simp
theorem firstOk_take (n : Nat) (C : List Nat) : (cI ((List.range n).filter fun x => !C.contains x)).take 1 = cI (firstOk n C).toList := by
  unfold cI firstOk
  rw [← List.map_take, List.take_one]
theorem filt_yes {f : Nat → Bool} {i : Nat} (h : f i = true) : (List.range (i + 1)).filter f = (List.range i).filter f ++ [i] := by
  rw [List.range_succ, List.filter_append, List.filter_cons_of_pos h, List.filter_nil]
theorem filt_no {f : Nat → Bool} {i : Nat} (h : f i = false) : (List.range (i + 1)).filter f = (List.range i).filter f := by
  rw [List.range_succ, List.filter_append, List.filter_cons_of_neg (by rw [h]; exact Bool.false_ne_true), List.filter_nil, List.append_nil]
theorem contains_of {C : List Nat} {x : Nat} {b : Bool} (h : b = true ↔ x ∈ C) : (!C.contains x) = !b := by
  cases b with
  | true =>
    have := h.mp rfl
    simp [this]
  | false =>
    have : ¬ x ∈ C := fun q => Bool.false_ne_true (h.mpr q)
    simp [this]
section
variable {P : Program} {w : World} {K : PySem.W.Frag} {mg : Str → Option Value} {base : Heap}
/-! ### first_side -/
def spFirst : Sp := fun vs H Q _ => ∃ (p c : Addr) (n : Nat) (ts : List Tie) (rows : List (List Nat)) (cut : List Nat), vs = [.ref p, .ref c] ∧ NearAt H p rows ∧ RowsOk n ts rows ∧ WebOk n ts ∧ H c = some (.tup (cI cut)) ∧ CutOk n cut ∧
  ∀ H' q, Same H H' → H' q = some (.tup (cI (sideOf n (Adj ts) cut))) → Q (.ref q) H'
theorem sc_first : FnScope ["near", "cut", "corner", "met", "first", "waiting", "found", "late"] ["near", "cut"] (defScope sFirstSide) := ⟨rfl, rfl, rfl, by decide +kernel, rfl, by decide +kernel, by decide +kernel⟩
theorem ok_first {f : Addr} {fd : FuncData} (F : Fun K "first_side" "first_side" sFirstSide f fd) (T : Txt mg) : FnOk P w K mg base CX0 1 f fd ["near", "cut"] spFirst := by
  refine F.ok sc_first (fun vs H Q E h => ?_) (fun cdv A outer s H vs Q E hr h => ?_)
  · obtain ⟨p, c, n, ts, rows, cut, rfl, _⟩ := h
    rfl
  · obtain ⟨p, c, n, ts, rows, cut, rfl, ⟨bs, hp, hbs⟩, R, W, hc, C, k⟩ := h
    have hu := hu_of hr
    have hn20 := W.hi
    have hbl : bs.length = n := by rw [hbs.1, R.len]
    refine ⟨_, pss_cons (ps_set (i := 3) sc_first.nd rfl (Or.inr rfl) (pe_callTy (call_dictP rfl) (by rfl) T.dict (by decide +kernel) (pa_cons
          (pe_lc (own := [("corner", 2)]) (g := gName 2) (tt := tYes) rfl sc_first.nd (pi_tup (pv 1)) (blkOk_by (own := [("corner", 2)]) (N := ["near", "cut", "corner", "met", "first", "waiting", "found", "late"]) (sc := defScope sFirstSide) (by decide +kernel))
            (fun _ _ _ _ _ => pg_name (i := 2) sc_first.nd rfl (Or.inl rfl)) (fun _ _ _ _ _ => pts_nil) (fun _ _ _ _ _ => pe_tup (pa_cons (pv 2) (pa_cons pe_bl pa_nil)))) pa_nil)))
      (pss_cons (ps_set (i := 4) sc_first.nd rfl (Or.inl rfl) (pe_slice sl_list
          (pe_lc (own := [("corner", 2)]) (g := gName 2) rfl sc_first.nd (pi_range1 rfl T.range (pa_cons (pe_callB call_len_seq (by rfl) T.len PySem.boot_len (pa_cons (pv 0) pa_nil)) pa_nil)) (blkOk_by (own := [("corner", 2)]) (N := ["near", "cut", "corner", "met", "first", "waiting", "found", "late"]) (sc := defScope sFirstSide) (by decide +kernel))
            (fun _ _ _ _ _ => pg_name (i := 2) sc_first.nd rfl (Or.inl rfl)) (fun _ _ _ _ _ => pts_one (pt_cmp (pc_dnotin hu (pv 2) (pv 3)))) (fun _ _ _ _ _ => pv 2)) po_none (po_some pe_int)))
      (pss_cons (ps_par (i := 5) (j := 6) rfl sc_first.nd rfl rfl (by decide) rfl rfl (pa_cons (pe_callTy call_list_of (by rfl) T.list (by decide +kernel) (pa_cons (pv 4) pa_nil)) (pa_cons (pe_callTy call_list_of (by rfl) T.list (by decide +kernel) (pa_cons (pv 4) pa_nil)) pa_nil)) (by rfl))
      (pss_cons (ps_for PassesOwn.never rfl (pi_list (pv 4)) (pg_name (i := 2) sc_first.nd rfl (Or.inl rfl)) (pss_one (ps_dput hu (pv 3) (pv 2) pe_bl rfl)))
      (pss_cons (ps_while PassesOwn.never (pt_cmpR (op_neD hr.units) (pv 5) (pe_lst pa_nil) (nomark _))
        (pss_one (ps_for PassesOwn.never rfl (pi_list (pe_ix ix_list (pv 0) (pe_bm0 PySem.F.plainAttrs_list PySem.F.slot_list_pop PySem.F.type_list_pop mt_pop (pv 5)) (fun _ _ => rfl))) (pg_name (i := 7) sc_first.nd rfl (Or.inl rfl))
          (pss_one (ps_if (pt_cmp (pc_dnotin hu (pv 7) (pv 3))) (pss_cons (ps_dput hu (pv 3) (pv 7) pe_bl rfl)
            (pss_cons (ps_expr (pe_bm PySem.F.plainAttrs_list PySem.F.slot_list_append PySem.F.type_list_append mt_append (pv 5) (pa_cons (pv 7) pa_nil)))
            (pss_one (ps_expr (pe_bm PySem.F.plainAttrs_list PySem.F.slot_list_append PySem.F.type_list_append mt_append (pv 6) (pa_cons (pv 7) pa_nil)))))) pss_nil)))))
      (pss_one (ps_ret (pe_callTy call_tuple_of (by rfl) T.tuple (by decide +kernel) (pa_cons (pe_callB cr_sorted (by rfl) T.sorted (by decide +kernel) (pa_cons (pv 6) pa_nil)) pa_nil)))))))), ?_⟩
    -- met = dict(..)
    refine ⟨_, rfl, c, rfl, ⟨_, SqT.of hc⟩, fun D hD => ?_⟩
    refine lc_it (walk_tup (K := K) (a := c) (xs := cI cut)) (fun i H1 => Same H H1 ∧ ∃ as : List Addr, H1 D = some (.lst (as.map V.ref)) ∧ All2 (fun a (k : Nat) => H1 a = some (.tup [.int (k : Int), .bl true])) as (cut.take i))
      ⟨same_new hD, [], upd_same, by rw [List.take_zero]; exact All2.nil⟩ (fun i H1 _ q => SqT.of (q.1 _ _ hc)) ?_ ?_
    · rintro i y Hx H1 hi ⟨s1, as, d1, hall⟩ ⟨rfl, hy⟩
      obtain ⟨c0, hc0, rfl⟩ := cI_get hy
      refine ⟨rfl, _, rfl, small (by show 2 ≤ 1000; omega), fun q hq => ?_⟩
      have nq : D ≠ q := ne_of_none d1 hq
      refine ⟨_, by rw [upd_ne nq]; exact d1, ?_, Same.upd (Same.new s1 hq) hD, as ++ [q], by rw [upd_same, List.map_append]; rfl, ?_⟩
      · rw [List.length_map, hall.1, List.length_take]
        have := C.small
        exact small1000 (by omega)
      · rw [take_succ hc0]
        refine All2.snoc (hall.mono fun a b _ _ r => ?_) ?_
        · rw [upd_ne (ne_of r d1 (by intro z; cases z)), upd_ne (ne_of_none r hq)]
          exact r
        · rw [upd_ne nq.symm, upd_same]
    rintro H1 ⟨s1, as, d1, hall⟩
    rw [cI_len, List.take_length] at hall
    have hpair : Paired (fun a (kv : Key × V) => SqT K H1 a [kV kv.1, kv.2]) as (cut.map fun (k : Nat) => ((Sum.inl (k : Int) : Key), V.bl true)) :=
      paired_of (All2.mapR hall fun a b r => SqT.of r)
    refine ⟨D, as, _, rfl, SqL.of d1, hpair, fun M hM => ?_⟩
    have hk0 : HasK (mergeK [] (cut.map fun (k : Nat) => ((Sum.inl (k : Int) : Key), V.bl true))) (fun x => x ∈ cut) := (hasK_merge cut [] _ hasK_nil).congr fun x => by simp
    have hlen0 : (mergeK [] (cut.map fun (k : Nat) => ((Sum.inl (k : Int) : Key), V.bl true))).length ≤ 2 := by
      have h1 := length_mergeK (cut.map fun (k : Nat) => ((Sum.inl (k : Int) : Key), V.bl true)) []
      rw [List.length_map] at h1
      have := C.small
      simp at h1
      omega
    generalize mergeK [] (cut.map fun (k : Nat) => ((Sum.inl (k : Int) : Key), V.bl true)) = kv0 at hk0 hlen0
    have hM0 : H M = none := s1.free hM
    have s2 : Same H (upd H1 M (.dK kv0)) := Same.upd s1 hM0
    have m2 : (upd H1 M (.dK kv0)) M = some (.dK kv0) := upd_same
    generalize upd H1 M (.dK kv0) = H2 at s2 m2 ⊢
    -- first = [..][:1]
    refine ⟨_, rfl, p, _, rfl, .inl (SqL.of (s2 _ _ hp)), ((bs.map V.ref).length : Int), rfl, by rw [List.length_map]; omega, by rw [List.length_map]; omega, fun D2 hD2 => ?_⟩
    refine lc_it (walk_range (lo := 0) (n := ((bs.map V.ref).length : Int).toNat)) (fun i H3 => Same H2 H3 ∧ H3 D2 = some (.lst (cI ((List.range i).filter fun x => !cut.contains x))))
      ⟨same_new hD2, upd_same⟩ (fun _ _ _ _ => trivial) ?_ ?_
    · rintro i y Hx H3 hi ⟨s3, d3⟩ ⟨rfl, rfl⟩
      refine ⟨rfl, _, rfl, _, rfl, M, _, rfl, DGet.k (k := Sum.inl (0 + (i : Int))) (s3 _ _ m2), _, rfl, ?_⟩
      have z0 : 0 + (i : Int) = (i : Int) := by omega
      rw [z0]
      have ec : (!(valV kv0 (Sum.inl (i : Int) : Key)).isSome) = !cut.contains i := (contains_of (hk0 i)).symm
      rw [ec]
      cases hb : cut.contains i with
      | true =>
        refine ⟨s3, ?_⟩
        rw [filt_no (by rw [hb]; rfl)]
        exact d3
      | false =>
        refine ⟨_, rfl, _, d3, ?_, Same.upd s3 hD2, ?_⟩
        · rw [cI_len]
          have h1 := List.length_filter_le (fun x => !cut.contains x) (List.range i)
          rw [List.length_range] at h1
          rw [List.length_map] at hi
          exact small1000 (by omega)
        · rw [upd_same, filt_yes (by rw [hb]; rfl), cI_append]
          show some (HO.lst (_ ++ [V.int (0 + (i : Int))])) = some (HO.lst (_ ++ [V.int (i : Int)]))
          rw [z0]
    rintro H3 ⟨s3, d3⟩
    have en : ((bs.map V.ref).length : Int).toNat = n := by rw [List.length_map, hbl]; exact Int.toNat_natCast n
    rw [en] at d3
    refine ⟨1, rfl, D2, _, rfl, SqL.of d3, fun fs hfs => ?_⟩
    have e1 : cutV (cI ((List.range n).filter fun x => !cut.contains x)) none (some 1) = cI (firstOk n cut).toList := by rw [cutV_one, firstOk_take]
    rw [e1]
    have s4 : Same H2 (upd H3 fs (.lst (cI (firstOk n cut).toList))) := Same.new s3 hfs
    have f4 : (upd H3 fs (.lst (cI (firstOk n cut).toList))) fs = some (.lst (cI (firstOk n cut).toList)) := upd_same
    generalize upd H3 fs (.lst (cI (firstOk n cut).toList)) = H4 at s4 f4 ⊢
    -- waiting, found
    refine ⟨_, rfl, fs, _, rfl, .inl (SqL.of f4), fun wt hwt => ?_⟩
    have f5 : (upd H4 wt (.lst (cI (firstOk n cut).toList))) fs = some (.lst (cI (firstOk n cut).toList)) := by rw [upd_ne (ne_of_none f4 hwt)]; exact f4
    refine ⟨_, rfl, fs, _, rfl, .inl (SqL.of f5), fun fd hfd => ⟨_, _, rfl, ?_⟩⟩
    have nwf : wt ≠ fd := ne_of_none upd_same hfd
    have hwt0 : H wt = none := (s2.trans s4).free hwt
    have hfd0 : H fd = none := by
      refine (s2.trans s4).free ?_
      rw [upd_ne nwf.symm] at hfd
      exact hfd
    have s5 : Same H (upd (upd H4 wt (.lst (cI (firstOk n cut).toList))) fd (.lst (cI (firstOk n cut).toList))) := Same.upd (Same.upd (s2.trans s4) hwt0) hfd0
    have w5 : (upd (upd H4 wt (.lst (cI (firstOk n cut).toList))) fd (.lst (cI (firstOk n cut).toList))) wt = some (.lst (cI (firstOk n cut).toList)) := by rw [upd_ne nwf, upd_same]
    have g5 : (upd (upd H4 wt (.lst (cI (firstOk n cut).toList))) fd (.lst (cI (firstOk n cut).toList))) fd = some (.lst (cI (firstOk n cut).toList)) := upd_same
    have h5 : (upd (upd H4 wt (.lst (cI (firstOk n cut).toList))) fd (.lst (cI (firstOk n cut).toList))) fs = some (.lst (cI (firstOk n cut).toList)) := by rw [upd_ne (ne_of_none f5 hfd)]; exact f5
    have m5 : (upd (upd H4 wt (.lst (cI (firstOk n cut).toList))) fd (.lst (cI (firstOk n cut).toList))) M = some (.dK kv0) := by
      have q := s4 _ _ m2
      have q2 : (upd H4 wt (.lst (cI (firstOk n cut).toList))) M = some (.dK kv0) := by rw [upd_ne (ne_of_none q hwt)]; exact q
      rw [upd_ne (ne_of_none q2 hfd)]
      exact q2
    have nMw : M ≠ wt := ne_of m5 w5 (by intro z; cases z)
    have nMf : M ≠ fd := ne_of m5 g5 (by intro z; cases z)
    have nMs : M ≠ fs := ne_of m5 h5 (by intro z; cases z)
    generalize (upd (upd H4 wt (.lst (cI (firstOk n cut).toList))) fd (.lst (cI (firstOk n cut).toList))) = H5 at s5 w5 g5 h5 m5 ⊢
    -- for corner in first
    refine ⟨_, rfl, fs, rfl, ⟨_, SqL.of h5⟩, ?_⟩
    refine for_it (walk_list (K := K) (a := fs) (xs := cI (firstOk n cut).toList)) (fun i σ H6 => Same H H6 ∧ H6 wt = some (.lst (cI (firstOk n cut).toList)) ∧ H6 fd = some (.lst (cI (firstOk n cut).toList)) ∧ H6 fs = some (.lst (cI (firstOk n cut).toList)) ∧
        (∃ kvs, H6 M = some (.dK kvs) ∧ HasK kvs (fun x => x ∈ cut ∨ x ∈ (firstOk n cut).toList.take i) ∧ kvs.length ≤ 2 + i) ∧ ∃ v2, σ = [some (.ref p), some (.ref c), v2, some (.ref M), some (.ref fs), some (.ref wt), some (.ref fd), none])
      ⟨s5, w5, g5, h5, ⟨kv0, m5, hk0.congr fun x => by simp, hlen0⟩, none, rfl⟩ (fun i σ H6 _ q => SqL.of q.2.2.2.1) ?_ ?_
    · rintro i y σ Hx H6 hi ⟨s6, w6, g6, h6, ⟨kvs, m6, hk6, hl6⟩, v2, rfl⟩ ⟨rfl, hy⟩
      obtain ⟨c0, hc0, rfl⟩ := cI_get hy
      rw [cI_len] at hi
      have hil : (firstOk n cut).toList.length ≤ 1 := by cases firstOk n cut <;> simp
      refine ⟨_, rfl, _, rfl, M, _, rfl, DPut.k (k := Sum.inl (c0 : Int)) m6 (small1000 (by omega)), Same.upd s6 hM0, by rw [upd_ne nMw.symm]; exact w6, by rw [upd_ne nMf.symm]; exact g6, by rw [upd_ne nMs.symm]; exact h6, ⟨_, upd_same, ?_, ?_⟩, _, rfl⟩
      · rw [take_succ hc0]
        exact (hk6.put c0 _).congr fun x => by
          simp
          constructor
          · rintro ((q | q) | q)
            · exact .inl q
            · exact .inr (.inl q)
            · exact .inr (.inr q)
          · rintro (q | q | q)
            · exact .inl (.inl q)
            · exact .inl (.inr q)
            · exact .inr q
      · have := length_putK kvs (Sum.inl (c0 : Int) : Key) (V.bl true)
        omega
    rintro σ H6 ⟨s6, w6, g6, h6, ⟨kvs, m6, hk6, hl6⟩, v2, rfl⟩
    rw [cI_len, List.take_length] at hk6
    rw [cI_len] at hl6
    -- while waiting != []
    refine ⟨fun m σ H7 => ∃ (Fd Wt : List Nat) (kvs : List (Key × V)) (v2 v7 : Option V), m = 2 * (n - Fd.length) + Wt.length ∧ σ = [some (.ref p), some (.ref c), v2, some (.ref M), some (.ref fs), some (.ref wt), some (.ref fd), v7] ∧ Same H H7 ∧
        H7 wt = some (.lst (cI Wt)) ∧ H7 fd = some (.lst (cI Fd)) ∧ H7 M = some (.dK kvs) ∧ HasK kvs (fun x => x ∈ cut ∨ x ∈ Fd) ∧ kvs.length ≤ 3 + Fd.length ∧ Wt.length ≤ Fd.length ∧ Srch n (Adj ts) cut (fun _ _ => False) Fd Wt,
      ⟨_, _, _, kvs, v2, none, rfl, rfl, s6, w6, g6, m6, hk6, by omega, Nat.le_refl _, Srch.start n (Adj ts) cut⟩, ?_⟩
    rintro m σ H7 ⟨Fd, Wt, kvs, v2, v7, rfl, rfl, s7, w7, g7, m7, hk7, hl7, hWF, S⟩
    refine ⟨_, rfl, Nat.zero_le _, fun q hq => ?_⟩
    have s8 : Same H (upd H7 q (.lst [])) := Same.new s7 hq
    have w8 : (upd H7 q (.lst [])) wt = some (.lst (cI Wt)) := by rw [upd_ne (ne_of_none w7 hq)]; exact w7
    have g8 : (upd H7 q (.lst [])) fd = some (.lst (cI Fd)) := by rw [upd_ne (ne_of_none g7 hq)]; exact g7
    have m8 : (upd H7 q (.lst [])) M = some (.dK kvs) := by rw [upd_ne (ne_of_none m7 hq)]; exact m7
    have q8 : (upd H7 q (.lst [])) q = some (.lst []) := upd_same
    generalize (upd H7 q (.lst [])) = H8 at s8 w8 g8 m8 q8 ⊢
    refine ⟨_, _, .lst (SqL.of w8) (dpAll_ints Wt), .lst (SqL.of q8) .nil, shaped_ints Wt, rfl, _, rfl, ?_⟩
    rw [show PyData.eqv (.list (dI Wt)) (.list []) = PyData.eqvAll (dI Wt) [] from rfl, eqvAll_nil]
    by_cases hW : Wt = []
    · -- the end
      subst hW
      rw [decide_eq_true rfl]
      refine iteF ?_
      have hF := S.small
      refine ⟨_, rfl, fd, Fd.map fun (k : Nat) => (k : Int), rfl, SqL.of (by rw [g8, cI_ints]), by rw [List.length_map]; omega, fun ns l hp hs hl => ?_⟩
      obtain ⟨r, hr1, rfl⟩ := perm_nat hp
      have er := S.done hr1 (pairwise_nat hs)
      subst er
      refine ⟨l, _, rfl, .inl ⟨SqL.of upd_same, fun t ht => ?_⟩⟩
      refine k _ t (Same.new (Same.new s8 hl) ht) ?_
      rw [upd_same, cI_ints]
    · rw [decide_eq_false hW]
      refine iteT ?_
      obtain ⟨W', c0, rfl⟩ : ∃ W' c0, Wt = W' ++ [c0] := ⟨Wt.dropLast, Wt.getLast hW, (List.dropLast_concat_getLast hW).symm⟩
      have hFne : Fd ≠ [] := by
        intro e
        subst e
        unfold Srch at S
        cases e2 : firstOk n cut with
        | none => rw [e2] at S; simp at S
        | some v => rw [e2] at S; exact absurd S.v0 (by simp)
      obtain ⟨v0, ev, B⟩ := S.fst hFne
      have hc0 : c0 ∈ Fd := B.wf c0 (by simp)
      have hok0 := B.ok c0 hc0
      have hc0n : c0 < rows.length := by rw [R.len]; exact hok0.1
      obtain ⟨b0, eb0, hb0⟩ := hbs.getR (List.getElem?_eq_getElem hc0n)
      have hrow : ∀ y, y ∈ rows[c0] ↔ Adj ts c0 y := R.mem c0 _ (List.getElem?_eq_getElem hc0n)
      have hrl : rows[c0].length ≤ 60 := R.few c0 _ (List.getElem?_eq_getElem hc0n)
      generalize rows[c0] = row at hb0 hrow hrl
      -- for late in near[waiting.pop()]
      have hlast : (cI (W' ++ [c0]))[(cI (W' ++ [c0])).length - 1]? = some (.int (c0 : Int)) := by
        rw [cI_append]
        simp [cI]
      have hdrop : (cI (W' ++ [c0])).dropLast = cI W' := by
        rw [cI_append]
        show (cI W' ++ [V.int (c0 : Int)]).dropLast = _
        simp
      refine ⟨_, fun σ' H' z => z, ?_⟩
      refine ⟨_, rfl, _, rfl, .inl ⟨rfl, _, SqL.of w8⟩, wt, _, .int (c0 : Int), rfl, rfl, w8, hlast, ?_⟩
      rw [hdrop]
      have hwt0' : H wt = none := hwt0
      have s9 : Same H (upd H8 wt (.lst (cI W'))) := Same.upd s8 hwt0
      have p9 : (upd H8 wt (.lst (cI W'))) p = some (.lst (bs.map V.ref)) := s9 _ _ hp
      refine ⟨p, _, (c0 : Int), .ref b0, rfl, rfl, SqL.of p9, atI_nat (by rw [List.getElem?_map, eb0]; rfl), b0, rfl, ⟨_, SqL.of (s9 _ _ hb0)⟩, ?_⟩
      refine for_it (walk_list (K := K) (a := b0) (xs := cI row)) (fun i σ H9 => ∃ (F2 W2 : List Nat) (kvs : List (Key × V)) (v7 : Option V), 2 * (n - F2.length) + W2.length ≤ 2 * (n - Fd.length) + W'.length ∧ σ = [some (.ref p), some (.ref c), v2, some (.ref M), some (.ref fs), some (.ref wt), some (.ref fd), v7] ∧ Same H H9 ∧
          H9 wt = some (.lst (cI W2)) ∧ H9 fd = some (.lst (cI F2)) ∧ H9 M = some (.dK kvs) ∧ HasK kvs (fun x => x ∈ cut ∨ x ∈ F2) ∧ kvs.length ≤ 3 + F2.length ∧ c0 ∈ F2 ∧ Bfs n (Adj ts) cut v0 (fun x y => x = c0 ∧ y ∉ row.take i) F2 W2 ∧ W2.length ≤ F2.length)
        ⟨Fd, W', kvs, v7, Nat.le_refl _, rfl, s9, upd_same, by rw [upd_ne nwf.symm]; exact g8, by rw [upd_ne nMw]; exact m8, hk7, hl7, hc0, ?_, ?_⟩ (fun i σ H9 _ ⟨_, _, _, _, _, _, s, _⟩ => SqL.of (s _ _ hb0)) ?_ ?_
      · exact (B.pop).skip fun x y hx e ne _ _ => absurd ⟨e, by simp⟩ ne
      · rw [List.length_append] at hWF
        simp at hWF
        omega
      · rintro i y σ Hx H9 hi ⟨F2, W2, kvs2, v7, hμ, rfl, s10, w10, g10, m10, hk10, hl10, hcF, B2, hW2⟩ ⟨rfl, hy⟩
        obtain ⟨y0, hy0, rfl⟩ := cI_get hy
        have hyr : y0 ∈ row := List.mem_of_getElem? hy0
        have hadj := (hrow y0).mp hyr
        have hF2 := B2.small
        have hin : i ≤ 60 := by have := get_lt hy0; omega
        refine ⟨_, rfl, _, rfl, M, _, rfl, DGet.k (k := Sum.inl (y0 : Int)) m10, _, rfl, ?_⟩
        cases hb : (valV kvs2 (Sum.inl (y0 : Int) : Key)).isSome with
        | true =>
          refine iteF ?_
          refine ⟨F2, W2, kvs2, _, hμ, rfl, s10, w10, g10, m10, hk10, hl10, hcF, ?_, hW2⟩
          refine B2.skip fun x z hx e ne _ o => ?_
          have hz : z = y0 := by
            refine Classical.byContradiction fun q => ne ⟨e.1, fun m => ?_⟩
            rw [take_succ hy0] at m
            rcases List.mem_append.mp m with m | m
            · exact e.2 m
            · exact q (by simpa using m)
          subst hz
          rcases (hk10 z).mp hb with q | q
          · exact absurd q o.2
          · exact q
        | false =>
          refine iteT ?_
          have hno : ¬ (y0 ∈ cut ∨ y0 ∈ F2) := fun q => by
            have := (hk10 y0).mpr q
            rw [hb] at this
            cases this
          have hok : Ok n cut y0 := ⟨(W.adj hadj).2.1, fun q => hno (.inl q)⟩
          have B3 : Bfs n (Adj ts) cut v0 (fun x y => x = c0 ∧ y ∉ row.take (i + 1)) (F2 ++ [y0]) (W2 ++ [y0]) := by
            refine B2.add hcF hadj hok (fun q => hno (.inr q)) fun x z hx e ne _ o => ?_
            refine Classical.byContradiction fun q => ne ⟨e.1, fun m => ?_⟩
            rw [take_succ hy0] at m
            rcases List.mem_append.mp m with m | m
            · exact e.2 m
            · exact q (by simp at m; simp [m])
          have hF3 := B3.small
          rw [List.length_append] at hF3
          simp at hF3
          refine ⟨_, rfl, _, rfl, M, _, rfl, DPut.k (k := Sum.inl (y0 : Int)) m10 (small1000 (by omega)), ?_⟩
          have w11 : (upd H9 M (.dK (putK kvs2 (Sum.inl (y0 : Int) : Key) (V.bl true)))) wt = some (.lst (cI W2)) := by rw [upd_ne nMw.symm]; exact w10
          have g11 : (upd H9 M (.dK (putK kvs2 (Sum.inl (y0 : Int) : Key) (V.bl true)))) fd = some (.lst (cI F2)) := by rw [upd_ne nMf.symm]; exact g10
          have m11 : (upd H9 M (.dK (putK kvs2 (Sum.inl (y0 : Int) : Key) (V.bl true)))) M = some (.dK (putK kvs2 (Sum.inl (y0 : Int) : Key) (V.bl true))) := upd_same
          have s11 : Same H (upd H9 M (.dK (putK kvs2 (Sum.inl (y0 : Int) : Key) (V.bl true)))) := Same.upd s10 hM0
          generalize upd H9 M (.dK (putK kvs2 (Sum.inl (y0 : Int) : Key) (V.bl true))) = H10 at w11 g11 m11 s11 ⊢
          refine ⟨_, rfl, .inl ⟨rfl, _, SqL.of w11⟩, _, rfl, wt, _, _, rfl, rfl, w11, by rw [cI_len]; exact small1000 (by omega), ?_⟩
          have g12 : (upd H10 wt (.lst (cI W2 ++ [V.int (y0 : Int)]))) fd = some (.lst (cI F2)) := by rw [upd_ne nwf.symm]; exact g11
          refine ⟨_, rfl, .inl ⟨rfl, _, SqL.of g12⟩, _, rfl, fd, _, _, rfl, rfl, g12, by rw [cI_len]; exact small1000 (by omega), ?_⟩
          refine ⟨F2 ++ [y0], W2 ++ [y0], _, _, by simp; omega, rfl, Same.upd (Same.upd s11 hwt0) hfd0, ?_, ?_, ?_, (hk10.put y0 (.bl true)).congr fun x => ?_, ?_, by simp [hcF], B3, ?_⟩
          · rw [upd_ne nwf, upd_same, cI_append]
            rfl
          · rw [upd_same, cI_append]
            rfl
          · rw [upd_ne nMf, upd_ne nMw]
            exact m11
          · simp
            constructor
            · rintro ((q | q) | q)
              · exact .inl q
              · exact .inr (.inl q)
              · exact .inr (.inr q)
            · rintro (q | q | q)
              · exact .inl (.inl q)
              · exact .inl (.inr q)
              · exact .inr q
          · have := length_putK kvs2 (Sum.inl (y0 : Int) : Key) (V.bl true)
            simp
            omega
          · simp
            omega
      · rintro σ H9 ⟨F2, W2, kvs2, v7, hμ, rfl, s10, w10, g10, m10, hk10, hl10, hcF, B2, hW2⟩
        refine ⟨2 * (n - F2.length) + W2.length, by simp; omega, F2, W2, kvs2, _, _, rfl, rfl, s10, w10, g10, m10, hk10, hl10, hW2, Srch.of ev ?_⟩
        refine B2.skip fun x z hx e _ a _ => ?_
        rw [cI_len, List.take_length] at e
        exact absurd ((hrow z).mpr (e.1 ▸ a)) e.2
end
end Wp
namespace Wp
open PySem L2
/-! ### membership among corners -/
theorem inV_cI (x : Nat) : ∀ l : List Nat, inV (V.int (x : Int)) (cI l) = l.contains x
  | [] => rfl
  | k :: r => by
    have ih := inV_cI x r
    unfold inV at ih ⊢
    show (eqV (V.int (k : Int)) (V.int (x : Int)) || (cI r).any fun y => eqV y (V.int (x : Int))) = _
    rw [ih]
    have e1 : eqV (V.int (k : Int)) (V.int (x : Int)) = (k == x) := by
      show ((k : Int) == (x : Int)) = (k == x)
      rw [Bool.eq_iff_iff, beq_iff_eq, beq_iff_eq]
      omega
    have e2 : (k == x) = (x == k) := by
      rw [Bool.eq_iff_iff, beq_iff_eq, beq_iff_eq]
      exact ⟨fun e => e.symm, fun e => e.symm⟩
    rw [e1, e2, List.contains_cons]
def PartAt (H : Hp) (p : Addr) (cut side : List Nat) : Prop := ∃ c s : Addr, H p = some (.tup [.str "parts", .ref c, .ref s]) ∧ H c = some (.tup (cI cut)) ∧ H s = some (.tup (cI side))
theorem PartAt.same {H H' : Hp} {p : Addr} {cut side : List Nat} (h : PartAt H p cut side) (s : Same H H') : PartAt H' p cut side := by
  obtain ⟨c, d, h1, h2, h3⟩ := h
  exact ⟨c, d, s _ _ h1, s _ _ h2, s _ _ h3⟩
section
variable {P : Program} {w : World} {K : PySem.W.Frag} {mg : Str → Option Value} {base : Heap}
/-! ### two_sides -/
def spTwo : Sp := fun vs H Q _ => ∃ (p c : Addr) (n : Nat) (ts : List Tie) (rows : List (List Nat)) (cut : List Nat), vs = [.ref p, .ref c] ∧ NearAt H p rows ∧ RowsOk n ts rows ∧ WebOk n ts ∧ H c = some (.tup (cI cut)) ∧ CutOk n cut ∧
  ∀ H' q sd (more : List V), Same H H' → H' q = some (.lst (.ref sd :: more)) → H' sd = some (.tup (cI (sideOf n (Adj ts) cut))) → more.length ≤ 1 → (more ≠ [] ↔ Parts n (Adj ts) cut) → Q (.ref q) H'
theorem sc_two : FnScope ["near", "cut", "side", "corner"] ["near", "cut"] (defScope sTwoSides) := ⟨rfl, rfl, rfl, by decide +kernel, rfl, by decide +kernel, by decide +kernel⟩
theorem ok_two {f : Addr} {fd : FuncData} (F : Fun K "two_sides" "two_sides" sTwoSides f fd) (T : Txt mg) (c1 : Cal P w K mg base 1 "first_side" spFirst) : FnOk P w K mg base CX0 2 f fd ["near", "cut"] spTwo := by
  refine F.ok sc_two (fun vs H Q E h => ?_) (fun cdv A outer s H vs Q E hr h => ?_)
  · obtain ⟨p, c, n, ts, rows, cut, rfl, _⟩ := h
    rfl
  · obtain ⟨p, c, n, ts, rows, cut, rfl, hp, R, W, hc, C, k⟩ := h
    have hn20 := W.hi
    refine ⟨_, pss_cons (ps_set (i := 2) sc_two.nd rfl (Or.inr rfl) (pe_cal c1 hr (by decide) (by rfl) (pa_cons (pv 0) (pa_cons (pv 1) pa_nil))))
      (pss_cons (ps_if (PW.pt (pw_or (pt_cmpR (op_eqD hr.units) (pv 2) (pe_tup pa_nil) (nomark _))
          (pw_or1 (pt_cmpR op_eq (pe_op op_add (pe_callB call_len_seq (by rfl) T.len PySem.boot_len (pa_cons (pv 2) pa_nil)) (pe_callB call_len_seq (by rfl) T.len PySem.boot_len (pa_cons (pv 1) pa_nil))) (pe_callB call_len_seq (by rfl) T.len PySem.boot_len (pa_cons (pv 0) pa_nil)) (nomark _)))))
          (pss_one (ps_ret (pe_lst (pa_cons (pv 2) pa_nil)))) pss_nil)
      (pss_one (ps_ret (pe_lst (pa_cons (pv 2) (pa_cons (pe_callTy call_tuple_of (by rfl) T.tuple (by decide +kernel) (pa_cons
          (pe_lc (own := [("corner", 3)]) (g := gName 3) rfl sc_two.nd (pi_range1 rfl T.range (pa_cons (pe_callB call_len_seq (by rfl) T.len PySem.boot_len (pa_cons (pv 0) pa_nil)) pa_nil)) (blkOk_by (own := [("corner", 3)]) (N := ["near", "cut", "side", "corner"]) (sc := defScope sTwoSides) (by decide +kernel))
            (fun _ _ _ _ _ => pg_name (i := 3) sc_two.nd rfl (Or.inl rfl)) (fun _ _ _ _ _ => pts_one (PW.pt (pw_and (pt_cmpR (r := rIn K true) op_notIn_seq (pv 3) (pv 2) (by rfl)) (pw_and1 (pt_cmpR (r := rIn K true) op_notIn_seq (pv 3) (pv 1) (by rfl)))))) (fun _ _ _ _ _ => pv 3)) pa_nil)) pa_nil)))))), ?_⟩
    refine ⟨_, rfl, _, rfl, p, c, n, ts, rows, cut, rfl, hp, R, W, hc, C, fun H1 sd s1 hsd => ?_⟩
    have hiff := parts_iff (n := n) (A := Adj ts) (C := cut) (fun x y => Adj.symm) C.nd C.low
    generalize sideOf n (Adj ts) cut = side at hsd hiff k
    obtain ⟨bs, hp1, hbs⟩ := hp.same s1
    have hbl : bs.length = n := by rw [hbs.1, R.len]
    have hc1 := s1 _ _ hc
    refine ⟨_, rfl, Nat.zero_le _, fun e he => ?_⟩
    have s2 : Same H1 (upd H1 e (.tup [])) := same_new he
    have he2 : (upd H1 e (.tup [])) e = some (.tup []) := upd_same
    generalize (upd H1 e (.tup [])) = H2 at s2 he2 ⊢
    refine ⟨_, _, .tup (SqT.of (s2 _ _ hsd)) (dpAll_ints side), .tup (SqT.of he2) .nil, shaped_intsT side, rfl, _, rfl, ?_⟩
    rw [show PyData.eqv (.tuple (dI side)) (.tuple []) = PyData.eqvAll (dI side) [] from rfl, eqvAll_nil]
    by_cases h0 : side = []
    · rw [decide_eq_true h0]
      refine iteT ?_
      refine ⟨_, rfl, sl1, fun q hq => ?_⟩
      exact k _ q sd [] ((s1.trans s2).trans (same_new hq)) upd_same (by rw [upd_ne (ne_of_none (s2 _ _ hsd) hq)]; exact s2 _ _ hsd) (Nat.zero_le _) ⟨fun z => absurd rfl z, fun z => absurd h0 (hiff.mp z).1⟩
    · rw [decide_eq_false h0]
      refine iteF ?_
      refine ⟨_, rfl, sd, _, rfl, .inr (SqT.of (s2 _ _ hsd)), _, rfl, c, _, rfl, .inr (SqT.of (s2 _ _ hc1)), _, _, rfl, rfl, _, rfl, p, _, rfl, .inl (SqL.of (s2 _ _ hp1)), rfl, _, rfl, ?_⟩
      rw [cI_len, cI_len, List.length_map, hbl]
      by_cases h1 : side.length + cut.length = n
      · rw [decide_eq_true (show V.int ((side.length : Int) + (cut.length : Int)) = V.int (n : Int) by rw [show (side.length : Int) + (cut.length : Int) = (n : Int) by omega])]
        refine iteT ?_
        refine ⟨_, rfl, sl1, fun q hq => ?_⟩
        exact k _ q sd [] ((s1.trans s2).trans (same_new hq)) upd_same (by rw [upd_ne (ne_of_none (s2 _ _ hsd) hq)]; exact s2 _ _ hsd) (Nat.zero_le _) ⟨fun z => absurd rfl z, fun z => absurd h1 (hiff.mp z).2⟩
      · rw [decide_eq_false (show ¬ V.int ((side.length : Int) + (cut.length : Int)) = V.int (n : Int) from fun z => h1 (by injection z; omega))]
        refine iteF ?_
        refine ⟨_, rfl, _, rfl, p, _, rfl, .inl (SqL.of (s2 _ _ hp1)), ((bs.map V.ref).length : Int), rfl, by rw [List.length_map]; omega, by rw [List.length_map]; omega, fun D hD => ?_⟩
        refine lc_it (walk_range (lo := 0) (n := ((bs.map V.ref).length : Int).toNat)) (fun i H3 => Same H2 H3 ∧ ∃ l : List V, H3 D = some (.lst l) ∧ l.length ≤ i)
          ⟨same_new hD, [], upd_same, Nat.le_refl _⟩ (fun _ _ _ _ => trivial) ?_ ?_
        · rintro i y Hx H3 hi ⟨s3, l, d3, hl⟩ ⟨rfl, rfl⟩
          have z0 : 0 + (i : Int) = (i : Int) := by omega
          have hil : i ≤ 20 := by rw [List.length_map, hbl] at hi; omega
          have s32 := s2.trans s3
          refine ⟨rfl, _, rfl, _, rfl, sd, _, rfl, .inr (SqT.of (s32 _ _ hsd)), rfl, cI_flat side, _, rfl, ?_⟩
          refine ite2 (fun _ => ?_) (fun _ => ?_)
          · refine ⟨_, rfl, _, rfl, c, _, rfl, .inr (SqT.of (s32 _ _ hc1)), rfl, cI_flat cut, _, rfl, ?_⟩
            refine ite2 (fun _ => ?_) (fun _ => ?_)
            · exact ⟨_, rfl, l, d3, small1000 (by omega), Same.upd s3 hD, _, upd_same, by rw [List.length_append]; simp; omega⟩
            · exact ⟨s3, l, d3, by omega⟩
          · have key : Same H2 H3 ∧ ∃ l : List V, H3 D = some (.lst l) ∧ l.length ≤ i + 1 := ⟨s3, l, d3, by omega⟩
            exact key
        · rintro H3 ⟨s3, l, d3, hl⟩
          refine ⟨D, l, rfl, .inl ⟨SqL.of d3, fun t ht => ⟨small (by show 2 ≤ 1000; omega), fun q hq => ?_⟩⟩⟩
          have s4 : Same H2 (upd H3 t (.tup l)) := Same.new s3 ht
          have hsd4 := s4 _ _ (s2 _ _ hsd)
          exact k _ q sd [.ref t] ((s1.trans s2).trans (Same.new s4 hq)) upd_same (by rw [upd_ne (ne_of_none hsd4 hq)]; exact hsd4) (Nat.le_refl _) ⟨fun _ => hiff.mpr ⟨h0, h1⟩, fun _ => by simp⟩
/-! ### found_parting -/
def spFound : Sp := fun vs H Q _ => ∃ (a : Addr) (n : Nat) (ts : List Tie), vs = [.ref a] ∧ WebAt H a n ts ∧ WebOk n ts ∧ (∀ H', Same H H' → firstCut n (Adj ts) = none → Q .non H') ∧
  ∀ H' p cut, Same H H' → firstCut n (Adj ts) = some cut → PartAt H' p cut (sideOf n (Adj ts) cut) → Q (.ref p) H'
theorem sc_found : FnScope ["web", "near", "cut", "parts"] ["web"] (defScope sFound) := ⟨rfl, rfl, rfl, by decide +kernel, rfl, by decide +kernel, by decide +kernel⟩
theorem ok_found {f : Addr} {fd : FuncData} (F : Fun K "found_parting" "found_parting" sFound f fd) (T : Txt mg) (c1 : Cal P w K mg base 1 "neighbours_of" spNear) (c2 : Cal P w K mg base 1 "cuts_of" spCuts) (c3 : Cal P w K mg base 2 "two_sides" spTwo) : FnOk P w K mg base CX0 3 f fd ["web"] spFound := by
  refine F.ok sc_found (fun vs H Q E h => ?_) (fun cdv A outer s H vs Q E hr h => ?_)
  · obtain ⟨a, n, ts, rfl, _⟩ := h
    rfl
  · obtain ⟨a, n, ts, rfl, hw, W, k0, k1⟩ := h
    have hn20 := W.hi
    refine ⟨_, pss_cons (ps_set (i := 1) sc_found.nd rfl (Or.inl rfl) (pe_cal c1 hr (by decide) (by rfl) (pa_cons (pv 0) pa_nil)))
      (pss_cons (ps_for PassesOwn.never rfl (pi_list (pe_cal c2 hr (by decide) (by rfl) (pa_cons (pe_ix ix_tup (pv 0) pe_int (fun _ _ => rfl)) pa_nil))) (pg_name (i := 2) sc_found.nd rfl (Or.inl rfl))
        (pss_cons (ps_set (i := 3) sc_found.nd rfl (Or.inl rfl) (pe_cal c3 hr (by decide) (by rfl) (pa_cons (pv 1) (pa_cons (pv 2) pa_nil))))
        (pss_one (ps_if (pt_cmpR op_gt (pe_callB call_len_seq (by rfl) T.len PySem.boot_len (pa_cons (pv 3) pa_nil)) pe_int (nomark _)) (pss_one (ps_ret (pe_tup (pa_cons pe_str (pa_cons (pv 2) (pa_cons (pe_ix ix_list (pv 3) pe_int (fun _ _ => rfl)) pa_nil)))))) pss_nil))))
      (pss_one (ps_ret pe_non))), ?_⟩
    refine ⟨_, rfl, a, n, ts, rfl, hw, W, fun H1 p rows s1 hp R => ?_⟩
    obtain ⟨t, ha, ht⟩ := hw.same s1
    refine ⟨_, rfl, a, _, 1, .int (n : Int), rfl, rfl, SqT.of ha, rfl, n, rfl, W.hi, fun H2 L s2 hL => ?_⟩
    obtain ⟨as, hL, hall⟩ := hL
    refine ⟨L, rfl, ⟨_, SqL.of hL⟩, ?_⟩
    refine for_it (walk_list (K := K) (a := L) (xs := as.map V.ref)) (fun i σ H3 => Same H2 H3 ∧ (∀ (j : Nat) d, j < i → (cutsOf n)[j]? = some d → ¬ Parts n (Adj ts) d) ∧ ∃ v2 v3, σ = [some (.ref a), some (.ref p), v2, v3])
      ⟨Same.refl _, fun j d hj => absurd hj (Nat.not_lt_zero _), none, none, rfl⟩ (fun i σ H3 _ q => SqL.of (q.1 _ _ hL)) ?_ ?_
    · rintro i y σ Hx H3 hi ⟨s3, hno, v2, v3, rfl⟩ ⟨rfl, hy⟩
      obtain ⟨c, hc, rfl⟩ := map_get hy
      obtain ⟨cut, hcut, hcc⟩ := hall.getL hc
      have C := cuts_ok (List.mem_of_getElem? hcut)
      refine ⟨_, rfl, _, rfl, p, c, n, ts, rows, cut, rfl, (hp.same s2).same s3, R, W, s3 _ _ hcc, C, fun H4 q sd more s4 hq hsd hm hiff => ?_⟩
      refine ⟨_, rfl, q, _, rfl, .inl (SqL.of hq), _, _, rfl, rfl, _, rfl, ?_⟩
      by_cases hP : Parts n (Adj ts) cut
      · have hne := hiff.mpr hP
        have hlen : 0 < more.length := List.length_pos_iff.mpr hne
        rw [decide_eq_true (show (1 : Int) < ((V.ref sd :: more).length : Int) by rw [List.length_cons]; omega)]
        refine iteT ?_
        refine ⟨_, rfl, _, rfl, q, _, 0, .ref sd, rfl, rfl, SqL.of hq, atI_nat (j := 0) rfl, small (by show 3 ≤ 1000; omega), fun r hr => ?_⟩
        have e := firstCut_at hcut hno hP
        have hcc4 := s4 _ _ (s3 _ _ hcc)
        exact k1 _ r cut (((s1.trans s2).trans s3).trans (Same.new s4 hr)) e ⟨c, sd, upd_same, by rw [upd_ne (ne_of_none hcc4 hr)]; exact hcc4, by rw [upd_ne (ne_of_none hsd hr)]; exact hsd⟩
      · have hem : more = [] := Classical.byContradiction fun z => hP (hiff.mp z)
        subst hem
        rw [decide_eq_false (show ¬ (1 : Int) < (([V.ref sd] : List V).length : Int) by simp)]
        refine iteF ?_
        refine ⟨s3.trans s4, fun j d hj hd => ?_, _, _, rfl⟩
        by_cases e : j = i
        · subst e
          rw [hcut] at hd
          cases hd
          exact hP
        · exact hno j d (by omega) hd
    · rintro σ H3 ⟨s3, hno, v2, v3, rfl⟩
      refine k0 H3 ((s1.trans s2).trans s3) (firstCut_all fun j d hd => hno j d ?_ hd)
      have := get_lt hd
      rw [List.length_map, hall.1]
      exact this
end
end Wp
namespace Wp
open PySem L2
/-! ### what a told parting keeps -/
structure PartOk (n : Nat) (ts : List Tie) (cut side : List Nat) : Prop where
  cok : CutOk n cut
  rise : side.Pairwise (· < ·)
  low : ∀ x ∈ side, x < n
  ne : side ≠ []
  apart : ∀ x ∈ side, x ∉ cut
  beyond : cut.length + side.length ≠ n
  shut : ∀ x ∈ side, ∀ y, Adj ts x y → y ∈ side ∨ y ∈ cut
theorem PartOk.few {n : Nat} {ts : List Tie} {cut side : List Nat} (h : PartOk n ts cut side) : side.length ≤ n := by
  have := List.Nodup.length_le_of_subset (rising_nodup h.rise) (l₂ := List.range n) fun y hy => List.mem_range.mpr (h.low y hy)
  simpa using this
theorem partOk_of {n : Nat} {ts : List Tie} {cut : List Nat} (W : WebOk n ts) (h : firstCut n (Adj ts) = some cut) : PartOk n ts cut (sideOf n (Adj ts) cut) := by
  obtain ⟨hc, hp⟩ := firstCut_some h
  have C := cuts_ok hc
  obtain ⟨h1, h2⟩ := (parts_iff (A := Adj ts) (fun x y => Adj.symm) C.nd C.low).mp hp
  refine ⟨C, sideOf_rising, fun x hx => (sideOf_ok x hx).1, h1, fun x hx => (sideOf_ok x hx).2, by omega, fun x hx y a => ?_⟩
  by_cases hy : y ∈ cut
  · exact .inr hy
  · exact .inl (sideOf_shut x y hx a ⟨(W.adj a).2.1, hy⟩)
/-- the least size of a cut as it is told -/
def dueV : Option (List Nat) → V
  | none => .non
  | some c => .int (c.length : Int)
/-! ### a list walked, an item read: the written part told apart from the block -/
theorem pi_listK {X : Cx} {K : PySem.W.Frag} {tg l : Expr} {tl : TE} (hK : X.K = K) (h : PE X l tl) : PI X tg l (iList K tl) := by
  subst hK
  exact pi_list h
theorem pi_tupK {X : Cx} {K : PySem.W.Frag} {tg l : Expr} {tl : TE} (hK : X.K = K) (h : PE X l tl) : PI X tg l (iTup K tl) := by
  subst hK
  exact pi_tup h
/-- an item read behind a change of heaps -/
theorem seqT_same {K : PySem.W.Frag} {H H' : Hp} {a : Addr} {xs : List V} (e : Same H H') (h : SqT K H a xs) : SqT K H' a xs := by
  rcases h with (h | ⟨o, h⟩) | h
  · exact .inl (.inl (e _ _ h))
  · exact .inl (.inr ⟨o, e _ _ h⟩)
  · exact .inr h
section
variable {P : Program} {w : World} {K : PySem.W.Frag} {mg : Str → Option Value} {base : Heap}
/-! ### is_three_joined_web -/
def spThreeWeb : Sp := fun vs H Q _ => ∃ (a : Addr) (n : Nat) (ts : List Tie), vs = [.ref a] ∧ WebAt H a n ts ∧ WebOk n ts ∧ ∀ H' b, Same H H' → (b = true ↔ Three n (Adj ts)) → Q (.bl b) H'
theorem sc_threeWeb : FnScope ["web"] ["web"] (defScope sIsThreeWeb) := ⟨rfl, rfl, rfl, by decide +kernel, rfl, by decide +kernel, by decide +kernel⟩
theorem ok_threeWeb {f : Addr} {fd : FuncData} (F : Fun K "is_three_joined_web" "is_three_joined_web" sIsThreeWeb f fd) (T : Txt mg) (c1 : Cal P w K mg base 3 "found_parting" spFound) : FnOk P w K mg base CX0 4 f fd ["web"] spThreeWeb := by
  refine F.ok sc_threeWeb (fun vs H Q E h => ?_) (fun cdv A outer s H vs Q E hr h => ?_)
  · obtain ⟨a, n, ts, rfl, _⟩ := h
    rfl
  · obtain ⟨a, n, ts, rfl, hw, W, k⟩ := h
    obtain ⟨tk, hlc⟩ := T.cLC
    refine ⟨_, pss_one (ps_ret (pe_and (pe_cmp (pc_ge (pe_ix ix_tup (pv 0) pe_int (fun _ _ => rfl)) (pe_glob (v := .int 4) rfl hlc ⟨_, rfl⟩)) rfl) (pe_one (pe_cmp (pc_isN (pe_cal c1 hr (by decide) (by rfl) (pa_cons (pv 0) pa_nil))) rfl)))), ?_⟩
    obtain ⟨t, ha, ht⟩ := id hw
    refine ⟨_, rfl, a, _, 1, .int (n : Int), rfl, rfl, SqT.of ha, rfl, _, _, rfl, rfl, decide ((4 : Int) ≤ (n : Int)), rfl, ?_⟩
    by_cases h4 : (4 : Int) ≤ (n : Int)
    · rw [decide_eq_true h4]
      refine iteT ?_
      refine ⟨_, rfl, a, n, ts, rfl, hw, W, fun H1 s1 e => ?_, fun H1 p cut s1 e hp => ?_⟩
      · exact k H1 _ s1 ⟨fun _ => three_iff.mpr ⟨by omega, e⟩, fun _ => rfl⟩
      · refine k H1 _ s1 ⟨fun z => (Bool.false_ne_true z).elim, fun z => ?_⟩
        rw [(three_iff.mp z).2] at e
        cases e
    · rw [decide_eq_false h4]
      refine iteF ?_
      exact k H _ (Same.refl H) ⟨fun z => (Bool.false_ne_true z).elim, fun z => absurd z.1 (by omega)⟩
/-! ### are_rising_corners -/
def spRising : Sp := fun vs H Q _ => ∃ (a v : Addr) (n : Nat) (ts : List Tie) (l : List Nat), vs = [.ref a, .ref v] ∧ WebAt H a n ts ∧ H v = some (.tup (cI l)) ∧ l.Pairwise (· < ·) ∧ (∀ x ∈ l, x < n) ∧ l.length ≤ 100 ∧ ∀ H', Same H H' → Q (.bl true) H'
theorem sc_rising : FnScope ["web", "value", "one", "other"] ["web", "value"] (defScope sRising) := ⟨rfl, rfl, rfl, by decide +kernel, rfl, by decide +kernel, by decide +kernel⟩
theorem ok_rising {f : Addr} {fd : FuncData} (F : Fun K "are_rising_corners" "are_rising_corners" sRising f fd) (T : Txt mg) : FnOk P w K mg base CX0 1 f fd ["web", "value"] spRising := by
  refine F.ok sc_rising (fun vs H Q E h => ?_) (fun cdv A outer s H vs Q E hr h => ?_)
  · obtain ⟨a, v, n, ts, l, rfl, _⟩ := h
    rfl
  · obtain ⟨a, v, n, ts, l, rfl, ⟨t, ha, ht⟩, hv, hrise, hlow, hlen, k⟩ := h
    refine ⟨_, pss_cons (ps_if (pt_not (pt_val (pe_callB call_isi (by rfl) T.isinst (by decide +kernel) (pa_cons (pv 1) (pa_cons (pe_bltn (by rfl) T.tuple (by decide +kernel) (v := .ty "tuple") rfl) pa_nil))))) (pss_one (ps_ret pe_bl)) pss_nil)
      (pss_cons (ps_for PassesOwn.never rfl (pi_tup (pv 1)) (pg_name (i := 2) sc_rising.nd rfl (Or.inl rfl))
        (pss_one (ps_if (PW.pt (pw_or (pt_not (pt_val (pe_callB call_isi (by rfl) T.isinst (by decide +kernel) (pa_cons (pv 2) (pa_cons (pe_bltn (by rfl) T.int (by decide +kernel) (v := .ty "int") rfl) pa_nil)))))
          (pw_or (pt_val (pe_callB call_isi (by rfl) T.isinst (by decide +kernel) (pa_cons (pv 2) (pa_cons (pe_bltn (by rfl) T.bool (by decide +kernel) (v := .ty "bool") rfl) pa_nil))))
          (pw_or1 (pt_not (pt_chain op_le op_lt pe_int (pv 2) (pe_ix ix_tup (pv 0) pe_int (fun _ _ => rfl)))))))) (pss_one (ps_ret pe_bl)) pss_nil)))
      (pss_one (ps_ret (pe_callB (cr_all rfl) (by rfl) T.all (by decide +kernel) (pa_cons
          (pe_lc (own := [("one", 2), ("other", 3)]) (g := gTup K 2 (gCons (gName 2) (gCons (gName 3) gNil))) (tt := tYes) rfl sc_rising.nd
            (RZ.pi_zipA (by rfl) T.zip (pa_cons (pv 1) (pa_cons (pe_slice sl_tupA (pv 1) (po_some pe_int) po_none) pa_nil)))
            (blkOk_by (own := [("one", 2), ("other", 3)]) (N := ["web", "value", "one", "other"]) (sc := defScope sRising) (by decide +kernel))
            (fun _ _ _ _ _ => pg_tup (by rfl) (pgs_cons (pg_name (i := 2) sc_rising.nd rfl (Or.inl rfl)) (pgs_cons (pg_name (i := 3) sc_rising.nd rfl (Or.inl rfl)) pgs_nil))) (fun _ _ _ _ _ => pts_nil)
            (fun _ _ _ _ _ => pe_cmpR op_lt (pv 2) (pv 3) (nomark _))) pa_nil))))), ?_⟩
    refine ⟨_, rfl, .ref v, .ty "tuple", _, _, true, rfl, .ty _, .base (.tup hv), kit_ty (by decide +kernel), true, rfl, iteF ?_⟩
    refine ⟨_, rfl, v, rfl, ⟨_, SqT.of hv⟩, ?_⟩
    refine for_it (walk_tup (K := K) (a := v) (xs := cI l)) (fun i σ H1 => Same H H1 ∧ ∃ v2, σ = [some (.ref a), some (.ref v), v2, none]) ⟨Same.refl H, none, rfl⟩ (fun i σ H1 _ q => SqT.of (q.1 _ _ hv)) ?_ ?_
    · rintro i y σ Hx H1 hi ⟨s1, v2, rfl⟩ ⟨rfl, hy⟩
      obtain ⟨c, hc, rfl⟩ := cI_get hy
      have hcn := hlow c (List.mem_of_getElem? hc)
      refine ⟨_, rfl, .int (c : Int), .ty "int", _, _, true, rfl, .ty _, .base (.int _), kit_ty (by decide +kernel), true, rfl, iteF ?_⟩
      refine ⟨_, rfl, .int (c : Int), .ty "bool", _, _, false, rfl, .ty _, .base (.int _), kit_ty (by decide +kernel), false, rfl, iteF ?_⟩
      refine ⟨_, rfl, _, _, rfl, rfl, decide ((0 : Int) ≤ (c : Int)), rfl, ?_⟩
      rw [decide_eq_true (show (0 : Int) ≤ (c : Int) by omega)]
      refine iteT ?_
      refine ⟨_, rfl, a, _, 1, .int (n : Int), rfl, rfl, SqT.of (s1 _ _ ha), rfl, _, _, rfl, rfl, decide ((c : Int) < (n : Int)), rfl, ?_⟩
      rw [decide_eq_true (show (c : Int) < (n : Int) by omega)]
      exact iteF ⟨s1, _, rfl⟩
    · rintro σ H1 ⟨s1, v2, rfl⟩
      have hv1 := s1 _ _ hv
      refine ⟨_, rfl, _, rfl, 1, rfl, ?_⟩
      refine sl_tailR (SqT.of hv1) fun b H3 s3 hb => ?_
      have hv3 := s3 _ _ hv1
      refine ⟨v, b, _, _, rfl, .inr ⟨SqT.of hv3, hb, fun D hD => ?_⟩⟩
      refine lc_it (walk_zipT (K := K) (a := v) (b := b) (xs := cI l) (ys := (cI l).tail) rfl) (fun i H4 => Same H3 H4 ∧ H4 D = some (.lst (List.replicate i (V.bl true))))
        ⟨same_new hD, upd_same⟩ (fun i H4 _ q => ⟨SqT.of (q.1 _ _ hv3), seqT_same q.1 hb⟩) ?_ ?_
      · rintro i y H4 H5 hi ⟨s4, d4⟩ ⟨T1, x, z, rfl, hT, rfl, hx, hz⟩
        obtain ⟨c1, hc1, rfl⟩ := cI_get hx
        obtain ⟨c2, hc2, rfl⟩ := cI_get (tail_get.symm.trans hz)
        have hlt := pw_next hrise hc1 hc2
        refine ⟨T1, _, rfl, SqT.of upd_same, rfl, _, _, rfl, _, _, rfl, rfl, rfl, _, rfl, _, rfl, _, _, rfl, rfl, ?_⟩
        have nd : D ≠ T1 := ne_of_none d4 hT
        refine ⟨_, by rw [upd_ne nd]; exact d4, ?_, Same.upd (Same.new s4 hT) hD, ?_⟩
        · rw [List.length_replicate]
          exact Nat.lt_of_lt_of_le hi (Nat.le_trans (Nat.min_le_left _ _) (small (by rw [cI_len]; omega)))
        · rw [upd_same, List.replicate_succ']
          show some (HO.lst (_ ++ [V.bl (decide ((c1 : Int) < (c2 : Int)))])) = _
          rw [decide_eq_true (show (c1 : Int) < (c2 : Int) by omega)]
      · rintro H4 ⟨s4, d4⟩
        generalize min (cI l).length (cI l).tail.length = m at d4
        refine ⟨D, List.replicate m true, rfl, SqL.of (by rw [d4, List.map_replicate]), ?_⟩
        have hall : (List.replicate m true).all id = true := by simp
        rw [hall]
        exact k H4 ((s1.trans s3).trans s4)
end
end Wp
namespace Wp
open PySem L2
section
variable {P : Program} {w : World} {K : PySem.W.Frag} {mg : Str → Option Value} {base : Heap}
/-! ### is_parting_of -/
def spPartingOf : Sp := fun vs H Q _ => ∃ (a p : Addr) (n : Nat) (ts : List Tie) (cut side : List Nat), vs = [.ref a, .ref p] ∧ WebAt H a n ts ∧ WebOk n ts ∧ PartAt H p cut side ∧ PartOk n ts cut side ∧ ∀ H', Same H H' → Q (.bl true) H'
abbrev N_po : List Str := ["web", "value", "cut", "side", "rows", "one", "other"]
theorem sc_po : FnScope N_po ["web", "value"] (defScope sPartingOf) := ⟨rfl, rfl, rfl, by decide +kernel, rfl, by decide +kernel, by decide +kernel⟩
theorem ok_po {f : Addr} {fd : FuncData} (F : Fun K "is_parting_of" "is_parting_of" sPartingOf f fd) (T : Txt mg) (c1 : Cal P w K mg base 1 "are_rising_corners" spRising) (c2 : Cal P w K mg base 1 "neighbours_of" spNear) : FnOk P w K mg base CX0 2 f fd ["web", "value"] spPartingOf := by
  refine F.ok sc_po (fun vs H Q E h => ?_) (fun cdv A outer s H vs Q E hr h => ?_)
  · obtain ⟨a, p, n, ts, cut, side, rfl, _⟩ := h
    rfl
  · obtain ⟨a, p, n, ts, cut, side, rfl, hw, W, ⟨c, sd, hp, hc, hs⟩, R, k⟩ := h
    obtain ⟨tk, hmc⟩ := T.cMCut
    have hn20 := W.hi
    refine ⟨_, pss_cons (ps_if (PW.pt (pw_or (pt_not (pt_val (pe_callB call_isi (by rfl) T.isinst (by decide +kernel) (pa_cons (pv 1) (pa_cons (pe_bltn (by rfl) T.tuple (by decide +kernel) (v := .ty "tuple") rfl) pa_nil)))))
        (pw_or (pt_cmpR op_ne (pe_callB call_len_seq (by rfl) T.len PySem.boot_len (pa_cons (pv 1) pa_nil)) pe_int (nomark _))
        (pw_or (pt_not (pt_val (pe_callB call_isi (by rfl) T.isinst (by decide +kernel) (pa_cons (pe_ix ix_tup (pv 1) pe_int (fun _ _ => rfl)) (pa_cons (pe_bltn (by rfl) T.str (by decide +kernel) (v := .ty "str") rfl) pa_nil)))))
        (pw_or1 (pt_cmpR op_ne (pe_ix ix_tup (pv 1) pe_int (fun _ _ => rfl)) pe_str (nomark _))))))) (pss_one (ps_ret pe_bl)) pss_nil)
      (pss_cons (ps_asg (pe_slice sl_tupA (pv 1) (po_some pe_int) po_none) (pg_tup (by rfl) (pgs_cons (pg_name (i := 2) sc_po.nd rfl (Or.inr rfl)) (pgs_cons (pg_name (i := 3) sc_po.nd rfl (Or.inr rfl)) pgs_nil))))
      (pss_cons (ps_if (PW.pt (pw_or (pt_not (pt_val (pe_cal c1 hr (by decide) (by rfl) (pa_cons (pv 0) (pa_cons (pv 2) pa_nil)))))
        (pw_or (pt_not (pt_val (pe_cal c1 hr (by decide) (by rfl) (pa_cons (pv 0) (pa_cons (pv 3) pa_nil)))))
        (pw_or1 (pt_cmpR op_gt (pe_callB call_len_seq (by rfl) T.len PySem.boot_len (pa_cons (pv 2) pa_nil)) (pe_glob (v := .int 2) rfl hmc ⟨_, rfl⟩) (nomark _)))))) (pss_one (ps_ret pe_bl)) pss_nil)
      (pss_cons (ps_if (PW.pt (pw_or (pt_cmpR (op_eqD hr.units) (pv 3) (pe_tup pa_nil) (nomark _))
        (pw_or (pt_val (pe_callB (cr_any rfl) (by rfl) T.any (by decide +kernel) (pa_cons
          (pe_lc (own := [("one", 5)]) (g := gName 5) (tt := tYes) rfl sc_po.nd (pi_tup (pv 3)) (blkOk_by (own := [("one", 5)]) (N := N_po) (sc := defScope sPartingOf) (by decide +kernel))
            (fun _ _ _ _ _ => pg_name (i := 5) sc_po.nd rfl (Or.inl rfl)) (fun _ _ _ _ _ => pts_nil) (fun _ _ _ _ _ => pe_cmpR (r := rIn K false) op_in_seq (pv 5) (pv 2) (by rfl))) pa_nil)))
        (pw_or1 (pt_cmpR op_eq (pe_op op_add (pe_callB call_len_seq (by rfl) T.len PySem.boot_len (pa_cons (pv 2) pa_nil)) (pe_callB call_len_seq (by rfl) T.len PySem.boot_len (pa_cons (pv 3) pa_nil))) (pe_ix ix_tup (pv 0) pe_int (fun _ _ => rfl)) (nomark _)))))) (pss_one (ps_ret pe_bl)) pss_nil)
      (pss_cons (ps_set (i := 4) sc_po.nd rfl (Or.inr rfl) (pe_cal c2 hr (by decide) (by rfl) (pa_cons (pv 0) pa_nil)))
      (pss_one (ps_ret (pe_callB (cr_all rfl) (by rfl) T.all (by decide +kernel) (pa_cons
          (pe_lc (own := [("one", 5)]) (g := gName 5) (tt := tYes) rfl sc_po.nd (pi_tup (pv 3)) (blkOk_by (own := [("one", 5)]) (N := N_po) (sc := defScope sPartingOf) (by decide +kernel))
            (fun _ _ _ _ _ => pg_name (i := 5) sc_po.nd rfl (Or.inl rfl)) (fun _ _ _ _ _ => pts_nil)
            (fun _ _ _ _ _ => pe_callB (r := rAll K) (id := "all") (cr_all rfl) (by rfl) T.all (by decide +kernel) (pa_cons
              (pe_lc (own := [("other", 6)]) (g := gName 6) (tt := tYes) rfl sc_po.nd (pi_listK (K := K) rfl (pe_ix (r := rIxL K) ix_list (pv 4) (pv 5) (fun _ _ => rfl))) (blkOk_by (own := [("other", 6)]) (N := N_po) (by kernel_rfl))
                (fun _ _ _ _ _ => pg_name (i := 6) sc_po.nd rfl (Or.inl rfl)) (fun _ _ _ _ _ => pts_nil)
                (fun _ _ _ _ _ => pe_or (pe_cmpR (r := rIn K false) op_in_seq (pv 6) (pv 3) (by rfl)) (pe_one (pe_cmpR (r := rIn K false) op_in_seq (pv 6) (pv 2) (by rfl))))) pa_nil))) pa_nil)))))))), ?_⟩
    -- the form
    refine ⟨_, rfl, .ref p, .ty "tuple", _, _, true, rfl, .ty _, .base (.tup hp), kit_ty (by decide +kernel), true, rfl, iteF ?_⟩
    refine ⟨_, rfl, p, _, rfl, .inr (SqT.of hp), rfl, _, rfl, iteF ?_⟩
    refine ⟨_, rfl, p, _, 0, .str "parts", rfl, rfl, SqT.of hp, rfl, .str "parts", .ty "str", _, _, true, rfl, .ty _, .base (.str _), kit_ty (by decide +kernel), true, rfl, iteF ?_⟩
    refine ⟨_, rfl, p, _, 0, .str "parts", rfl, rfl, SqT.of hp, rfl, rfl, _, rfl, ?_⟩
    refine iteNS rfl ?_
    -- cut, side
    refine ⟨_, rfl, 1, rfl, ?_⟩
    refine sl_tailR (SqT.of hp) fun b H1 s1 hb => ?_
    refine ⟨b, _, rfl, hb, rfl, _, _, rfl, _, _, rfl, rfl, ?_⟩
    have hw1 := hw.same s1
    obtain ⟨t, ha1, ht1⟩ := id hw1
    refine ⟨_, rfl, _, rfl, a, c, n, ts, cut, rfl, hw1, s1 _ _ hc, R.cok.rising, R.cok.low, by have := R.cok.small; omega, fun H2 s2 => ⟨true, rfl, iteF ?_⟩⟩
    refine ⟨_, rfl, _, rfl, a, sd, n, ts, side, rfl, hw1.same s2, s2 _ _ (s1 _ _ hs), R.rise, R.low, by have := R.few; omega, fun H3 s3 => ⟨true, rfl, iteF ?_⟩⟩
    have s13 := (s1.trans s2).trans s3
    have hc3 := s13 _ _ hc
    have hs3 := s13 _ _ hs
    have ha3 := s3 _ _ (s2 _ _ ha1)
    refine ⟨_, rfl, c, _, rfl, .inr (SqT.of hc3), _, _, rfl, rfl, decide ((2 : Int) < ((cI cut).length : Int)), rfl, ?_⟩
    rw [decide_eq_false (show ¬ (2 : Int) < ((cI cut).length : Int) by rw [cI_len]; have := R.cok.small; omega)]
    refine iteF ?_
    -- side == () ..
    refine ⟨_, rfl, Nat.zero_le _, fun e he => ?_⟩
    have s4 : Same H3 (upd H3 e (.tup [])) := same_new he
    have he4 : (upd H3 e (.tup [])) e = some (.tup []) := upd_same
    generalize (upd H3 e (.tup [])) = H4 at s4 he4 ⊢
    refine ⟨_, _, .tup (SqT.of (s4 _ _ hs3)) (dpAll_ints side), .tup (SqT.of he4) .nil, shaped_intsT side, rfl, _, rfl, ?_⟩
    rw [show PyData.eqv (.tuple (dI side)) (.tuple []) = PyData.eqvAll (dI side) [] from rfl, eqvAll_nil, decide_eq_false R.ne]
    refine iteF ?_
    refine ⟨_, rfl, sd, rfl, ⟨_, SqT.of (s4 _ _ hs3)⟩, fun D hD => ?_⟩
    refine lc_it (walk_tup (K := K) (a := sd) (xs := cI side)) (fun i H5 => Same H4 H5 ∧ H5 D = some (.lst (List.replicate i (V.bl false)))) ⟨same_new hD, upd_same⟩ (fun i H5 _ q => SqT.of (q.1 _ _ (s4 _ _ hs3))) ?_ ?_
    · rintro i y Hx H5 hi ⟨s5, d5⟩ ⟨rfl, hy⟩
      obtain ⟨x, hx, rfl⟩ := cI_get hy
      have hno := R.apart x (List.mem_of_getElem? hx)
      refine ⟨rfl, _, rfl, _, rfl, c, _, rfl, .inr (SqT.of (s5 _ _ (s4 _ _ hc3))), rfl, cI_flat cut, ?_⟩
      refine ⟨_, d5, ?_, Same.upd s5 hD, ?_⟩
      · rw [List.length_replicate]
        exact Nat.lt_of_lt_of_le hi (small (by rw [cI_len]; have := R.few; omega))
      · rw [upd_same, List.replicate_succ']
        show some (HO.lst (_ ++ [V.bl (inV (V.int (x : Int)) (cI cut))])) = _
        rw [inV_cI]
        have : cut.contains x = false := by simp [hno]
        rw [this]
    rintro H5 ⟨s5, d5⟩
    have s35 := s4.trans s5
    refine ⟨D, List.replicate (cI side).length false, rfl, SqL.of (by rw [d5, List.map_replicate]), ?_⟩
    rw [show (List.replicate (cI side).length false).any id = false by simp]
    refine ⟨false, rfl, iteF ?_⟩
    refine ⟨_, rfl, c, _, rfl, .inr (SqT.of (s35 _ _ hc3)), _, rfl, sd, _, rfl, .inr (SqT.of (s35 _ _ hs3)), _, _, rfl, rfl, _, rfl, a, _, 1, .int (n : Int), rfl, rfl, SqT.of (s35 _ _ ha3), rfl, rfl, _, rfl, ?_⟩
    rw [cI_len, cI_len]
    rw [decide_eq_false (show ¬ V.int ((cut.length : Int) + (side.length : Int)) = V.int (n : Int) from fun z => R.beyond (by injection z; omega))]
    refine iteF ?_
    -- rows
    have hw5 : WebAt H5 a n ts := (hw1.same s2).same s3 |>.same s35
    refine ⟨_, rfl, a, n, ts, rfl, hw5, W, fun H6 r rows s6 hr6 RO => ?_⟩
    obtain ⟨bs, hrows, hbs⟩ := id hr6
    have hs6 := s6 _ _ (s35 _ _ hs3)
    have hc6 := s6 _ _ (s35 _ _ hc3)
    refine ⟨_, rfl, sd, rfl, ⟨_, SqT.of hs6⟩, fun D2 hD2 => ?_⟩
    refine lc_it (walk_tup (K := K) (a := sd) (xs := cI side)) (fun i H7 => Same H6 H7 ∧ H7 D2 = some (.lst (List.replicate i (V.bl true)))) ⟨same_new hD2, upd_same⟩ (fun i H7 _ q => SqT.of (q.1 _ _ hs6)) ?_ ?_
    · rintro i y Hx H7 hi ⟨s7, d7⟩ ⟨rfl, hy⟩
      obtain ⟨x, hx, rfl⟩ := cI_get hy
      have hxs := List.mem_of_getElem? hx
      have hxn := R.low x hxs
      have hxr : x < rows.length := by rw [RO.len]; exact hxn
      obtain ⟨b0, eb0, hb0⟩ := hbs.getR (List.getElem?_eq_getElem hxr)
      have hmem := RO.mem x _ (List.getElem?_eq_getElem hxr)
      have hfew := RO.few x _ (List.getElem?_eq_getElem hxr)
      generalize rows[x] = row at hb0 hmem hfew
      refine ⟨rfl, _, rfl, _, rfl, r, _, (x : Int), .ref b0, rfl, rfl, SqL.of (s7 _ _ hrows), atI_nat (by rw [List.getElem?_map, eb0]; rfl), b0, rfl, ⟨_, SqL.of (s7 _ _ hb0)⟩, fun D3 hD3 => ?_⟩
      refine lc_it (walk_list (K := K) (a := b0) (xs := cI row)) (fun j H8 => Same H7 H8 ∧ H8 D3 = some (.lst (List.replicate j (V.bl true)))) ⟨same_new hD3, upd_same⟩ (fun j H8 _ q => SqL.of (q.1 _ _ (s7 _ _ hb0))) ?_ ?_
      · rintro j y Hx H8 hj ⟨s8, d8⟩ ⟨rfl, hy⟩
        obtain ⟨z, hz, rfl⟩ := cI_get hy
        have hzz := R.shut x hxs z ((hmem z).mp (List.mem_of_getElem? hz))
        have s68 := s7.trans s8
        have hsz : ∀ b : Bool, b = true → ∃ acc, H8 D3 = some (.lst acc) ∧ acc.length < sizeLine ∧ Same H7 (upd H8 D3 (.lst (acc ++ [V.bl b]))) ∧ (upd H8 D3 (.lst (acc ++ [V.bl b]))) D3 = some (.lst (List.replicate (j + 1) (V.bl true))) := by
          rintro b rfl
          refine ⟨_, d8, ?_, Same.upd s8 hD3, ?_⟩
          · rw [List.length_replicate]
            exact Nat.lt_of_lt_of_le hj (small (by rw [cI_len]; omega))
          · rw [upd_same, List.replicate_succ']
        refine ⟨rfl, _, rfl, _, rfl, sd, _, rfl, .inr (SqT.of (s68 _ _ hs6)), rfl, cI_flat side, _, rfl, ?_⟩
        refine ite2 (fun h1 => hsz true rfl) (fun h1 => ?_)
        refine ⟨_, rfl, _, rfl, c, _, rfl, .inr (SqT.of (s68 _ _ hc6)), rfl, cI_flat cut, ?_⟩
        refine hsz (inV (V.int (z : Int)) (cI cut)) ?_
        rw [inV_cI]
        have h1' : ¬ inV (V.int (z : Int)) (cI side) = true := h1
        rw [inV_cI] at h1'
        rcases hzz with h | h
        · exact absurd (by simpa using h) h1'
        · simpa using h
      · rintro H8 ⟨s8, d8⟩
        refine ⟨D3, List.replicate (cI row).length true, rfl, SqL.of (by rw [d8, List.map_replicate]), ?_⟩
        refine ⟨_, s8 _ _ d7, ?_, Same.upd (s7.trans s8) hD2, ?_⟩
        · rw [List.length_replicate]
          exact Nat.lt_of_lt_of_le hi (small (by rw [cI_len]; have := R.few; omega))
        · rw [upd_same, List.replicate_succ', show (List.replicate (cI row).length true).all id = true by simp]
    · rintro H7 ⟨s7, d7⟩
      refine ⟨D2, List.replicate (cI side).length true, rfl, SqL.of (by rw [d7, List.map_replicate]), ?_⟩
      rw [show (List.replicate (cI side).length true).all id = true by simp]
      exact k H7 (((s13.trans s35).trans s6).trans s7)
/-! ### from outside -/
theorem sc_parting : FnScope ["web"] ["web"] (defScope sParting) := ⟨rfl, rfl, rfl, by decide +kernel, rfl, by decide +kernel, by decide +kernel⟩
theorem ok_parting {f : Addr} {fd : FuncData} (F : Fun K "parting" "parting" sParting f fd) (c1 : Cal P w K mg base 3 "found_parting" spFound) (c2 : Cal P w K mg base 5 "want_web" spWantWeb) : FnOk P w K mg base CX0 6 f fd ["web"] spFound := by
  refine F.ok sc_parting (fun vs H Q E h => ?_) (fun cdv A outer s H vs Q E hr h => ?_)
  · obtain ⟨a, n, ts, rfl, _⟩ := h
    rfl
  · obtain ⟨a, n, ts, rfl, hw, W, k0, k1⟩ := h
    refine ⟨_, pss_one (ps_ret (pe_cal c1 hr (by decide) (by rfl) (pa_cons (pe_cal c2 hr (by decide) (by rfl) (pa_cons (pv 0) pa_nil)) pa_nil))), ?_⟩
    exact ⟨_, rfl, a, n, ts, rfl, hw, W, fun H1 s1 => ⟨a, n, ts, rfl, hw.same s1, W, fun H2 s2 e => k0 H2 (s1.trans s2) e, fun H2 p cut s2 e hp => k1 H2 p cut (s1.trans s2) e hp⟩⟩
theorem sc_isParting : FnScope ["web", "value"] ["web", "value"] (defScope sIsParting) := ⟨rfl, rfl, rfl, by decide +kernel, rfl, by decide +kernel, by decide +kernel⟩
theorem ok_isParting {f : Addr} {fd : FuncData} (F : Fun K "is_parting" "is_parting" sIsParting f fd) (c1 : Cal P w K mg base 2 "is_parting_of" spPartingOf) (c2 : Cal P w K mg base 5 "want_web" spWantWeb) : FnOk P w K mg base CX0 6 f fd ["web", "value"] spPartingOf := by
  refine F.ok sc_isParting (fun vs H Q E h => ?_) (fun cdv A outer s H vs Q E hr h => ?_)
  · obtain ⟨a, p, n, ts, cut, side, rfl, _⟩ := h
    rfl
  · obtain ⟨a, p, n, ts, cut, side, rfl, hw, W, hp, R, k⟩ := h
    refine ⟨_, pss_one (ps_ret (pe_cal c1 hr (by decide) (by rfl) (pa_cons (pe_cal c2 hr (by decide) (by rfl) (pa_cons (pv 0) pa_nil)) (pa_cons (pv 1) pa_nil)))), ?_⟩
    exact ⟨_, rfl, a, n, ts, rfl, hw, W, fun H1 s1 => ⟨_, rfl, a, p, n, ts, cut, side, rfl, hw.same s1, W, hp.same s1, R, fun H2 s2 => k H2 (s1.trans s2)⟩⟩
def spLeastCut : Sp := fun vs H Q _ => ∃ (a : Addr) (n : Nat) (ts : List Tie), vs = [.ref a] ∧ WebAt H a n ts ∧ WebOk n ts ∧ ∀ H', Same H H' → Q (dueV (firstCut n (Adj ts))) H'
theorem sc_leastCut : FnScope ["web", "found"] ["web"] (defScope sLeastCut) := ⟨rfl, rfl, rfl, by decide +kernel, rfl, by decide +kernel, by decide +kernel⟩
theorem ok_leastCut {f : Addr} {fd : FuncData} (F : Fun K "least_cut" "least_cut" sLeastCut f fd) (T : Txt mg) (c1 : Cal P w K mg base 3 "found_parting" spFound) (c2 : Cal P w K mg base 5 "want_web" spWantWeb) : FnOk P w K mg base CX0 6 f fd ["web"] spLeastCut := by
  refine F.ok sc_leastCut (fun vs H Q E h => ?_) (fun cdv A outer s H vs Q E hr h => ?_)
  · obtain ⟨a, n, ts, rfl, _⟩ := h
    rfl
  · obtain ⟨a, n, ts, rfl, hw, W, k⟩ := h
    refine ⟨_, pss_cons (ps_set (i := 1) sc_leastCut.nd rfl (Or.inl rfl) (pe_cal c1 hr (by decide) (by rfl) (pa_cons (pe_cal c2 hr (by decide) (by rfl) (pa_cons (pv 0) pa_nil)) pa_nil)))
      (pss_one (ps_ret (pe_ifExp (pt_cmp (pc_isN (pv 1))) pe_non (pe_callB call_len_seq (by rfl) T.len PySem.boot_len (pa_cons (pe_ix ix_tup (pv 1) pe_int (fun _ _ => rfl)) pa_nil))))), ?_⟩
    refine ⟨_, rfl, a, n, ts, rfl, hw, W, fun H1 s1 => ⟨a, n, ts, rfl, hw.same s1, W, fun H2 s2 e => ?_, fun H2 p cut s2 e hp => ?_⟩⟩
    · refine ⟨_, rfl, true, rfl, iteT ?_⟩
      have := k H2 (s1.trans s2)
      rw [e] at this
      exact this
    · obtain ⟨c, sd, h1, h2, h3⟩ := hp
      refine ⟨_, rfl, false, rfl, iteF ?_⟩
      refine ⟨_, rfl, p, _, 1, .ref c, rfl, rfl, SqT.of h1, rfl, c, _, rfl, .inr (SqT.of h2), ?_⟩
      have := k H2 (s1.trans s2)
      rw [e] at this
      rw [cI_len]
      exact this
theorem sc_isThree : FnScope ["web"] ["web"] (defScope sIsThree) := ⟨rfl, rfl, rfl, by decide +kernel, rfl, by decide +kernel, by decide +kernel⟩
theorem ok_isThree {f : Addr} {fd : FuncData} (F : Fun K "is_three_joined" "is_three_joined" sIsThree f fd) (c1 : Cal P w K mg base 4 "is_three_joined_web" spThreeWeb) (c2 : Cal P w K mg base 5 "want_web" spWantWeb) : FnOk P w K mg base CX0 6 f fd ["web"] spThreeWeb := by
  refine F.ok sc_isThree (fun vs H Q E h => ?_) (fun cdv A outer s H vs Q E hr h => ?_)
  · obtain ⟨a, n, ts, rfl, _⟩ := h
    rfl
  · obtain ⟨a, n, ts, rfl, hw, W, k⟩ := h
    refine ⟨_, pss_one (ps_ret (pe_cal c1 hr (by decide) (by rfl) (pa_cons (pe_cal c2 hr (by decide) (by rfl) (pa_cons (pv 0) pa_nil)) pa_nil))), ?_⟩
    exact ⟨_, rfl, a, n, ts, rfl, hw, W, fun H1 s1 => ⟨a, n, ts, rfl, hw.same s1, W, fun H2 b s2 e => k H2 b (s1.trans s2) e⟩⟩
end
end Wp
namespace Wp
open PySem L2
/-! ### the pot: two numbers -/
def PotAt (H : Hp) (p : Addr) : Prop := ∃ p0 p1 : Int, H p = some (.lst [.int p0, .int p1]) ∧ 0 ≤ p0 ∧ 0 ≤ p1 ∧ p1 < 2147483648
theorem PotAt.lst {H : Hp} {p : Addr} (h : PotAt H p) : ∃ l, H p = some (.lst l) := by
  obtain ⟨a, b, h, _⟩ := h
  exact ⟨_, h⟩
theorem PotAt.same {H H' : Hp} {p : Addr} (h : PotAt H p) (s : Same H H') : PotAt H' p := by
  obtain ⟨a, b, h, h2⟩ := h
  exact ⟨a, b, s _ _ h, h2⟩
theorem PotAt.new {H : Hp} {p q : Addr} {o : HO} (h : PotAt H p) (hq : H q = none) : PotAt (L2.upd H q o) p := h.same (same_new hq)
theorem PotAt.other {H : Hp} {p q : Addr} {o : HO} (h : PotAt H p) (hq : p ≠ q) : PotAt (L2.upd H q o) p := by
  obtain ⟨a, b, h, h2⟩ := h
  exact ⟨a, b, by rw [upd_ne hq]; exact h, h2⟩
theorem PotAt.ne_new {H : Hp} {p q : Addr} (h : PotAt H p) (hq : H q = none) : p ≠ q := by
  obtain ⟨l, h⟩ := h.lst
  exact ne_of_none h hq
/-- kept, the pot's number of digits aside, and a new object -/
theorem Keep.new {p q : Addr} {H H' : Hp} {o : HO} (a : Keep p H H') (h : H' q = none) : Keep p H (L2.upd H' q o) := a.trans (Keep.of (same_new h))
theorem Keep.over {p q : Addr} {H H' : Hp} {o : HO} (a : Keep p H H') (h : H q = none) : Keep p H (L2.upd H' q o) := fun c u e n => by
  rw [upd_ne (ne_of_none e h)]
  exact a c u e n
theorem Keep.refl (p : Addr) (H : Hp) : Keep p H H := fun _ _ e _ => e
theorem Keep.free {p q : Addr} {H H' : Hp} (a : Keep p H H') (hp : p ≠ q) (h : H' q = none) : H q = none := by
  cases e : H q with
  | none => rfl
  | some o =>
    rw [a q o e (Ne.symm hp)] at h
    cases h
theorem Keep.lstNe {p b : Addr} {H H' : Hp} {l : List V} (a : Keep p H H') (h : H b = some (.lst l)) (n : b ≠ p) : H' b = some (.lst l) := a _ _ h n
theorem perm_erase {α : Type} : ∀ {xs : List α} {k : Nat} {y : α}, xs[k]? = some y → (y :: xs.eraseIdx k).Perm xs
  | [], k, y, h => by simp at h
  | x :: r, 0, y, h => by
    simp at h
    subst h
    exact List.Perm.refl _
  | x :: r, k + 1, y, h => by
    have ih := perm_erase (xs := r) (k := k) (y := y) (by simpa using h)
    show (y :: x :: r.eraseIdx k).Perm (x :: r)
    exact (List.Perm.swap x y _).trans (ih.cons x)
section
variable {P : Program} {w : World} {K : PySem.W.Frag} {mg : Str → Option Value} {base : Heap}
/-! ### _law_pot -/
def spPot (K : PySem.W.Frag) : Sp := fun vs H Q _ => ∃ (a : Addr) (ns : List Int), vs = [.ref a, .int 0] ∧ SqL K H a (ns.map V.int) ∧ ∀ H' p, Same H H' → PotAt H' p → Q (.ref p) H'
theorem sc_pot : FnScope ["_law_script", "_law_k", "_law_cell"] ["_law_script", "_law_k"] (defScope sPot) := ⟨rfl, rfl, rfl, by decide +kernel, rfl, by decide +kernel, by decide +kernel⟩
theorem ok_pot {f : Addr} {fd : FuncData} (F : Fun K "_law_pot" "_law_pot" sPot f fd) (T : Txt mg) : FnOk P w K mg base CX0 1 f fd ["_law_script", "_law_k"] (spPot K) := by
  refine F.ok sc_pot (fun vs H Q E h => ?_) (fun cdv A outer s H vs Q E hr h => ?_)
  · obtain ⟨a, ns, rfl, _⟩ := h
    rfl
  · obtain ⟨a, ns, rfl, ha, k⟩ := h
    refine ⟨_, pss_cons (ps_set (i := 2) sc_pot.nd rfl (Or.inl rfl) (pe_ifExp (pt_cmpR op_lt (pv 1) (pe_callB call_len_seq (by rfl) T.len PySem.boot_len (pa_cons (pv 0) pa_nil)) (nomark _))
          (pe_callB call_abs (by rfl) T.abs (by decide +kernel) (pa_cons (pe_ix ix_list (pv 0) (pv 1) (fun _ _ => rfl)) pa_nil)) (pe_op op_add (pe_op op_mul pe_int (pv 1)) pe_int)))
      (pss_one (ps_ret (pe_lst (pa_cons (pe_callB (call_max2 rfl) (by rfl) T.max (by decide +kernel) (pa_cons pe_int (pa_cons (pe_op op_sub (pv 2) (pe_op op_pow pe_int pe_int)) pa_nil)))
        (pa_cons (pe_op op_add (pe_op op_mod (pe_callTy call_int1 (by rfl) T.int (by decide +kernel) (pa_cons
            (pe_op op_add (pe_op op_add (pe_op op_mul (pe_op op_mod (pe_callTy call_int1 (by rfl) T.int (by decide +kernel) (pa_cons (pv 2) pa_nil)) pe_int) pe_int) (pe_op op_mul pe_int (pv 1))) pe_int) pa_nil)) pe_int) pe_int) pa_nil))))), ?_⟩
    -- the rest, whatever the cell
    have rest : ∀ c : Int, (tRet (tLst (tCons (tCB (fun xs H Q => ∃ i j, xs = [.int i, .int j] ∧ Q (.int (if j > i then j else i)) H) (tCons (tC (.int 0)) (tCons (tOp (rI0 fun i j => .int (i - j)) (tVar 2) (tOp (rI CPow fun i j => .int (i ^ j.toNat)) (tC (.int 10)) (tC (.int 18)))) tNil)))
        (tCons (tOp (rI0 fun i j => .int (i + j)) (tOp (rI (fun _ j => 0 < j) fun i j => .int (i % j)) (tCB (fun xs H Q => (∃ i, xs = [.int i] ∧ Q (.int i) H) ∨ ∃ k, xs = [.bl k] ∧ Q (.int (if k then 1 else 0)) H) (tCons
            (tOp (rI0 fun i j => .int (i + j)) (tOp (rI0 fun i j => .int (i + j)) (tOp (rI CMul fun i j => .int (i * j)) (tOp (rI (fun _ j => 0 < j) fun i j => .int (i % j)) (tCB (fun xs H Q => (∃ i, xs = [.int i] ∧ Q (.int i) H) ∨ ∃ k, xs = [.bl k] ∧ Q (.int (if k then 1 else 0)) H) (tCons (tVar 2) tNil)) (tC (.int 2147483549))) (tC (.int 48271))) (tOp (rI CMul fun i j => .int (i * j)) (tC (.int 5727)) (tVar 1))) (tC (.int 201))) tNil)) (tC (.int 2147483579))) (tC (.int 1))) tNil))))
        { nx := fun _ H' => Q .non H', rt := Q } [some (.ref a), some (.int 0), some (.int c)] H := by
      intro c
      refine ⟨_, rfl, _, _, rfl, rfl, ⟨by decide, by decide, by decide⟩, _, _, rfl, rfl, _, _, rfl, ?_⟩
      refine ⟨_, rfl, .inl ⟨_, rfl, _, _, rfl, rfl, (show (0 : Int) < 2147483549 by decide), _, _, rfl, rfl, .inr ⟨by decide, by decide⟩, _, rfl, _, _, rfl, rfl, .inr ⟨by decide, by decide⟩, _, _, rfl, rfl, _, _, rfl, rfl, .inl ⟨_, rfl, _, _, rfl, rfl, (show (0 : Int) < 2147483579 by decide), _, _, rfl, rfl, small (by show 2 ≤ 1000; omega), fun p hp => ?_⟩⟩⟩
      refine k _ p (same_new hp) ⟨_, _, upd_same, ?_, ?_, ?_⟩
      · split
        · omega
        · exact Int.le_refl 0
      · have := Int.emod_nonneg (c % 2147483549 * 48271 + 5727 * 0 + 201) (b := 2147483579) (by decide)
        omega
      · have := Int.emod_lt_of_pos (c % 2147483549 * 48271 + 5727 * 0 + 201) (b := 2147483579) (by decide)
        omega
    refine ⟨_, rfl, _, rfl, a, _, rfl, .inl ha, _, _, rfl, rfl, _, rfl, ?_⟩
    refine ite2 (fun hl => ?_) (fun _ => ?_)
    · have hl' : (0 : Int) < ((ns.map V.int).length : Int) := of_decide_eq_true hl
      rw [List.length_map] at hl'
      obtain ⟨z, hz⟩ : ∃ z, ns[0]? = some z := ⟨ns[0]'(by omega), List.getElem?_eq_getElem _⟩
      refine ⟨_, rfl, _, rfl, a, _, 0, .int z, rfl, rfl, ha, atI_nat (j := 0) (by rw [List.getElem?_map, hz]; rfl), _, rfl, ?_⟩
      exact rest _
    · exact ⟨_, rfl, _, _, rfl, rfl, .inl ⟨by decide, by decide⟩, _, _, rfl, rfl, rest _⟩
/-! ### _law_draw -/
def spDraw : Sp := fun vs H Q _ => ∃ (p : Addr) (m : Nat), vs = [.ref p, .int (m : Int)] ∧ 1 ≤ m ∧ m ≤ 1000 ∧ PotAt H p ∧ ∀ H' (d : Nat), d < m → PotAt H' p → Keep p H H' → Q (.int (d : Int)) H'
theorem sc_draw : FnScope ["_law_pot_here", "_law_many", "_law_digit"] ["_law_pot_here", "_law_many"] (defScope sDraw) := ⟨rfl, rfl, rfl, by decide +kernel, rfl, by decide +kernel, by decide +kernel⟩
theorem ok_draw {f : Addr} {fd : FuncData} (F : Fun K "_law_draw" "_law_draw" sDraw f fd) (T : Txt mg) : FnOk P w K mg base CX0 1 f fd ["_law_pot_here", "_law_many"] spDraw := by
  refine F.ok sc_draw (fun vs H Q E h => ?_) (fun cdv A outer s H vs Q E hr h => ?_)
  · obtain ⟨p, m, rfl, _⟩ := h
    rfl
  · obtain ⟨p, m, rfl, hm1, hm2, ⟨p0, p1, hp, h0, h1, h2⟩, k⟩ := h
    refine ⟨_, pss_cons (ps_if (pt_cmpR op_gt (pe_ix ix_list (pv 0) pe_int (fun _ _ => rfl)) pe_int (nomark _))
        (pss_cons (ps_asg (pe_callB call_divmod (by rfl) T.divmod (by decide +kernel) (pa_cons (pe_ix ix_list (pv 0) pe_int (fun _ _ => rfl)) (pa_cons (pv 1) pa_nil)))
          (pg_tup (by rfl) (pgs_cons (pg_sub (pv 0) pe_int set_list) (pgs_cons (pg_name (i := 2) sc_draw.nd rfl (Or.inl rfl)) pgs_nil)))) (pss_one (ps_ret (pv 2)))) pss_nil)
      (pss_cons (ps_asg (pe_op op_mod (pe_callTy call_int1 (by rfl) T.int (by decide +kernel) (pa_cons (pe_op op_add (pe_op op_mul (pe_ix ix_list (pv 0) pe_int (fun _ _ => rfl)) pe_int) pe_int) pa_nil)) pe_int) (pg_sub (pv 0) pe_int set_list))
      (pss_one (ps_ret (pe_op op_mod (pe_callTy call_int1 (by rfl) T.int (by decide +kernel) (pa_cons (pe_op op_fdiv (pe_op op_mod (pe_callTy call_int1 (by rfl) T.int (by decide +kernel) (pa_cons (pe_op op_mul (pe_ix ix_list (pv 0) pe_int (fun _ _ => rfl)) (pe_ix ix_list (pv 0) pe_int (fun _ _ => rfl))) pa_nil)) pe_int) pe_int) pa_nil)) (pv 1))))), ?_⟩
    have a0 : ∀ x y : V, atI [x, y] (0 : Int) = some x := fun x y => atI_nat (j := 0) rfl
    have a1 : ∀ x y : V, atI [x, y] (1 : Int) = some y := fun x y => atI_nat (j := 1) rfl
    have hmp : (0 : Int) < (m : Int) := by omega
    have fin : ∀ (z : Int) (H' : Hp), 0 ≤ z → z < (m : Int) → PotAt H' p → Keep p H H' → Q (.int z) H' := by
      intro z H' z0 z1 hpot hk
      have := k H' z.toNat (by omega) hpot hk
      rw [Int.toNat_of_nonneg z0] at this
      exact this
    refine ⟨_, rfl, p, _, 0, .int p0, rfl, rfl, SqL.of hp, a0 _ _, _, _, rfl, rfl, _, rfl, ?_⟩
    refine ite2 (fun _ => ?_) (fun _ => ?_)
    · refine ⟨_, rfl, p, _, 0, .int p0, rfl, rfl, SqL.of hp, a0 _ _, _, rfl, p0, (m : Int), rfl, ⟨hmp, by omega⟩, fun t ht => ?_⟩
      have npt : p ≠ t := ne_of_none hp ht
      refine ⟨t, _, rfl, SqT.of upd_same, rfl, _, _, rfl, _, rfl, p, _, 0, 0, rfl, rfl, by rw [upd_ne npt]; exact hp, rfl, _, _, rfl, rfl, _, rfl, ?_⟩
      refine fin _ _ (Int.emod_nonneg _ (by omega)) (Int.emod_lt_of_pos _ hmp) ⟨_, _, upd_same, Int.ediv_nonneg h0 (by omega), h1, h2⟩ (Keep.upd (Keep.of (same_new ht)))
    · refine ⟨_, rfl, p, _, 1, .int p1, rfl, rfl, SqL.of hp, a1 _ _, _, _, rfl, rfl, .inl ⟨by omega, by omega⟩, _, _, rfl, rfl, .inl ⟨_, rfl, _, _, rfl, rfl, (show (0 : Int) < 2147483629 by decide), _, rfl, p, _, 1, 1, rfl, rfl, hp, rfl, ?_⟩⟩
      have e0 := Int.emod_nonneg (p1 * 39373 + 721) (b := 2147483629) (by decide)
      have e1 := Int.emod_lt_of_pos (p1 * 39373 + 721) (b := 2147483629) (by decide)
      have hp2 : (upd H p (.lst ([V.int p0, V.int p1].set 1 (V.int ((p1 * 39373 + 721) % 2147483629))))) p = some (.lst [.int p0, .int ((p1 * 39373 + 721) % 2147483629)]) := upd_same
      have hpot : PotAt (upd H p (.lst ([V.int p0, V.int p1].set 1 (V.int ((p1 * 39373 + 721) % 2147483629))))) p := ⟨_, _, hp2, h0, e0, by omega⟩
      refine ⟨_, rfl, p, _, 1, _, rfl, rfl, SqL.of hp2, a1 _ _, _, rfl, p, _, 1, _, rfl, rfl, SqL.of hp2, a1 _ _, _, _, rfl, rfl, .inl ⟨by omega, by omega⟩, .inl ⟨_, rfl, _, _, rfl, rfl, (show (0 : Int) < 2147483587 by decide), _, _, rfl, rfl, ⟨(show (0 : Int) < 13 by decide), by decide⟩, .inl ⟨_, rfl, _, rfl, _, _, rfl, rfl, hmp, ?_⟩⟩⟩
      exact fin _ _ (Int.emod_nonneg _ (by omega)) (Int.emod_lt_of_pos _ hmp) hpot (Keep.upd (Keep.refl p H))
end
end Wp
namespace Wp
open PySem L2
/-! ### max, min of a pair -/
section
open PySem.Spec
theorem pairMax {prog : Program} {w : World} {A : Around} {E : Value → Shared → Prop} {s : Shared} {l : Addr} {a b : Int} {t u : Tok} {Q : Value → Shared → Prop} (hh : A.handled = none) (hl : s.heap.IsTuple l (intItems #[(a, t), (b, u)]))
    (h : ∀ h' tk, (∀ c o, s.heap.get? c = some o → h'.get? c = some o) → Q (if b > a then .int b u else .int a t) { s with heap := h', toks := tk }) :
    wpAny (model prog w) A (call (.builtin "max") [.ref l]) Q E s := by
  have hlt : l < s.heap.objs.size := by
    obtain ⟨_, e, _⟩ := hl
    exact Heap.lt_size e
  refine call_max_walk (wpAny_pyIter_tuple hl ⟨_, [s.heap.objs.size, l], [s.heap.objs.size], _, _, _, _, rfl, Walks.tuple (A := A.in1) hh _ l (Nat.ne_of_lt hlt) _, ⟨⟨_, Heap.get?_push_size _ rfl, rfl, rfl⟩, hl.push _⟩, ?_, by simp [intItems],
    CmpOf.ints_gt (numAt #[(a, t), (b, u)]) (fun _ _ => intItems_at), fun v h' tk hP hk => ?_⟩)
  · intro c hc
    show c < (s.heap.push _).objs.size
    rw [Heap.size_push]
    simp only [List.mem_cons, List.not_mem_nil, or_false] at hc
    rcases hc with hc | hc
    · rw [hc]; exact Nat.lt_succ_self _
    · rw [hc]; exact Nat.lt_succ_of_lt hlt
  · have hold : ∀ c o, s.heap.get? c = some o → h'.get? c = some o := fun c o e => by
      refine hk c o (fun hm => ?_) (Heap.get?_push_of_some _ e)
      have := Heap.lt_size e
      simp only [List.mem_cons, List.not_mem_nil, or_false] at hm
      rw [hm] at this
      exact Nat.lt_irrefl _ this
    have hv : v = if b > a then Value.int b u else Value.int a t := by
      by_cases hba : b > a <;> simp [intItems, argBest, numAt, hba] at hP <;> simp [hba, hP]
    rw [hv]
    exact h h' tk hold
theorem pairMin {prog : Program} {w : World} {A : Around} {E : Value → Shared → Prop} {s : Shared} {l : Addr} {a b : Int} {t u : Tok} {Q : Value → Shared → Prop} (hh : A.handled = none) (hl : s.heap.IsTuple l (intItems #[(a, t), (b, u)]))
    (h : ∀ h' tk, (∀ c o, s.heap.get? c = some o → h'.get? c = some o) → Q (if b < a then .int b u else .int a t) { s with heap := h', toks := tk }) :
    wpAny (model prog w) A (call (.builtin "min") [.ref l]) Q E s := by
  have hlt : l < s.heap.objs.size := by
    obtain ⟨_, e, _⟩ := hl
    exact Heap.lt_size e
  refine call_min_walk (wpAny_pyIter_tuple hl ⟨_, [s.heap.objs.size, l], [s.heap.objs.size], _, _, _, _, rfl, Walks.tuple (A := A.in1) hh _ l (Nat.ne_of_lt hlt) _, ⟨⟨_, Heap.get?_push_size _ rfl, rfl, rfl⟩, hl.push _⟩, ?_, by simp [intItems],
    CmpOf.ints_lt (numAt #[(a, t), (b, u)]) (fun _ _ => intItems_at), fun v h' tk hP hk => ?_⟩)
  · intro c hc
    show c < (s.heap.push _).objs.size
    rw [Heap.size_push]
    simp only [List.mem_cons, List.not_mem_nil, or_false] at hc
    rcases hc with hc | hc
    · rw [hc]; exact Nat.lt_succ_self _
    · rw [hc]; exact Nat.lt_succ_of_lt hlt
  · have hold : ∀ c o, s.heap.get? c = some o → h'.get? c = some o := fun c o e => by
      refine hk c o (fun hm => ?_) (Heap.get?_push_of_some _ e)
      have := Heap.lt_size e
      simp only [List.mem_cons, List.not_mem_nil, or_false] at hm
      rw [hm] at this
      exact Nat.lt_irrefl _ this
    have hv : v = if b < a then Value.int b u else Value.int a t := by
      by_cases hba : b < a <;> simp [intItems, argBest, numAt, hba] at hP <;> simp [hba, hP]
    rw [hv]
    exact h h' tk hold
def rMaxP (K : PySem.W.Frag) : List V → Hp → VK → Prop := fun xs H Q => ∃ (p : Addr) (a b : Int), xs = [.ref p] ∧ SqT K H p [.int a, .int b] ∧ Q (.int (if b > a then b else a)) H
def rMinP (K : PySem.W.Frag) : List V → Hp → VK → Prop := fun xs H Q => ∃ (p : Addr) (a b : Int), xs = [.ref p] ∧ SqT K H p [.int a, .int b] ∧ Q (.int (if b < a then b else a)) H
theorem cr_maxP {X : Cx} (hc : X.calm = true) : CallR X (.builtin "max") (rMaxP X.K) := by
  intro pins s σ H xs us Q I r h
  obtain ⟨p, a, b, rfl, hs, q⟩ := h
  obtain ⟨its, rv, hl, _⟩ := I.tuple hs
  rw [Vals.ref1 r]
  obtain ⟨t, u, rfl⟩ := Vals.int2 rv
  refine pairMax (I.ok.hd hc) (let ⟨o, ho, h1, n, h2⟩ := hl; ⟨o, ho, h1, n, by simpa [PySem.intItems] using h2⟩) fun h' tk k => ⟨_, H, I.kept k, ?_, q⟩
  by_cases hj : b > a
  · rw [if_pos hj, if_pos hj]; exact ⟨_, rfl⟩
  · rw [if_neg hj, if_neg hj]; exact ⟨_, rfl⟩
theorem cr_minP {X : Cx} (hc : X.calm = true) : CallR X (.builtin "min") (rMinP X.K) := by
  intro pins s σ H xs us Q I r h
  obtain ⟨p, a, b, rfl, hs, q⟩ := h
  obtain ⟨its, rv, hl, _⟩ := I.tuple hs
  rw [Vals.ref1 r]
  obtain ⟨t, u, rfl⟩ := Vals.int2 rv
  refine pairMin (I.ok.hd hc) (let ⟨o, ho, h1, n, h2⟩ := hl; ⟨o, ho, h1, n, by simpa [PySem.intItems] using h2⟩) fun h' tk k => ⟨_, H, I.kept k, ?_, q⟩
  by_cases hj : b < a
  · rw [if_pos hj, if_pos hj]; exact ⟨_, rfl⟩
  · rw [if_neg hj, if_neg hj]; exact ⟨_, rfl⟩
end
section
variable {P : Program} {w : World} {K : PySem.W.Frag} {mg : Str → Option Value} {base : Heap}
/-! ### _law_pick -/
def spPick : Sp := fun vs H Q _ => ∃ (p a : Addr) (xs : List V), vs = [.ref p, .ref a] ∧ (H a = some (.lst xs) ∨ H a = some (.tup xs)) ∧ a ≠ p ∧ xs ≠ [] ∧ xs.length ≤ 1000 ∧ PotAt H p ∧ ∀ H' x, x ∈ xs → PotAt H' p → Keep p H H' → Q x H'
theorem sc_pick : FnScope ["_law_pot_here", "_law_some"] ["_law_pot_here", "_law_some"] (defScope sPick) := ⟨rfl, rfl, rfl, by decide +kernel, rfl, by decide +kernel, by decide +kernel⟩
theorem ok_pick {f : Addr} {fd : FuncData} (F : Fun K "_law_pick" "_law_pick" sPick f fd) (T : Txt mg) (c1 : Cal P w K mg base 1 "_law_draw" spDraw) : FnOk P w K mg base CX0 2 f fd ["_law_pot_here", "_law_some"] spPick := by
  refine F.ok sc_pick (fun vs H Q E h => ?_) (fun cdv A outer s H vs Q E hr h => ?_)
  · obtain ⟨p, a, xs, rfl, _⟩ := h
    rfl
  · obtain ⟨p, a, xs, rfl, ha, hap, hne, hl, hp, k⟩ := h
    refine ⟨_, pss_one (ps_ret (pe_ix (r := rIx K) ix_seq (pv 1) (pe_cal c1 hr (by decide) (by rfl) (pa_cons (pv 0) (pa_cons (pe_callB call_len_seq (by rfl) T.len PySem.boot_len (pa_cons (pv 1) pa_nil)) pa_nil))) (fun _ _ => rfl))), ?_⟩
    have hpos : 1 ≤ xs.length := by
      cases xs with
      | nil => exact absurd rfl hne
      | cons x r => simp
    refine ⟨_, rfl, _, rfl, _, rfl, a, xs, rfl, ha.elim (fun h => .inl (SqL.of h)) (fun h => .inr (SqT.of h)), ?_⟩
    refine ⟨p, xs.length, rfl, hpos, hl, hp, fun H' d hd hp' hk => ?_⟩
    have hx : xs[d]? = some (xs[d]'hd) := List.getElem?_eq_getElem hd
    rcases ha with ha | ha
    · exact .inl ⟨a, xs, (d : Int), _, rfl, rfl, SqL.of (hk _ _ ha hap), atI_nat hx, k H' _ (List.getElem_mem hd) hp' hk⟩
    · exact .inr (.inl ⟨a, xs, (d : Int), _, rfl, rfl, SqT.of (hk _ _ ha hap), atI_nat hx, k H' _ (List.getElem_mem hd) hp' hk⟩)
/-! ### _law_mixed -/
def spMixed : Sp := fun vs H Q _ => ∃ (p a : Addr) (xs : List V), vs = [.ref p, .ref a] ∧ H a = some (.lst xs) ∧ a ≠ p ∧ xs.length ≤ 1000 ∧ PotAt H p ∧ ∀ H' b ys, ys.Perm xs → PotAt H' p → Keep p H H' → H b = none → H' b = some (.lst ys) → Q (.ref b) H'
theorem sc_mixed : FnScope ["_law_pot_here", "_law_some", "_law_left", "_law_found", "_law_turn"] ["_law_pot_here", "_law_some"] (defScope sMixed) := ⟨rfl, rfl, rfl, by decide +kernel, rfl, by decide +kernel, by decide +kernel⟩
theorem ok_mixed {f : Addr} {fd : FuncData} (F : Fun K "_law_mixed" "_law_mixed" sMixed f fd) (T : Txt mg) (c1 : Cal P w K mg base 1 "_law_draw" spDraw) : FnOk P w K mg base CX0 2 f fd ["_law_pot_here", "_law_some"] spMixed := by
  refine F.ok sc_mixed (fun vs H Q E h => ?_) (fun cdv A outer s H vs Q E hr h => ?_)
  · obtain ⟨p, a, xs, rfl, _⟩ := h
    rfl
  · obtain ⟨p, a, xs, rfl, ha, hap, hl, hp, k⟩ := h
    refine ⟨_, pss_cons (ps_par (i := 2) (j := 3) rfl sc_mixed.nd rfl rfl (by decide) rfl rfl (pa_cons (pe_callTy call_list_of (by rfl) T.list (by decide +kernel) (pa_cons (pv 1) pa_nil)) (pa_cons (pe_lst pa_nil) pa_nil)) (by rfl))
      (pss_cons (ps_for PassesOwn.never rfl (pi_range1 rfl T.range (pa_cons (pe_callB call_len_seq (by rfl) T.len PySem.boot_len (pa_cons (pv 1) pa_nil)) pa_nil)) (pg_name (i := 4) sc_mixed.nd rfl (Or.inl rfl))
        (pss_one (ps_expr (pe_bm PySem.F.plainAttrs_list PySem.F.slot_list_append PySem.F.type_list_append mt_append (pv 3) (pa_cons
          (pe_bm PySem.F.plainAttrs_list PySem.F.slot_list_pop PySem.F.type_list_pop mt_popAt (pv 2) (pa_cons (pe_cal c1 hr (by decide) (by rfl) (pa_cons (pv 0) (pa_cons (pe_callB call_len_seq (by rfl) T.len PySem.boot_len (pa_cons (pv 2) pa_nil)) pa_nil))) pa_nil)) pa_nil)))))
      (pss_one (ps_ret (pv 3)))), ?_⟩
    refine ⟨_, rfl, a, xs, rfl, .inl (SqL.of ha), fun L hL => ?_⟩
    have npL : p ≠ L := hp.ne_new hL
    have hp1 : PotAt (L2.upd H L (.lst xs)) p := hp.new hL
    refine ⟨Nat.zero_le _, fun G hG => ?_⟩
    have npG : p ≠ G := hp1.ne_new hG
    have hp2 : PotAt (L2.upd (L2.upd H L (.lst xs)) G (.lst [])) p := hp1.new hG
    have nLG : L ≠ G := by
      rintro rfl
      rw [upd_same] at hG
      cases hG
    have hG0 : H G = none := by
      rw [upd_ne (Ne.symm nLG)] at hG
      exact hG
    refine ⟨_, _, rfl, ?_⟩
    refine ⟨_, rfl, a, xs, rfl, .inl (SqL.of (by rw [upd_ne (ne_of_none ha hG0), upd_ne (ne_of_none ha hL)]; exact ha)), (xs.length : Int), rfl, by omega, by omega, ?_⟩
    refine for_it (walk_range (lo := 0) (n := ((xs.length : Int)).toNat)) (fun i σ H1 => ∃ (left found : List V) (v : Option V), σ = [some (.ref p), some (.ref a), some (.ref L), some (.ref G), v] ∧ PotAt H1 p ∧ Keep p H H1 ∧ H1 L = some (.lst left) ∧ H1 G = some (.lst found) ∧ (found ++ left).Perm xs ∧ found.length = i) ?_ (fun i σ H1 _ _ => trivial) ?_ ?_
    · exact ⟨xs, [], none, rfl, hp2, ((Keep.refl p H).new hL).new hG, by rw [upd_ne nLG, upd_same], upd_same, List.Perm.refl _, rfl⟩
    · rintro i y σ Hx H1 hi ⟨left, found, v, rfl, hpot, hk, hleft, hfound, hperm, hlen⟩ ⟨rfl, rfl⟩
      have hle := hperm.length_eq
      rw [List.length_append] at hle
      have hi' : i < xs.length := by omega
      refine ⟨_, rfl, .inl ⟨rfl, _, SqL.of hfound⟩, _, rfl, .inl ⟨rfl, _, SqL.of hleft⟩, _, rfl, _, rfl, L, left, rfl, .inl (SqL.of hleft), ?_⟩
      refine ⟨p, left.length, rfl, by omega, by omega, hpot, fun H2 d hd hpot2 hk2 => ?_⟩
      have hL2 : H2 L = some (.lst left) := hk2 _ _ hleft (Ne.symm npL)
      have hG2 : H2 G = some (.lst found) := hk2 _ _ hfound (Ne.symm npG)
      have hx : left[d]? = some (left[d]'hd) := List.getElem?_eq_getElem hd
      refine ⟨L, left, (d : Int), d, _, rfl, rfl, hL2, by omega, by omega, seqIndex_of (by omega) (by omega), hx, ?_⟩
      refine ⟨G, found, _, rfl, rfl, by rw [upd_ne (Ne.symm nLG)]; exact hG2, Nat.lt_of_lt_of_le (by omega) (small (n := 1000) (Nat.le_refl _)), ?_⟩
      refine ⟨left.eraseIdx d, found ++ [left[d]'hd], _, rfl, ?_, ?_, ?_, upd_same, ?_, by simp [hlen]⟩
      · exact (hpot2.other npL).other npG
      · exact ((hk.trans hk2).over hL).over hG0
      · rw [upd_ne nLG, upd_same]
      · refine List.Perm.trans ?_ hperm
        rw [List.append_assoc]
        exact List.Perm.append_left _ (perm_erase hx)
    · rintro σ H1 ⟨left, found, v, rfl, hpot, hk, hleft, hfound, hperm, hlen⟩
      have hle := hperm.length_eq
      rw [List.length_append] at hle
      have hz : left = [] := List.length_eq_zero_iff.mp (by omega)
      rw [hz, List.append_nil] at hperm
      exact ⟨_, rfl, k H1 G found hperm hpot hk hG0 hfound⟩
end
end Wp
namespace Wp
open PySem L2
/-! ### ties as keys of a set -/
def ordT (x : Tie) : Tie := (min x.1 x.2, max x.1 x.2)
def keyT (x : Tie) : List Int := [(x.1 : Int), (x.2 : Int)]
theorem keyT_inj {x y : Tie} (h : keyT x = keyT y) : x = y := by
  obtain ⟨a, b⟩ := x
  obtain ⟨c, d⟩ := y
  unfold keyT at h
  simp only [List.cons.injEq, and_true] at h
  obtain ⟨h1, h2⟩ := h
  simp only [Prod.mk.injEq]
  omega
theorem min_int (a b : Nat) : (if (b : Int) < (a : Int) then (b : Int) else (a : Int)) = ((min a b : Nat) : Int) := by
  split <;> omega
theorem max_int (a b : Nat) : (if (b : Int) > (a : Int) then (b : Int) else (a : Int)) = ((max a b : Nat) : Int) := by
  split <;> omega
theorem rows_of {H : Hp} : ∀ {bs : List Addr} {xs : List Tie}, All2 (TieAt H) bs xs → ∃ ks : List (Addr × List Int), ks.map Prod.fst = bs ∧ ks.map Prod.snd = xs.map keyT ∧ ∀ p ∈ ks, ∃ x ∈ xs, p.2 = keyT x ∧ TieAt H p.1 x
  | [], [], _ => ⟨[], rfl, rfl, by simp⟩
  | [], _ :: _, h => absurd h.1 (by simp)
  | _ :: _, [], h => absurd h.1 (by simp)
  | b :: bs, x :: xs, h => by
    obtain ⟨ks, h1, h2, h3⟩ := rows_of (bs := bs) (xs := xs) ⟨by simpa using h.1, fun i a y ha hy => h.2 (i + 1) a y (by simpa using ha) (by simpa using hy)⟩
    refine ⟨(b, keyT x) :: ks, by simp [h1], by simp [h2], fun p hp => ?_⟩
    rcases List.mem_cons.mp hp with rfl | hp
    · exact ⟨x, List.mem_cons_self, rfl, h.2 0 b x rfl rfl⟩
    · obtain ⟨y, hy, h4⟩ := h3 p hp
      exact ⟨y, List.mem_cons_of_mem _ hy, h4⟩
theorem rows_back {H : Hp} {xs : List Tie} : ∀ {L : List (Addr × List Int)}, (∀ p ∈ L, ∃ x ∈ xs, p.2 = keyT x ∧ TieAt H p.1 x) → ∃ ts : List Tie, All2 (TieAt H) (L.map Prod.fst) ts ∧ ts.map keyT = L.map Prod.snd ∧ ∀ x ∈ ts, x ∈ xs
  | [], _ => ⟨[], ⟨rfl, fun i a b h => by simp at h⟩, rfl, by simp⟩
  | p :: L, h => by
    obtain ⟨ts, h1, h2, h3⟩ := rows_back (L := L) fun q hq => h q (List.mem_cons_of_mem _ hq)
    obtain ⟨x, hx, h4, h5⟩ := h p List.mem_cons_self
    refine ⟨x :: ts, ⟨by simpa using h1.1, fun i a b ha hb => ?_⟩, by simp [h2, h4], fun y hy => ?_⟩
    · cases i with
      | zero =>
        simp at ha hb
        subst ha hb
        exact h5
      | succ i => exact h1.2 i a b (by simpa using ha) (by simpa using hb)
    · rcases List.mem_cons.mp hy with rfl | hy
      · exact hx
      · exact h3 y hy
theorem rising_ties {ts : List Tie} (hb : ∀ x ∈ ts, x.1 < 64 ∧ x.2 < 64) (hn : (ts.map keyT).Nodup) (hp : (ts.map keyT).Pairwise fun q r => TS.code 64 q ≤ TS.code 64 r) : ts.Pairwise tieLt := by
  have h1 := List.pairwise_map.mp hp
  have h2 := List.pairwise_map.mp hn
  refine List.Pairwise.imp_of_mem (fun {x y} hx hy h => ?_) (h1.and h2)
  have bx := hb x hx
  have hby := hb y hy
  have := pair_lt h.1 h.2 (by omega) (by omega) (by omega) (by omega)
  unfold tieLt
  omega
/-- what a set and a sorted list of it leave of the ties -/
theorem ties_of {H : Hp} {n : Nat} {prs : List Tie} {ks L L' : List (Addr × List Int)} (hks : ks.map Prod.snd = (prs.map ordT).map keyT) (hat : ∀ p ∈ ks, ∃ x ∈ prs.map ordT, p.2 = keyT x ∧ TieAt H p.1 x)
    (hsub : ∀ p ∈ L, p ∈ ks) (hall : ∀ p ∈ ks, p.2 ∈ L.map (·.2)) (hpm : L'.Perm L) (hnd : (L'.map (·.2)).Nodup) (hpw : L'.Pairwise (fun q r => TS.code 64 q.2 ≤ TS.code 64 r.2))
    (h1 : 1 ≤ n) (h20 : n ≤ 20) (hfew : prs.length ≤ 60) (hok : ∀ x ∈ prs, x.1 ≠ x.2 ∧ x.1 < n ∧ x.2 < n) :
    ∃ ts : List Tie, All2 (TieAt H) (L'.map Prod.fst) ts ∧ WebOk n ts ∧ ∀ x y, Adj ts x y ↔ (x, y) ∈ prs ∨ (y, x) ∈ prs := by
  obtain ⟨ts, ha, hk, hm⟩ := rows_back (H := H) (xs := prs.map ordT) (L := L') fun p hp => hat p (hsub p (hpm.mem_iff.mp hp))
  have hmem : ∀ x, x ∈ ts ↔ x ∈ prs.map ordT := by
    refine fun x => ⟨hm x, fun hx => ?_⟩
    have e1 : keyT x ∈ ks.map Prod.snd := by
      rw [hks]
      exact List.mem_map_of_mem hx
    obtain ⟨p, hp, e2⟩ := List.mem_map.mp e1
    have e3 : keyT x ∈ L'.map Prod.snd := by
      rw [← e2]
      exact (hpm.map Prod.snd).mem_iff.mpr (hall p hp)
    rw [← hk] at e3
    obtain ⟨y, hy, e4⟩ := List.mem_map.mp e3
    rwa [← keyT_inj e4]
  have htie : ∀ x ∈ ts, x.1 < x.2 ∧ x.2 < n := by
    intro x hx
    obtain ⟨y, hy, rfl⟩ := List.mem_map.mp (hm x hx)
    have := hok y hy
    unfold ordT
    simp only
    omega
  have hnd2 : (ts.map keyT).Nodup := by
    rw [hk]
    exact hnd
  have hrise : ts.Pairwise tieLt := by
    refine rising_ties (fun x hx => ?_) hnd2 ?_
    · have := htie x hx
      omega
    · rw [hk]
      exact List.pairwise_map.mpr hpw
  have hlen : ts.length ≤ 60 := by
    have hts : ts.Nodup := by
      have := List.pairwise_map.mp hnd2
      exact this.imp fun h e => h (by rw [e])
    have h2 : ts.length ≤ (prs.map ordT).length := List.Nodup.length_le_of_subset hts hm
    rw [List.length_map] at h2
    omega
  refine ⟨ts, ha, ⟨h1, h20, hlen, htie, hrise⟩, fun x y => ?_⟩
  constructor
  · intro h
    rcases h with h | h
    · obtain ⟨⟨u, v⟩, hy, e⟩ := List.mem_map.mp (hm _ h)
      unfold ordT at e
      simp only [Prod.mk.injEq] at e
      obtain ⟨e1, e2⟩ := e
      by_cases huv : u ≤ v
      · rw [Nat.min_eq_left huv] at e1
        rw [Nat.max_eq_right huv] at e2
        subst e1 e2
        exact .inl hy
      · rw [Nat.min_eq_right (by omega)] at e1
        rw [Nat.max_eq_left (by omega)] at e2
        subst e1 e2
        exact .inr hy
    · obtain ⟨⟨u, v⟩, hy, e⟩ := List.mem_map.mp (hm _ h)
      unfold ordT at e
      simp only [Prod.mk.injEq] at e
      obtain ⟨e1, e2⟩ := e
      by_cases huv : u ≤ v
      · rw [Nat.min_eq_left huv] at e1
        rw [Nat.max_eq_right huv] at e2
        subst e1 e2
        exact .inr hy
      · rw [Nat.min_eq_right (by omega)] at e1
        rw [Nat.max_eq_left (by omega)] at e2
        subst e1 e2
        exact .inl hy
  · have key : ∀ u v, (u, v) ∈ prs → Adj ts u v := by
      intro u v h
      have hx : ordT (u, v) ∈ ts := (hmem _).mpr (List.mem_map_of_mem h)
      unfold ordT at hx
      simp only at hx
      by_cases huv : u ≤ v
      · rw [Nat.min_eq_left huv, Nat.max_eq_right huv] at hx
        exact .inl hx
      · rw [Nat.min_eq_right (by omega), Nat.max_eq_left (by omega)] at hx
        exact .inr hx
    rintro (h | h)
    · exact key x y h
    · exact (key y x h).symm
section
variable {P : Program} {w : World} {K : PySem.W.Frag} {mg : Str → Option Value} {base : Heap}
/-! ### _law_web -/
def spWeb : Sp := fun vs H Q _ => ∃ (q : Addr) (n : Nat) (as : List Addr) (prs : List Tie), vs = [.int (n : Int), .ref q] ∧ H q = some (.lst (as.map V.ref)) ∧ All2 (TieAt H) as prs ∧ 1 ≤ n ∧ n ≤ 20 ∧ prs.length ≤ 60 ∧ (∀ x ∈ prs, x.1 ≠ x.2 ∧ x.1 < n ∧ x.2 < n) ∧
  ∀ H' a ts, Same H H' → WebAt H' a n ts → WebOk n ts → (∀ x y, Adj ts x y ↔ (x, y) ∈ prs ∨ (y, x) ∈ prs) → Q (.ref a) H'
theorem sc_web : FnScope ["_law_many", "_law_pairs", "_law_found", "_law_pair"] ["_law_many", "_law_pairs"] (defScope sWeb) := ⟨rfl, rfl, rfl, by decide +kernel, rfl, by decide +kernel, by decide +kernel⟩
theorem ok_web {f : Addr} {fd : FuncData} (F : Fun K "_law_web" "_law_web" sWeb f fd) (T : Txt mg) : FnOk P w K mg base CX0 1 f fd ["_law_many", "_law_pairs"] spWeb := by
  refine F.ok sc_web (fun vs H Q E h => ?_) (fun cdv A outer s H vs Q E hr h => ?_)
  · obtain ⟨q, n, as, prs, rfl, _⟩ := h
    rfl
  · obtain ⟨q, n, as, prs, rfl, hq, hprs, h1, h20, hfew, hok, k⟩ := h
    have hu : (A.deeper (PyProof.Rows.envOfC "_law_web" (defScope sWeb) s.heap.objs.size f cdv)).units + 64 < cLine := by
      have := hr.un
      omega
    refine ⟨_, pss_cons (ps_set (i := 2) sc_web.nd rfl (Or.inl rfl) (pe_callB (r := rSortedT K P w) (cr_sortedT rfl) (by rfl) T.sorted (by decide +kernel) (pa_cons (pe_callTy (r := rSetOfT K P w) (cr_setOfT rfl hu) (by rfl) T.set (by decide +kernel) (pa_cons
        (pe_lc (own := [("_law_pair", 3)]) (g := gName 3) (tt := tYes) rfl sc_web.nd (pi_list (pv 1)) (blkOk_by (own := [("_law_pair", 3)]) (N := ["_law_many", "_law_pairs", "_law_found", "_law_pair"]) (sc := defScope sWeb) (by decide +kernel))
          (fun _ _ _ _ _ => pg_name (i := 3) sc_web.nd rfl (Or.inl rfl)) (fun _ _ _ _ _ => pts_nil)
          (fun _ _ _ _ _ => pe_tup (pa_cons (pe_callB (r := rMinP K) (id := "min") (cr_minP rfl) (by rfl) T.min (by decide +kernel) (pa_cons (pv 3) pa_nil)) (pa_cons (pe_callB (r := rMaxP K) (id := "max") (cr_maxP rfl) (by rfl) T.max (by decide +kernel) (pa_cons (pv 3) pa_nil)) pa_nil))))
        pa_nil)) pa_nil)))
      (pss_one (ps_ret (pe_tup (pa_cons pe_str (pa_cons (pv 0) (pa_cons (pe_callTy call_tuple_of (by rfl) T.tuple (by decide +kernel) (pa_cons (pv 2) pa_nil)) pa_nil)))))), ?_⟩
    refine ⟨_, rfl, q, rfl, ⟨_, SqL.of hq⟩, fun D hD => ?_⟩
    refine lc_it (walk_list (K := K) (a := q) (xs := as.map V.ref)) (fun i H1 => Same H H1 ∧ ∃ bs : List Addr, H1 D = some (.lst (bs.map V.ref)) ∧ All2 (TieAt H1) bs ((prs.take i).map ordT))
      ⟨same_new hD, [], upd_same, ⟨rfl, fun i a b h => by simp at h⟩⟩ (fun i H1 _ p => SqL.of (p.1 _ _ hq)) ?_ ?_
    · rintro i y Hx H1 hi ⟨s1, bs, d1, hbs⟩ ⟨rfl, hy⟩
      obtain ⟨b, hb1, rfl⟩ := map_get hy
      obtain ⟨x, hx, hbx⟩ := hprs.getL hb1
      refine ⟨rfl, _, rfl, b, (x.1 : Int), (x.2 : Int), rfl, SqT.of (s1 _ _ hbx), _, rfl, b, (x.1 : Int), (x.2 : Int), rfl, SqT.of (s1 _ _ hbx), small (by show 2 ≤ 1000; omega), fun c hc => ?_⟩
      have npD : D ≠ c := ne_of_none d1 hc
      rw [min_int, max_int]
      have hil : i < prs.length := get_lt hx
      have hbl := hbs.1
      rw [List.length_map, List.length_take] at hbl
      refine ⟨_, by rw [upd_ne npD]; exact d1, by rw [List.length_map]; exact Nat.lt_of_lt_of_le (by omega) (small (n := 1000) (Nat.le_refl _)), Same.upd (Same.new s1 hc) hD, bs ++ [c], by rw [upd_same, List.map_append]; rfl, ?_⟩
      rw [take_succ hx, List.map_append]
      refine All2.snoc (hbs.mono fun a' b' _ _ r => ?_) ?_
      · unfold TieAt at r ⊢
        rw [upd_ne (ne_of r d1 (by intro z; cases z)), upd_ne (ne_of_none r hc)]
        exact r
      · unfold TieAt
        rw [upd_ne (Ne.symm npD)]
        exact upd_same
    · rintro H1 ⟨s1, bs, d1, hbs⟩
      have hpl : prs.length = (as.map V.ref).length := by rw [List.length_map]; exact hprs.1.symm
      rw [← hpl, List.take_length] at hbs
      obtain ⟨ks, hk1, hk2, hk3⟩ := rows_of hbs
      have hkl : ks.length = prs.length := by
        have := congrArg List.length hk2
        simpa using this
      refine ⟨D, ks, rfl, ?_, ?_, by omega, fun S L hS hsub hall => ?_⟩
      · have : (ks.map fun p => V.ref p.1) = bs.map V.ref := by rw [← hk1, List.map_map]; rfl
        rw [this]
        exact SqL.of d1
      · intro p hp
        obtain ⟨x, _, e, hat⟩ := hk3 p hp
        rw [e]
        exact SqT.of hat
      · have hat2 : ∀ p ∈ ks, ∃ x ∈ prs.map ordT, p.2 = keyT x ∧ TieAt (upd H1 S (SetTO P w S L)) p.1 x := fun p hp => by
          obtain ⟨x, hx, e, hat⟩ := hk3 p hp
          exact ⟨x, hx, e, hat.same (same_new hS)⟩
        refine ⟨S, L, 2, 64, rfl, upd_same, ?_, by omega, ?_, fun L' R hpm hnd hfew2 hpw hR => ?_⟩
        · intro p hp
          obtain ⟨x, _, e, hat⟩ := hat2 p (hsub p hp)
          rw [e]
          exact SqT.of hat
        · intro p hp
          obtain ⟨x, hx, e, _⟩ := hat2 p (hsub p hp)
          obtain ⟨y, hy, rfl⟩ := List.mem_map.mp hx
          have := hok y hy
          rw [e]
          refine ⟨rfl, ?_⟩
          intro z hz
          unfold keyT ordT at hz
          simp only [List.mem_cons, List.not_mem_nil, or_false] at hz
          rcases hz with rfl | rfl <;> omega
        · obtain ⟨ts, hts, W, hadj⟩ := ties_of hk2 hat2 hsub hall hpm hnd hpw h1 h20 hfew hok
          refine ⟨_, rfl, _, rfl, R, _, rfl, .inl ⟨SqL.of upd_same, fun t ht => ?_⟩⟩
          refine ⟨small (by show 3 ≤ 1000; omega), fun a ha => ?_⟩
          have s2 := Same.new (o := .tup [.str "web", .int (n : Int), .ref t]) (Same.new (o := .tup (L'.map fun q => V.ref q.1)) (Same.new (o := .lst (L'.map fun q => V.ref q.1)) (Same.new (o := SetTO P w S L) s1 hS) hR) ht) ha
          refine k _ a ts s2 ⟨t, upd_same, L'.map Prod.fst, ?_, ?_⟩ W hadj
          · rw [upd_ne (ne_of_none upd_same ha), upd_same, List.map_map]
            rfl
          · exact hts.mono fun a' b' _ _ r => ((r.same (same_new hR)).same (same_new ht)).same (same_new ha)
end
end Wp
namespace Wp
open PySem L2
/-! ### parts, in plain words -/
def cmpl (n : Nat) (l : List Nat) : List Nat := (List.range n).filter fun x => !l.contains x
theorem ok_cmpl {n : Nat} {l : List Nat} (h : ∀ x ∈ l, x < n) (x : Nat) : Ok n (cmpl n l) x ↔ x ∈ l := by
  unfold Ok cmpl
  constructor
  · rintro ⟨h1, h2⟩
    refine Classical.byContradiction fun q => h2 ?_
    simp [h1, q]
  · intro hx
    exact ⟨h x hx, by simp [hx]⟩
/-- how many parts were told, and what is left -/
def Told (n : Nat) (A : Nat → Nat → Prop) (C : List Nat) (k : Nat) (left : List Nat) : Prop :=
  (k = 0 ∧ ∀ x, x ∈ left ↔ Ok n C x) ∨ (k = 1 ∧ (Parts n A C ↔ left ≠ [])) ∨ (2 ≤ k ∧ Parts n A C)
theorem Told.done {n : Nat} {A : Nat → Nat → Prop} {C : List Nat} {k : Nat} (h : Told n A C k []) : 1 < k ↔ Parts n A C := by
  rcases h with ⟨rfl, h⟩ | ⟨rfl, h⟩ | ⟨h1, h2⟩
  · exact ⟨fun z => absurd z (by omega), fun p => absurd p (no_parts fun x o => absurd ((h x).mpr o) (by simp))⟩
  · exact ⟨fun z => absurd z (by omega), fun p => absurd rfl (h.mp p)⟩
  · exact ⟨fun _ => h2, fun _ => by omega⟩
theorem Told.step {n : Nat} {A : Nat → Nat → Prop} {C : List Nat} {k v : Nat} {left F left' : List Nat} (hA : ∀ x y, A x y → A y x) (h : Told n A C k left) (hl : ∀ x ∈ left, x < n) (hv : v ∈ left) (P : IsPart n A (cmpl n left) v F)
    (h' : ∀ x, x ∈ left' ↔ x ∈ left ∧ x ∉ F) : Told n A C (k + 1) left' := by
  rcases h with ⟨rfl, h⟩ | ⟨rfl, h⟩ | ⟨h1, h2⟩
  · refine .inr (.inl ⟨rfl, ?_⟩)
    have e1 := parts_of_part hA ((ok_cmpl hl v).mpr hv) P
    have e2 : Parts n A C ↔ Parts n A (cmpl n left) := by
      have : ∀ x, x < n → (x ∈ C ↔ x ∈ cmpl n left) := fun x hx => by
        have h1 := ok_cmpl hl x
        have h2 := h x
        unfold Ok at h1 h2
        by_cases q : x ∈ C
        · by_cases q2 : x ∈ cmpl n left
          · exact ⟨fun _ => q2, fun _ => q⟩
          · exact absurd (h2.mp (h1.mp ⟨hx, q2⟩)).2 (fun z => z q)
        · have q3 := h1.mpr (h2.mpr ⟨hx, q⟩)
          exact ⟨fun z => absurd z q, fun z => absurd z q3.2⟩
      exact ⟨fun p => p.congr (fun _ _ _ _ => Iff.rfl) this, fun p => p.congr (fun _ _ _ _ => Iff.rfl) fun x hx => (this x hx).symm⟩
    rw [e2, e1]
    constructor
    · rintro ⟨y, hy, hn⟩ e
      have := (h' y).mpr ⟨(ok_cmpl hl y).mp hy, hn⟩
      rw [e] at this
      cases this
    · intro ne
      obtain ⟨y, hy⟩ := List.exists_mem_of_ne_nil _ ne
      exact ⟨y, (ok_cmpl hl y).mpr ((h' y).mp hy).1, ((h' y).mp hy).2⟩
  · exact .inr (.inr ⟨by omega, h.mpr fun e => by rw [e] at hv; cases hv⟩)
  · exact .inr (.inr ⟨by omega, h2⟩)
theorem adj_take {ts : List Tie} {i : Nat} {x : Tie} (h : ts[i]? = some x) {c y : Nat} : Adj (ts.take (i + 1)) c y ↔ Adj (ts.take i) c y ∨ x = (c, y) ∨ x = (y, c) := by
  rw [take_succ h]
  unfold Adj
  simp only [List.mem_append, List.mem_cons, List.not_mem_nil, or_false]
  constructor
  · rintro ((h | h) | (h | h))
    · exact .inl (.inl h)
    · exact .inr (.inl h.symm)
    · exact .inl (.inr h)
    · exact .inr (.inr h.symm)
  · rintro ((h | h) | (h | h))
    · exact .inl (.inl h)
    · exact .inr (.inl h)
    · exact .inl (.inr h.symm)
    · exact .inr (.inr h.symm)
section
variable {P : Program} {w : World} {K : PySem.W.Frag} {mg : Str → Option Value} {base : Heap}
/-! ### _law_parts -/
def spParts : Sp := fun vs H Q _ => ∃ (a c : Addr) (n : Nat) (ts : List Tie) (cut : List Nat), vs = [.ref a, .ref c] ∧ WebAt H a n ts ∧ WebOk n ts ∧ H c = some (.tup (cI cut)) ∧
  ∀ H' p fs, Same H H' → H' p = some (.lst fs) → (1 < fs.length ↔ Parts n (Adj ts) cut) → Q (.ref p) H'
theorem sc_parts : FnScope ["_law_web_here", "_law_gone", "_law_corner", "_law_left", "_law_found", "_law_part", "_law_waiting", "_law_one", "_law_far", "_law_other"] ["_law_web_here", "_law_gone"] (defScope sParts) := ⟨rfl, rfl, rfl, by decide +kernel, rfl, by decide +kernel, by decide +kernel⟩
theorem ok_parts {f : Addr} {fd : FuncData} (F : Fun K "_law_parts" "_law_parts" sParts f fd) (T : Txt mg) : FnOk P w K mg base CX0 1 f fd ["_law_web_here", "_law_gone"] spParts := by
  refine F.ok sc_parts (fun vs H Q E h => ?_) (fun cdv A outer s H vs Q E hr h => ?_)
  · obtain ⟨a, c, n, ts, cut, rfl, _⟩ := h
    rfl
  · obtain ⟨a, c, n, ts, cut, rfl, ⟨t, ha, tas, ht, hts⟩, W, hc, k⟩ := h
    have hn20 := W.hi
    have hfew := W.few
    refine ⟨_, pss_cons (ps_par (i := 3) (j := 4) rfl sc_parts.nd rfl rfl (by decide) rfl rfl (pa_cons
          (pe_lc (own := [("_law_corner", 2)]) (g := gName 2) rfl sc_parts.nd (pi_range1 rfl T.range (pa_cons (pe_ix ix_tup (pv 0) pe_int (fun _ _ => rfl)) pa_nil)) (blkOk_by (own := [("_law_corner", 2)]) (N := ["_law_web_here", "_law_gone", "_law_corner", "_law_left", "_law_found", "_law_part", "_law_waiting", "_law_one", "_law_far", "_law_other"]) (sc := defScope sParts) (by decide +kernel))
            (fun _ _ _ _ _ => pg_name (i := 2) sc_parts.nd rfl (Or.inl rfl)) (fun _ _ _ _ _ => pts_one (pt_cmpR (r := rIn K true) op_notIn_seq (pv 2) (pv 1) (by rfl))) (fun _ _ _ _ _ => pv 2))
          (pa_cons (pe_lst pa_nil) pa_nil)) (by rfl))
      (pss_cons (ps_while PassesOwn.never (pt_cmpR (op_neD hr.units) (pv 3) (pe_lst pa_nil) (nomark _))
        (pss_cons (ps_asg (pe_tup (pa_cons (pe_lst (pa_cons (pe_ix ix_list (pv 3) pe_int (fun _ _ => rfl)) pa_nil)) (pa_cons (pe_lst (pa_cons (pe_ix ix_list (pv 3) pe_int (fun _ _ => rfl)) pa_nil)) pa_nil)))
            (pg_tup (by rfl) (pgs_cons (pg_name (i := 5) sc_parts.nd rfl (Or.inr rfl)) (pgs_cons (pg_name (i := 6) sc_parts.nd rfl (Or.inl rfl)) pgs_nil))))
        (pss_cons (ps_while PassesOwn.never (pt_cmpR (op_neD hr.units) (pv 6) (pe_lst pa_nil) (nomark _))
          (pss_cons (ps_set (i := 2) sc_parts.nd rfl (Or.inl rfl) (pe_bm0 PySem.F.plainAttrs_list PySem.F.slot_list_pop PySem.F.type_list_pop mt_pop (pv 6)))
          (pss_one (ps_for PassesOwn.never rfl (pi_tup (pe_ix ix_tup (pv 0) pe_int (fun _ _ => rfl))) (pg_tup (by rfl) (pgs_cons (pg_name (i := 7) sc_parts.nd rfl (Or.inl rfl)) (pgs_cons (pg_name (i := 8) sc_parts.nd rfl (Or.inl rfl)) pgs_nil)))
            (pss_cons (ps_set (i := 9) sc_parts.nd rfl (Or.inl rfl) (pe_op op_sub (pe_op op_add (pv 7) (pv 8)) (pv 2)))
            (pss_one (ps_if (PW.pt (pw_and (pt_cmpR (r := rIn K false) op_in_seq (pv 2) (pe_lst (pa_cons (pv 7) (pa_cons (pv 8) pa_nil))) (by rfl)) (pw_and (pt_cmpR (r := rIn K false) op_in_seq (pv 9) (pv 3) (by rfl)) (pw_and1 (pt_cmpR (r := rIn K true) op_notIn_seq (pv 9) (pv 5) (by rfl))))))
              (pss_cons (ps_expr (pe_bm PySem.F.plainAttrs_list PySem.F.slot_list_append PySem.F.type_list_append mt_append (pv 5) (pa_cons (pv 9) pa_nil)))
              (pss_one (ps_expr (pe_bm PySem.F.plainAttrs_list PySem.F.slot_list_append PySem.F.type_list_append mt_append (pv 6) (pa_cons (pv 9) pa_nil))))) pss_nil)))))))
        (pss_cons (ps_setLc (i := 3) (own := [("_law_corner", 2)]) (g := gName 2) rfl sc_parts.nd rfl rfl (sw_true rfl rfl rfl (by decide +kernel)) (pi_list (pv 3)) (blkOk_by (own := [("_law_corner", 2)]) (N := ["_law_web_here", "_law_gone", "_law_corner", "_law_left", "_law_found", "_law_part", "_law_waiting", "_law_one", "_law_far", "_law_other"]) (sc := defScope sParts) (by decide +kernel))
            (fun _ _ _ _ _ => pg_name (i := 2) sc_parts.nd rfl (Or.inl rfl)) (fun _ _ _ _ _ => pts_one (pt_cmpR (r := rIn K true) op_notIn_seq (pv 2) (pv 5) (by rfl))) (fun _ _ _ _ _ => pv 2))
        (pss_one (ps_expr (pe_bm PySem.F.plainAttrs_list PySem.F.slot_list_append PySem.F.type_list_append mt_append (pv 4) (pa_cons (pe_callTy call_tuple_of (by rfl) T.tuple (by decide +kernel) (pa_cons (pe_callB cr_sorted (by rfl) T.sorted (by decide +kernel) (pa_cons (pv 5) pa_nil)) pa_nil)) pa_nil))))))))
      (pss_one (ps_ret (pv 4)))), ?_⟩
    -- left, found
    refine ⟨_, rfl, a, _, 1, .int (n : Int), rfl, rfl, SqT.of ha, rfl, (n : Int), rfl, by omega, by omega, fun D hD => ?_⟩
    refine lc_it (walk_range (lo := 0) (n := ((n : Int)).toNat)) (fun i H1 => Same H H1 ∧ H1 D = some (.lst (cI ((List.range i).filter fun x => !cut.contains x))))
      ⟨same_new hD, upd_same⟩ (fun _ _ _ _ => trivial) ?_ ?_
    · rintro i y Hx H1 hi ⟨s1, d1⟩ ⟨rfl, rfl⟩
      have z0 : V.int (0 + (i : Int)) = V.int (i : Int) := by rw [show 0 + (i : Int) = (i : Int) by omega]
      refine ⟨rfl, _, rfl, _, rfl, c, _, rfl, .inr (SqT.of (s1 _ _ hc)), rfl, cI_flat cut, _, rfl, ?_⟩
      have ec : inV (V.int (0 + (i : Int))) (cI cut) = cut.contains i := by rw [z0, inV_cI]
      show (if (!inV (V.int (0 + (i : Int))) (cI cut)) = true then _ else _)
      rw [ec]
      cases hb : cut.contains i with
      | true =>
        refine iteF ⟨s1, ?_⟩
        rw [filt_no (by rw [hb]; rfl)]
        exact d1
      | false =>
        refine iteT ⟨_, rfl, _, d1, ?_, Same.upd s1 hD, ?_⟩
        · rw [cI_len]
          have h1 := List.length_filter_le (fun x => !cut.contains x) (List.range i)
          rw [List.length_range] at h1
          exact small1000 (by omega)
        · rw [upd_same, filt_yes (by rw [hb]; rfl), cI_append]
          show some (HO.lst (_ ++ [V.int (0 + (i : Int))])) = some (HO.lst (_ ++ [V.int (i : Int)]))
          rw [z0]
    rintro H1 ⟨s1, d1⟩
    have en : ((n : Int)).toNat = n := Int.toNat_natCast n
    rw [en] at d1
    refine ⟨Nat.zero_le _, fun G hG => ⟨_, _, rfl, ?_⟩⟩
    have hG0 : H G = none := s1.free hG
    have s2 : Same H (upd H1 G (.lst [])) := Same.new s1 hG
    have d2 : (upd H1 G (.lst [])) D = some (.lst (cI ((List.range n).filter fun x => !cut.contains x))) := by rw [upd_ne (ne_of_none d1 hG)]; exact d1
    have g2 : (upd H1 G (.lst [])) G = some (.lst []) := upd_same
    have nDG : D ≠ G := ne_of_none d1 hG
    have hok0 : ∀ x, x ∈ (List.range n).filter (fun x => !cut.contains x) ↔ Ok n cut x := fun x => by
      unfold Ok
      simp
    have hnd0 : ((List.range n).filter fun x => !cut.contains x).Nodup := List.Pairwise.filter _ List.nodup_range
    generalize (List.range n).filter (fun x => !cut.contains x) = left0 at d2 hok0 hnd0
    generalize upd H1 G (.lst []) = H2 at s2 d2 g2 ⊢
    -- while left != []
    refine ⟨fun m σ H3 => ∃ (L : Addr) (left : List Nat) (fs : List V) (v2 v5 v6 v7 v8 v9 : Option V), m = left.length ∧ σ = [some (.ref a), some (.ref c), v2, some (.ref L), some (.ref G), v5, v6, v7, v8, v9] ∧ Same H H3 ∧ L ≠ G ∧
        H3 L = some (.lst (cI left)) ∧ H3 G = some (.lst fs) ∧ left.Nodup ∧ (∀ x ∈ left, x < n) ∧ left.length + fs.length ≤ n ∧ Told n (Adj ts) cut fs.length left,
      ⟨_, D, left0, [], none, none, none, none, none, none, rfl, rfl, s2, nDG, d2, g2, hnd0, fun x hx => ((hok0 x).mp hx).1, ?_, .inl ⟨rfl, hok0⟩⟩, ?_⟩
    · have := List.Nodup.length_le_of_subset hnd0 (l₂ := List.range n) fun y hy => List.mem_range.mpr ((hok0 y).mp hy).1
      simpa using this
    rintro m σ H3 ⟨L, left, fs, v2, v5, v6, v7, v8, v9, rfl, rfl, s3, nLG, d3, g3, hnd, hlow, hcnt, hT⟩
    refine ⟨_, rfl, Nat.zero_le _, fun q hq => ?_⟩
    have s4 : Same H (upd H3 q (.lst [])) := Same.new s3 hq
    have d4 : (upd H3 q (.lst [])) L = some (.lst (cI left)) := by rw [upd_ne (ne_of_none d3 hq)]; exact d3
    have g4 : (upd H3 q (.lst [])) G = some (.lst fs) := by rw [upd_ne (ne_of_none g3 hq)]; exact g3
    have q4 : (upd H3 q (.lst [])) q = some (.lst []) := upd_same
    generalize (upd H3 q (.lst [])) = H4 at s4 d4 g4 q4 ⊢
    refine ⟨_, _, .lst (SqL.of d4) (dpAll_ints left), .lst (SqL.of q4) .nil, shaped_ints left, rfl, _, rfl, ?_⟩
    rw [show PyData.eqv (.list (dI left)) (.list []) = PyData.eqvAll (dI left) [] from rfl, eqvAll_nil]
    by_cases hW : left = []
    · subst hW
      rw [decide_eq_true rfl]
      refine iteF ?_
      exact ⟨_, rfl, k H4 G fs s4 g4 hT.done⟩
    rw [decide_eq_false hW]
    refine iteT ?_
    obtain ⟨v, rest, rfl⟩ : ∃ v r, left = v :: r := by
      cases left with
      | nil => exact absurd rfl hW
      | cons v r => exact ⟨v, r, rfl⟩
    refine ⟨_, fun σ' H' z => z, ?_⟩
    -- part, waiting
    have hat : atI (cI (v :: rest)) (0 : Int) = some (.int (v : Int)) := atI_nat (j := 0) rfl
    refine ⟨_, rfl, L, _, 0, _, rfl, rfl, SqL.of d4, hat, sl1, fun R hR => ?_⟩
    have nLR : L ≠ R := ne_of_none d4 hR
    have nGR : G ≠ R := ne_of_none g4 hR
    have d5 : (upd H4 R (.lst [.int (v : Int)])) L = some (.lst (cI (v :: rest))) := by rw [upd_ne nLR]; exact d4
    refine ⟨_, rfl, L, _, 0, _, rfl, rfl, SqL.of d5, hat, sl1, fun Wd hWd => ?_⟩
    have hR0 : H R = none := s4.free hR
    have s5 : Same H (upd H4 R (.lst [.int (v : Int)])) := Same.new s4 hR
    have hW0 : H Wd = none := s5.free hWd
    have nLW : L ≠ Wd := ne_of_none d5 hWd
    have nRW : R ≠ Wd := ne_of_none upd_same hWd
    have nGW : G ≠ Wd := ne_of_none (by rw [upd_ne nGR]; exact g4) hWd
    refine ⟨small (by show 2 ≤ 1000; omega), fun Tp hTp => ⟨Tp, _, rfl, SqT.of upd_same, rfl, _, _, rfl, _, _, rfl, rfl, ?_⟩⟩
    have nLT : L ≠ Tp := ne_of_none (by rw [upd_ne nLW]; exact d5) hTp
    have nRT : R ≠ Tp := ne_of_none (by rw [upd_ne nRW]; exact upd_same) hTp
    have nWT : Wd ≠ Tp := ne_of_none upd_same hTp
    have nGT : G ≠ Tp := ne_of_none (by rw [upd_ne nGW, upd_ne nGR]; exact g4) hTp
    have s6 := Same.new (o := .tup [.ref R, .ref Wd]) (Same.new (o := .lst [.int (v : Int)]) s5 hWd) hTp
    have d6 : (upd (upd (upd H4 R (.lst [.int (v : Int)])) Wd (.lst [.int (v : Int)])) Tp (.tup [.ref R, .ref Wd])) L = some (.lst (cI (v :: rest))) := by rw [upd_ne nLT, upd_ne nLW]; exact d5
    have g6 : (upd (upd (upd H4 R (.lst [.int (v : Int)])) Wd (.lst [.int (v : Int)])) Tp (.tup [.ref R, .ref Wd])) G = some (.lst fs) := by rw [upd_ne nGT, upd_ne nGW, upd_ne nGR]; exact g4
    have r6 : (upd (upd (upd H4 R (.lst [.int (v : Int)])) Wd (.lst [.int (v : Int)])) Tp (.tup [.ref R, .ref Wd])) R = some (.lst (cI [v])) := by rw [upd_ne nRT, upd_ne nRW]; exact upd_same
    have w6 : (upd (upd (upd H4 R (.lst [.int (v : Int)])) Wd (.lst [.int (v : Int)])) Tp (.tup [.ref R, .ref Wd])) Wd = some (.lst (cI [v])) := by rw [upd_ne nWT]; exact upd_same
    generalize (upd (upd (upd H4 R (.lst [.int (v : Int)])) Wd (.lst [.int (v : Int)])) Tp (.tup [.ref R, .ref Wd])) = H6 at s6 d6 g6 r6 w6 ⊢
    have hokl := ok_cmpl (n := n) hlow
    have hcard : ∀ {E : Nat → Nat → Prop} {Fd Wt : List Nat}, Bfs n (Adj ts) (cmpl n (v :: rest)) v E Fd Wt → Fd.length ≤ 20 := fun B => by
      have := B.small
      omega
    -- while waiting != []
    refine ⟨fun m σ H7 => ∃ (Fd Wt : List Nat) (v2 v7 v8 v9 : Option V), m = 2 * (n - Fd.length) + Wt.length ∧ σ = [some (.ref a), some (.ref c), v2, some (.ref L), some (.ref G), some (.ref R), some (.ref Wd), v7, v8, v9] ∧ Same H H7 ∧
        H7 L = some (.lst (cI (v :: rest))) ∧ H7 G = some (.lst fs) ∧ H7 R = some (.lst (cI Fd)) ∧ H7 Wd = some (.lst (cI Wt)) ∧ Wt.length ≤ Fd.length ∧ Bfs n (Adj ts) (cmpl n (v :: rest)) v (fun _ _ => False) Fd Wt,
      ⟨_, [v], [v], v2, v7, v8, v9, rfl, rfl, s6, d6, g6, r6, w6, Nat.le_refl _, Bfs.start ((hokl v).mpr (by simp))⟩, ?_⟩
    rintro m σ H7 ⟨Fd, Wt, v2, v7, v8, v9, rfl, rfl, s7, d7, g7, r7, w7, hWF, B⟩
    refine ⟨_, rfl, Nat.zero_le _, fun q hq => ?_⟩
    have s8 : Same H (upd H7 q (.lst [])) := Same.new s7 hq
    have d8 : (upd H7 q (.lst [])) L = some (.lst (cI (v :: rest))) := by rw [upd_ne (ne_of_none d7 hq)]; exact d7
    have g8 : (upd H7 q (.lst [])) G = some (.lst fs) := by rw [upd_ne (ne_of_none g7 hq)]; exact g7
    have r8 : (upd H7 q (.lst [])) R = some (.lst (cI Fd)) := by rw [upd_ne (ne_of_none r7 hq)]; exact r7
    have w8 : (upd H7 q (.lst [])) Wd = some (.lst (cI Wt)) := by rw [upd_ne (ne_of_none w7 hq)]; exact w7
    have q8 : (upd H7 q (.lst [])) q = some (.lst []) := upd_same
    generalize (upd H7 q (.lst [])) = H8 at s8 d8 g8 r8 w8 q8 ⊢
    refine ⟨_, _, .lst (SqL.of w8) (dpAll_ints Wt), .lst (SqL.of q8) .nil, shaped_ints Wt, rfl, _, rfl, ?_⟩
    rw [show PyData.eqv (.list (dI Wt)) (.list []) = PyData.eqvAll (dI Wt) [] from rfl, eqvAll_nil]
    by_cases hWt : Wt = []
    · subst hWt
      rw [decide_eq_true rfl]
      refine iteF ?_
      have hF := hcard B
      have hP := B.done
      -- left = [..]
      refine ⟨_, rfl, L, rfl, ⟨_, SqL.of d8⟩, fun D2 hD2 => ?_⟩
      have nGD : G ≠ D2 := ne_of_none g8 hD2
      have nRD : R ≠ D2 := ne_of_none r8 hD2
      refine lc_it (walk_list (K := K) (a := L) (xs := cI (v :: rest))) (fun i H9 => Same H8 H9 ∧ H9 D2 = some (.lst (cI (((v :: rest).take i).filter fun x => !Fd.contains x))))
        ⟨same_new hD2, upd_same⟩ (fun i H9 _ p => SqL.of (p.1 _ _ d8)) ?_ ?_
      · rintro i y Hx H9 hi ⟨s9, d9⟩ ⟨rfl, hy⟩
        obtain ⟨c0, hc0, rfl⟩ := cI_get hy
        refine ⟨rfl, _, rfl, _, rfl, R, _, rfl, .inl (SqL.of (s9 _ _ r8)), rfl, cI_flat Fd, _, rfl, ?_⟩
        show (if (!inV (V.int (c0 : Int)) (cI Fd)) = true then _ else _)
        rw [inV_cI]
        cases hb : Fd.contains c0 with
        | true =>
          refine iteF ⟨s9, ?_⟩
          rw [take_succ hc0, List.filter_append, List.filter_cons_of_neg (by rw [hb]; exact Bool.false_ne_true), List.filter_nil, List.append_nil]
          exact d9
        | false =>
          refine iteT ⟨_, rfl, _, d9, ?_, Same.upd s9 hD2, ?_⟩
          · rw [cI_len]
            have h1 := List.length_filter_le (fun x => !Fd.contains x) ((v :: rest).take i)
            have h2 := List.length_take_le' i (v :: rest)
            exact small1000 (by omega)
          · rw [upd_same, take_succ hc0, List.filter_append, List.filter_cons_of_pos (by rw [hb]; rfl), List.filter_nil, cI_append]
            rfl
      · rintro H9 ⟨s9, d9⟩
        rw [cI_len, List.take_length] at d9
        have g9 := s9 _ _ g8
        have r9 := s9 _ _ r8
        refine ⟨_, rfl, .inl ⟨rfl, _, SqL.of g9⟩, _, rfl, R, Fd.map fun (k : Nat) => (k : Int), rfl, SqL.of (by rw [r9, cI_ints]), by rw [List.length_map]; omega, fun ns l hp hs hl => ?_⟩
        refine ⟨l, _, rfl, .inl ⟨SqL.of upd_same, fun tt htt => ?_⟩⟩
        have s10 := Same.new (o := .tup (ns.map V.int)) (Same.new (o := .lst (ns.map V.int)) (s8.trans s9) hl) htt
        have nGl : G ≠ l := ne_of_none g9 hl
        have nGt : G ≠ tt := ne_of_none (by rw [upd_ne nGl]; exact g9) htt
        have nDl : D2 ≠ l := ne_of_none d9 hl
        have nDt : D2 ≠ tt := ne_of_none (by rw [upd_ne nDl]; exact d9) htt
        refine ⟨G, fs, _, rfl, rfl, by rw [upd_ne nGt, upd_ne nGl]; exact g9, small1000 (by omega), ?_⟩
        have hmem : ∀ x, x ∈ (v :: rest).filter (fun x => !Fd.contains x) ↔ x ∈ v :: rest ∧ x ∉ Fd := fun x => by
          rw [List.mem_filter]
          simp
        have hlt : ((v :: rest).filter fun x => !Fd.contains x).length < (v :: rest).length := by
          have hv : Fd.contains v = true := by simp [B.v0]
          rw [List.filter_cons_of_neg (by rw [hv]; exact Bool.false_ne_true)]
          exact Nat.lt_succ_of_le (List.length_filter_le (fun x => !Fd.contains x) rest)
        refine ⟨_, hlt, D2, _, fs ++ [.ref tt], _, _, _, _, _, _, rfl, rfl, Same.upd s10 hG0, nGD.symm, ?_, upd_same, List.Pairwise.filter _ hnd, fun x hx => hlow x ((hmem x).mp hx).1, ?_, ?_⟩
        · rw [upd_ne nGD.symm, upd_ne nDt, upd_ne nDl]
          exact d9
        · rw [List.length_append, List.length_singleton]
          omega
        · rw [List.length_append, List.length_singleton]
          exact hT.step (fun x y => Adj.symm) hlow (by simp) hP hmem
    · rw [decide_eq_false hWt]
      refine iteT ?_
      obtain ⟨W', c0, rfl⟩ : ∃ W' c0, Wt = W' ++ [c0] := ⟨Wt.dropLast, Wt.getLast hWt, (List.dropLast_concat_getLast hWt).symm⟩
      have hc0 : c0 ∈ Fd := B.wf c0 (by simp)
      have hlast : (cI (W' ++ [c0]))[(cI (W' ++ [c0])).length - 1]? = some (.int (c0 : Int)) := by
        rw [cI_append]
        simp [cI]
      have hdrop : (cI (W' ++ [c0])).dropLast = cI W' := by
        rw [cI_append]
        show (cI W' ++ [V.int (c0 : Int)]).dropLast = _
        simp
      refine ⟨_, fun σ' H' z => z, ?_⟩
      refine ⟨_, rfl, .inl ⟨rfl, _, SqL.of w8⟩, Wd, _, .int (c0 : Int), rfl, rfl, w8, hlast, ?_⟩
      rw [hdrop]
      have s9 : Same H (upd H8 Wd (.lst (cI W'))) := Same.upd s8 hW0
      have d9 : (upd H8 Wd (.lst (cI W'))) L = some (.lst (cI (v :: rest))) := by rw [upd_ne nLW]; exact d8
      have g9 : (upd H8 Wd (.lst (cI W'))) G = some (.lst fs) := by rw [upd_ne nGW]; exact g8
      have r9 : (upd H8 Wd (.lst (cI W'))) R = some (.lst (cI Fd)) := by rw [upd_ne nRW]; exact r8
      have w9 : (upd H8 Wd (.lst (cI W'))) Wd = some (.lst (cI W')) := upd_same
      generalize (upd H8 Wd (.lst (cI W'))) = H9 at s9 d9 g9 r9 w9 ⊢
      refine ⟨_, rfl, a, _, 2, .ref t, rfl, rfl, SqT.of (s9 _ _ ha), rfl, t, rfl, ⟨_, SqT.of (s9 _ _ ht)⟩, ?_⟩
      refine for_it (walk_tup (K := K) (a := t) (xs := tas.map V.ref)) (fun i σ H10 => ∃ (F2 W2 : List Nat) (v7 v8 v9 : Option V), 2 * (n - F2.length) + W2.length ≤ 2 * (n - Fd.length) + W'.length ∧
          σ = [some (.ref a), some (.ref c), some (.int (c0 : Int)), some (.ref L), some (.ref G), some (.ref R), some (.ref Wd), v7, v8, v9] ∧ Same H H10 ∧
          H10 L = some (.lst (cI (v :: rest))) ∧ H10 G = some (.lst fs) ∧ H10 R = some (.lst (cI F2)) ∧ H10 Wd = some (.lst (cI W2)) ∧ c0 ∈ F2 ∧ W2.length ≤ F2.length ∧ Bfs n (Adj ts) (cmpl n (v :: rest)) v (fun x y => x = c0 ∧ ¬ Adj (ts.take i) c0 y) F2 W2)
        ⟨Fd, W', v7, v8, v9, Nat.le_refl _, rfl, s9, d9, g9, r9, w9, hc0, ?_, ?_⟩ (fun i σ H10 _ ⟨_, _, _, _, _, _, _, s, _⟩ => SqT.of (s _ _ ht)) ?_ ?_
      · rw [List.length_append] at hWF
        simp at hWF
        omega
      · exact (B.pop).skip fun x y hx e ne _ _ => absurd ⟨e, by unfold Adj; simp⟩ ne
      · rintro i y σ Hx H10 hi ⟨F2, W2, v7, v8, v9, hμ, rfl, s10, d10, g10, r10, w10, hcF, hW2, B2⟩ ⟨rfl, hy⟩
        obtain ⟨b, hb1, rfl⟩ := map_get hy
        obtain ⟨x, hx, hbx⟩ := hts.getL hb1
        have hF2 := hcard B2
        have hx12 := W.tie x (List.mem_of_getElem? hx)
        -- what a tie that is passed by leaves
        have pass : (∀ z, (x = (c0, z) ∨ x = (z, c0)) → z ∈ v :: rest → z ∈ F2) → Bfs n (Adj ts) (cmpl n (v :: rest)) v (fun x y => x = c0 ∧ ¬ Adj (ts.take (i + 1)) c0 y) F2 W2 := fun hp => by
          refine B2.skip fun u z hu e ne _ o => ?_
          have h1 : Adj (ts.take (i + 1)) c0 z := Classical.byContradiction fun q => ne ⟨e.1, q⟩
          rcases (adj_take hx).mp h1 with h | h
          · exact absurd h e.2
          · exact hp z h ((hokl z).mp o)
        refine ⟨b, _, rfl, SqT.of (s10 _ _ hbx), rfl, _, _, rfl, _, _, rfl, rfl, ?_⟩
        refine ⟨_, rfl, _, rfl, _, _, rfl, rfl, _, rfl, _, _, rfl, rfl, ?_⟩
        refine ⟨_, rfl, _, rfl, _, rfl, small (by show 2 ≤ 1000; omega), fun q hq => ?_⟩
        have s11 := Same.new (o := .lst (cI [x.1, x.2])) s10 hq
        have d11 : (upd H10 q (.lst (cI [x.1, x.2]))) L = some (.lst (cI (v :: rest))) := by rw [upd_ne (ne_of_none d10 hq)]; exact d10
        have g11 : (upd H10 q (.lst (cI [x.1, x.2]))) G = some (.lst fs) := by rw [upd_ne (ne_of_none g10 hq)]; exact g10
        have r11 : (upd H10 q (.lst (cI [x.1, x.2]))) R = some (.lst (cI F2)) := by rw [upd_ne (ne_of_none r10 hq)]; exact r10
        have w11 : (upd H10 q (.lst (cI [x.1, x.2]))) Wd = some (.lst (cI W2)) := by rw [upd_ne (ne_of_none w10 hq)]; exact w10
        have q11 : (upd H10 q (.lst (cI [x.1, x.2]))) q = some (.lst (cI [x.1, x.2])) := upd_same
        show rIn K false _ _ (upd H10 q (.lst (cI [x.1, x.2]))) _
        generalize (upd H10 q (.lst (cI [x.1, x.2]))) = H11 at s11 d11 g11 r11 w11 q11 ⊢
        refine ⟨q, cI [x.1, x.2], rfl, .inl (SqL.of q11), rfl, cI_flat _, _, rfl, ?_⟩
        refine ite2 (fun hin => ?_) (fun hin => ?_)
        · have hin' : inV (V.int (c0 : Int)) (cI [x.1, x.2]) = true := hin
          rw [inV_cI] at hin'
          have hcx : c0 = x.1 ∨ c0 = x.2 := by simpa using hin'
          obtain ⟨z, hz, hxz⟩ : ∃ z : Nat, ((x.1 : Int) + (x.2 : Int) - (c0 : Int)) = (z : Int) ∧ (x = (c0, z) ∨ x = (z, c0)) := by
            rcases hcx with e | e
            · refine ⟨x.2, by omega, .inl ?_⟩
              rw [e]
            · refine ⟨x.1, by omega, .inr ?_⟩
              rw [e]
          have huniq : ∀ y, (x = (c0, y) ∨ x = (y, c0)) → y = z := fun y hy => by
            have h1 : x.1 + x.2 = c0 + y := by
              rcases hy with e | e <;> rw [e] <;> simp <;> omega
            omega
          have hzV : V.int ((x.1 : Int) + (x.2 : Int) - (c0 : Int)) = V.int (z : Int) := by rw [hz]
          refine ⟨_, rfl, _, rfl, L, _, rfl, .inl (SqL.of d11), rfl, cI_flat _, _, rfl, ?_⟩
          refine ite2 (fun hin2 => ?_) (fun hin2 => ?_)
          · have hin2' : inV (V.int ((x.1 : Int) + (x.2 : Int) - (c0 : Int))) (cI (v :: rest)) = true := hin2
            rw [hzV, inV_cI] at hin2'
            have hzl : z ∈ v :: rest := by simpa using hin2'
            refine ⟨_, rfl, _, rfl, R, _, rfl, .inl (SqL.of r11), rfl, cI_flat _, _, rfl, ?_⟩
            refine ite2 (fun hin3 => ?_) (fun hin3 => ?_)
            · have hin3' : (!inV (V.int ((x.1 : Int) + (x.2 : Int) - (c0 : Int))) (cI F2)) = true := hin3
              rw [hzV, inV_cI] at hin3'
              have hzF : z ∉ F2 := by simpa using hin3'
              have hadj : Adj ts c0 z := by
                rcases hxz with e | e
                · exact .inl (e ▸ List.mem_of_getElem? hx)
                · exact .inr (e ▸ List.mem_of_getElem? hx)
              have B3 : Bfs n (Adj ts) (cmpl n (v :: rest)) v (fun x y => x = c0 ∧ ¬ Adj (ts.take (i + 1)) c0 y) (F2 ++ [z]) (W2 ++ [z]) := by
                refine B2.add hcF hadj ((hokl z).mpr hzl) hzF fun u y hu e ne _ o => ?_
                have h1 : Adj (ts.take (i + 1)) c0 y := Classical.byContradiction fun q => ne ⟨e.1, q⟩
                rcases (adj_take hx).mp h1 with h | h
                · exact absurd h e.2
                · rw [huniq y h]
                  simp
              have hF3 := B3.small
              rw [List.length_append] at hF3
              simp at hF3
              refine ⟨_, rfl, .inl ⟨rfl, _, SqL.of r11⟩, _, rfl, R, _, _, rfl, rfl, r11, by rw [cI_len]; exact small1000 (by omega), ?_⟩
              have w12 : (upd H11 R (.lst (cI F2 ++ [V.int ((x.1 : Int) + (x.2 : Int) - (c0 : Int))]))) Wd = some (.lst (cI W2)) := by rw [upd_ne nRW.symm]; exact w11
              refine ⟨_, rfl, .inl ⟨rfl, _, SqL.of w12⟩, _, rfl, Wd, _, _, rfl, rfl, w12, by rw [cI_len]; exact small1000 (by omega), ?_⟩
              refine ⟨F2 ++ [z], W2 ++ [z], _, _, _, by simp; omega, rfl, Same.upd (Same.upd s11 hR0) hW0, ?_, ?_, ?_, ?_, by simp [hcF], by simp; omega, B3⟩
              · rw [upd_ne nLW, upd_ne nLR]; exact d11
              · rw [upd_ne nGW, upd_ne nGR]; exact g11
              · rw [upd_ne nRW, upd_same, cI_append]
                show some (HO.lst (_ ++ [V.int ((x.1 : Int) + (x.2 : Int) - (c0 : Int))])) = some (HO.lst (_ ++ [V.int (z : Int)]))
                rw [hzV]
              · rw [upd_same, cI_append]
                show some (HO.lst (_ ++ [V.int ((x.1 : Int) + (x.2 : Int) - (c0 : Int))])) = some (HO.lst (_ ++ [V.int (z : Int)]))
                rw [hzV]
            · have hin3' : ¬ (!inV (V.int ((x.1 : Int) + (x.2 : Int) - (c0 : Int))) (cI F2)) = true := hin3
              rw [hzV, inV_cI] at hin3'
              have hzF : z ∈ F2 := by simpa using hin3'
              exact ⟨F2, W2, _, _, _, hμ, rfl, s11, d11, g11, r11, w11, hcF, hW2, pass fun y hy _ => by rw [huniq y hy]; exact hzF⟩
          · have hin2' : ¬ inV (V.int ((x.1 : Int) + (x.2 : Int) - (c0 : Int))) (cI (v :: rest)) = true := hin2
            rw [hzV, inV_cI] at hin2'
            have hzl : z ∉ v :: rest := by simpa using hin2'
            exact iteF ⟨F2, W2, _, _, _, hμ, rfl, s11, d11, g11, r11, w11, hcF, hW2, pass fun y hy hl => absurd (huniq y hy ▸ hl) hzl⟩
        · have hin' : ¬ inV (V.int (c0 : Int)) (cI [x.1, x.2]) = true := hin
          rw [inV_cI] at hin'
          refine iteF ⟨F2, W2, _, _, _, hμ, rfl, s11, d11, g11, r11, w11, hcF, hW2, pass fun y hy _ => absurd ?_ hin'⟩
          rcases hy with e | e <;> rw [e] <;> simp
      · rintro σ H10 ⟨F2, W2, v7, v8, v9, hμ, rfl, s10, d10, g10, r10, w10, hcF, hW2, B2⟩
        refine ⟨2 * (n - F2.length) + W2.length, by simp; omega, F2, W2, _, _, _, _, rfl, rfl, s10, d10, g10, r10, w10, hW2, ?_⟩
        refine B2.skip fun x z hx e _ ad _ => ?_
        have hlen : (tas.map V.ref).length = ts.length := by rw [List.length_map]; exact hts.1
        rw [hlen, List.take_length] at e
        exact absurd (e.1 ▸ ad) e.2
end
end Wp
namespace Wp
open PySem L2
/-! ### lots, in plain words -/
def longer (l : List Nat) (c : Nat) : Bool := match l.getLast? with
  | none => true
  | some d => decide (d < c)
def more (n : Nat) (l : List Nat) : List (List Nat) := ((List.range n).filter (longer l)).map fun c => l ++ [c]
def lotsR (n : Nat) : Nat → List (List Nat)
  | 0 => [[]]
  | s + 1 => (lotsR n s).flatMap (more n)
theorem more_len (n : Nat) (l : List Nat) : (more n l).length ≤ n := by
  unfold more
  rw [List.length_map]
  have := List.length_filter_le (longer l) (List.range n)
  rw [List.length_range] at this
  exact this
theorem lotsR_len {n i : Nat} (hn : n ≤ 20) (hi : i < 2) : (lotsR n i).length ≤ 20 := by
  have : i = 0 ∨ i = 1 := by omega
  rcases this with rfl | rfl
  · show 1 ≤ 20
    omega
  · have := flat_len (more n) n (more_len n) (lotsR n 0)
    show ((lotsR n 0).flatMap (more n)).length ≤ 20
    have e : (lotsR n 0).length = 1 := rfl
    rw [e] at this
    omega
theorem lotsR_two {n i : Nat} {l : List Nat} (hi : i ≤ 2) (h : l ∈ lotsR n i) : l.length = i := by
  have g : ∀ (i : Nat) (l : List Nat), l ∈ lotsR n i → l.length = i := by
    intro i
    induction i with
    | zero =>
      intro l h
      have : l = [] := by simpa [lotsR] using h
      rw [this]
      rfl
    | succ i ih =>
      intro l h
      unfold lotsR more at h
      simp only [List.mem_flatMap, List.mem_map] at h
      obtain ⟨k, hk, c, _, rfl⟩ := h
      rw [List.length_append, ih k hk]
      rfl
  exact g i l h
theorem mem_lotsR {n s : Nat} (hs : s ≤ 2) (c : List Nat) : c ∈ lotsR n s ↔ c ∈ lotsOf n s := by
  have e1 : ∀ c : List Nat, c ∈ lotsR n 1 ↔ ∃ a, a < n ∧ c = [a] := by
    intro c
    unfold lotsR lotsR more
    simp only [List.mem_flatMap, List.mem_map, List.mem_filter, List.mem_range, List.mem_cons, List.not_mem_nil, or_false]
    constructor
    · rintro ⟨l, rfl, a, ⟨h1, _⟩, rfl⟩
      exact ⟨a, h1, rfl⟩
    · rintro ⟨a, h, rfl⟩
      exact ⟨[], rfl, a, ⟨h, rfl⟩, rfl⟩
  have : s = 0 ∨ s = 1 ∨ s = 2 := by omega
  rcases this with rfl | rfl | rfl
  · exact Iff.rfl
  · rw [e1]
    unfold lotsOf
    simp only [List.mem_map, List.mem_range]
    constructor
    · rintro ⟨a, h, rfl⟩
      exact ⟨a, h, rfl⟩
    · rintro ⟨a, h, rfl⟩
      exact ⟨a, h, rfl⟩
  · show c ∈ (lotsR n 1).flatMap (more n) ↔ c ∈ lots2 n
    rw [mem_lots2]
    simp only [List.mem_flatMap]
    constructor
    · rintro ⟨l, hl, hc⟩
      obtain ⟨a, ha, rfl⟩ := (e1 l).mp hl
      unfold more at hc
      simp only [List.mem_map, List.mem_filter, List.mem_range] at hc
      obtain ⟨b, ⟨hb, h⟩, rfl⟩ := hc
      have h' : a < b := of_decide_eq_true (show decide (a < b) = true from h)
      exact ⟨a, b, h', hb, rfl⟩
    · rintro ⟨a, b, h1, h2, rfl⟩
      refine ⟨[a], (e1 _).mpr ⟨a, by omega, rfl⟩, ?_⟩
      unfold more
      simp only [List.mem_map, List.mem_filter, List.mem_range]
      exact ⟨b, ⟨h2, show decide (a < b) = true from decide_eq_true h1⟩, rfl⟩
theorem TupsAre.append {H : Hp} {as bs : List Addr} {c d : List (List Nat)} (h : TupsAre H as c) (k : TupsAre H bs d) : TupsAre H (as ++ bs) (c ++ d) := All2.append h k
section
variable {P : Program} {w : World} {K : PySem.W.Frag} {mg : Str → Option Value} {base : Heap}
/-! ### _law_lots -/
def spLots : Sp := fun vs H Q _ => ∃ (p : Addr) (n s : Nat), vs = [.ref p, .int (s : Int)] ∧ H p = some (.lst (cI (List.range n))) ∧ n ≤ 20 ∧ s ≤ 2 ∧ ∀ H' q, Same H H' → LotsAt H' q (lotsR n s) → Q (.ref q) H'
theorem sc_lots : FnScope ["_law_corners", "_law_size", "_law_found", "_law_turn", "_law_late", "_law_lot", "_law_corner"] ["_law_corners", "_law_size"] (defScope sLots) := ⟨rfl, rfl, rfl, by decide +kernel, rfl, by decide +kernel, by decide +kernel⟩
theorem ok_lots {f : Addr} {fd : FuncData} (F : Fun K "_law_lots" "_law_lots" sLots f fd) (T : Txt mg) : FnOk P w K mg base CX0 1 f fd ["_law_corners", "_law_size"] spLots := by
  refine F.ok sc_lots (fun vs H Q E h => ?_) (fun cdv A outer s H vs Q E hr h => ?_)
  · obtain ⟨p, n, s, rfl, _⟩ := h
    rfl
  · obtain ⟨p, n, sz, rfl, hp, hn, hs, k⟩ := h
    have hu := hu_of hr
    refine ⟨_, pss_cons (ps_set (i := 2) sc_lots.nd rfl (Or.inl rfl) (pe_lst (pa_cons (pe_tup pa_nil) pa_nil)))
      (pss_cons (ps_for PassesOwn.never rfl (pi_range1 rfl T.range (pa_cons (pv 1) pa_nil)) (pg_name (i := 3) sc_lots.nd rfl (Or.inl rfl))
        (pss_cons (ps_set (i := 4) sc_lots.nd rfl (Or.inl rfl) (pe_lst pa_nil))
        (pss_cons (ps_for PassesOwn.never rfl (pi_list (pv 2)) (pg_name (i := 5) sc_lots.nd rfl (Or.inr rfl))
          (pss_one (ps_expr (pe_bm PySem.F.plainAttrs_list PySem.F.slot_list_extend PySem.F.type_list_extend mt_extend (pv 4) (pa_cons
            (pe_lc (own := [("_law_corner", 6)]) (g := gName 6) rfl sc_lots.nd (pi_list (pv 0)) (blkOk_by (own := [("_law_corner", 6)]) (N := ["_law_corners", "_law_size", "_law_found", "_law_turn", "_law_late", "_law_lot", "_law_corner"]) (sc := defScope sLots) (by decide +kernel))
              (fun _ _ _ _ _ => pg_name (i := 6) sc_lots.nd rfl (Or.inl rfl)) (fun _ _ _ _ _ => pts_one (PW.pt (pw_or (pt_cmpR (r := rEqD K) (op_eqD hr.units) (pv 5) (pe_tup pa_nil) (nomark _)) (pw_or1 (pt_cmpR op_gt (pv 6) (pe_ix (r := rIxT K) ix_tup (pv 5) (pe_un un_neg pe_int) (fun _ _ => rfl)) (nomark _))))))
              (fun _ _ _ _ _ => pe_op (r := rCatA K) op_catA (pv 5) (pe_tup (pa_cons (pv 6) pa_nil)))) pa_nil)))))
        (pss_one (ps_set (i := 2) sc_lots.nd rfl (Or.inl rfl) (pv 4))))))
      (pss_one (ps_ret (pv 2)))), ?_⟩
    have hs1000 : ∀ {m : Nat}, m ≤ 1000 → m ≤ sizeLine := fun h => small h
    -- found = [()]
    refine ⟨Nat.zero_le _, fun e0 he0 => ⟨sl1, fun D hD => ?_⟩⟩
    have s1 := Same.new (o := .lst [.ref e0]) (same_new (o := .tup []) he0) hD
    have d1 : (upd (upd H e0 (.tup [])) D (.lst [.ref e0])) D = some (.lst ([e0].map V.ref)) := upd_same
    have t1 : TupsAre (upd (upd H e0 (.tup [])) D (.lst [.ref e0])) [e0] (lotsR n 0) := All2.one (by rw [upd_ne (ne_of_none upd_same hD)]; exact upd_same)
    have hD0 : H D = none := (same_new (o := .tup []) he0).free hD
    generalize (upd (upd H e0 (.tup [])) D (.lst [.ref e0])) = H1 at s1 d1 t1 ⊢
    refine ⟨_, rfl, (sz : Int), rfl, by omega, by omega, ?_⟩
    refine for_it (walk_range (lo := 0) (n := ((sz : Int)).toNat)) (fun i σ H2 => ∃ (q : Addr) (as : List Addr) (v3 v4 v5 v6 : Option V), σ = [some (.ref p), some (.int (sz : Int)), some (.ref q), v3, v4, v5, v6] ∧ Same H H2 ∧ H2 q = some (.lst (as.map V.ref)) ∧ TupsAre H2 as (lotsR n i))
      ⟨D, [e0], none, none, none, none, rfl, s1, d1, t1⟩ (fun _ _ _ _ _ => trivial) ?_ ?_
    · rintro i y σ Hx H2 hi ⟨q, as, v3, v4, v5, v6, rfl, s2, d2, t2⟩ ⟨rfl, rfl⟩
      have hi2 : i < 2 := by omega
      have hlen := lotsR_len hn hi2
      have hal := t2.1
      refine ⟨Nat.zero_le _, fun Lt hLt => ?_⟩
      have s3 : Same H2 (upd H2 Lt (.lst [])) := same_new hLt
      have l3 : (upd H2 Lt (.lst [])) Lt = some (.lst (([] : List Addr).map V.ref)) := upd_same
      have hL0 : H2 Lt = none := hLt
      have nqL : q ≠ Lt := ne_of_none d2 hLt
      generalize (upd H2 Lt (.lst [])) = H3 at s3 l3 ⊢
      refine ⟨_, rfl, q, rfl, ⟨_, SqL.of (s3 _ _ d2)⟩, ?_⟩
      refine for_it (walk_list (K := K) (a := q) (xs := as.map V.ref)) (fun j σ H4 => ∃ (bs : List Addr) (v5 v6 : Option V), σ = [some (.ref p), some (.int (sz : Int)), some (.ref q), some (.int (0 + (i : Int))), some (.ref Lt), v5, v6] ∧ Same H2 H4 ∧ H4 Lt = some (.lst (bs.map V.ref)) ∧ TupsAre H4 bs (((lotsR n i).take j).flatMap (more n)))
        ⟨[], v5, v6, rfl, s3, l3, by rw [List.take_zero]; exact All2.nil⟩ (fun _ _ _ _ z => let ⟨_, _, _, _, s, _⟩ := z; SqL.of (s _ _ d2)) ?_ ?_
      · rintro j y σ Hx H4 hj ⟨bs, v5, v6, rfl, s4, l4, t4⟩ ⟨rfl, hy⟩
        obtain ⟨b, hb, rfl⟩ := map_get hy
        obtain ⟨l, hl, hbl⟩ := t2.getL hb
        have hll := lotsR_two (by omega) (List.mem_of_getElem? hl)
        have hb4 := s4 _ _ hbl
        refine ⟨_, rfl, .inl ⟨rfl, _, SqL.of l4⟩, _, rfl, p, rfl, ⟨_, SqL.of (s4 _ _ (s2 _ _ hp))⟩, fun D2 hD2 => ?_⟩
        have nLD : Lt ≠ D2 := ne_of_none l4 hD2
        refine lc_it (walk_list (K := K) (a := p) (xs := cI (List.range n))) (fun x H5 => Same H4 H5 ∧ ∃ cs : List Addr, H5 D2 = some (.lst (cs.map V.ref)) ∧ TupsAre H5 cs (((List.range x).filter (longer l)).map fun c => l ++ [c]))
          ⟨same_new hD2, [], upd_same, All2.nil⟩ (fun _ _ _ z => SqL.of (z.1 _ _ (s4 _ _ (s2 _ _ hp)))) ?_ ?_
        · rintro x y Hx H5 hx ⟨s5, cs, d5, t5⟩ ⟨rfl, hy⟩
          obtain ⟨c0, hc0, rfl⟩ := cI_get hy
          rw [cI_len, List.length_range] at hx
          have hcx : c0 = x := by
            rw [List.getElem?_range hx] at hc0
            exact (Option.some.inj hc0).symm
          subst hcx
          have hb5 := s5 _ _ hb4
          refine ⟨rfl, _, rfl, Nat.zero_le _, fun e he => ?_⟩
          have s6 : Same H5 (upd H5 e (.tup [])) := same_new he
          have he6 : (upd H5 e (.tup [])) e = some (.tup []) := upd_same
          have d6 : (upd H5 e (.tup [])) D2 = some (.lst (cs.map V.ref)) := s6 _ _ d5
          have t6 : TupsAre (upd H5 e (.tup [])) cs (((List.range c0).filter (longer l)).map fun c => l ++ [c]) := t5.same s6
          have hb6 := s6 _ _ hb5
          have s46 := s5.trans s6
          generalize (upd H5 e (.tup [])) = H6 at s6 he6 d6 t6 hb6 s46 ⊢
          refine ⟨_, _, .tup (SqT.of hb6) (dpAll_ints l), .tup (SqT.of he6) .nil, shaped_intsT l, rfl, _, rfl, ?_⟩
          rw [show PyData.eqv (.tuple (dI l)) (.tuple []) = PyData.eqvAll (dI l) [] from rfl, eqvAll_nil]
          have hcsl := t6.1
          rw [List.length_map] at hcsl
          have hcs : cs.length ≤ 20 := by
            have := List.length_filter_le (longer l) (List.range c0)
            rw [List.length_range] at this
            omega
          -- the element
          have yes : longer l c0 = true → ∀ (H7 : Hp) (z : Addr), Same H6 H7 → H7 z = some (.tup (cI (l ++ [c0]))) → z ≠ D2 →
              ∃ acc, H7 D2 = some (HO.lst acc) ∧ acc.length < sizeLine ∧ Same H4 (upd H7 D2 (.lst (acc ++ [.ref z]))) ∧ ∃ cs : List Addr, (upd H7 D2 (.lst (acc ++ [.ref z]))) D2 = some (.lst (cs.map V.ref)) ∧ TupsAre (upd H7 D2 (.lst (acc ++ [.ref z]))) cs (((List.range (c0 + 1)).filter (longer l)).map fun c => l ++ [c]) := fun hy H7 z s7 hz nz => by
            have d7 := s7 _ _ d6
            refine ⟨_, d7, by rw [List.length_map]; exact small1000 (by omega), Same.upd (s46.trans s7) hD2, cs ++ [z], by rw [upd_same, List.map_append]; rfl, ?_⟩
            rw [filt_yes hy, List.map_append]
            refine All2.snoc ((t6.same s7).updL d7) ?_
            rw [upd_ne nz]
            exact hz
          have no : longer l c0 = false → Same H4 H6 ∧ ∃ cs : List Addr, H6 D2 = some (.lst (cs.map V.ref)) ∧ TupsAre H6 cs (((List.range (c0 + 1)).filter (longer l)).map fun c => l ++ [c]) := fun hn => by
            rw [filt_no hn]
            exact ⟨s46, cs, d6, t6⟩
          by_cases hl0 : l = []
          · subst hl0
            rw [decide_eq_true rfl]
            refine iteT ?_
            refine iteT ?_
            refine ⟨_, rfl, _, rfl, sl1, fun c hc => ?_⟩
            refine ⟨b, c, [], cI [c0], rfl, rfl, SqT.of (by rw [upd_ne (ne_of_none hb6 hc)]; exact hb6), SqT.of upd_same, sl1, fun _ => ?_, fun z => absurd rfl z, fun z => absurd rfl z⟩
            exact yes rfl _ c (same_new hc) upd_same (ne_of_none d6 hc).symm
          · rw [decide_eq_false hl0]
            refine iteF ?_
            obtain ⟨l', d, rfl⟩ : ∃ l' d, l = l' ++ [d] := ⟨l.dropLast, l.getLast hl0, (List.dropLast_concat_getLast hl0).symm⟩
            have hat : atI (cI (l' ++ [d])) (-1 : Int) = some (.int (d : Int)) := by
              rw [cI_append]
              exact atI_last _ _
            have elng : longer (l' ++ [d]) c0 = decide (d < c0) := by
              unfold longer
              simp
            refine ⟨_, rfl, _, rfl, _, rfl, b, _, -1, _, rfl, rfl, SqT.of hb6, hat, _, _, rfl, rfl, _, rfl, ?_⟩
            refine ite2 (fun hlt => ?_) (fun hlt => ?_)
            · have hlt' : (d : Int) < (c0 : Int) := of_decide_eq_true hlt
              have hy : longer (l' ++ [d]) c0 = true := by
                rw [elng]
                exact decide_eq_true (by omega)
              refine ⟨_, rfl, _, rfl, sl1, fun c hc => ?_⟩
              have hb7 : (upd H6 c (.tup [V.int (c0 : Int)])) b = some (.tup (cI (l' ++ [d]))) := by rw [upd_ne (ne_of_none hb6 hc)]; exact hb6
              refine ⟨b, c, _, [V.int (c0 : Int)], rfl, rfl, SqT.of hb7, SqT.of upd_same, ?_, fun z => ?_, fun _ z => (by cases z), fun _ _ z hz => ?_⟩
              · rw [cI_len, hll]
                exact small (by show i + 1 ≤ 1000; omega)
              · have := congrArg List.length z
                rw [cI_len] at this
                simp at this
              · refine yes hy _ z (Same.new (same_new hc) hz) ?_ ?_
                · rw [upd_same, cI_append (l' ++ [d])]
                  rfl
                · exact (ne_of_none (show (upd H6 c (.tup [V.int (c0 : Int)])) D2 = some (.lst (cs.map V.ref)) by rw [upd_ne (ne_of_none d6 hc)]; exact d6) hz).symm
            · have hlt' : ¬ (d : Int) < (c0 : Int) := of_decide_eq_false (by simpa using hlt)
              have hn : longer (l' ++ [d]) c0 = false := by
                rw [elng]
                exact decide_eq_false (by omega)
              exact no hn
        · rintro H5 ⟨s5, cs, d5, t5⟩
          rw [cI_len, List.length_range] at t5
          have l5 := s5 _ _ l4
          have hbl := t4.1
          have hcl := t5.1
          have hm := flat_len (more n) n (more_len n) ((lotsR n i).take j)
          have hm2 := more_len n l
          have hlt : ((lotsR n i).take j).length ≤ 20 := by
            rw [List.length_take]
            omega
          have hmul : ((lotsR n i).take j).length * n ≤ 20 * 20 := Nat.mul_le_mul hlt hn
          have hcl2 : cs.length ≤ 20 := by
            unfold more at hm2
            omega
          refine ⟨Lt, D2, _, _, rfl, rfl, l5, d5, ?_, ?_⟩
          · rw [List.length_map, List.length_map]
            exact small (by omega)
          · refine ⟨bs ++ cs, _, _, rfl, Same.upd (s4.trans s5) hL0, by rw [upd_same, List.map_append], ?_⟩
            rw [take_succ hl, List.flatMap_append]
            refine TupsAre.append ((t4.same s5).updL l5) ?_
            rw [List.flatMap_singleton]
            exact t5.updL l5
      · rintro σ H4 ⟨bs, v5, v6, rfl, s4, l4, t4⟩
        rw [List.length_map, hal, List.take_length] at t4
        exact ⟨_, rfl, Lt, bs, _, _, _, _, rfl, s2.trans s4, l4, t4⟩
    · rintro σ H2 ⟨q, as, v3, v4, v5, v6, rfl, s2, d2, t2⟩
      have en : ((sz : Int)).toNat = sz := Int.toNat_natCast sz
      rw [en] at t2
      exact ⟨_, rfl, k H2 q s2 ⟨as, d2, t2⟩⟩
end
end Wp
namespace Wp
open PySem L2
section
variable {P : Program} {w : World} {K : PySem.W.Frag} {mg : Str → Option Value} {base : Heap}
/-! ### _law_least_cut -/
def spLeast : Sp := fun vs H Q _ => ∃ (a : Addr) (n : Nat) (ts : List Tie), vs = [.ref a] ∧ WebAt H a n ts ∧ WebOk n ts ∧ ∀ H', Same H H' → Q (dueV (firstCut n (Adj ts))) H'
theorem sc_least : FnScope ["_law_web_here", "_law_size", "_law_cut"] ["_law_web_here"] (defScope sLeast) := ⟨rfl, rfl, rfl, by decide +kernel, rfl, by decide +kernel, by decide +kernel⟩
theorem rgV_range (n : Nat) : rgV 0 (n : Int) = cI (List.range n) := by
  unfold rgV cI
  rw [show ((n : Int) - 0).toNat = n by omega]
  exact List.map_congr_left fun i _ => by rw [show (0 : Int) + (i : Int) = (i : Int) by omega]
theorem ok_least {f : Addr} {fd : FuncData} (F : Fun K "_law_least_cut" "_law_least_cut" sLeast f fd) (T : Txt mg) (c1 : Cal P w K mg base 1 "_law_lots" spLots) (c2 : Cal P w K mg base 1 "_law_parts" spParts) : FnOk P w K mg base CX0 2 f fd ["_law_web_here"] spLeast := by
  refine F.ok sc_least (fun vs H Q E h => ?_) (fun cdv A outer s H vs Q E hr h => ?_)
  · obtain ⟨a, n, ts, rfl, _⟩ := h
    rfl
  · obtain ⟨a, n, ts, rfl, hw, W, k⟩ := h
    have hn20 := W.hi
    refine ⟨_, pss_cons (ps_for PassesOwn.never rfl (pi_list (pe_lst (pa_cons pe_int (pa_cons pe_int (pa_cons pe_int pa_nil))))) (pg_name (i := 1) sc_least.nd rfl (Or.inl rfl))
        (pss_one (ps_for PassesOwn.never rfl (pi_list (pe_cal c1 hr (by decide) (by rfl) (pa_cons (pe_listRg rfl (by rfl) T.list (prg_1 (by rfl) T.range (pe_ix ix_tup (pv 0) pe_int (fun _ _ => rfl)))) (pa_cons (pv 1) pa_nil)))) (pg_name (i := 2) sc_least.nd rfl (Or.inl rfl))
          (pss_one (ps_if (pt_cmpR op_gt (pe_callB call_len_seq (by rfl) T.len PySem.boot_len (pa_cons (pe_cal c2 hr (by decide) (by rfl) (pa_cons (pv 0) (pa_cons (pv 2) pa_nil))) pa_nil)) pe_int (nomark _)) (pss_one (ps_ret (pv 1))) pss_nil)))))
      (pss_one (ps_ret pe_non)), ?_⟩
    obtain ⟨t, ha, ht⟩ := id hw
    refine ⟨small (by show 3 ≤ 1000; omega), fun q hq => ⟨q, rfl, ⟨_, SqL.of upd_same⟩, ?_⟩⟩
    have s1 : Same H (upd H q (.lst [.int 0, .int 1, .int 2])) := same_new hq
    have q1 : (upd H q (.lst [.int 0, .int 1, .int 2])) q = some (.lst (cI [0, 1, 2])) := upd_same
    generalize (upd H q (.lst [.int 0, .int 1, .int 2])) = H1 at s1 q1 ⊢
    refine for_it (walk_list (K := K) (a := q) (xs := cI [0, 1, 2])) (fun i σ H2 => Same H1 H2 ∧ (∀ r, r < i → ∀ d ∈ lotsOf n r, ¬ Parts n (Adj ts) d) ∧ ∃ v1 v2, σ = [some (.ref a), v1, v2])
      ⟨Same.refl _, fun r hr => absurd hr (Nat.not_lt_zero _), none, none, rfl⟩ (fun _ _ _ _ z => SqL.of (z.1 _ _ q1)) ?_ ?_
    · rintro i y σ Hx H2 hi ⟨s2, hno, v1, v2, rfl⟩ ⟨rfl, hy⟩
      obtain ⟨sz, hsz, rfl⟩ := cI_get hy
      have hi3 : i < 3 := hi
      have hszi : sz = i := by
        have : i = 0 ∨ i = 1 ∨ i = 2 := by omega
        rcases this with rfl | rfl | rfl <;> exact (Option.some.inj hsz).symm
      subst hszi
      have hw2 := (hw.same s1).same s2
      refine ⟨_, rfl, a, _, 1, .int (n : Int), rfl, rfl, SqT.of (s2 _ _ (s1 _ _ ha)), rfl, (n : Int), rfl, RgOk.of_le (by omega) (by omega) (by omega) (by omega), fun rl hrl => ?_⟩
      refine ⟨_, rfl, rl, n, sz, rfl, by rw [upd_same, rgV_range], hn20, by omega, fun H3 L s3 hL => ?_⟩
      obtain ⟨as, hL, hall⟩ := hL
      have s13 : Same H2 H3 := (same_new hrl).trans s3
      refine ⟨L, rfl, ⟨_, SqL.of hL⟩, ?_⟩
      refine for_it (walk_list (K := K) (a := L) (xs := as.map V.ref)) (fun j σ H4 => Same H3 H4 ∧ (∀ (r : Nat) d, r < j → (lotsR n sz)[r]? = some d → ¬ Parts n (Adj ts) d) ∧ ∃ v2, σ = [some (.ref a), some (.int (sz : Int)), v2])
        ⟨Same.refl _, fun r d hr => absurd hr (Nat.not_lt_zero _), v2, rfl⟩ (fun _ _ _ _ z => SqL.of (z.1 _ _ hL)) ?_ ?_
      · rintro j y σ Hx H4 hj ⟨s4, hno2, v2, rfl⟩ ⟨rfl, hy⟩
        obtain ⟨c, hc, rfl⟩ := map_get hy
        obtain ⟨cut, hcut, hcc⟩ := hall.getL hc
        have hmem : cut ∈ lotsOf n sz := (mem_lotsR (by omega) cut).mp (List.mem_of_getElem? hcut)
        refine ⟨_, rfl, _, rfl, a, c, n, ts, cut, rfl, (hw2.same s13).same s4, W, s4 _ _ hcc, fun H5 p fs s5 hp hiff => ?_⟩
        refine ⟨p, _, rfl, .inl (SqL.of hp), _, _, rfl, rfl, _, rfl, ?_⟩
        refine ite2 (fun h1 => ?_) (fun h1 => ?_)
        · have h1' : (1 : Int) < (fs.length : Int) := of_decide_eq_true h1
          have hP := hiff.mp (by omega)
          have e := firstCut_size (A := Adj ts) (by omega) hno ⟨cut, hmem, hP⟩
          have ed : dueV (firstCut n (Adj ts)) = .int (sz : Int) := by
            cases e2 : firstCut n (Adj ts) with
            | none => rw [e2] at e; cases e
            | some d =>
              rw [e2] at e
              simp at e
              show V.int (d.length : Int) = _
              rw [e]
          refine ⟨_, rfl, ?_⟩
          have := k H5 ((((s1.trans s2).trans s13).trans s4).trans s5)
          rw [ed] at this
          exact this
        · have h1' : ¬ (1 : Int) < (fs.length : Int) := of_decide_eq_false (by simpa using h1)
          refine ⟨s4.trans s5, fun r d hr hd => ?_, _, rfl⟩
          rcases Nat.lt_succ_iff_lt_or_eq.mp hr with h | h
          · exact hno2 r d h hd
          · rw [h, hcut] at hd
            cases hd
            exact fun p => h1' (by have := hiff.mpr p; omega)
      · rintro σ H4 ⟨s4, hno2, v2, rfl⟩
        refine ⟨(s2.trans s13).trans s4, fun r hr d hd => ?_, _, _, rfl⟩
        rcases Nat.lt_succ_iff_lt_or_eq.mp hr with h | h
        · exact hno r h d hd
        · subst h
          obtain ⟨j, hj⟩ := List.mem_iff_getElem?.mp ((mem_lotsR (by omega) d).mpr hd)
          have hal := hall.1
          rw [List.length_map] at hno2
          exact hno2 j d (by rw [hal]; exact get_lt hj) hj
    · rintro σ H2 ⟨s2, hno, v1, v2, rfl⟩
      have e := firstCut_none_sizes (A := Adj ts) fun r hr d hd => hno r (by show r < 3; omega) d hd
      have := k H2 (s1.trans s2)
      rw [e] at this
      exact this
/-! ### _law_is_three -/
theorem sc_three : FnScope ["_law_web_here"] ["_law_web_here"] (defScope sThree) := ⟨rfl, rfl, rfl, by decide +kernel, rfl, by decide +kernel, by decide +kernel⟩
theorem ok_three {f : Addr} {fd : FuncData} (F : Fun K "_law_is_three" "_law_is_three" sThree f fd) (T : Txt mg) (c1 : Cal P w K mg base 2 "_law_least_cut" spLeast) : FnOk P w K mg base CX0 3 f fd ["_law_web_here"] spThreeWeb := by
  refine F.ok sc_three (fun vs H Q E h => ?_) (fun cdv A outer s H vs Q E hr h => ?_)
  · obtain ⟨a, n, ts, rfl, _⟩ := h
    rfl
  · obtain ⟨a, n, ts, rfl, hw, W, k⟩ := h
    refine ⟨_, pss_one (ps_ret (pe_and (pe_cmpR op_gt (pe_ix ix_tup (pv 0) pe_int (fun _ _ => rfl)) pe_int (nomark _)) (pe_one (pe_cmp (pc_isN (pe_cal c1 hr (by decide) (by rfl) (pa_cons (pv 0) pa_nil))) rfl)))), ?_⟩
    obtain ⟨t, ha, ht⟩ := id hw
    refine ⟨_, rfl, a, _, 1, .int (n : Int), rfl, rfl, SqT.of ha, rfl, _, _, rfl, rfl, decide ((3 : Int) < (n : Int)), rfl, ?_⟩
    by_cases h4 : (3 : Int) < (n : Int)
    · rw [decide_eq_true h4]
      refine iteT ?_
      refine ⟨_, rfl, a, n, ts, rfl, hw, W, fun H1 s1 => ?_⟩
      refine k H1 _ s1 ?_
      rw [three_iff]
      cases e : firstCut n (Adj ts) with
      | none => exact ⟨fun _ => ⟨by omega, rfl⟩, fun _ => rfl⟩
      | some d => exact ⟨fun z => (Bool.false_ne_true z).elim, fun z => by cases z.2⟩
    · rw [decide_eq_false h4]
      refine iteF ?_
      exact k H _ (Same.refl H) ⟨fun z => (Bool.false_ne_true z).elim, fun z => absurd z.1 (by omega)⟩
/-! ### _law_is_whole -/
def spWhole : Sp := fun vs H Q _ => ∃ (j n : Nat), vs = [.int (j : Int), .int (n : Int)] ∧ j < n ∧ Q (.bl true) H
theorem sc_whole : FnScope ["_law_value", "_law_many"] ["_law_value", "_law_many"] (defScope sWhole) := ⟨rfl, rfl, rfl, by decide +kernel, rfl, by decide +kernel, by decide +kernel⟩
theorem ok_whole {f : Addr} {fd : FuncData} (F : Fun K "_law_is_whole" "_law_is_whole" sWhole f fd) (T : Txt mg) : FnOk P w K mg base CX0 1 f fd ["_law_value", "_law_many"] spWhole := by
  refine F.ok sc_whole (fun vs H Q E h => ?_) (fun cdv A outer s H vs Q E hr h => ?_)
  · obtain ⟨j, n, rfl, _⟩ := h
    rfl
  · obtain ⟨j, n, rfl, hj, k⟩ := h
    refine ⟨_, pss_one (ps_ret (pe_and (pe_callB call_isi (by rfl) T.isinst (by decide +kernel) (pa_cons (pv 0) (pa_cons (pe_bltn (by rfl) T.int (by decide +kernel) (v := .ty "int") rfl) pa_nil)))
      (pe_and (pe_not (pe_callB call_isi (by rfl) T.isinst (by decide +kernel) (pa_cons (pv 0) (pa_cons (pe_bltn (by rfl) T.bool (by decide +kernel) (v := .ty "bool") rfl) pa_nil)))) (pe_one (pe_chain op_le op_lt pe_int (pv 0) (pv 1)))))), ?_⟩
    refine ⟨_, rfl, .int (j : Int), .ty "int", _, _, true, rfl, .ty _, .base (.int _), kit_ty (by decide +kernel), true, rfl, iteT ?_⟩
    refine ⟨_, rfl, .int (j : Int), .ty "bool", _, _, false, rfl, .ty _, .base (.int _), kit_ty (by decide +kernel), false, rfl, _, rfl, iteT ?_⟩
    refine ⟨_, rfl, _, _, rfl, rfl, decide ((0 : Int) ≤ (j : Int)), rfl, ?_⟩
    rw [decide_eq_true (show (0 : Int) ≤ (j : Int) by omega)]
    refine iteT ?_
    refine ⟨_, rfl, _, _, rfl, rfl, ?_⟩
    show Q (.bl (decide ((j : Int) < (n : Int)))) H
    rw [decide_eq_true (show (j : Int) < (n : Int) by omega)]
    exact k
end
end Wp
namespace Wp
open PySem L2
section
variable {P : Program} {w : World} {K : PySem.W.Frag} {mg : Str → Option Value} {base : Heap}
/-! ### _law_is_rising -/
def spLRising : Sp := fun vs H Q _ => ∃ (v : Addr) (n : Nat) (l : List Nat), vs = [.ref v, .int (n : Int)] ∧ H v = some (.tup (cI l)) ∧ l.Pairwise (· < ·) ∧ (∀ x ∈ l, x < n) ∧ l.length ≤ 100 ∧ ∀ H', Same H H' → Q (.bl true) H'
theorem sc_lrising : FnScope ["_law_value", "_law_many", "_law_one", "_law_near", "_law_far"] ["_law_value", "_law_many"] (defScope sLRising) := ⟨rfl, rfl, rfl, by decide +kernel, rfl, by decide +kernel, by decide +kernel⟩
theorem ok_lrising {f : Addr} {fd : FuncData} (F : Fun K "_law_is_rising" "_law_is_rising" sLRising f fd) (T : Txt mg) (c1 : Cal P w K mg base 1 "_law_is_whole" spWhole) : FnOk P w K mg base CX0 2 f fd ["_law_value", "_law_many"] spLRising := by
  refine F.ok sc_lrising (fun vs H Q E h => ?_) (fun cdv A outer s H vs Q E hr h => ?_)
  · obtain ⟨v, n, l, rfl, _⟩ := h
    rfl
  · obtain ⟨v, n, l, rfl, hv, hrise, hlow, hlen, k⟩ := h
    refine ⟨_, pss_cons (ps_if (PW.pt (pw_or (pt_not (pt_val (pe_callB call_isi (by rfl) T.isinst (by decide +kernel) (pa_cons (pv 0) (pa_cons (pe_bltn (by rfl) T.tuple (by decide +kernel) (v := .ty "tuple") rfl) pa_nil)))))
        (pw_or1 (pt_not (pt_val (pe_callB (cr_all rfl) (by rfl) T.all (by decide +kernel) (pa_cons
          (pe_lc (own := [("_law_one", 2)]) (g := gName 2) (tt := tYes) rfl sc_lrising.nd (pi_tup (pv 0)) (blkOk_by (own := [("_law_one", 2)]) (N := ["_law_value", "_law_many", "_law_one", "_law_near", "_law_far"]) (sc := defScope sLRising) (by decide +kernel))
            (fun _ _ _ _ _ => pg_name (i := 2) sc_lrising.nd rfl (Or.inl rfl)) (fun _ _ _ _ _ => pts_nil) (fun _ _ _ _ _ => pe_cal c1 hr (by decide) (by rfl) (pa_cons (pv 2) (pa_cons (pv 1) pa_nil)))) pa_nil))))))) (pss_one (ps_ret pe_bl)) pss_nil)
      (pss_one (ps_ret (pe_callB (cr_all rfl) (by rfl) T.all (by decide +kernel) (pa_cons
          (pe_lc (own := [("_law_near", 3), ("_law_far", 4)]) (g := gTup K 2 (gCons (gName 3) (gCons (gName 4) gNil))) (tt := tYes) rfl sc_lrising.nd
            (RZ.pi_zipA (by rfl) T.zip (pa_cons (pv 0) (pa_cons (pe_slice sl_tupA (pv 0) (po_some pe_int) po_none) pa_nil)))
            (blkOk_by (own := [("_law_near", 3), ("_law_far", 4)]) (N := ["_law_value", "_law_many", "_law_one", "_law_near", "_law_far"]) (sc := defScope sLRising) (by decide +kernel))
            (fun _ _ _ _ _ => pg_tup (by rfl) (pgs_cons (pg_name (i := 3) sc_lrising.nd rfl (Or.inl rfl)) (pgs_cons (pg_name (i := 4) sc_lrising.nd rfl (Or.inl rfl)) pgs_nil))) (fun _ _ _ _ _ => pts_nil)
            (fun _ _ _ _ _ => pe_cmpR op_lt (pv 3) (pv 4) (nomark _))) pa_nil)))), ?_⟩
    refine ⟨_, rfl, .ref v, .ty "tuple", _, _, true, rfl, .ty _, .base (.tup hv), kit_ty (by decide +kernel), true, rfl, iteF ?_⟩
    refine ⟨_, rfl, v, rfl, ⟨_, SqT.of hv⟩, fun D hD => ?_⟩
    refine lc_it (walk_tup (K := K) (a := v) (xs := cI l)) (fun i H1 => Same H H1 ∧ H1 D = some (.lst (List.replicate i (V.bl true)))) ⟨same_new hD, upd_same⟩ (fun i H1 _ q => SqT.of (q.1 _ _ hv)) ?_ ?_
    · rintro i y Hx H1 hi ⟨s1, d1⟩ ⟨rfl, hy⟩
      obtain ⟨c, hc, rfl⟩ := cI_get hy
      have hcn := hlow c (List.mem_of_getElem? hc)
      refine ⟨rfl, _, rfl, _, rfl, c, n, rfl, hcn, ?_⟩
      refine ⟨_, d1, ?_, Same.upd s1 hD, ?_⟩
      · rw [List.length_replicate]
        exact Nat.lt_of_lt_of_le hi (small (by rw [cI_len]; omega))
      · rw [upd_same, List.replicate_succ']
    · rintro H1 ⟨s1, d1⟩
      refine ⟨D, List.replicate (cI l).length true, rfl, SqL.of (by rw [d1, List.map_replicate]), ?_⟩
      have hall : (List.replicate (cI l).length true).all id = true := by simp
      rw [hall]
      refine ⟨true, rfl, iteF ?_⟩
      have hv1 := s1 _ _ hv
      refine ⟨_, rfl, _, rfl, 1, rfl, ?_⟩
      refine sl_tailR (SqT.of hv1) fun b H3 s3 hb => ?_
      have hv3 := s3 _ _ hv1
      refine ⟨v, b, _, _, rfl, .inr ⟨SqT.of hv3, hb, fun D hD => ?_⟩⟩
      refine lc_it (walk_zipT (K := K) (a := v) (b := b) (xs := cI l) (ys := (cI l).tail) rfl) (fun i H4 => Same H3 H4 ∧ H4 D = some (.lst (List.replicate i (V.bl true))))
        ⟨same_new hD, upd_same⟩ (fun i H4 _ q => ⟨SqT.of (q.1 _ _ hv3), seqT_same q.1 hb⟩) ?_ ?_
      · rintro i y H4 H5 hi ⟨s4, d4⟩ ⟨T1, x, z, rfl, hT, rfl, hx, hz⟩
        obtain ⟨c1, hc1, rfl⟩ := cI_get hx
        obtain ⟨c2, hc2, rfl⟩ := cI_get (tail_get.symm.trans hz)
        have hlt := pw_next hrise hc1 hc2
        refine ⟨T1, _, rfl, SqT.of upd_same, rfl, _, _, rfl, _, _, rfl, rfl, rfl, _, rfl, _, rfl, _, _, rfl, rfl, ?_⟩
        have nd : D ≠ T1 := ne_of_none d4 hT
        refine ⟨_, by rw [upd_ne nd]; exact d4, ?_, Same.upd (Same.new s4 hT) hD, ?_⟩
        · rw [List.length_replicate]
          exact Nat.lt_of_lt_of_le hi (Nat.le_trans (Nat.min_le_left _ _) (small (by rw [cI_len]; omega)))
        · rw [upd_same, List.replicate_succ']
          show some (HO.lst (_ ++ [V.bl (decide ((c1 : Int) < (c2 : Int)))])) = _
          rw [decide_eq_true (show (c1 : Int) < (c2 : Int) by omega)]
      · rintro H4 ⟨s4, d4⟩
        generalize min (cI l).length (cI l).tail.length = m at d4
        refine ⟨D, List.replicate m true, rfl, SqL.of (by rw [d4, List.map_replicate]), ?_⟩
        have hall : (List.replicate m true).all id = true := by simp
        rw [hall]
        exact k H4 ((s1.trans s3).trans s4)
/-! ### _law_is_parting -/
theorem sc_lpo : FnScope ["_law_web_here", "_law_value", "_law_word", "_law_cut", "_law_side", "_law_one", "_law_other", "_law_corner"] ["_law_web_here", "_law_value"] (defScope sLParting) := ⟨rfl, rfl, rfl, by decide +kernel, rfl, by decide +kernel, by decide +kernel⟩
theorem ok_lpo {f : Addr} {fd : FuncData} (F : Fun K "_law_is_parting" "_law_is_parting" sLParting f fd) (T : Txt mg) (c1 : Cal P w K mg base 2 "_law_is_rising" spLRising) : FnOk P w K mg base CX0 3 f fd ["_law_web_here", "_law_value"] spPartingOf := by
  refine F.ok sc_lpo (fun vs H Q E h => ?_) (fun cdv A outer s H vs Q E hr h => ?_)
  · obtain ⟨a, p, n, ts, cut, side, rfl, _⟩ := h
    rfl
  · obtain ⟨a, p, n, ts, cut, side, rfl, hw, W, ⟨c, sd, hp, hc, hs⟩, R, k⟩ := h
    have hn20 := W.hi
    refine ⟨_, pss_cons (ps_if (PW.pt (pw_or (pt_not (pt_val (pe_callB call_isi (by rfl) T.isinst (by decide +kernel) (pa_cons (pv 1) (pa_cons (pe_bltn (by rfl) T.tuple (by decide +kernel) (v := .ty "tuple") rfl) pa_nil)))))
        (pw_or (pt_cmpR op_ne (pe_callB call_len_seq (by rfl) T.len PySem.boot_len (pa_cons (pv 1) pa_nil)) pe_int (nomark _))
        (pw_or (pt_not (pt_val (pe_callB call_isi (by rfl) T.isinst (by decide +kernel) (pa_cons (pe_ix ix_tup (pv 1) pe_int (fun _ _ => rfl)) (pa_cons (pe_bltn (by rfl) T.str (by decide +kernel) (v := .ty "str") rfl) pa_nil)))))
        (pw_or1 (pt_cmpR op_ne (pe_ix ix_tup (pv 1) pe_int (fun _ _ => rfl)) pe_str (nomark _))))))) (pss_one (ps_ret pe_bl)) pss_nil)
      (pss_cons (ps_asg (pv 1) (pg_tup (by rfl) (pgs_cons (pg_name (i := 2) sc_lpo.nd rfl (Or.inl rfl)) (pgs_cons (pg_name (i := 3) sc_lpo.nd rfl (Or.inr rfl)) (pgs_cons (pg_name (i := 4) sc_lpo.nd rfl (Or.inl rfl)) pgs_nil)))))
      (pss_cons (ps_if (PW.pt (pw_or (pt_not (pt_val (pe_cal c1 hr (by decide) (by rfl) (pa_cons (pv 3) (pa_cons (pe_ix ix_tup (pv 0) pe_int (fun _ _ => rfl)) pa_nil)))))
        (pw_or (pt_not (pt_val (pe_cal c1 hr (by decide) (by rfl) (pa_cons (pv 4) (pa_cons (pe_ix ix_tup (pv 0) pe_int (fun _ _ => rfl)) pa_nil)))))
        (pw_or (pt_cmpR op_gt (pe_callB call_len_seq (by rfl) T.len PySem.boot_len (pa_cons (pv 3) pa_nil)) pe_int (nomark _))
        (pw_or1 (pt_cmpR (op_eqD hr.units) (pv 4) (pe_tup pa_nil) (nomark _))))))) (pss_one (ps_ret pe_bl)) pss_nil)
      (pss_cons (ps_if (PW.pt (pw_or (pt_val (pe_callB (cr_any rfl) (by rfl) T.any (by decide +kernel) (pa_cons
          (pe_lc (own := [("_law_corner", 7)]) (g := gName 7) (tt := tYes) rfl sc_lpo.nd (pi_tup (pv 4)) (blkOk_by (own := [("_law_corner", 7)]) (N := ["_law_web_here", "_law_value", "_law_word", "_law_cut", "_law_side", "_law_one", "_law_other", "_law_corner"]) (sc := defScope sLParting) (by decide +kernel))
            (fun _ _ _ _ _ => pg_name (i := 7) sc_lpo.nd rfl (Or.inl rfl)) (fun _ _ _ _ _ => pts_nil) (fun _ _ _ _ _ => pe_cmpR (r := rIn K false) op_in_seq (pv 7) (pv 3) (by rfl))) pa_nil)))
        (pw_or1 (pt_cmpR op_eq (pe_op op_add (pe_callB call_len_seq (by rfl) T.len PySem.boot_len (pa_cons (pv 3) pa_nil)) (pe_callB call_len_seq (by rfl) T.len PySem.boot_len (pa_cons (pv 4) pa_nil))) (pe_ix ix_tup (pv 0) pe_int (fun _ _ => rfl)) (nomark _))))) (pss_one (ps_ret pe_bl)) pss_nil)
      (pss_cons (ps_for PassesOwn.never rfl (pi_tup (pe_ix ix_tup (pv 0) pe_int (fun _ _ => rfl))) (pg_tup (by rfl) (pgs_cons (pg_name (i := 5) sc_lpo.nd rfl (Or.inl rfl)) (pgs_cons (pg_name (i := 6) sc_lpo.nd rfl (Or.inl rfl)) pgs_nil)))
        (pss_one (ps_if (PW.pt (pw_or (PW.pt (pw_and (pt_cmpR (r := rIn K false) op_in_seq (pv 5) (pv 4) (by rfl)) (pw_and1 (pt_cmpR (r := rIn K true) op_notIn_seq (pv 6) (pe_op (r := rCatA K) op_catA (pv 4) (pv 3)) (by rfl)))))
          (pw_or1 (PW.pt (pw_and (pt_cmpR (r := rIn K false) op_in_seq (pv 6) (pv 4) (by rfl)) (pw_and1 (pt_cmpR (r := rIn K true) op_notIn_seq (pv 5) (pe_op (r := rCatA K) op_catA (pv 4) (pv 3)) (by rfl)))))))) (pss_one (ps_ret pe_bl)) pss_nil)))
      (pss_one (ps_ret pe_bl)))))), ?_⟩
    obtain ⟨t, ha, tas, ht, hts⟩ := id hw
    -- the form
    refine ⟨_, rfl, .ref p, .ty "tuple", _, _, true, rfl, .ty _, .base (.tup hp), kit_ty (by decide +kernel), true, rfl, iteF ?_⟩
    refine ⟨_, rfl, p, _, rfl, .inr (SqT.of hp), rfl, _, rfl, iteF ?_⟩
    refine ⟨_, rfl, p, _, 0, .str "parts", rfl, rfl, SqT.of hp, rfl, .str "parts", .ty "str", _, _, true, rfl, .ty _, .base (.str _), kit_ty (by decide +kernel), true, rfl, iteF ?_⟩
    refine ⟨_, rfl, p, _, 0, .str "parts", rfl, rfl, SqT.of hp, rfl, rfl, _, rfl, ?_⟩
    refine iteNS rfl ?_
    refine ⟨_, rfl, p, _, rfl, SqT.of hp, rfl, _, _, rfl, _, _, rfl, _, _, rfl, rfl, ?_⟩
    refine ⟨_, rfl, _, rfl, a, _, 1, .int (n : Int), rfl, rfl, SqT.of ha, rfl, c, n, cut, rfl, hc, R.cok.rising, R.cok.low, by have := R.cok.small; omega, fun H2 s2 => ⟨true, rfl, iteF ?_⟩⟩
    refine ⟨_, rfl, _, rfl, a, _, 1, .int (n : Int), rfl, rfl, SqT.of (s2 _ _ ha), rfl, sd, n, side, rfl, s2 _ _ hs, R.rise, R.low, by have := R.few; omega, fun H3 s3 => ⟨true, rfl, iteF ?_⟩⟩
    have s13 := s2.trans s3
    have hc3 := s13 _ _ hc
    have hs3 := s13 _ _ hs
    have ha3 := s13 _ _ ha
    refine ⟨_, rfl, c, _, rfl, .inr (SqT.of hc3), _, _, rfl, rfl, decide ((2 : Int) < ((cI cut).length : Int)), rfl, ?_⟩
    rw [decide_eq_false (show ¬ (2 : Int) < ((cI cut).length : Int) by rw [cI_len]; have := R.cok.small; omega)]
    refine iteF ?_
    refine ⟨_, rfl, Nat.zero_le _, fun e he => ?_⟩
    have s4 : Same H3 (upd H3 e (.tup [])) := same_new he
    have he4 : (upd H3 e (.tup [])) e = some (.tup []) := upd_same
    generalize (upd H3 e (.tup [])) = H4 at s4 he4 ⊢
    refine ⟨_, _, .tup (SqT.of (s4 _ _ hs3)) (dpAll_ints side), .tup (SqT.of he4) .nil, shaped_intsT side, rfl, _, rfl, ?_⟩
    rw [show PyData.eqv (.tuple (dI side)) (.tuple []) = PyData.eqvAll (dI side) [] from rfl, eqvAll_nil, decide_eq_false R.ne]
    refine iteF ?_
    -- any
    refine ⟨_, rfl, sd, rfl, ⟨_, SqT.of (s4 _ _ hs3)⟩, fun D hD => ?_⟩
    refine lc_it (walk_tup (K := K) (a := sd) (xs := cI side)) (fun i H5 => Same H4 H5 ∧ H5 D = some (.lst (List.replicate i (V.bl false)))) ⟨same_new hD, upd_same⟩ (fun i H5 _ q => SqT.of (q.1 _ _ (s4 _ _ hs3))) ?_ ?_
    · rintro i y Hx H5 hi ⟨s5, d5⟩ ⟨rfl, hy⟩
      obtain ⟨x, hx, rfl⟩ := cI_get hy
      have hno := R.apart x (List.mem_of_getElem? hx)
      refine ⟨rfl, _, rfl, _, rfl, c, _, rfl, .inr (SqT.of (s5 _ _ (s4 _ _ hc3))), rfl, cI_flat cut, ?_⟩
      refine ⟨_, d5, ?_, Same.upd s5 hD, ?_⟩
      · rw [List.length_replicate]
        exact Nat.lt_of_lt_of_le hi (small (by rw [cI_len]; have := R.few; omega))
      · rw [upd_same, List.replicate_succ']
        show some (HO.lst (_ ++ [V.bl (inV (V.int (x : Int)) (cI cut))])) = _
        rw [inV_cI]
        have : cut.contains x = false := by simp [hno]
        rw [this]
    rintro H5 ⟨s5, d5⟩
    have s35 := s4.trans s5
    refine ⟨D, List.replicate (cI side).length false, rfl, SqL.of (by rw [d5, List.map_replicate]), ?_⟩
    rw [show (List.replicate (cI side).length false).any id = false by simp]
    refine ⟨false, rfl, iteF ?_⟩
    refine ⟨_, rfl, c, _, rfl, .inr (SqT.of (s35 _ _ hc3)), _, rfl, sd, _, rfl, .inr (SqT.of (s35 _ _ hs3)), _, _, rfl, rfl, _, rfl, a, _, 1, .int (n : Int), rfl, rfl, SqT.of (s35 _ _ ha3), rfl, ?_⟩
    refine ⟨rfl, _, rfl, ?_⟩
    rw [cI_len, cI_len]
    rw [decide_eq_false (show ¬ V.int ((cut.length : Int) + (side.length : Int)) = V.int (n : Int) from fun z => R.beyond (by injection z; omega))]
    refine iteF ?_
    -- the ties
    have s05 := s13.trans s35
    refine ⟨_, rfl, a, _, 2, .ref t, rfl, rfl, SqT.of (s05 _ _ ha), rfl, t, rfl, ⟨_, SqT.of (s05 _ _ ht)⟩, ?_⟩
    have hbs : (cI side).length ≤ 20 := by rw [cI_len]; have := R.few; omega
    have hbc : (cI cut).length ≤ 2 := by rw [cI_len]; exact R.cok.small
    -- a corner by a corner of the side is there or in the cut
    have shut : ∀ {H6 : Hp} {x y : Nat} {Q : VK}, Same H H6 → x ∈ side → Adj ts x y → (∀ H7, Same H H7 → Q (.bl false) H7) → rCatA K (.ref sd) (.ref c) H6 (fun z H7 => rIn K true (V.int (y : Int)) z H7 Q) := by
      intro H6 x y Q s6 hx hadj kk
      refine ⟨sd, c, cI side, cI cut, rfl, rfl, SqT.of (s6 _ _ hs), SqT.of (s6 _ _ hc), small (by omega), fun z => ?_, fun _ z => ?_, fun _ _ q hq => ?_⟩
      · exact absurd (List.map_eq_nil_iff.mp z) R.ne
      · have z' : cut = [] := List.map_eq_nil_iff.mp z
        have hin : y ∈ side := by
          rcases R.shut x hx y hadj with h | h
          · exact h
          · rw [z'] at h
            cases h
        refine ⟨sd, cI side, rfl, .inr (SqT.of (s6 _ _ hs)), rfl, cI_flat _, ?_⟩
        show Q (.bl (!inV (V.int (y : Int)) (cI side))) _
        rw [inV_cI, show side.contains y = true by simp [hin]]
        exact kk _ s6
      · refine ⟨q, cI (side ++ cut), rfl, .inr (SqT.of (by rw [upd_same, cI_append])), rfl, cI_flat _, ?_⟩
        show Q (.bl (!inV (V.int (y : Int)) (cI (side ++ cut)))) _
        rw [inV_cI, show (side ++ cut).contains y = true by simpa using R.shut x hx y hadj]
        exact kk _ (Same.new s6 hq)
    refine for_it (walk_tup (K := K) (a := t) (xs := tas.map V.ref)) (fun i σ H6 => Same H H6 ∧ ∃ v5 v6 : Option V, σ = [some (.ref a), some (.ref p), some (.str "parts"), some (.ref c), some (.ref sd), v5, v6, none])
      ⟨s05, none, none, rfl⟩ (fun i σ H6 _ q => SqT.of (q.1 _ _ ht)) ?_ ?_
    · rintro i y σ Hx H6 hi ⟨s6, v5, v6, rfl⟩ ⟨rfl, hy⟩
      obtain ⟨b, hb1, rfl⟩ := map_get hy
      obtain ⟨x, hx, hbx⟩ := hts.getL hb1
      have hm : x ∈ ts := List.mem_of_getElem? hx
      have hadj : Adj ts x.1 x.2 := .inl hm
      refine ⟨b, _, rfl, SqT.of (s6 _ _ hbx), rfl, _, _, rfl, _, _, rfl, rfl, ?_⟩
      refine ⟨_, rfl, _, rfl, sd, _, rfl, .inr (SqT.of (s6 _ _ hs)), rfl, cI_flat _, _, rfl, ?_⟩
      refine ite2 (fun h1 => ?_) (fun h1 => ?_)
      · have h1' : inV (V.int (x.1 : Int)) (cI side) = true := h1
        rw [inV_cI] at h1'
        refine ⟨_, rfl, _, rfl, _, rfl, shut s6 (by simpa using h1') hadj fun H7 s7 => ⟨false, rfl, iteF ?_⟩⟩
        refine ⟨_, rfl, _, rfl, sd, _, rfl, .inr (SqT.of (s7 _ _ hs)), rfl, cI_flat _, _, rfl, ?_⟩
        refine ite2 (fun h2 => ?_) (fun h2 => ?_)
        · have h2' : inV (V.int (x.2 : Int)) (cI side) = true := h2
          rw [inV_cI] at h2'
          exact ⟨_, rfl, _, rfl, _, rfl, shut s7 (by simpa using h2') hadj.symm fun H8 s8 => ⟨false, rfl, iteF ⟨s8, _, _, rfl⟩⟩⟩
        · exact iteF ⟨s7, _, _, rfl⟩
      · refine iteF ?_
        refine ⟨_, rfl, _, rfl, sd, _, rfl, .inr (SqT.of (s6 _ _ hs)), rfl, cI_flat _, _, rfl, ?_⟩
        refine ite2 (fun h2 => ?_) (fun h2 => ?_)
        · have h2' : inV (V.int (x.2 : Int)) (cI side) = true := h2
          rw [inV_cI] at h2'
          exact ⟨_, rfl, _, rfl, _, rfl, shut s6 (by simpa using h2') hadj.symm fun H8 s8 => ⟨false, rfl, iteF ⟨s8, _, _, rfl⟩⟩⟩
        · exact iteF ⟨s6, _, _, rfl⟩
    · rintro σ H6 ⟨s6, v5, v6, rfl⟩
      exact k H6 s6
end
end Wp
namespace Wp
open PySem L2
theorem TiesKeep {p : Addr} {H H' : Hp} {as : List Addr} {ts : List Tie} (h : All2 (TieAt H) as ts) (s : Keep p H H') (hp : PotAt H p) : All2 (TieAt H') as ts := h.mono fun a b _ _ r => r.keep s hp.lst
theorem TiesSame {H H' : Hp} {as : List Addr} {ts : List Tie} (h : All2 (TieAt H) as ts) (s : Same H H') : All2 (TieAt H') as ts := h.mono fun a b _ _ r => r.same s
/-- a new tie told at the end of a list -/
theorem TiesSnoc {H : Hp} {D z : Addr} {l l' : List V} {as : List Addr} {ts : List Tie} {x : Tie} (h : All2 (TieAt H) as ts) (hD : H D = some (.lst l)) (hz : TieAt H z x) : All2 (TieAt (L2.upd H D (.lst l'))) (as ++ [z]) (ts ++ [x]) := by
  refine All2.snoc (h.mono fun a b _ _ r => ?_) ?_
  · unfold TieAt
    rw [upd_ne (ne_of r hD (by intro z; cases z))]
    exact r
  · unfold TieAt
    rw [upd_ne (ne_of hz hD (by intro z; cases z))]
    exact hz
section
variable {P : Program} {w : World} {K : PySem.W.Frag} {mg : Str → Option Value} {base : Heap}
/-! ### _law_drawn_web -/
def spDrawn : Sp := fun vs H Q _ => ∃ (p : Addr) (n : Nat), vs = [.ref p, .int (n : Int)] ∧ 1 ≤ n ∧ n ≤ 6 ∧ PotAt H p ∧ ∀ H' a ts, PotAt H' p → Keep p H H' → WebAt H' a n ts → WebOk n ts → Q (.ref a) H'
theorem sc_drawn : FnScope ["_law_pot_here", "_law_many", "_law_pairs", "_law_part", "_law_other", "_law_one"] ["_law_pot_here", "_law_many"] (defScope sDrawn) := ⟨rfl, rfl, rfl, by decide +kernel, rfl, by decide +kernel, by decide +kernel⟩
theorem ok_drawn {f : Addr} {fd : FuncData} (F : Fun K "_law_drawn_web" "_law_drawn_web" sDrawn f fd) (T : Txt mg) (c1 : Cal P w K mg base 2 "_law_pick" spPick) (c2 : Cal P w K mg base 1 "_law_draw" spDraw) (c3 : Cal P w K mg base 1 "_law_web" spWeb) : FnOk P w K mg base CX0 3 f fd ["_law_pot_here", "_law_many"] spDrawn := by
  refine F.ok sc_drawn (fun vs H Q E h => ?_) (fun cdv A outer s H vs Q E hr h => ?_)
  · obtain ⟨p, n, rfl, _⟩ := h
    rfl
  · obtain ⟨p, n, rfl, h1, h6, hp, k⟩ := h
    refine ⟨_, pss_cons (ps_par (i := 2) (j := 3) rfl sc_drawn.nd rfl rfl (by decide) rfl rfl (pa_cons (pe_lst pa_nil) (pa_cons (pe_cal c1 hr (by decide) (by rfl) (pa_cons (pv 0) (pa_cons (pe_lst (pa_cons pe_int (pa_cons pe_int (pa_cons pe_int (pa_cons pe_int pa_nil))))) pa_nil))) pa_nil)) (by rfl))
      (pss_cons (ps_for PassesOwn.never rfl (pi_range1 rfl T.range (pa_cons (pv 1) pa_nil)) (pg_name (i := 4) sc_drawn.nd rfl (Or.inl rfl))
        (pss_one (ps_for PassesOwn.never rfl (pi_range1 rfl T.range (pa_cons (pv 4) pa_nil)) (pg_name (i := 5) sc_drawn.nd rfl (Or.inl rfl))
          (pss_one (ps_if (pt_cmpR op_lt (pe_cal c2 hr (by decide) (by rfl) (pa_cons (pv 0) (pa_cons pe_int pa_nil))) (pv 3) (nomark _))
            (pss_one (ps_expr (pe_bm PySem.F.plainAttrs_list PySem.F.slot_list_append PySem.F.type_list_append mt_append (pv 2) (pa_cons (pe_tup (pa_cons (pv 5) (pa_cons (pv 4) pa_nil))) pa_nil)))) pss_nil)))))
      (pss_one (ps_ret (pe_cal c3 hr (by decide) (by rfl) (pa_cons (pv 1) (pa_cons (pv 2) pa_nil)))))), ?_⟩
    refine ⟨Nat.zero_le _, fun G hG => ?_⟩
    have npG : p ≠ G := hp.ne_new hG
    have hp1 : PotAt (upd H G (.lst [])) p := hp.new hG
    have g1 : (upd H G (.lst [])) G = some (.lst []) := upd_same
    have k1 : Keep p H (upd H G (.lst [])) := (Keep.refl p H).new hG
    generalize (upd H G (.lst [])) = H1 at hp1 g1 k1 ⊢
    refine ⟨_, rfl, small (by show 4 ≤ 1000; omega), fun q hq => ?_⟩
    have npq : q ≠ p := (hp1.ne_new hq).symm
    refine ⟨p, q, [.int 2, .int 3, .int 4, .int 6], rfl, .inl upd_same, npq, by simp, by show 4 ≤ 1000; omega, hp1.new hq, fun H2 x hx hp2 k2 => ⟨_, _, rfl, ?_⟩⟩
    obtain ⟨cut, rfl⟩ : ∃ c : Int, x = .int c := by
      simp only [List.mem_cons, List.not_mem_nil, or_false] at hx
      rcases hx with h | h | h | h <;> exact ⟨_, h⟩
    have kk2 : Keep p H1 H2 := ((Keep.refl p H1).new hq).trans k2
    have g2 : H2 G = some (.lst []) := kk2 _ _ g1 npG.symm
    have k12 : Keep p H H2 := k1.trans kk2
    refine ⟨_, rfl, (n : Int), rfl, by omega, by omega, ?_⟩
    refine for_it (walk_range (lo := 0) (n := ((n : Int)).toNat)) (fun i σ H3 => ∃ (as : List Addr) (prs : List Tie) (v4 v5 : Option V), σ = [some (.ref p), some (.int (n : Int)), some (.ref G), some (.int cut), v4, v5] ∧ PotAt H3 p ∧ Keep p H H3 ∧
        H3 G = some (.lst (as.map V.ref)) ∧ All2 (TieAt H3) as prs ∧ prs.length ≤ i * 6 ∧ ∀ x ∈ prs, x.1 ≠ x.2 ∧ x.1 < n ∧ x.2 < n)
      ⟨[], [], none, none, rfl, hp2, k12, g2, All2.nil, Nat.zero_le _, by simp⟩ (fun _ _ _ _ _ => trivial) ?_ ?_
    · rintro i y σ Hx H3 hi ⟨as, prs, v4, v5, rfl, hp3, k3, g3, t3, hl3, ho3⟩ ⟨rfl, rfl⟩
      have hi6 : i < n := by omega
      have z0 : (0 + (i : Int)).toNat = i := by omega
      refine ⟨_, rfl, (0 + (i : Int)), rfl, by omega, by omega, ?_⟩
      refine for_it (walk_range (lo := 0) (n := (0 + (i : Int)).toNat)) (fun j σ H4 => ∃ (as : List Addr) (prs : List Tie) (v5 : Option V), σ = [some (.ref p), some (.int (n : Int)), some (.ref G), some (.int cut), some (.int (0 + (i : Int))), v5] ∧ PotAt H4 p ∧ Keep p H H4 ∧
          H4 G = some (.lst (as.map V.ref)) ∧ All2 (TieAt H4) as prs ∧ prs.length ≤ i * 6 + j ∧ ∀ x ∈ prs, x.1 ≠ x.2 ∧ x.1 < n ∧ x.2 < n)
        ⟨as, prs, v5, rfl, hp3, k3, g3, t3, by omega, ho3⟩ (fun _ _ _ _ _ => trivial) ?_ ?_
      · rintro j y σ Hx H4 hj ⟨as, prs, v5, rfl, hp4, k4, g4, t4, hl4, ho4⟩ ⟨rfl, rfl⟩
        rw [z0] at hj
        refine ⟨_, rfl, p, 6, rfl, by omega, by omega, hp4, fun H5 d hd hp5 k5 => ?_⟩
        have g5 : H5 G = some (.lst (as.map V.ref)) := k5 _ _ g4 npG.symm
        have t5 := TiesKeep t4 k5 hp4
        have k45 := k4.trans k5
        refine ⟨_, rfl, _, _, rfl, rfl, _, rfl, ?_⟩
        refine ite2 (fun _ => ?_) (fun _ => ?_)
        · refine ⟨_, rfl, .inl ⟨rfl, _, SqL.of g5⟩, _, rfl, _, rfl, small (by show 2 ≤ 1000; omega), fun z hz => ?_⟩
          have nGz : G ≠ z := ne_of_none g5 hz
          have hz5 : TieAt (upd H5 z (.tup [V.int (0 + (j : Int)), V.int (0 + (i : Int))])) z (j, i) := by
            unfold TieAt
            rw [upd_same, show (0 + (j : Int)) = (j : Int) by omega, show (0 + (i : Int)) = (i : Int) by omega]
          have g6 : (upd H5 z (.tup [V.int (0 + (j : Int)), V.int (0 + (i : Int))])) G = some (.lst (as.map V.ref)) := by rw [upd_ne nGz]; exact g5
          have hp6 : PotAt (upd H5 z (.tup [V.int (0 + (j : Int)), V.int (0 + (i : Int))])) p := hp5.new hz
          have t6 := TiesSame t5 (same_new (o := .tup [V.int (0 + (j : Int)), V.int (0 + (i : Int))]) hz)
          have hal := t5.1
          refine ⟨G, _, _, rfl, rfl, g6, ?_, ?_⟩
          · rw [List.length_map]
            exact small1000 (by omega)
          · refine ⟨as ++ [z], prs ++ [(j, i)], _, rfl, hp6.other npG, (k45.new hz).over hG, ?_, TiesSnoc t6 g6 hz5, ?_, ?_⟩
            · rw [upd_same, List.map_append]
              rfl
            · rw [List.length_append, List.length_singleton]
              omega
            · intro x hx
              rcases List.mem_append.mp hx with h | h
              · exact ho4 x h
              · simp only [List.mem_cons, List.not_mem_nil, or_false] at h
                subst h
                simp only
                omega
        · exact ⟨as, prs, _, rfl, hp5, k45, g5, t5, by omega, ho4⟩
      · rintro σ H4 ⟨as, prs, v5, rfl, hp4, k4, g4, t4, hl4, ho4⟩
        rw [z0] at hl4
        exact ⟨as, prs, _, _, rfl, hp4, k4, g4, t4, by omega, ho4⟩
    · rintro σ H3 ⟨as, prs, v4, v5, rfl, hp3, k3, g3, t3, hl3, ho3⟩
      have en : ((n : Int)).toNat = n := Int.toNat_natCast n
      rw [en] at hl3
      refine ⟨_, rfl, _, rfl, G, n, as, prs, rfl, g3, t3, h1, by omega, by omega, ho3, fun H4 a ts s4 hw W _ => ?_⟩
      exact k H4 a ts (hp3.same s4) (k3.trans (Keep.of s4)) hw W
/-! ### _law_named -/
theorem perm_cI {ys : List V} {l : List Nat} (h : ys.Perm (cI l)) : ∃ r : List Nat, r.Perm l ∧ ys = cI r := by
  have un : ∀ l : List Nat, (cI l).map (fun v => match v with | .int i => i.toNat | _ => 0) = l := fun l => by
    unfold cI
    rw [List.map_map]
    refine (List.map_congr_left fun a _ => ?_).trans (List.map_id l)
    show ((a : Int)).toNat = a
    omega
  refine ⟨ys.map (fun v => match v with | .int i => i.toNat | _ => 0), ?_, ?_⟩
  · have := h.map (fun v : V => match v with | .int i => i.toNat | _ => 0)
    rwa [un] at this
  · unfold cI
    rw [List.map_map]
    refine ((List.map_congr_left fun y hy => ?_).trans (List.map_id ys)).symm
    have hm : y ∈ cI l := h.mem_iff.mp hy
    obtain ⟨a, _, rfl⟩ := List.mem_map.mp hm
    show V.int ((((a : Int)).toNat : Nat) : Int) = V.int (a : Int)
    rw [Int.toNat_natCast]
theorem perm_at {r : List Nat} {n : Nat} (h : r.Perm (List.range n)) : r.length = n ∧ (∀ x ∈ r, x < n) ∧ r.Nodup ∧ ∀ y, y < n → y ∈ r := by
  refine ⟨by rw [h.length_eq, List.length_range], fun x hx => List.mem_range.mp (h.mem_iff.mp hx), h.nodup_iff.mpr List.nodup_range, fun y hy => h.mem_iff.mpr (List.mem_range.mpr hy)⟩
def nm (r : List Nat) (x : Nat) : Nat := r.getD x 0
theorem nm_get {r : List Nat} {x : Nat} (h : x < r.length) : r[x]? = some (nm r x) := by
  unfold nm
  rw [List.getD_eq_getElem?_getD, List.getElem?_eq_getElem h]
  rfl
def spNamed : Sp := fun vs H Q _ => ∃ (p a : Addr) (n : Nat) (ts : List Tie), vs = [.ref p, .ref a] ∧ PotAt H p ∧ WebAt H a n ts ∧ WebOk n ts ∧ Three n (Adj ts) ∧
  ∀ H' b us, PotAt H' p → Keep p H H' → WebAt H' b n us → WebOk n us → Three n (Adj us) → Q (.ref b) H'
theorem sc_named : FnScope ["_law_pot_here", "_law_web_here", "_law_names", "_law_one", "_law_other"] ["_law_pot_here", "_law_web_here"] (defScope sNamed) := ⟨rfl, rfl, rfl, by decide +kernel, rfl, by decide +kernel, by decide +kernel⟩
theorem ok_named {f : Addr} {fd : FuncData} (F : Fun K "_law_named" "_law_named" sNamed f fd) (T : Txt mg) (c1 : Cal P w K mg base 2 "_law_mixed" spMixed) (c3 : Cal P w K mg base 1 "_law_web" spWeb) : FnOk P w K mg base CX0 3 f fd ["_law_pot_here", "_law_web_here"] spNamed := by
  refine F.ok sc_named (fun vs H Q E h => ?_) (fun cdv A outer s H vs Q E hr h => ?_)
  · obtain ⟨p, a, n, ts, rfl, _⟩ := h
    rfl
  · obtain ⟨p, a, n, ts, rfl, hp, hw, W, h3, k⟩ := h
    refine ⟨_, pss_cons (ps_set (i := 2) sc_named.nd rfl (Or.inr rfl) (pe_cal c1 hr (by decide) (by rfl) (pa_cons (pv 0) (pa_cons (pe_listRg rfl (by rfl) T.list (prg_1 (by rfl) T.range (pe_ix ix_tup (pv 1) pe_int (fun _ _ => rfl)))) pa_nil))))
      (pss_one (ps_ret (pe_cal c3 hr (by decide) (by rfl) (pa_cons (pe_ix ix_tup (pv 1) pe_int (fun _ _ => rfl)) (pa_cons
        (pe_lc (own := [("_law_one", 3), ("_law_other", 4)]) (g := gTup K 2 (gCons (gName 3) (gCons (gName 4) gNil))) (tt := tYes) rfl sc_named.nd (pi_tup (pe_ix ix_tup (pv 1) pe_int (fun _ _ => rfl))) (blkOk_by (own := [("_law_one", 3), ("_law_other", 4)]) (N := ["_law_pot_here", "_law_web_here", "_law_names", "_law_one", "_law_other"]) (sc := defScope sNamed) (by decide +kernel))
          (fun _ _ _ _ _ => pg_tup (by rfl) (pgs_cons (pg_name (i := 3) sc_named.nd rfl (Or.inl rfl)) (pgs_cons (pg_name (i := 4) sc_named.nd rfl (Or.inl rfl)) pgs_nil))) (fun _ _ _ _ _ => pts_nil)
          (fun _ _ _ _ _ => pe_tup (pa_cons (pe_ix (r := rIxL K) ix_list (pv 2) (pv 3) (fun _ _ => rfl)) (pa_cons (pe_ix (r := rIxL K) ix_list (pv 2) (pv 4) (fun _ _ => rfl)) pa_nil)))) pa_nil))))), ?_⟩
    have hn20 := W.hi
    have hfew := W.few
    obtain ⟨t, ha, tas, ht, hts⟩ := id hw
    refine ⟨_, rfl, _, rfl, a, _, 1, .int (n : Int), rfl, rfl, SqT.of ha, rfl, (n : Int), rfl, RgOk.of_le (by omega) (by omega) (by omega) (by omega), fun q hq => ?_⟩
    have npq : q ≠ p := (hp.ne_new hq).symm
    rw [rgV_range]
    refine ⟨p, q, cI (List.range n), rfl, upd_same, npq, by rw [cI_len, List.length_range]; omega, hp.new hq, fun H1 b ys hperm hp1 k1 hb0 hb => ?_⟩
    obtain ⟨r, hr1, rfl⟩ := perm_cI hperm
    obtain ⟨hrl, hrlow, hrnd, hrall⟩ := perm_at hr1
    have kk1 : Keep p H H1 := ((Keep.refl p H).new hq).trans k1
    have hw1 := hw.keep kk1 hp.lst
    have ha1 : H1 a = some (.tup [.str "web", .int (n : Int), .ref t]) := by
      obtain ⟨l, hl⟩ := hp.lst
      exact kk1 _ _ ha (ne_of ha hl (by intro z; cases z))
    have ht1 : H1 t = some (.tup (tas.map V.ref)) := by
      obtain ⟨l, hl⟩ := hp.lst
      exact kk1 _ _ ht (ne_of ht hl (by intro z; cases z))
    have hts1 := TiesKeep hts kk1 hp
    refine ⟨_, rfl, a, _, 1, .int (n : Int), rfl, rfl, SqT.of ha1, rfl, ?_⟩
    refine ⟨_, rfl, a, _, 2, .ref t, rfl, rfl, SqT.of ha1, rfl, t, rfl, ⟨_, SqT.of ht1⟩, fun D hD => ?_⟩
    refine lc_it (walk_tup (K := K) (a := t) (xs := tas.map V.ref)) (fun i H2 => Same H1 H2 ∧ ∃ bs : List Addr, H2 D = some (.lst (bs.map V.ref)) ∧ All2 (TieAt H2) bs ((ts.take i).map fun x => (nm r x.1, nm r x.2)))
      ⟨same_new hD, [], upd_same, by rw [List.take_zero]; exact All2.nil⟩ (fun _ _ _ z => SqT.of (z.1 _ _ ht1)) ?_ ?_
    · rintro i y Hx H2 hi ⟨s2, bs, d2, t2⟩ ⟨rfl, hy⟩
      obtain ⟨c, hc, rfl⟩ := map_get hy
      obtain ⟨x, hx, hcx⟩ := hts1.getL hc
      have hx12 := W.tie x (List.mem_of_getElem? hx)
      have hg1 : (cI r)[x.1]? = some (.int (nm r x.1 : Nat)) := by
        unfold cI
        rw [List.getElem?_map, nm_get (by omega)]
        rfl
      have hg2 : (cI r)[x.2]? = some (.int (nm r x.2 : Nat)) := by
        unfold cI
        rw [List.getElem?_map, nm_get (by omega)]
        rfl
      have hb2 := s2 _ _ hb
      refine ⟨c, _, rfl, SqT.of (s2 _ _ hcx), rfl, _, _, rfl, _, _, rfl, rfl, rfl, ?_⟩
      refine ⟨_, rfl, _, rfl, b, _, (x.1 : Int), _, rfl, rfl, SqL.of hb2, atI_nat hg1, _, rfl, _, rfl, b, _, (x.2 : Int), _, rfl, rfl, SqL.of hb2, atI_nat hg2, small (by show 2 ≤ 1000; omega), fun z hz => ?_⟩
      have d3 : (upd H2 z (.tup [.int (nm r x.1 : Nat), .int (nm r x.2 : Nat)])) D = some (.lst (bs.map V.ref)) := by rw [upd_ne (ne_of_none d2 hz)]; exact d2
      have hil := get_lt hx
      have hbl := t2.1
      rw [List.length_map, List.length_take] at hbl
      refine ⟨_, d3, by rw [List.length_map]; exact small1000 (by omega), Same.upd (Same.new s2 hz) hD, bs ++ [z], by rw [upd_same, List.map_append]; rfl, ?_⟩
      rw [take_succ hx, List.map_append]
      exact TiesSnoc (TiesSame t2 (same_new hz)) d3 upd_same
    · rintro H2 ⟨s2, bs, d2, t2⟩
      have hal := hts1.1
      rw [List.length_map, hal, List.take_length] at t2
      have low : ∀ x, x < n → nm r x < n := fun x hx => hrlow _ (List.mem_of_getElem? (nm_get (by omega)))
      have inj : ∀ x y, x < n → y < n → nm r x = nm r y → x = y := fun x y hx hy e => nd_ix hrnd (nm_get (by omega)) (e ▸ nm_get (by omega))
      refine ⟨D, n, bs, _, rfl, d2, t2, W.lo, W.hi, by rw [List.length_map]; exact hfew, ?_, fun H3 c us s3 hw3 W3 hadj => ?_⟩
      · intro z hz
        obtain ⟨x, hx, rfl⟩ := List.mem_map.mp hz
        have := W.tie x hx
        refine ⟨fun e => ?_, low _ (by omega), low _ (by omega)⟩
        have := inj x.1 x.2 (by omega) (by omega) e
        omega
      · have hp3 := (hp1.same s2).same s3
        refine k H3 c us hp3 ((kk1.trans (Keep.of s2)).trans (Keep.of s3)) hw3 W3 ?_
        refine h3.named (f := nm r) low inj (fun y hy => ?_) fun x y hx hy h => ?_
        · obtain ⟨j, hj⟩ := List.mem_iff_getElem?.mp (hrall y hy)
          have hjl := get_lt hj
          refine ⟨j, by omega, ?_⟩
          have := nm_get hjl
          rw [hj] at this
          exact (Option.some.inj this).symm
        · rw [hadj]
          rcases h with h | h
          · exact .inl (List.mem_map.mpr ⟨_, h, rfl⟩)
          · exact .inr (List.mem_map.mpr ⟨_, h, rfl⟩)
end
end Wp
namespace Wp
open PySem L2
/-! ### a tie less -/
theorem tie_ne (x g : Tie) : (!PyData.eqv (.tuple (dI [x.1, x.2])) (.tuple (dI [g.1, g.2]))) = decide (x ≠ g) := by
  have e : PyData.eqv (.tuple (dI [x.1, x.2])) (.tuple (dI [g.1, g.2])) = (((x.1 : Int) == (g.1 : Int)) && (((x.2 : Int) == (g.2 : Int)) && true)) := rfl
  rw [e]
  by_cases h : x = g
  · subst h
    simp
  · rw [decide_eq_true h]
    have : ¬ (x.1 = g.1 ∧ x.2 = g.2) := fun z => h (Prod.ext z.1 z.2)
    by_cases h1 : x.1 = g.1
    · have h2 : x.2 ≠ g.2 := fun z => this ⟨h1, z⟩
      have h3 : ((x.2 : Int) == (g.2 : Int)) = false := by
        rw [beq_eq_false_iff_ne]
        omega
      rw [h3]
      simp
    · have h3 : ((x.1 : Int) == (g.1 : Int)) = false := by
        rw [beq_eq_false_iff_ne]
        omega
      rw [h3]
      simp
def less (g : Tie) (ts : List Tie) : List Tie := ts.filter fun x => decide (x ≠ g)
theorem WebOk.less {n : Nat} {ts : List Tie} (W : WebOk n ts) (g : Tie) : WebOk n (less g ts) := by
  refine ⟨W.lo, W.hi, ?_, fun x hx => W.tie x (List.mem_filter.mp hx).1, List.Pairwise.filter _ W.rise⟩
  have := List.length_filter_le (fun x => decide (x ≠ g)) ts
  have := W.few
  unfold Wp.less
  omega
theorem less_len (g : Tie) (ts : List Tie) : (less g ts).length ≤ ts.length := List.length_filter_le _ ts
theorem less_yes {g x : Tie} {l : List Tie} (h : x ≠ g) : less g (l ++ [x]) = less g l ++ [x] := by
  unfold less
  rw [List.filter_append, List.filter_cons_of_pos (p := fun x => decide (x ≠ g)) (decide_eq_true h), List.filter_nil]
theorem less_no {g x : Tie} {l : List Tie} (h : x = g) : less g (l ++ [x]) = less g l := by
  unfold less
  rw [List.filter_append, List.filter_cons_of_neg (p := fun x => decide (x ≠ g)) (by simp [h]), List.filter_nil, List.append_nil]
theorem Three.ties {n : Nat} {ts : List Tie} (h : Three n (Adj ts)) : ts ≠ [] := by
  rintro rfl
  have := h.degree (fun x z => by unfold Adj at z; simp at z) (k := 0) (by have := h.1; omega) (row := []) (fun y => by unfold Adj; simp)
  simp at this
/-- a web's tie told by its address -/
theorem tie_at {H : Hp} {tas : List Addr} {ts : List Tie} (h : All2 (TieAt H) tas ts) {x : V} (hx : x ∈ tas.map V.ref) : ∃ z g, x = .ref z ∧ g ∈ ts ∧ TieAt H z g := by
  obtain ⟨z, hz, rfl⟩ := List.mem_map.mp hx
  obtain ⟨i, hi⟩ := List.mem_iff_getElem?.mp hz
  obtain ⟨g, hg, hat⟩ := h.getL hi
  exact ⟨z, g, rfl, List.mem_of_getElem? hg, hat⟩
/-! ### rings and pairs, as the loop keeps them -/
structure SolidAt (p : Addr) (H0 H : Hp) (R G : Addr) (ras : List Addr) (rs : List (List Nat)) (as : List Addr) (prs : List Tie) : Prop where
  pot : PotAt H p
  kept : Keep p H0 H
  rings : H R = some (.lst (ras.map V.ref))
  pairs : H G = some (.lst (as.map V.ref))
  rat : TupsAre H ras rs
  pat : All2 (TieAt H) as prs
section
variable {p : Addr} {H0 H : Hp} {R G : Addr} {ras as : List Addr} {rs : List (List Nat)} {prs : List Tie}
theorem SolidAt.new {q : Addr} {o : HO} (S : SolidAt p H0 H R G ras rs as prs) (h : H q = none) : SolidAt p H0 (upd H q o) R G ras rs as prs :=
  ⟨S.pot.new h, S.kept.new h, same_new h _ _ S.rings, same_new h _ _ S.pairs, S.rat.same (same_new h), TiesSame S.pat (same_new h)⟩
theorem SolidAt.keep {H' : Hp} (S : SolidAt p H0 H R G ras rs as prs) (hR : R ≠ p) (hG : G ≠ p) (k : Keep p H H') (hp : PotAt H' p) : SolidAt p H0 H' R G ras rs as prs := by
  refine ⟨hp, S.kept.trans k, k _ _ S.rings hR, k _ _ S.pairs hG, ?_, TiesKeep S.pat k S.pot⟩
  refine S.rat.mono fun a b _ _ r => ?_
  obtain ⟨l, hl⟩ := S.pot.lst
  exact k _ _ r (ne_of r hl (by intro z; cases z))
/-- the rings told anew -/
theorem SolidAt.setR {ras' : List Addr} {rs' : List (List Nat)} (S : SolidAt p H0 H R G ras rs as prs) (hR : R ≠ p) (hRG : R ≠ G) (h0 : H0 R = none) (h : TupsAre H ras' rs') : SolidAt p H0 (upd H R (.lst (ras'.map V.ref))) R G ras' rs' as prs := by
  refine ⟨S.pot.other (Ne.symm hR), S.kept.over h0, upd_same, by rw [upd_ne (Ne.symm hRG)]; exact S.pairs, h.updL S.rings, ?_⟩
  refine S.pat.mono fun a b _ _ r => ?_
  unfold TieAt
  rw [upd_ne (ne_of r S.rings (by intro z; cases z))]
  exact r
theorem SolidAt.setG {as' : List Addr} {prs' : List Tie} (S : SolidAt p H0 H R G ras rs as prs) (hG : G ≠ p) (hRG : R ≠ G) (h0 : H0 G = none) (h : All2 (TieAt H) as' prs') : SolidAt p H0 (upd H G (.lst (as'.map V.ref))) R G ras rs as' prs' := by
  refine ⟨S.pot.other (Ne.symm hG), S.kept.over h0, by rw [upd_ne hRG]; exact S.rings, upd_same, S.rat.updL S.pairs, ?_⟩
  refine h.mono fun a b _ _ r => ?_
  unfold TieAt
  rw [upd_ne (ne_of r S.pairs (by intro z; cases z))]
  exact r
end
theorem All2.cons {α β : Type} {R : α → β → Prop} {a : α} {b : β} {l : List α} {m : List β} (h : R a b) (t : All2 R l m) : All2 R (a :: l) (b :: m) := by
  refine ⟨by rw [List.length_cons, List.length_cons, t.1], fun i x y hx hy => ?_⟩
  cases i with
  | zero =>
    cases hx
    cases hy
    exact h
  | succ i => exact t.2 i x y (by simpa using hx) (by simpa using hy)
theorem all2_erase {α β : Type} {R : α → β → Prop} {l : List α} {m : List β} (h : All2 R l m) (k : Nat) : All2 R (l.eraseIdx k) (m.eraseIdx k) := by
  refine ⟨?_, fun i a b ha hb => ?_⟩
  · rw [List.length_eraseIdx, List.length_eraseIdx, h.1]
  · rw [List.getElem?_eraseIdx] at ha hb
    split at ha
    · rw [if_pos (by assumption)] at hb
      exact h.2 i a b ha hb
    · rw [if_neg (by assumption)] at hb
      exact h.2 (i + 1) a b ha hb
theorem map_erase {α β : Type} (f : α → β) : ∀ (l : List α) (k : Nat), (l.map f).eraseIdx k = (l.eraseIdx k).map f
  | [], k => rfl
  | a :: l, 0 => rfl
  | a :: l, k + 1 => by
    show f a :: (l.map f).eraseIdx k = f a :: (l.eraseIdx k).map f
    rw [map_erase f l k]
/-- a ring of three corners -/
def Ring (m : Nat) (r : List Nat) : Prop := ∃ x y z : Nat, r = [x, y, z] ∧ x ≠ y ∧ x ≠ z ∧ y ≠ z ∧ x < m ∧ y < m ∧ z < m
theorem Ring.up {m : Nat} {r : List Nat} (h : Ring m r) : Ring (m + 1) r := by
  obtain ⟨x, y, z, e, h1, h2, h3, h4, h5, h6⟩ := h
  exact ⟨x, y, z, e, h1, h2, h3, by omega, by omega, by omega⟩
abbrev N_solid : List Str := ["_law_pot_here", "_law_many", "_law_rings", "_law_pairs", "_law_corner", "_law_a", "_law_b", "_law_c", "_law_web_here", "_law_turn", "_law_gone", "_law_late", "_law_tie"]
section
variable {P : Program} {w : World} {K : PySem.W.Frag} {mg : Str → Option Value} {base : Heap}
/-! ### _law_solid_web -/
def spSolid : Sp := fun vs H Q _ => ∃ (p : Addr) (n : Nat), vs = [.ref p, .int (n : Int)] ∧ 4 ≤ n ∧ n ≤ 6 ∧ PotAt H p ∧ ∀ H' a ts, PotAt H' p → Keep p H H' → WebAt H' a n ts → WebOk n ts → Three n (Adj ts) → Q (.ref a) H'
theorem sc_solid : FnScope N_solid ["_law_pot_here", "_law_many"] (defScope sSolid) := ⟨rfl, rfl, rfl, by decide +kernel, rfl, by decide +kernel, by decide +kernel⟩
theorem ok_solid {f : Addr} {fd : FuncData} (F : Fun K "_law_solid_web" "_law_solid_web" sSolid f fd) (T : Txt mg) (c1 : Cal P w K mg base 1 "_law_draw" spDraw) (c2 : Cal P w K mg base 1 "_law_web" spWeb) (c3 : Cal P w K mg base 2 "_law_pick" spPick) (c4 : Cal P w K mg base 3 "_law_is_three" spThreeWeb) : FnOk P w K mg base CX0 4 f fd ["_law_pot_here", "_law_many"] spSolid := by
  refine F.ok sc_solid (fun vs H Q E h => ?_) (fun cdv A outer s H vs Q E hr h => ?_)
  · obtain ⟨p, n, rfl, _⟩ := h
    rfl
  · obtain ⟨p, n, rfl, h4, h6, hp, k⟩ := h
    refine ⟨_, pss_cons (ps_par (i := 2) (j := 3) rfl sc_solid.nd rfl rfl (by decide) rfl rfl (pa_cons (pe_lst (pa_cons (pe_tup (pa_cons pe_int (pa_cons pe_int (pa_cons pe_int pa_nil)))) (pa_cons (pe_tup (pa_cons pe_int (pa_cons pe_int (pa_cons pe_int pa_nil)))) (pa_cons (pe_tup (pa_cons pe_int (pa_cons pe_int (pa_cons pe_int pa_nil)))) (pa_cons (pe_tup (pa_cons pe_int (pa_cons pe_int (pa_cons pe_int pa_nil)))) pa_nil))))) (pa_cons (pe_lst (pa_cons (pe_tup (pa_cons pe_int (pa_cons pe_int pa_nil))) (pa_cons (pe_tup (pa_cons pe_int (pa_cons pe_int pa_nil))) (pa_cons (pe_tup (pa_cons pe_int (pa_cons pe_int pa_nil))) (pa_cons (pe_tup (pa_cons pe_int (pa_cons pe_int pa_nil))) (pa_cons (pe_tup (pa_cons pe_int (pa_cons pe_int pa_nil))) (pa_cons (pe_tup (pa_cons pe_int (pa_cons pe_int pa_nil))) pa_nil))))))) pa_nil)) (by rfl))
      (pss_cons (ps_for PassesOwn.never rfl (pi_range2 rfl T.range (pa_cons pe_int (pa_cons (pv 1) pa_nil))) (pg_name (i := 4) sc_solid.nd rfl (Or.inl rfl))
        (pss_cons (ps_asg (pe_bm PySem.F.plainAttrs_list PySem.F.slot_list_pop PySem.F.type_list_pop mt_popAt (pv 2) (pa_cons (pe_cal c1 hr (by decide) (by rfl) (pa_cons (pv 0) (pa_cons (pe_callB call_len_seq (by rfl) T.len PySem.boot_len (pa_cons (pv 2) pa_nil)) pa_nil))) pa_nil))
            (pg_tup (by rfl) (pgs_cons (pg_name (i := 5) sc_solid.nd rfl (Or.inl rfl)) (pgs_cons (pg_name (i := 6) sc_solid.nd rfl (Or.inl rfl)) (pgs_cons (pg_name (i := 7) sc_solid.nd rfl (Or.inl rfl)) pgs_nil)))))
        (pss_cons (ps_expr (pe_bm PySem.F.plainAttrs_list PySem.F.slot_list_extend PySem.F.type_list_extend mt_extend (pv 2) (pa_cons (pe_lst (pa_cons (pe_tup (pa_cons (pv 5) (pa_cons (pv 6) (pa_cons (pv 4) pa_nil)))) (pa_cons (pe_tup (pa_cons (pv 5) (pa_cons (pv 7) (pa_cons (pv 4) pa_nil)))) (pa_cons (pe_tup (pa_cons (pv 6) (pa_cons (pv 7) (pa_cons (pv 4) pa_nil)))) pa_nil)))) pa_nil)))
        (pss_one (ps_expr (pe_bm PySem.F.plainAttrs_list PySem.F.slot_list_extend PySem.F.type_list_extend mt_extend (pv 3) (pa_cons (pe_lst (pa_cons (pe_tup (pa_cons (pv 5) (pa_cons (pv 4) pa_nil))) (pa_cons (pe_tup (pa_cons (pv 6) (pa_cons (pv 4) pa_nil))) (pa_cons (pe_tup (pa_cons (pv 7) (pa_cons (pv 4) pa_nil))) pa_nil)))) pa_nil)))))))
      (pss_cons (ps_set (i := 8) sc_solid.nd rfl (Or.inl rfl) (pe_cal c2 hr (by decide) (by rfl) (pa_cons (pv 1) (pa_cons (pv 3) pa_nil))))
      (pss_cons (ps_for PassesOwn.never rfl (pi_range1 rfl T.range (pa_cons (pe_cal c1 hr (by decide) (by rfl) (pa_cons (pv 0) (pa_cons pe_int pa_nil))) pa_nil)) (pg_name (i := 9) sc_solid.nd rfl (Or.inl rfl))
        (pss_cons (ps_set (i := 10) sc_solid.nd rfl (Or.inr rfl) (pe_cal c3 hr (by decide) (by rfl) (pa_cons (pv 0) (pa_cons (pe_ix ix_tup (pv 8) pe_int (fun _ _ => rfl)) pa_nil))))
        (pss_cons (ps_set (i := 11) sc_solid.nd rfl (Or.inl rfl) (pe_tup (pa_cons pe_str (pa_cons (pv 1) (pa_cons (pe_callTy call_tuple_of (by rfl) T.tuple (by decide +kernel) (pa_cons
            (pe_lc (own := [("_law_tie", 12)]) (g := gName 12) rfl sc_solid.nd (pi_tup (pe_ix ix_tup (pv 8) pe_int (fun _ _ => rfl))) (blkOk_by (own := [("_law_tie", 12)]) (N := N_solid) (sc := defScope sSolid) (by decide +kernel))
              (fun _ _ _ _ _ => pg_name (i := 12) sc_solid.nd rfl (Or.inl rfl)) (fun _ _ _ _ _ => pts_one (pt_cmpR (r := rNeD K) (op_neD hr.units) (pv 12) (pv 10) (nomark _))) (fun _ _ _ _ _ => pv 12)) pa_nil)) pa_nil)))))
        (pss_one (ps_if (pt_val (pe_cal c4 hr (by decide) (by rfl) (pa_cons (pv 11) pa_nil))) (pss_one (ps_set (i := 8) sc_solid.nd rfl (Or.inl rfl) (pv 11))) pss_nil)))))
      (pss_one (ps_ret (pv 8)))))), ?_⟩
    have x3 : 3 ≤ sizeLine := small (by show 3 ≤ 1000; omega)
    have x2 : 2 ≤ sizeLine := small (by show 2 ≤ 1000; omega)
    refine ⟨x3, fun a0 ha0 => ?_⟩
    have s_a0 : Same H (upd H a0 (.tup [.int 0, .int 1, .int 2])) := same_new ha0
    have f_a0 : (upd H a0 (.tup [.int 0, .int 1, .int 2])) a0 = some (.tup (cI [0, 1, 2])) := upd_same
    generalize (upd H a0 (.tup [.int 0, .int 1, .int 2])) = H1 at s_a0 f_a0 ⊢
    refine ⟨x3, fun a1 ha1 => ?_⟩
    have s_a1 : Same H1 (upd H1 a1 (.tup [.int 0, .int 1, .int 3])) := same_new ha1
    have f_a1 : (upd H1 a1 (.tup [.int 0, .int 1, .int 3])) a1 = some (.tup (cI [0, 1, 3])) := upd_same
    generalize (upd H1 a1 (.tup [.int 0, .int 1, .int 3])) = H2 at s_a1 f_a1 ⊢
    refine ⟨x3, fun a2 ha2 => ?_⟩
    have s_a2 : Same H2 (upd H2 a2 (.tup [.int 0, .int 2, .int 3])) := same_new ha2
    have f_a2 : (upd H2 a2 (.tup [.int 0, .int 2, .int 3])) a2 = some (.tup (cI [0, 2, 3])) := upd_same
    generalize (upd H2 a2 (.tup [.int 0, .int 2, .int 3])) = H3 at s_a2 f_a2 ⊢
    refine ⟨x3, fun a3 ha3 => ?_⟩
    have s_a3 : Same H3 (upd H3 a3 (.tup [.int 1, .int 2, .int 3])) := same_new ha3
    have f_a3 : (upd H3 a3 (.tup [.int 1, .int 2, .int 3])) a3 = some (.tup (cI [1, 2, 3])) := upd_same
    generalize (upd H3 a3 (.tup [.int 1, .int 2, .int 3])) = H4 at s_a3 f_a3 ⊢
    refine ⟨small (by show 4 ≤ 1000; omega), fun R hR => ?_⟩
    have hR0 : H R = none := (((s_a0.trans s_a1).trans s_a2).trans s_a3).free hR
    have s_R : Same H4 (upd H4 R (.lst [.ref a0, .ref a1, .ref a2, .ref a3])) := same_new hR
    have f_R : (upd H4 R (.lst [.ref a0, .ref a1, .ref a2, .ref a3])) R = some (.lst ([a0, a1, a2, a3].map V.ref)) := upd_same
    generalize (upd H4 R (.lst [.ref a0, .ref a1, .ref a2, .ref a3])) = H5 at s_R f_R ⊢
    refine ⟨x2, fun b0 hb0 => ?_⟩
    have s_b0 : Same H5 (upd H5 b0 (.tup [.int 0, .int 1])) := same_new hb0
    have f_b0 : (upd H5 b0 (.tup [.int 0, .int 1])) b0 = some (.tup (cI [0, 1])) := upd_same
    generalize (upd H5 b0 (.tup [.int 0, .int 1])) = H6 at s_b0 f_b0 ⊢
    refine ⟨x2, fun b1 hb1 => ?_⟩
    have s_b1 : Same H6 (upd H6 b1 (.tup [.int 0, .int 2])) := same_new hb1
    have f_b1 : (upd H6 b1 (.tup [.int 0, .int 2])) b1 = some (.tup (cI [0, 2])) := upd_same
    generalize (upd H6 b1 (.tup [.int 0, .int 2])) = H7 at s_b1 f_b1 ⊢
    refine ⟨x2, fun b2 hb2 => ?_⟩
    have s_b2 : Same H7 (upd H7 b2 (.tup [.int 0, .int 3])) := same_new hb2
    have f_b2 : (upd H7 b2 (.tup [.int 0, .int 3])) b2 = some (.tup (cI [0, 3])) := upd_same
    generalize (upd H7 b2 (.tup [.int 0, .int 3])) = H8 at s_b2 f_b2 ⊢
    refine ⟨x2, fun b3 hb3 => ?_⟩
    have s_b3 : Same H8 (upd H8 b3 (.tup [.int 1, .int 2])) := same_new hb3
    have f_b3 : (upd H8 b3 (.tup [.int 1, .int 2])) b3 = some (.tup (cI [1, 2])) := upd_same
    generalize (upd H8 b3 (.tup [.int 1, .int 2])) = H9 at s_b3 f_b3 ⊢
    refine ⟨x2, fun b4 hb4 => ?_⟩
    have s_b4 : Same H9 (upd H9 b4 (.tup [.int 1, .int 3])) := same_new hb4
    have f_b4 : (upd H9 b4 (.tup [.int 1, .int 3])) b4 = some (.tup (cI [1, 3])) := upd_same
    generalize (upd H9 b4 (.tup [.int 1, .int 3])) = H10 at s_b4 f_b4 ⊢
    refine ⟨x2, fun b5 hb5 => ?_⟩
    have s_b5 : Same H10 (upd H10 b5 (.tup [.int 2, .int 3])) := same_new hb5
    have f_b5 : (upd H10 b5 (.tup [.int 2, .int 3])) b5 = some (.tup (cI [2, 3])) := upd_same
    generalize (upd H10 b5 (.tup [.int 2, .int 3])) = H11 at s_b5 f_b5 ⊢
    refine ⟨small (by show 6 ≤ 1000; omega), fun G hG => ⟨_, _, rfl, ?_⟩⟩
    have s0 : Same H H5 := (((s_a0.trans s_a1).trans s_a2).trans s_a3).trans s_R
    have s1 : Same H5 H11 := ((((s_b0.trans s_b1).trans s_b2).trans s_b3).trans s_b4).trans s_b5
    have hG0 : H G = none := (s0.trans s1).free hG
    have nRG : R ≠ G := ne_of_none (s1 _ _ f_R) hG
    have nRp : R ≠ p := (hp.ne_new hR0).symm
    have nGp : G ≠ p := (hp.ne_new hG0).symm
    have S0 : SolidAt p H (upd H11 G (.lst [.ref b0, .ref b1, .ref b2, .ref b3, .ref b4, .ref b5])) R G [a0, a1, a2, a3] [[0, 1, 2], [0, 1, 3], [0, 2, 3], [1, 2, 3]] [b0, b1, b2, b3, b4, b5] [(0, 1), (0, 2), (0, 3), (1, 2), (1, 3), (2, 3)] := by
      have sG : Same H11 (upd H11 G (.lst [.ref b0, .ref b1, .ref b2, .ref b3, .ref b4, .ref b5])) := same_new hG
      have sA3 := (s_R.trans s1).trans sG
      have sA2 := s_a3.trans sA3
      have sA1 := s_a2.trans sA2
      have sA0 := s_a1.trans sA1
      have sB5 := sG
      have sB4 := s_b5.trans sB5
      have sB3 := s_b4.trans sB4
      have sB2 := s_b3.trans sB3
      have sB1 := s_b2.trans sB2
      have sB0 := s_b1.trans sB1
      refine ⟨hp.same ((s0.trans s1).trans sG), Keep.of ((s0.trans s1).trans sG), (s1.trans sG) _ _ f_R, upd_same, ?_, ?_⟩
      · exact All2.cons (sA0 _ _ f_a0) (All2.cons (sA1 _ _ f_a1) (All2.cons (sA2 _ _ f_a2) (All2.cons (sA3 _ _ f_a3) All2.nil)))
      · exact All2.cons (sB0 _ _ f_b0) (All2.cons (sB1 _ _ f_b1) (All2.cons (sB2 _ _ f_b2) (All2.cons (sB3 _ _ f_b3) (All2.cons (sB4 _ _ f_b4) (All2.cons (sB5 _ _ f_b5) All2.nil)))))
    generalize (upd H11 G (.lst [.ref b0, .ref b1, .ref b2, .ref b3, .ref b4, .ref b5])) = H12 at S0 ⊢
    -- the corners
    refine ⟨_, rfl, 4, (n : Int), rfl, ⟨by omega, by omega, by omega, by omega⟩, ?_⟩
    refine for_it (walk_range (lo := 4) (n := ((n : Int) - 4).toNat)) (fun i σ H3 => ∃ (ras as : List Addr) (rs : List (List Nat)) (prs : List Tie) (v4 v5 v6 v7 : Option V),
        σ = [some (.ref p), some (.int (n : Int)), some (.ref R), some (.ref G), v4, v5, v6, v7, none, none, none, none, none] ∧ SolidAt p H H3 R G ras rs as prs ∧ rs.length = 4 + 2 * i ∧ prs.length = 6 + 3 * i ∧ (∀ r ∈ rs, Ring (4 + i) r) ∧
        (∀ x ∈ prs, x.1 ≠ x.2 ∧ x.1 < 4 + i ∧ x.2 < 4 + i) ∧ Three (4 + i) (Adj prs))
      ⟨_, _, _, _, none, none, none, none, rfl, S0, rfl, rfl, ?_, ?_, ?_⟩ (fun _ _ _ _ _ => trivial) ?_ ?_
    · intro r hr
      simp only [List.mem_cons, List.not_mem_nil, or_false] at hr
      rcases hr with rfl | rfl | rfl | rfl
      · exact ⟨0, 1, 2, rfl, by decide, by decide, by decide, by decide, by decide, by decide⟩
      · exact ⟨0, 1, 3, rfl, by decide, by decide, by decide, by decide, by decide, by decide⟩
      · exact ⟨0, 2, 3, rfl, by decide, by decide, by decide, by decide, by decide, by decide⟩
      · exact ⟨1, 2, 3, rfl, by decide, by decide, by decide, by decide, by decide, by decide⟩
    · intro x hx
      simp only [List.mem_cons, List.not_mem_nil, or_false] at hx
      rcases hx with rfl | rfl | rfl | rfl | rfl | rfl <;> decide
    · refine three_four fun x y hx hy hxy => ?_
      have q : ∀ x y : Fin 4, x.1 ≠ y.1 → ((x.1, y.1) ∈ [((0 : Nat), (1 : Nat)), (0, 2), (0, 3), (1, 2), (1, 3), (2, 3)] ∨ (y.1, x.1) ∈ [((0 : Nat), (1 : Nat)), (0, 2), (0, 3), (1, 2), (1, 3), (2, 3)]) := by decide
      exact q ⟨x, hx⟩ ⟨y, hy⟩ hxy
    · rintro i y σ Hx H3 hi ⟨ras, as, rs, prs, v4, v5, v6, v7, rfl, S, hrl, hpl, hring, hpr, h3⟩ ⟨rfl, rfl⟩
      have hi2 : i < 2 := by omega
      have hral : ras.length = rs.length := S.rat.1
      have hasl : as.length = prs.length := S.pat.1
      -- a, b, c = rings.pop(..)
      refine ⟨_, rfl, .inl ⟨rfl, _, SqL.of S.rings⟩, _, rfl, _, rfl, R, _, rfl, .inl (SqL.of S.rings), p, (ras.map V.ref).length, rfl, by rw [List.length_map]; omega, by rw [List.length_map]; omega, S.pot, fun H4 d hd hp4 k4 => ?_⟩
      have S4 := S.keep nRp nGp k4 hp4
      rw [List.length_map] at hd
      obtain ⟨rd, hrd⟩ : ∃ rd, ras[d]? = some rd := ⟨_, List.getElem?_eq_getElem hd⟩
      obtain ⟨ring, hring1, hrat⟩ := S4.rat.getL hrd
      obtain ⟨x, y, z, rfl, hxy, hxz, hyz, hx4, hy4, hz4⟩ := hring _ (List.mem_of_getElem? hring1)
      refine ⟨R, _, (d : Int), d, .ref rd, rfl, rfl, S4.rings, by omega, by omega, seqIndex_of (by omega) (by rw [List.length_map]; omega), by rw [List.getElem?_map, hrd]; rfl, ?_⟩
      have S5 := S4.setR nRp nRG hR0 (ras' := ras.eraseIdx d) (rs' := rs.eraseIdx d) (all2_erase S4.rat d)
      rw [map_erase]
      have hrl5 : (rs.eraseIdx d).length = 3 + 2 * i := by
        rw [List.length_eraseIdx, if_pos (by omega)]
        omega
      have hring5 : ∀ r ∈ rs.eraseIdx d, Ring (4 + i) r := fun r hr => hring r (List.mem_of_mem_eraseIdx hr)
      have hrat5 : (upd H4 R (.lst ((ras.eraseIdx d).map V.ref))) rd = some (.tup (cI [x, y, z])) := by
        rw [upd_ne (ne_of hrat S4.rings (by intro z; cases z))]
        exact hrat
      generalize (upd H4 R (.lst ((ras.eraseIdx d).map V.ref))) = H5' at S5 hrat5 ⊢
      refine ⟨rd, _, rfl, SqT.of hrat5, rfl, _, _, rfl, _, _, rfl, _, _, rfl, rfl, ?_⟩
      have z4 : V.int (4 + (i : Int)) = V.int ((4 + i : Nat) : Int) := by rw [show ((4 + i : Nat) : Int) = 4 + (i : Int) by omega]
      -- rings.extend(..)
      refine ⟨_, rfl, .inl ⟨rfl, _, SqL.of S5.rings⟩, _, rfl, _, rfl, _, rfl, x3, fun c0 hc0 => ⟨_, rfl, _, rfl, _, rfl, x3, fun c1 hc1 => ⟨_, rfl, _, rfl, _, rfl, x3, fun c2 hc2 => ⟨x3, fun L hL => ?_⟩⟩⟩⟩
      have vm : V.int (4 + (i : Int)) = V.int ((4 + i : Nat) : Int) := by rw [show ((4 + i : Nat) : Int) = 4 + (i : Int) by omega]
      have T0 := S5.new (o := .tup [.int (x : Int), .int (y : Int), .int (4 + (i : Int))]) hc0
      have T1 := T0.new (o := .tup [.int (x : Int), .int (z : Int), .int (4 + (i : Int))]) hc1
      have T2 := T1.new (o := .tup [.int (y : Int), .int (z : Int), .int (4 + (i : Int))]) hc2
      have sc1 : Same _ _ := same_new (o := .tup [.int (x : Int), .int (z : Int), .int (4 + (i : Int))]) hc1
      have sc2 : Same _ _ := same_new (o := .tup [.int (y : Int), .int (z : Int), .int (4 + (i : Int))]) hc2
      have sL : Same _ _ := same_new (o := .lst [.ref c0, .ref c1, .ref c2]) hL
      have T3 := T2.new (o := .lst [.ref c0, .ref c1, .ref c2]) hL
      have fL := @upd_same (upd (upd (upd H5' c0 (.tup [.int (x : Int), .int (y : Int), .int (4 + (i : Int))])) c1 (.tup [.int (x : Int), .int (z : Int), .int (4 + (i : Int))])) c2 (.tup [.int (y : Int), .int (z : Int), .int (4 + (i : Int))])) L (.lst [.ref c0, .ref c1, .ref c2])
      have q0 := sL _ _ (sc2 _ _ (sc1 _ _ (@upd_same H5' c0 (.tup [.int (x : Int), .int (y : Int), .int (4 + (i : Int))]))))
      have q1 := sL _ _ (sc2 _ _ (@upd_same (upd H5' c0 (.tup [.int (x : Int), .int (y : Int), .int (4 + (i : Int))])) c1 (.tup [.int (x : Int), .int (z : Int), .int (4 + (i : Int))])))
      have q2 := sL _ _ (@upd_same (upd (upd H5' c0 (.tup [.int (x : Int), .int (y : Int), .int (4 + (i : Int))])) c1 (.tup [.int (x : Int), .int (z : Int), .int (4 + (i : Int))])) c2 (.tup [.int (y : Int), .int (z : Int), .int (4 + (i : Int))]))
      generalize upd (upd (upd (upd H5' c0 (.tup [.int (x : Int), .int (y : Int), .int (4 + (i : Int))])) c1 (.tup [.int (x : Int), .int (z : Int), .int (4 + (i : Int))])) c2 (.tup [.int (y : Int), .int (z : Int), .int (4 + (i : Int))])) L (.lst [.ref c0, .ref c1, .ref c2]) = H6 at T3 fL q0 q1 q2 ⊢
      clear T0 T1 T2 sc1 sc2 sL
      have S6 := T3.setR nRp nRG hR0 (ras' := ras.eraseIdx d ++ [c0, c1, c2]) (rs' := rs.eraseIdx d ++ [[x, y, 4 + i], [x, z, 4 + i], [y, z, 4 + i]])
        (TupsAre.append T3.rat (All2.cons (by rw [q0, vm]; rfl) (All2.cons (by rw [q1, vm]; rfl) (All2.cons (by rw [q2, vm]; rfl) All2.nil))))
      refine ⟨R, L, _, _, rfl, rfl, T3.rings, fL, ?_, ?_⟩
      · rw [List.length_map]
        have h5 := T3.rat.1
        exact small (by simp; omega)
      have eR : (ras.eraseIdx d).map V.ref ++ [V.ref c0, V.ref c1, V.ref c2] = (ras.eraseIdx d ++ [c0, c1, c2]).map V.ref := by
        rw [List.map_append]
        rfl
      rw [eR]
      generalize (upd H6 R (.lst ((ras.eraseIdx d ++ [c0, c1, c2]).map V.ref))) = H7 at S6 ⊢
      -- pairs.extend(..)
      refine ⟨_, rfl, .inl ⟨rfl, _, SqL.of S6.pairs⟩, _, rfl, _, rfl, x2, fun e0 he0 => ⟨_, rfl, _, rfl, x2, fun e1 he1 => ⟨_, rfl, _, rfl, x2, fun e2 he2 => ⟨x3, fun L2 hL2 => ?_⟩⟩⟩⟩
      have U0 := S6.new (o := .tup [.int (x : Int), .int (4 + (i : Int))]) he0
      have U1 := U0.new (o := .tup [.int (y : Int), .int (4 + (i : Int))]) he1
      have U2 := U1.new (o := .tup [.int (z : Int), .int (4 + (i : Int))]) he2
      have U3 := U2.new (o := .lst [.ref e0, .ref e1, .ref e2]) hL2
      have sc1 : Same _ _ := same_new (o := .tup [.int (y : Int), .int (4 + (i : Int))]) he1
      have sc2 : Same _ _ := same_new (o := .tup [.int (z : Int), .int (4 + (i : Int))]) he2
      have sL : Same _ _ := same_new (o := .lst [.ref e0, .ref e1, .ref e2]) hL2
      have fL2 := @upd_same (upd (upd (upd H7 e0 (.tup [.int (x : Int), .int (4 + (i : Int))])) e1 (.tup [.int (y : Int), .int (4 + (i : Int))])) e2 (.tup [.int (z : Int), .int (4 + (i : Int))])) L2 (.lst [.ref e0, .ref e1, .ref e2])
      have r0 := sL _ _ (sc2 _ _ (sc1 _ _ (@upd_same H7 e0 (.tup [.int (x : Int), .int (4 + (i : Int))]))))
      have r1 := sL _ _ (sc2 _ _ (@upd_same (upd H7 e0 (.tup [.int (x : Int), .int (4 + (i : Int))])) e1 (.tup [.int (y : Int), .int (4 + (i : Int))])))
      have r2 := sL _ _ (@upd_same (upd (upd H7 e0 (.tup [.int (x : Int), .int (4 + (i : Int))])) e1 (.tup [.int (y : Int), .int (4 + (i : Int))])) e2 (.tup [.int (z : Int), .int (4 + (i : Int))]))
      generalize upd (upd (upd (upd H7 e0 (.tup [.int (x : Int), .int (4 + (i : Int))])) e1 (.tup [.int (y : Int), .int (4 + (i : Int))])) e2 (.tup [.int (z : Int), .int (4 + (i : Int))])) L2 (.lst [.ref e0, .ref e1, .ref e2]) = H8 at U3 fL2 r0 r1 r2 ⊢
      clear U0 U1 U2 sc1 sc2 sL
      have tat : ∀ {c : Addr} {u : Nat}, H8 c = some (.tup [.int (u : Int), .int (4 + (i : Int))]) → TieAt H8 c (u, 4 + i) := fun h => by
        unfold TieAt
        rw [h, vm]
      have S7 := U3.setG nGp nRG hG0 (as' := as ++ [e0, e1, e2]) (prs' := prs ++ [(x, 4 + i), (y, 4 + i), (z, 4 + i)]) (All2.append U3.pat (All2.cons (tat r0) (All2.cons (tat r1) (All2.cons (tat r2) All2.nil))))
      refine ⟨G, L2, _, _, rfl, rfl, U3.pairs, fL2, ?_, ?_⟩
      · rw [List.length_map]
        exact small (by simp; omega)
      have eG : as.map V.ref ++ [V.ref e0, V.ref e1, V.ref e2] = (as ++ [e0, e1, e2]).map V.ref := by
        rw [List.map_append]
        rfl
      rw [eG]
      refine ⟨_, _, _, _, _, _, _, _, rfl, S7, ?_, ?_, ?_, ?_, ?_⟩
      · rw [List.length_append, hrl5]
        show 3 + 2 * i + 3 = _
        omega
      · rw [List.length_append, hpl]
        show 6 + 3 * i + 3 = _
        omega
      · intro r hr
        rcases List.mem_append.mp hr with h | h
        · exact (hring5 r h).up
        · simp only [List.mem_cons, List.not_mem_nil, or_false] at h
          rcases h with rfl | rfl | rfl
          · exact ⟨_, _, _, rfl, hxy, by omega, by omega, by omega, by omega, by omega⟩
          · exact ⟨_, _, _, rfl, hxz, by omega, by omega, by omega, by omega, by omega⟩
          · exact ⟨_, _, _, rfl, hyz, by omega, by omega, by omega, by omega, by omega⟩
      · intro u hu
        rcases List.mem_append.mp hu with h | h
        · have := hpr u h
          exact ⟨this.1, by omega, by omega⟩
        · simp only [List.mem_cons, List.not_mem_nil, or_false] at h
          rcases h with rfl | rfl | rfl <;> simp only <;> omega
      · refine h3.grow hx4 hy4 hz4 hxy hxz hyz (fun u v _ _ h => ?_) (fun u v => Adj.symm) (.inl (by simp)) (.inl (by simp)) (.inl (by simp))
        rcases h with h | h
        · exact .inl (List.mem_append_left _ h)
        · exact .inr (List.mem_append_left _ h)
    · rintro σ H3 ⟨ras, as, rs, prs, v4, v5, v6, v7, rfl, S, hrl, hpl, hring, hpr, h3⟩
      have en : 4 + ((n : Int) - 4).toNat = n := by omega
      rw [en] at hpr h3
      refine ⟨_, rfl, _, rfl, G, n, as, prs, rfl, S.pairs, S.pat, by omega, by omega, by omega, hpr, fun H4 a ts s4 hw W hadj => ?_⟩
      have h3' : Three n (Adj ts) := h3.mono fun x y _ _ h => (hadj x y).mpr h
      have hp4 := S.pot.same s4
      have k4 : Keep p H H4 := S.kept.trans (Keep.of s4)
      refine ⟨_, rfl, p, 3, rfl, by omega, by omega, hp4, fun H5 dn hdn hp5 k5 => ?_⟩
      have hw5 := hw.keep k5 hp4.lst
      refine ⟨(dn : Int), rfl, by omega, by omega, ?_⟩
      refine for_it (walk_range (lo := 0) (n := ((dn : Int)).toNat)) (fun i σ H6 => ∃ (b : Addr) (us : List Tie) (v9 v10 v11 : Option V),
          σ = [some (.ref p), some (.int (n : Int)), some (.ref R), some (.ref G), v4, v5, v6, v7, some (.ref b), v9, v10, v11, none] ∧ PotAt H6 p ∧ Keep p H H6 ∧ WebAt H6 b n us ∧ WebOk n us ∧ Three n (Adj us))
        ⟨a, ts, none, none, none, rfl, hp5, k4.trans k5, hw5, W, h3'⟩ (fun _ _ _ _ _ => trivial) ?_ ?_
      · rintro i y σ Hx H6 hi ⟨b, us, v9, v10, v11, rfl, hp6, k6, hw6, W6, h36⟩ ⟨rfl, rfl⟩
        obtain ⟨t, hb, tas, ht, hts⟩ := id hw6
        obtain ⟨pl, hpl⟩ := hp6.lst
        have hfew := W6.few
        have htl := hts.1
        have htne := h36.ties
        refine ⟨_, rfl, _, rfl, b, _, 2, .ref t, rfl, rfl, SqT.of hb, rfl, p, t, tas.map V.ref, rfl, .inr ht, ne_of ht hpl (by intro z; cases z), ?_, by rw [List.length_map]; omega, hp6, fun H7 x hx hp7 k7 => ?_⟩
        · intro e
          have := List.map_eq_nil_iff.mp e
          rw [this] at htl
          exact htne (List.length_eq_zero_iff.mp htl.symm)
        obtain ⟨gz, g, rfl, hg, hgat⟩ := tie_at hts hx
        have hw7 := hw6.keep k7 hp6.lst
        have hgat7 := hgat.keep k7 hp6.lst
        obtain ⟨t', hb7, tas', ht7, hts7⟩ := id hw7
        -- late
        refine ⟨_, rfl, _, rfl, b, _, 2, .ref t', rfl, rfl, SqT.of hb7, rfl, t', rfl, ⟨_, SqT.of ht7⟩, fun D hD => ?_⟩
        refine lc_it (walk_tup (K := K) (a := t') (xs := tas'.map V.ref)) (fun j H8 => Same H7 H8 ∧ ∃ bs : List Addr, H8 D = some (.lst (bs.map V.ref)) ∧ All2 (TieAt H8) bs (less g (us.take j)))
          ⟨same_new hD, [], upd_same, All2.nil⟩ (fun _ _ _ z => SqT.of (z.1 _ _ ht7)) ?_ ?_
        · rintro j y Hx H8 hj ⟨s8, bs, d8, t8⟩ ⟨rfl, hy⟩
          obtain ⟨c, hc, rfl⟩ := map_get hy
          obtain ⟨x, hx, hcx⟩ := hts7.getL hc
          have hcx8 := hcx.same s8
          have hg8 := hgat7.same s8
          refine ⟨rfl, _, rfl, _, rfl, _, _, .tup (SqT.of hcx8) (dpAll_ints [x.1, x.2]), .tup (SqT.of hg8) (dpAll_ints [g.1, g.2]), shaped_intsT _, shaped_intsT _, _, rfl, ?_⟩
          rw [tie_ne]
          by_cases hxg : x = g
          · rw [decide_eq_false (by simpa using hxg)]
            have key : Same H7 H8 ∧ ∃ bs : List Addr, H8 D = some (.lst (bs.map V.ref)) ∧ All2 (TieAt H8) bs (less g (us.take (j + 1))) := by
              refine ⟨s8, bs, d8, ?_⟩
              rw [take_succ hx, less_no hxg]
              exact t8
            exact key
          · rw [decide_eq_true hxg]
            have hbl := t8.1
            have h1 := less_len g (us.take j)
            have h2 := List.length_take_le' j us
            refine ⟨_, rfl, _, d8, by rw [List.length_map]; exact small1000 (by omega), Same.upd s8 hD, bs ++ [c], by rw [upd_same, List.map_append]; rfl, ?_⟩
            rw [take_succ hx, less_yes hxg]
            exact TiesSnoc t8 d8 hcx8
        · rintro H8 ⟨s8, bs, d8, t8⟩
          rw [List.length_map, hts7.1, List.take_length] at t8
          refine ⟨D, _, rfl, .inl ⟨SqL.of d8, fun tt htt => ⟨x3, fun lw hlw => ?_⟩⟩⟩
          have s9 := same_new (o := .tup (bs.map V.ref)) htt
          have s10 := same_new (o := .tup [.str "web", .int (n : Int), .ref tt]) hlw
          have hlate : WebAt (upd (upd H8 tt (.tup (bs.map V.ref))) lw (.tup [.str "web", .int (n : Int), .ref tt])) lw n (less g us) :=
            ⟨tt, upd_same, bs, s10 _ _ upd_same, TiesSame (TiesSame t8 s9) s10⟩
          have s7 : Same H7 (upd (upd H8 tt (.tup (bs.map V.ref))) lw (.tup [.str "web", .int (n : Int), .ref tt])) := (s8.trans s9).trans s10
          generalize (upd (upd H8 tt (.tup (bs.map V.ref))) lw (.tup [.str "web", .int (n : Int), .ref tt])) = H9 at hlate s7 ⊢
          refine ⟨_, rfl, lw, n, less g us, rfl, hlate, W6.less g, fun H10 bb s11 hiff => ⟨bb, rfl, ?_⟩⟩
          have s12 := s7.trans s11
          cases bb with
          | true => exact iteT ⟨_, rfl, lw, less g us, _, _, _, rfl, hp7.same s12, (k6.trans k7).trans (Keep.of s12), hlate.same s11, W6.less g, hiff.mp rfl⟩
          | false => exact iteF ⟨b, us, _, _, _, rfl, hp7.same s12, (k6.trans k7).trans (Keep.of s12), hw7.same s12, W6, h36⟩
      · rintro σ H6 ⟨b, us, v9, v10, v11, rfl, hp6, k6, hw6, W6, h36⟩
        exact ⟨_, rfl, k H6 b us hp6 k6 hw6 W6 h36⟩
end
end Wp
namespace Wp
open PySem L2
section
variable {P : Program} {w : World} {K : PySem.W.Frag} {mg : Str → Option Value} {base : Heap}
/-! ### _law_any_web -/
def spAny : Sp := fun vs H Q _ => ∃ (p : Addr), vs = [.ref p] ∧ PotAt H p ∧ ∀ H' a n ts, n ≤ 6 → PotAt H' p → Keep p H H' → WebAt H' a n ts → WebOk n ts → Q (.ref a) H'
abbrev N_any : List Str := ["_law_pot_here", "_law_way", "_law_many", "_law_web_here", "_law_gone", "_law_tie"]
theorem sc_any : FnScope N_any ["_law_pot_here"] (defScope sAny) := ⟨rfl, rfl, rfl, by decide +kernel, rfl, by decide +kernel, by decide +kernel⟩
theorem ok_any {f : Addr} {fd : FuncData} (F : Fun K "_law_any_web" "_law_any_web" sAny f fd) (T : Txt mg) (c1 : Cal P w K mg base 1 "_law_draw" spDraw) (c2 : Cal P w K mg base 3 "_law_drawn_web" spDrawn) (c3 : Cal P w K mg base 3 "_law_named" spNamed) (c4 : Cal P w K mg base 4 "_law_solid_web" spSolid) (c5 : Cal P w K mg base 2 "_law_pick" spPick) : FnOk P w K mg base CX0 5 f fd ["_law_pot_here"] spAny := by
  refine F.ok sc_any (fun vs H Q E h => ?_) (fun cdv A outer s H vs Q E hr h => ?_)
  · obtain ⟨p, rfl, _⟩ := h
    rfl
  · obtain ⟨p, rfl, hp, k⟩ := h
    refine ⟨_, pss_cons (ps_par (i := 1) (j := 2) rfl sc_any.nd rfl rfl (by decide) rfl rfl (pa_cons (pe_cal c1 hr (by decide) (by rfl) (pa_cons (pv 0) (pa_cons pe_int pa_nil))) (pa_cons (pe_op op_add pe_int (pe_cal c1 hr (by decide) (by rfl) (pa_cons (pv 0) (pa_cons pe_int pa_nil)))) pa_nil)) (by rfl))
      (pss_cons (ps_if (pt_cmpR op_eq (pv 1) pe_int (nomark _)) (pss_one (ps_ret (pe_cal c2 hr (by decide) (by rfl) (pa_cons (pv 0) (pa_cons (pe_op op_add pe_int (pe_cal c1 hr (by decide) (by rfl) (pa_cons (pv 0) (pa_cons pe_int pa_nil)))) pa_nil))))) pss_nil)
      (pss_cons (ps_if (pt_cmpR op_eq (pv 1) pe_int (nomark _)) (pss_one (ps_ret (pe_cal c2 hr (by decide) (by rfl) (pa_cons (pv 0) (pa_cons (pv 2) pa_nil))))) pss_nil)
      (pss_cons (ps_set (i := 3) sc_any.nd rfl (Or.inl rfl) (pe_cal c3 hr (by decide) (by rfl) (pa_cons (pv 0) (pa_cons (pe_cal c4 hr (by decide) (by rfl) (pa_cons (pv 0) (pa_cons (pv 2) pa_nil))) pa_nil))))
      (pss_cons (ps_if (pt_cmpR op_eq (pv 1) pe_int (nomark _)) (pss_one (ps_ret (pv 3))) pss_nil)
      (pss_cons (ps_set (i := 4) sc_any.nd rfl (Or.inr rfl) (pe_cal c5 hr (by decide) (by rfl) (pa_cons (pv 0) (pa_cons (pe_ix ix_tup (pv 3) pe_int (fun _ _ => rfl)) pa_nil))))
      (pss_one (ps_ret (pe_tup (pa_cons pe_str (pa_cons (pv 2) (pa_cons (pe_callTy call_tuple_of (by rfl) T.tuple (by decide +kernel) (pa_cons
            (pe_lc (own := [("_law_tie", 5)]) (g := gName 5) rfl sc_any.nd (pi_tup (pe_ix ix_tup (pv 3) pe_int (fun _ _ => rfl))) (blkOk_by (own := [("_law_tie", 5)]) (N := N_any) (sc := defScope sAny) (by decide +kernel))
              (fun _ _ _ _ _ => pg_name (i := 5) sc_any.nd rfl (Or.inl rfl)) (fun _ _ _ _ _ => pts_one (pt_cmpR (r := rNeD K) (op_neD hr.units) (pv 5) (pv 4) (nomark _))) (fun _ _ _ _ _ => pv 5)) pa_nil)) pa_nil))))))))))), ?_⟩
    refine ⟨_, rfl, p, 4, rfl, by omega, by omega, hp, fun H1 way hway hp1 k1 => ?_⟩
    refine ⟨_, rfl, p, 3, rfl, by omega, by omega, hp1, fun H2 mn hmn hp2 k2 => ?_⟩
    have k12 := k1.trans k2
    refine ⟨_, _, rfl, rfl, _, _, rfl, ?_⟩
    have em : V.int (4 + (mn : Int)) = V.int ((4 + mn : Nat) : Int) := by rw [show ((4 + mn : Nat) : Int) = 4 + (mn : Int) by omega]
    refine ⟨_, rfl, rfl, _, rfl, ?_⟩
    refine ite2 (fun _ => ?_) (fun _ => ?_)
    · refine ⟨_, rfl, _, rfl, p, 6, rfl, by omega, by omega, hp2, fun H3 d hd hp3 k3 => ⟨_, _, rfl, rfl, ?_⟩⟩
      refine ⟨p, 1 + d, by show [V.ref p, V.int (1 + (d : Int))] = _; rw [show ((1 + d : Nat) : Int) = 1 + (d : Int) by omega], by omega, by omega, hp3, fun H4 a ts hp4 k4 hw W => ?_⟩
      exact k H4 a _ ts (by omega) hp4 ((k12.trans k3).trans k4) hw W
    · refine ⟨_, rfl, rfl, _, rfl, ?_⟩
      refine ite2 (fun _ => ?_) (fun _ => ?_)
      · refine ⟨_, rfl, _, rfl, p, 4 + mn, by show [V.ref p, V.int (4 + (mn : Int))] = _; rw [em], by omega, by omega, hp2, fun H4 a ts hp4 k4 hw W => ?_⟩
        exact k H4 a _ ts (by omega) hp4 (k12.trans k4) hw W
      · refine ⟨_, rfl, _, rfl, _, rfl, p, 4 + mn, by show [V.ref p, V.int (4 + (mn : Int))] = _; rw [em], by omega, by omega, hp2, fun H3 a ts hp3 k3 hw W h3 => ?_⟩
        refine ⟨p, a, 4 + mn, ts, rfl, hp3, hw, W, h3, fun H4 b us hp4 k4 hw4 W4 h34 => ?_⟩
        have k14 := (k12.trans k3).trans k4
        refine ⟨_, rfl, rfl, _, rfl, ?_⟩
        refine ite2 (fun _ => ?_) (fun _ => ?_)
        · exact ⟨_, rfl, k H4 b _ us (by omega) hp4 k14 hw4 W4⟩
        · obtain ⟨t, hb, tas, ht, hts⟩ := id hw4
          obtain ⟨pl, hpl⟩ := hp4.lst
          have hfew := W4.few
          have htl := hts.1
          have htne := h34.ties
          refine ⟨_, rfl, _, rfl, b, _, 2, .ref t, rfl, rfl, SqT.of hb, rfl, p, t, tas.map V.ref, rfl, .inr ht, ne_of ht hpl (by intro z; cases z), ?_, by rw [List.length_map]; omega, hp4, fun H7 x hx hp7 k7 => ?_⟩
          · intro e
            have := List.map_eq_nil_iff.mp e
            rw [this] at htl
            exact htne (List.length_eq_zero_iff.mp htl.symm)
          obtain ⟨gz, g, rfl, hg, hgat⟩ := tie_at hts hx
          have hw7 := hw4.keep k7 hp4.lst
          have hgat7 := hgat.keep k7 hp4.lst
          obtain ⟨t', hb7, tas', ht7, hts7⟩ := id hw7
          refine ⟨_, rfl, _, rfl, b, _, 2, .ref t', rfl, rfl, SqT.of hb7, rfl, t', rfl, ⟨_, SqT.of ht7⟩, fun D hD => ?_⟩
          refine lc_it (walk_tup (K := K) (a := t') (xs := tas'.map V.ref)) (fun j H8 => Same H7 H8 ∧ ∃ bs : List Addr, H8 D = some (.lst (bs.map V.ref)) ∧ All2 (TieAt H8) bs (less g (us.take j)))
            ⟨same_new hD, [], upd_same, All2.nil⟩ (fun _ _ _ z => SqT.of (z.1 _ _ ht7)) ?_ ?_
          · rintro j y Hx H8 hj ⟨s8, bs, d8, t8⟩ ⟨rfl, hy⟩
            obtain ⟨c, hc, rfl⟩ := map_get hy
            obtain ⟨x, hx, hcx⟩ := hts7.getL hc
            have hcx8 := hcx.same s8
            have hg8 := hgat7.same s8
            refine ⟨rfl, _, rfl, _, rfl, _, _, .tup (SqT.of hcx8) (dpAll_ints [x.1, x.2]), .tup (SqT.of hg8) (dpAll_ints [g.1, g.2]), shaped_intsT _, shaped_intsT _, _, rfl, ?_⟩
            rw [tie_ne]
            by_cases hxg : x = g
            · rw [decide_eq_false (by simpa using hxg)]
              have key : Same H7 H8 ∧ ∃ bs : List Addr, H8 D = some (.lst (bs.map V.ref)) ∧ All2 (TieAt H8) bs (less g (us.take (j + 1))) := by
                refine ⟨s8, bs, d8, ?_⟩
                rw [take_succ hx, less_no hxg]
                exact t8
              exact key
            · rw [decide_eq_true hxg]
              have hbl := t8.1
              have h1 := less_len g (us.take j)
              have h2 := List.length_take_le' j us
              refine ⟨_, rfl, _, d8, by rw [List.length_map]; exact small1000 (by omega), Same.upd s8 hD, bs ++ [c], by rw [upd_same, List.map_append]; rfl, ?_⟩
              rw [take_succ hx, less_yes hxg]
              exact TiesSnoc t8 d8 hcx8
          · rintro H8 ⟨s8, bs, d8, t8⟩
            rw [List.length_map, hts7.1, List.take_length] at t8
            refine ⟨D, _, rfl, .inl ⟨SqL.of d8, fun tt htt => ⟨small (by show 3 ≤ 1000; omega), fun lw hlw => ?_⟩⟩⟩
            have s9 := same_new (o := .tup (bs.map V.ref)) htt
            have s10 := same_new (o := .tup [.str "web", .int ((4 + mn : Nat) : Int), .ref tt]) hlw
            have hlate : WebAt (upd (upd H8 tt (.tup (bs.map V.ref))) lw (.tup [.str "web", .int ((4 + mn : Nat) : Int), .ref tt])) lw (4 + mn) (less g us) :=
              ⟨tt, upd_same, bs, s10 _ _ upd_same, TiesSame (TiesSame t8 s9) s10⟩
            have s7 : Same H7 (upd (upd H8 tt (.tup (bs.map V.ref))) lw (.tup [.str "web", .int ((4 + mn : Nat) : Int), .ref tt])) := (s8.trans s9).trans s10
            have fin := k _ lw _ _ (by omega) (hp7.same s7) ((k14.trans k7).trans (Keep.of s7)) hlate (W4.less g)
            rw [← em] at fin
            exact fin
end
end Wp
namespace Wp
open PySem PySem.Spec L2 PyProof.Rows
/-! ### defs that run where no guard stands -/
structure FnG (P : Program) (w : World) (K : PySem.W.Frag) (mg : Str → Option Value) (base : Heap) (k : Nat) (f : Addr) (fd : FuncData) (ps : List Str) (sp : Sp) : Prop where
  many : ∀ vs H Q E, sp vs H Q E → vs.length = ps.length
  go : ∀ (A : Around) (out : List Env) (s : Shared) (H : Hp) (ar : Args) (us : List Value) (vs : List V) (Q : VK) (E : XK), A.guards = some [] → Room k A → Env0 P w K mg base A out s H → BindsTo s fd ar (ps.zip us) → Vals vs us → sp vs H Q E →
    codeAny (model P w) A (.call (.ref f) ar) (CR CX0 out P w H s Q E) s
section
variable {P : Program} {w : World} {K : PySem.W.Frag} {mg : Str → Option Value} {base : Heap}
theorem fnG {x qual : Str} {st : Stmt} {f : Addr} {fd : FuncData} {N ps : List Str} {k : Nat} {sp : Sp} (F : Fun K x qual st f fd) (S : FnScope N ps (defScope st)) (many : ∀ vs H Q E, sp vs H Q E → vs.length = ps.length)
    (h : ∀ (cdv : Value) (A : Around) (outer : List Env) (s : Shared) (H : Hp) (vs : List V) (Q : VK) (E : XK), A.guards = some [] → Room k (A.deeper (envOfC qual (defScope st) s.heap.objs.size f cdv)) → sp vs H Q E →
      ∃ t, PSs (cxOf CX0 P w K mg base N qual (defScope st) f cdv A outer s H E).nox (defBody st) t ∧ t { nx := fun _ H' => Q .non H', rt := Q } (start N vs) H) : FnG P w K mg base (k + 1) f fd ps sp := by
  obtain ⟨oc, od, kV, doc, pm, an, cdv, ct, osl, rfl, lk, hcd⟩ := F.ex
  refine ⟨many, fun A out s H ar us vs Q E hg hr e0 hb r hsp => ?_⟩
  have hn := many _ _ _ _ hsp
  have inK : K.In s.heap := e0.mod.kin.keeps fun b o e => (e0.bs b o e).1
  have free : s.heap.NoLimit := e0.mod.nolimit.keeps fun b o e => (e0.bs b o e).1
  have kinds : ∀ y ∈ ps.zip us, (defScope st).names.lookup y.1 = some .local ∨ ((defScope st).names.lookup y.1 = some .cell ∧ ((cellsFrom (s.heap.objs.size + 1) (defScope st).names []).lookup y.1).isSome = true) := by
    rintro ⟨a, b⟩ hy
    exact (S.par a (List.of_mem_zip hy).1).elim (fun q => .inl q) fun q => .inr ⟨q, PySem.W.cellsFrom_some _ _ _ (.inl q)⟩
  refine codeAny_call_function hr.depth (inK _ _ lk) rfl S.co S.gen rfl (PySem.W.codeRec_of inK hcd) (hb _ _ _ _ (wpAny_newFunctionEnv_cells S.kind kinds fun env he s1 y => ?_))
  subst he
  obtain ⟨t, ht, hq⟩ := h cdv A out s H vs Q E hg (hr.deeper _) hsp
  have I : Inv (cxOf CX0 P w K mg base N qual (defScope st) f cdv A out s H E) [] (start N vs) H s1 := inv_start S hr.hd e0 hn r y
  have last : ∀ {τ : L2.St} {H' : Hp} {v : V} {u : Value} {s' : Shared}, Inv (cxOf CX0 P w K mg base N qual (defScope st) f cdv A out s H E) [] τ H' s' → RelV v u → Q v H' → CE out P w H s Q u s' := fun J rv q => ⟨_, _, J.os, J.bare, J.base, J.hok, rv, q⟩
  refine ⟨free.keeps y.toInCall.keep, codeAny_func (wpAny_mono (ht.nox.run [] s1 (start N vs) H _ I hq) (fun fl s' hs => ?_) fun _ _ hs => hs)⟩
  cases fl with
  | ret u => exact let ⟨v, τ, H', J, rv, q⟩ := hs; last J rv q
  | next => exact let ⟨τ, H', J, q⟩ := hs; last (v := V.non) (u := Value.none) J rfl q
  | brk => exact let ⟨_, _, _, q⟩ := hs; q.elim
  | cont => exact let ⟨_, _, _, q⟩ := hs; q.elim
end
/-! ### calls -/
structure CalG (P : Program) (w : World) (K : PySem.W.Frag) (mg : Str → Option Value) (base : Heap) (k : Nat) (x : Str) (sp : Sp) : Prop where
  ex : ∃ (f : Addr) (fd : FuncData) (ps : List Str), FnG P w K mg base k f fd ps sp ∧ mg x = some (.ref f) ∧ PySem.W.keepIn K (.ref f) = true ∧ Binds K fd ps []
/-- f(name = value) -/
structure CalK (P : Program) (w : World) (K : PySem.W.Frag) (mg : Str → Option Value) (base : Heap) (k : Nat) (x kw : Str) (sp : Sp) : Prop where
  ex : ∃ (f : Addr) (fd : FuncData), FnOk P w K mg base CX0 k f fd [kw] sp ∧ mg x = some (.ref f) ∧ PySem.W.keepIn K (.ref f) = true ∧ ∀ (s : Shared) (u : Value), BindsTo s fd ⟨[], [(kw, u)]⟩ [(kw, u)]
section
variable {X : Cx} {k j : Nat} {x kw : Str} {sp : Sp} {p pos kp : Pos} {e : Expr} {es : List Expr} {te : TE} {t : TA}
theorem pe_calG (c : CalG X.prog X.w X.K X.mg X.base k x sp) (guard : X.A.guards = some []) (hr : Room j X.A) (hk : k ≤ j) (hg : Gl X x) (ha : PA X (e :: es) t)
    (hdb : (x == ("__debug__" : Str)) = false := by decide) (he : starEach (e :: es) X.env = (false, eval e X.env) :: starEach es X.env := by rfl) (hpl : (backTo pos (starEach es X.env)).any (·.1) = false := by rfl) :
    PE X (.Call (.Name x p) (e :: es) [] pos) (tCall sp [] E0 t) := by
  obtain ⟨f, fd, ps, F, hm, keep, b⟩ := c.ex
  refine ⟨fun pins s σ H Q I h => wpAny_Call_Name_kw (ld_glob I hg hm (PySem.W.callWith_K (h₀ := X.base) I.ok.mod.kin keep (thn (ha.run pos pins s σ H _ I h) fun us s1 ⟨vs, H1, I1, r, q⟩ => ⟨I1.kIn, ?_⟩) he hpl) hdb)⟩
  have q' : sp vs H1 Q E0 := by rw [← List.append_nil vs]; exact q
  have len : (us ++ ([] : List Value)).length = ps.length := by rw [List.append_nil, ← r.length]; exact F.many _ _ _ _ q'
  have bind : BindsTo s1 fd ⟨us, []⟩ (ps.zip us) := by have z := b s1 us I1.kIn len; rwa [List.append_nil] at z
  refine wpAny_call (codeAny_mono (F.go X.A X.stack s1 H1 ⟨us, []⟩ us vs Q E0 guard (hr.mono hk) I1.env0 bind r q') fun r2 s2 hq => ?_)
  match r2, hq with
  | .ok (.ret u), hq => exact I1.after hq
  | .ok .next, hq => exact hq.elim
  | .ok .brk, hq => exact hq.elim
  | .ok .cont, hq => exact hq.elim
  | .error _, hq => exact hq.elim
/-- what it reads: the one keyword's value -/
def tKey (sp : Sp) (te : TE) : TE := fun σ H Q => te σ H fun v H1 => sp [v] H1 Q E0
theorem pe_calK (c : CalK X.prog X.w X.K X.mg X.base k x kw sp) (hr : Room j X.A) (hk : k ≤ j) (hg : Gl X x) (ha : PE X e te)
    (hdb : (x == ("__debug__" : Str)) = false := by decide) (hall : (backToKw pos (keywordEach [⟨some kw, e, kp⟩] X.env)).all (·.1.isSome) = true := by rfl) (hks : (backToKw pos (keywordEach [⟨some kw, e, kp⟩] X.env)).filterMap (·.1) = [kw] := by rfl)
    (hpl : ((backTo pos (starEach [] X.env)).any (·.1) || (backToKw pos (keywordEach [⟨some kw, e, kp⟩] X.env)).any (·.1.isNone)) = false := by rfl) :
    PE X (.Call (.Name x p) [] [⟨some kw, e, kp⟩] pos) (tKey sp te) := by
  obtain ⟨f, fd, F, hm, keep, b⟩ := c.ex
  have hkb : KBinds X.K fd [kw] [kw] (fun us ws => if us.length = 0 then ws else []) (fun us ws => if us.length = 0 then ws else []) := by
    refine ⟨fun s us ws _ hl => ?_, fun {vs us zs ws} r1 r2 => ?_⟩
    · match us, ws, hl with
      | [], [u], _ => exact b s u
      | [], [], hl => exact absurd hl (by simp)
      | [], _ :: _ :: _, hl => exact absurd hl (by simp)
      | _ :: _, _, hl => exact absurd hl (by simp)
    · have e := r1.length
      by_cases h0 : us.length = 0
      · rw [if_pos h0, if_pos (by omega)]
        exact r2
      · rw [if_neg h0, if_neg (by omega)]
        exact .nil
  refine ⟨fun pins s σ H Q I h => wpAny_Call_Name_kw (ld_glob I hg hm (PySem.W.callWith_KW0 (h₀ := X.base) I.ok.mod.kin keep hall (thn ((pk_cons ha pk_nil).run pos pins s σ H (fun zs H1 => sp zs H1 Q E0) I h) fun ws s2 ⟨zs, H2, I2, rz, q2⟩ => ⟨I2.kIn, ?_⟩) hpl) hdb)⟩
  rw [hks]
  exact run_fnk (us := []) (vs := []) F (hr.mono hk) hkb pass0 I2 .nil rz q2
end
end Wp
namespace Wp
open PySem PySem.Spec L2 PyProof.Rows
/-! ### repr -/
structure Showy (d : PyData) : Prop where
  disp : isDisplay d = true
  show_ : d.showable = true
  nodict : d.hasDict = false
  flat : d.depth ≤ 60
  fits : d.shown.length ≤ sizeLine
def rReprD (K : PySem.W.Frag) : List V → Hp → VK → Prop := fun xs H Q => ∃ (x : V) (d : PyData), xs = [x] ∧ Dp K H x d ∧ Showy d ∧ Q (.str d.shown) H
theorem cr_reprD {X : Cx} (guard : X.A.guards = some []) (hu : X.A.units + 64 < cLine) : CallR X (.builtin "repr") (rReprD X.K) := by
  intro pins s σ H xs us Q I r h
  obtain ⟨x, d, rfl, hd, S, q⟩ := h
  obtain ⟨u, rfl, rx⟩ := vals1 r
  obtain ⟨as, rd⟩ := Dp.reads I d x u hd rx
  obtain ⟨a, rfl⟩ := isRef_of_reads rd S.disp
  exact repr_of_reads' rd S.show_ (PyData.noDict_hsm S.nodict) guard (by have := S.flat; omega) (fun _ _ e => e) (fun h' u tk hk => ⟨.str d.shown, H, I.kept hk, ⟨_, rfl⟩, q⟩) S.fits
def rReprB : List V → Hp → VK → Prop := fun xs H Q => ∃ b : Bool, xs = [.bl b] ∧ Q (.str (if b then "True" else "False")) H
theorem cr_reprB {X : Cx} : CallR X (.builtin "repr") rReprB := by
  intro pins s σ H xs us Q I r h
  obtain ⟨b, rfl, q⟩ := h
  obtain ⟨u, rfl, rx⟩ := vals1 r
  cases rx
  exact P.repr_of_bool ⟨.str (if b then "True" else "False"), H, I.tok _, ⟨_, rfl⟩, q⟩
/-! ### what is shown: a web, a list of two sizes -/
theorem int_short {x : Nat} (h : x < 100) : PyData.leavesShort 13 (.int (x : Int)) = true ∧ PyData.showable (.int (x : Int)) = true := by
  have h1 : ((x : Int)).natAbs = x := Int.natAbs_natCast x
  refine ⟨decide_eq_true (PyData.shown_int_le (by rw [h1]; omega)), decide_eq_true ?_⟩
  rw [h1]
  have := Nat.log2_le_self x
  omega
theorem ints_ok : ∀ l : List Nat, (∀ x ∈ l, x < 100) → PyData.leavesShortAll 13 (dI l) = true ∧ PyData.showableAll (dI l) = true ∧ PyData.hasDictAll (dI l) = false ∧ PyData.bulkAll (dI l) = l.length
  | [], _ => ⟨rfl, rfl, rfl, rfl⟩
  | x :: l, h => by
    obtain ⟨h1, h2⟩ := int_short (h x List.mem_cons_self)
    obtain ⟨h3, h4, h5, h6⟩ := ints_ok l fun y hy => h y (List.mem_cons_of_mem _ hy)
    refine ⟨?_, ?_, ?_, ?_⟩
    · show (PyData.leavesShort 13 (.int (x : Int)) && PyData.leavesShortAll 13 (dI l)) = true
      rw [h1, h3]
      rfl
    · show (PyData.showable (.int (x : Int)) && PyData.showableAll (dI l)) = true
      rw [h2, h4]
      rfl
    · show (false || PyData.hasDictAll (dI l)) = false
      rw [h5]
      rfl
    · show 0 + 1 + PyData.bulkAll (dI l) = _
      rw [h6, List.length_cons]
      omega
def tieD (x : Tie) : PyData := .tuple (dI [x.1, x.2])
theorem ties_ok : ∀ ts : List Tie, (∀ x ∈ ts, x.1 < 100 ∧ x.2 < 100) → PyData.leavesShortAll 13 (ts.map tieD) = true ∧ PyData.showableAll (ts.map tieD) = true ∧ PyData.hasDictAll (ts.map tieD) = false ∧ PyData.bulkAll (ts.map tieD) = 3 * ts.length ∧ PyData.depthAll (ts.map tieD) ≤ 2
  | [], _ => ⟨rfl, rfl, rfl, rfl, Nat.zero_le _⟩
  | x :: ts, h => by
    have hx := h x List.mem_cons_self
    obtain ⟨a1, a2, a3, a4⟩ := ints_ok [x.1, x.2] (by simp; omega)
    have a5 := depth_ints [x.1, x.2]
    obtain ⟨h3, h4, h5, h6, h7⟩ := ties_ok ts fun y hy => h y (List.mem_cons_of_mem _ hy)
    refine ⟨?_, ?_, ?_, ?_, ?_⟩
    · show (PyData.leavesShortAll 13 (dI [x.1, x.2]) && PyData.leavesShortAll 13 (ts.map tieD)) = true
      rw [a1, h3]
      rfl
    · show (PyData.showableAll (dI [x.1, x.2]) && PyData.showableAll (ts.map tieD)) = true
      rw [a2, h4]
      rfl
    · show (PyData.hasDictAll (dI [x.1, x.2]) || PyData.hasDictAll (ts.map tieD)) = false
      rw [a3, h5]
      rfl
    · show PyData.bulkAll (dI [x.1, x.2]) + 1 + PyData.bulkAll (ts.map tieD) = _
      have e : (x :: ts).length = ts.length + 1 := rfl
      rw [a4, h6, e]
      show 2 + 1 + 3 * ts.length = _
      omega
    · show max (PyData.depthAll (dI [x.1, x.2]) + 1) (PyData.depthAll (ts.map tieD)) ≤ 2
      exact Nat.max_le.mpr ⟨by omega, h7⟩
def webD (n : Nat) (ts : List Tie) : PyData := .tuple [.str "web", .int (n : Int), .tuple (ts.map tieD)]
theorem web_dp {K : PySem.W.Frag} {H : Hp} {a : Addr} {n : Nat} {ts : List Tie} (h : WebAt H a n ts) : Dp K H (.ref a) (webD n ts) := by
  obtain ⟨t, ha, as, ht, hts⟩ := h
  have all : ∀ {as : List Addr} {ts : List Tie}, All2 (TieAt H) as ts → DpAll K H (as.map V.ref) (ts.map tieD) := by
    intro as
    induction as with
    | nil =>
      intro ts h
      have : ts = [] := List.length_eq_zero_iff.mp h.1.symm
      subst this
      exact .nil
    | cons b as ih =>
      intro ts h
      cases ts with
      | nil => exact absurd h.1 (by simp)
      | cons x ts =>
        exact .cons (.tup (SqT.of (show H b = some (.tup (cI [x.1, x.2])) from h.2 0 b x rfl rfl)) (dpAll_ints [x.1, x.2])) (ih ⟨by simpa using h.1, fun i u v hu hv => h.2 (i + 1) u v (by simpa using hu) (by simpa using hv)⟩)
  exact .tup (SqT.of ha) (.cons (.str _) (.cons (.int _) (.cons (.tup (SqT.of ht) (all hts)) .nil)))
def dueD : Option (List Nat) → PyData
  | none => .none
  | some c => .int (c.length : Int)
theorem due_dp {K : PySem.W.Frag} {H : Hp} (o : Option (List Nat)) : Dp K H (dueV o) (dueD o) := by
  cases o with
  | none => exact .non
  | some c => exact .int _
theorem web_showy {n : Nat} {ts : List Tie} (W : WebOk n ts) : Showy (webD n ts) := by
  have hn := W.hi
  obtain ⟨h1, h2, h3, h4, h5⟩ := ties_ok ts fun x hx => by
    have := W.tie x hx
    omega
  obtain ⟨i1, i2⟩ := int_short (x := n) (by omega)
  refine ⟨rfl, ?_, ?_, ?_, PyData.shown_fits_bulk (B := 13) (by decide) (by decide) ?_ ?_⟩
  · show (true && (PyData.showable (.int (n : Int)) && (PyData.showableAll (ts.map tieD) && true))) = true
    rw [i2, h2]
    rfl
  · show (false || (false || (PyData.hasDictAll (ts.map tieD) || false))) = false
    rw [h3]
    rfl
  · show max 0 (max 0 (max (PyData.depthAll (ts.map tieD) + 1) 0)) + 1 ≤ 60
    omega
  · show (PyData.leavesShort 13 (.str "web") && (PyData.leavesShort 13 (.int (n : Int)) && (PyData.leavesShortAll 13 (ts.map tieD) && true))) = true
    rw [i1, h1]
    decide
  · show 3 + 1 + (0 + 1 + (PyData.bulkAll (ts.map tieD) + 1 + 0)) ≤ 2 ^ 20
    have := W.few
    rw [h4]
    omega
theorem due_showy {o : Option (List Nat)} (h : ∀ c, o = some c → c.length ≤ 2) : Showy (.list [dueD o, dueD o]) := by
  cases o with
  | none => exact ⟨rfl, rfl, rfl, by decide, PyData.shown_fits_bulk (B := 13) (by decide) (by decide) rfl (by decide)⟩
  | some c =>
    have hc := h c rfl
    obtain ⟨i1, i2⟩ := int_short (x := c.length) (by omega)
    refine ⟨rfl, ?_, rfl, by show max 0 (max 0 0) + 1 ≤ 60; decide, PyData.shown_fits_bulk (B := 13) (by decide) (by decide) ?_ (by show 0 + 1 + (0 + 1 + 0) ≤ 2 ^ 20; decide)⟩
    · show (PyData.showable (.int (c.length : Int)) && (PyData.showable (.int (c.length : Int)) && true)) = true
      rw [i2]
      rfl
    · show (PyData.leavesShort 13 (.int (c.length : Int)) && (PyData.leavesShort 13 (.int (c.length : Int)) && true)) = true
      rw [i1]
      rfl
/-! ### a parting told twice -/
def partD (cut side : List Nat) : PyData := .tuple [.str "parts", .tuple (dI cut), .tuple (dI side)]
theorem part_dp {K : PySem.W.Frag} {H : Hp} {p : Addr} {cut side : List Nat} (h : PartAt H p cut side) : Dp K H (.ref p) (partD cut side) := by
  obtain ⟨c, d, h1, h2, h3⟩ := h
  exact .tup (SqT.of h1) (.cons (.str _) (.cons (.tup (SqT.of h2) (dpAll_ints cut)) (.cons (.tup (SqT.of h3) (dpAll_ints side)) .nil)))
theorem part_shaped (cut side : List Nat) : SeqAt.shaped (partD cut side) = true := by
  have h1 := depth_ints cut
  have h2 := depth_ints side
  unfold SeqAt.shaped
  have e1 : PyData.canLay0 (partD cut side) = true := by
    show (PyData.canLay0 (.str "parts") && (PyData.canLayAll0 (dI cut) && (PyData.canLayAll0 (dI side) && true))) = true
    rw [canLay_ints, canLay_ints]
    decide +kernel
  rw [e1]
  refine decide_eq_true ?_
  show max 0 (max (PyData.depthAll (dI cut) + 1) (max (PyData.depthAll (dI side) + 1) 0)) + 1 ≤ 64
  omega
theorem part_eqv (cut side : List Nat) : PyData.eqv (partD cut side) (partD cut side) = true := by
  show (PyData.eqv (.str "parts") (.str "parts") && (PyData.eqvAll (dI cut) (dI cut) && (PyData.eqvAll (dI side) (dI side) && true))) = true
  rw [eqvAll_refl_ints, eqvAll_refl_ints]
  decide
end Wp
namespace Wp
open PySem L2
section
variable {P : Program} {w : World} {K : PySem.W.Frag} {mg : Str → Option Value} {base : Heap}
/-! ### what parting tells -/
def ToldOk (H : Hp) (n : Nat) (ts : List Tie) (v : V) : Prop := (firstCut n (Adj ts) = none ∧ v = .non) ∨ ∃ (q : Addr) (cut : List Nat), firstCut n (Adj ts) = some cut ∧ v = .ref q ∧ PartAt H q cut (sideOf n (Adj ts) cut)
theorem ToldOk.same {H H' : Hp} {n : Nat} {ts : List Tie} {v : V} (h : ToldOk H n ts v) (s : Same H H') : ToldOk H' n ts v := h.elim .inl fun ⟨q, cut, a, b, c⟩ => .inr ⟨q, cut, a, b, c.same s⟩
noncomputable def toldD (n : Nat) (ts : List Tie) : PyData := match firstCut n (Adj ts) with
  | none => .none
  | some cut => partD cut (sideOf n (Adj ts) cut)
theorem told_dp {H : Hp} {n : Nat} {ts : List Tie} {v : V} (h : ToldOk H n ts v) : Dp K H v (toldD n ts) := by
  unfold toldD
  rcases h with ⟨e, rfl⟩ | ⟨q, cut, e, rfl, hq⟩
  · rw [e]
    exact .non
  · rw [e]
    exact part_dp hq
theorem told_shaped (n : Nat) (ts : List Tie) : SeqAt.shaped (toldD n ts) = true := by
  unfold toldD
  split
  · decide
  · exact part_shaped _ _
theorem told_eqv (n : Nat) (ts : List Tie) : PyData.eqv (toldD n ts) (toldD n ts) = true := by
  unfold toldD
  split
  · decide
  · exact part_eqv _ _
def spTold : Sp := fun vs H Q _ => ∃ (a : Addr) (n : Nat) (ts : List Tie), vs = [.ref a] ∧ WebAt H a n ts ∧ WebOk n ts ∧ ∀ H' v, Same H H' → ToldOk H' n ts v → Q v H'
theorem told_of (vs : List V) (H : Hp) (Q : VK) (E : XK) (h : spTold vs H Q E) : spFound vs H Q E := by
  obtain ⟨a, n, ts, hv, hw, W, k⟩ := h
  exact ⟨a, n, ts, hv, hw, W, fun H' s e => k _ _ s (.inl ⟨e, rfl⟩), fun H' p cut s e hp => k _ _ s (.inr ⟨p, cut, e, rfl, hp⟩)⟩
theorem Cal.imp {k : Nat} {x : Str} {sp sp' : Sp} (c : Cal P w K mg base k x sp) (h : ∀ vs H Q E, sp' vs H Q E → sp vs H Q E) : Cal P w K mg base k x sp' :=
  let ⟨f, fd, ps, F, a⟩ := c.ex
  ⟨f, fd, ps, F.imp h, a⟩
theorem CalK.imp {k : Nat} {x kw : Str} {sp sp' : Sp} (c : CalK P w K mg base k x kw sp) (h : ∀ vs H Q E, sp' vs H Q E → sp vs H Q E) : CalK P w K mg base k x kw sp' :=
  let ⟨f, fd, F, a⟩ := c.ex
  ⟨f, fd, F.imp h, a⟩
/-! ### _law_right -/
abbrev N_right : List Str := ["_law_pot_here", "_law_web_here", "_law_shown", "_law_due", "_law_told", "_law_is_three_here", "_law_corner"]
def spRight : Sp := fun vs H Q _ => ∃ (p : Addr), vs = [.ref p] ∧ PotAt H p ∧ ∀ H', Q (.bl true) H'
theorem sc_right : FnScope N_right ["_law_pot_here"] (defScope sRight) := ⟨rfl, rfl, rfl, by decide +kernel, rfl, by decide +kernel, by decide +kernel⟩
theorem ok_right {f : Addr} {fd : FuncData} (F : Fun K "_law_right" "_law_right" sRight f fd) (T : Txt mg) (c1 : Cal P w K mg base 1 "_law_draw" spDraw) (c2 : Cal P w K mg base 3 "_law_named" spNamed) (c3 : Cal P w K mg base 4 "_law_solid_web" spSolid)
    (c4 : Cal P w K mg base 6 "is_three_joined" spThreeWeb) (c5 : Cal P w K mg base 6 "parting" spFound) (c6 : Cal P w K mg base 5 "_law_any_web" spAny) (c7 : Cal P w K mg base 2 "_law_least_cut" spLeast) (c8 : Cal P w K mg base 6 "least_cut" spLeastCut)
    (c9 : Cal P w K mg base 3 "_law_is_parting" spPartingOf) (c10 : Cal P w K mg base 6 "is_parting" spPartingOf) (c11 : Cal P w K mg base 7 "degree" spDegree)
    (k4 : CalK P w K mg base 6 "is_three_joined" "web" spThreeWeb) (k5 : CalK P w K mg base 6 "parting" "web" spFound) (k8 : CalK P w K mg base 6 "least_cut" "web" spLeastCut) : FnG P w K mg base 8 f fd ["_law_pot_here"] spRight := by
  have c5 := c5.imp told_of
  have k5 := k5.imp told_of
  refine fnG F sc_right (fun vs H Q E h => ?_) (fun cdv A outer s H vs Q E guard hr h => ?_)
  · obtain ⟨p, rfl, _⟩ := h
    rfl
  · obtain ⟨p, rfl, hp, k⟩ := h
    refine ⟨_, pss_cons (ps_if (pt_cmpR op_eq (pe_cal c1 hr (by decide) (by rfl) (pa_cons (pv 0) (pa_cons pe_int pa_nil))) pe_int (nomark _))
        (pss_cons (ps_set (i := 1) sc_right.nd rfl (Or.inr rfl) (pe_cal c2 hr (by decide) (by rfl) (pa_cons (pv 0) (pa_cons (pe_cal c3 hr (by decide) (by rfl) (pa_cons (pv 0) (pa_cons (pe_op op_add pe_int (pe_cal c1 hr (by decide) (by rfl) (pa_cons (pv 0) (pa_cons pe_int pa_nil)))) pa_nil))) pa_nil))))
        (pss_one (ps_ret (pe_and (pe_cmpR op_is_bl (pe_cal c4 hr (by decide) (by rfl) (pa_cons (pv 1) pa_nil)) pe_bl (by rfl)) (pe_one (pe_cmp (pc_isN (pe_cal c5 hr (by decide) (by rfl) (pa_cons (pv 1) pa_nil))) rfl)))))) pss_nil)
      (pss_cons (ps_set (i := 1) sc_right.nd rfl (Or.inr rfl) (pe_cal c6 hr (by decide) (by rfl) (pa_cons (pv 0) pa_nil)))
      (pss_cons (ps_par (i := 2) (j := 3) rfl sc_right.nd rfl rfl (by decide) rfl rfl (pa_cons (pe_callB (r := rReprD K) (cr_reprD guard hr.units) (by rfl) T.repr (by decide +kernel) (pa_cons (pv 1) pa_nil)) (pa_cons (pe_cal c7 hr (by decide) (by rfl) (pa_cons (pv 1) pa_nil)) pa_nil)) (by rfl))
      (pss_cons (ps_set (i := 4) sc_right.nd rfl (Or.inl rfl) (pe_cal c5 hr (by decide) (by rfl) (pa_cons (pv 1) pa_nil)))
      (pss_cons (ps_if (PW.pt (pw_or (pt_cmpR op_ne (pe_callB (r := rReprD K) (cr_reprD guard hr.units) (by rfl) T.repr (by decide +kernel) (pa_cons (pe_lst (pa_cons (pe_cal c8 hr (by decide) (by rfl) (pa_cons (pv 1) pa_nil)) (pa_cons (pe_calK k8 hr (by decide) (by rfl) (pv 1)) pa_nil))) pa_nil))
            (pe_callB (r := rReprD K) (cr_reprD guard hr.units) (by rfl) T.repr (by decide +kernel) (pa_cons (pe_lst (pa_cons (pv 3) (pa_cons (pv 3) pa_nil))) pa_nil)) (nomark _))
          (pw_or1 (pt_cmpR (op_neD hr.units) (pe_calK k5 hr (by decide) (by rfl) (pv 1)) (pv 4) (nomark _))))) (pss_one (ps_ret pe_bl)) pss_nil)
      (pss_cons (ps_if (PW.pt (pw_or (PW.pt (pw_and (pt_cmp (pc_isN (pv 3))) (pw_and1 (pt_cmp (pc_notN (pv 4)))))) (pw_or1 (PW.pt (pw_and (pt_cmp (pc_notN (pv 3))) (pw_and1 (pt_not (pt_val (pe_cal c9 hr (by decide) (by rfl) (pa_cons (pv 1) (pa_cons (pv 4) pa_nil))))))))))) (pss_one (ps_ret pe_bl)) pss_nil)
      (pss_cons (ps_if (PW.pt (pw_and (pt_cmp (pc_notN (pv 3))) (pw_and1 (PW.pt (pw_or (pt_cmpR op_ne (pe_callB call_len_seq (by rfl) T.len PySem.boot_len (pa_cons (pe_ix ix_tup (pv 4) pe_int (fun _ _ => rfl)) pa_nil)) (pv 3) (nomark _)) (pw_or1 (pt_cmpR op_isnot_bl (pe_cal c10 hr (by decide) (by rfl) (pa_cons (pv 1) (pa_cons (pv 4) pa_nil))) pe_bl (by rfl)))))))) (pss_one (ps_ret pe_bl)) pss_nil)
      (pss_cons (ps_set (i := 5) sc_right.nd rfl (Or.inl rfl) (pe_and (pe_cmp (pc_isN (pv 3)) rfl) (pe_one (pe_cmpR op_gt (pe_ix ix_tup (pv 1) pe_int (fun _ _ => rfl)) pe_int (nomark _)))))
      (pss_cons (ps_if (pt_cmpR op_ne (pe_callB (r := rReprB) cr_reprB (by rfl) T.repr (by decide +kernel) (pa_cons (pe_calK k4 hr (by decide) (by rfl) (pv 1)) pa_nil)) (pe_callB (r := rReprB) cr_reprB (by rfl) T.repr (by decide +kernel) (pa_cons (pv 5) pa_nil)) (nomark _)) (pss_one (ps_ret pe_bl)) pss_nil)
      (pss_one (ps_ret (pe_and (pe_cmpR op_eq (pe_callB (r := rReprD K) (cr_reprD guard hr.units) (by rfl) T.repr (by decide +kernel) (pa_cons (pv 1) pa_nil)) (pv 2) (nomark _)) (pe_one (pe_or (pe_not (pv 5)) (pe_one (pe_callB (cr_all rfl) (by rfl) T.all (by decide +kernel) (pa_cons
          (pe_lc (own := [("_law_corner", 6)]) (g := gName 6) (tt := tYes) rfl sc_right.nd (pi_range1 rfl T.range (pa_cons (pe_ix ix_tup (pv 1) pe_int (fun _ _ => rfl)) pa_nil)) (blkOk_by (own := [("_law_corner", 6)]) (N := N_right) (sc := defScope sRight) (by decide +kernel))
            (fun _ _ _ _ _ => pg_name (i := 6) sc_right.nd rfl (Or.inl rfl)) (fun _ _ _ _ _ => pts_nil) (fun _ _ _ _ _ => pe_cmpR op_gt (pe_cal c11 hr (by decide) (by rfl) (pa_cons (pv 1) (pa_cons (pv 6) pa_nil))) pe_int (nomark _))) pa_nil)))))))))))))))), ?_⟩
    refine ⟨_, rfl, p, 5, rfl, by omega, by omega, hp, fun H1 d hd hp1 k1 => ⟨rfl, _, rfl, ?_⟩⟩
    refine ite2 (fun _ => ?_) (fun _ => ?_)
    · refine ⟨_, rfl, _, rfl, _, rfl, p, 3, rfl, by omega, by omega, hp1, fun H2 mn hmn hp2 k2 => ⟨_, _, rfl, rfl, ?_⟩⟩
      have em : V.int (4 + (mn : Int)) = V.int ((4 + mn : Nat) : Int) := by rw [show ((4 + mn : Nat) : Int) = 4 + (mn : Int) by omega]
      refine ⟨p, 4 + mn, by show [V.ref p, V.int (4 + (mn : Int))] = _; rw [em], by omega, by omega, hp2, fun H3 a ts hp3 k3 hw W h3 => ?_⟩
      refine ⟨p, a, 4 + mn, ts, rfl, hp3, hw, W, h3, fun H4 b us hp4 k4 hw4 W4 h34 => ?_⟩
      refine ⟨_, rfl, b, 4 + mn, us, rfl, hw4, W4, fun H5 bb s5 hiff => ?_⟩
      obtain rfl : bb = true := hiff.mpr h34
      refine ⟨true, true, rfl, rfl, _, rfl, iteT ?_⟩
      refine ⟨_, rfl, b, 4 + mn, us, rfl, hw4.same s5, W4, fun H6 v s6 hT => ?_⟩
      rcases hT with ⟨e, rfl⟩ | ⟨q, cut, e, _⟩
      · exact k H6
      · rw [(three_iff.mp h34).2] at e
        cases e
    · refine ⟨_, rfl, p, rfl, hp1, fun H2 a n ts hn6 hp2 k2 hw W => ?_⟩
      have hn20 := W.hi
      have hc2 : ∀ c, firstCut n (Adj ts) = some c → c.length ≤ 2 := fun c hc => (cuts_ok (firstCut_some hc).1).small
      -- shown, due
      refine ⟨_, rfl, .ref a, webD n ts, rfl, web_dp hw, web_showy W, ?_⟩
      refine ⟨_, rfl, a, n, ts, rfl, hw, W, fun H3 s3 => ⟨_, _, rfl, ?_⟩⟩
      -- told
      refine ⟨_, rfl, a, n, ts, rfl, hw.same s3, W, fun H4 told s4 hT => ?_⟩
      have hw4 := (hw.same s3).same s4
      -- the sizes
      refine ⟨_, rfl, a, n, ts, rfl, hw4, W, fun H5 s5 => ?_⟩
      refine ⟨_, rfl, a, n, ts, rfl, hw4.same s5, W, fun H6 s6 => ?_⟩
      refine ⟨small (by show 2 ≤ 1000; omega), fun L1 hL1 => ?_⟩
      have s7 := same_new (o := .lst [dueV (firstCut n (Adj ts)), dueV (firstCut n (Adj ts))]) hL1
      refine ⟨.ref L1, .list [dueD (firstCut n (Adj ts)), dueD (firstCut n (Adj ts))], rfl, .lst (SqL.of upd_same) (.cons (due_dp _) (.cons (due_dp _) .nil)), due_showy hc2, ?_⟩
      refine ⟨_, rfl, _, rfl, small (by show 2 ≤ 1000; omega), fun L2 hL2 => ?_⟩
      refine ⟨.ref L2, .list [dueD (firstCut n (Adj ts)), dueD (firstCut n (Adj ts))], rfl, .lst (SqL.of upd_same) (.cons (due_dp _) (.cons (due_dp _) .nil)), due_showy hc2, ?_⟩
      have s8 := ((s5.trans s6).trans s7).trans (same_new (o := .lst [dueV (firstCut n (Adj ts)), dueV (firstCut n (Adj ts))]) hL2)
      refine ⟨rfl, _, rfl, ?_⟩
      refine iteNS rfl ?_
      -- parting again
      refine ⟨_, rfl, a, n, ts, rfl, hw4.same s8, W, fun H9 told2 s9 hT2 => ?_⟩
      have s49 := s8.trans s9
      refine ⟨_, rfl, toldD n ts, toldD n ts, told_dp hT2, told_dp (hT.same s49), told_shaped n ts, told_shaped n ts, _, rfl, ?_⟩
      rw [told_eqv]
      refine iteF ?_
      have hw9 := hw4.same s49
      have hT9 := hT.same s49
      clear hT2
      rcases hT9 with ⟨e, rfl⟩ | ⟨q, cut, e, rfl, hq⟩
      · rw [e]
        refine ⟨_, rfl, true, rfl, iteT ⟨_, rfl, false, rfl, iteF ⟨_, rfl, false, rfl, iteF (iteF ?_)⟩⟩⟩
        refine ⟨_, rfl, false, rfl, iteF (iteF ?_)⟩
        obtain ⟨t9, ha9, ht9⟩ := id hw9
        refine ⟨_, rfl, true, rfl, iteT ⟨_, rfl, a, _, 1, .int (n : Int), rfl, rfl, SqT.of ha9, rfl, _, _, rfl, rfl, ?_⟩⟩
        refine ⟨_, rfl, a, n, ts, rfl, hw9, W, fun H10 bb s10 hiff => ⟨bb, rfl, _, rfl, decide ((3 : Int) < (n : Int)), rfl, ?_⟩⟩
        have hb : bb = decide ((3 : Int) < (n : Int)) := by
          rw [three_iff, e] at hiff
          by_cases h3 : (3 : Int) < (n : Int)
          · rw [decide_eq_true h3]
            exact hiff.mpr ⟨by omega, rfl⟩
          · rw [decide_eq_false h3]
            cases bb with
            | false => rfl
            | true => exact absurd (hiff.mp rfl).1 (by omega)
        subst hb
        refine ⟨rfl, _, rfl, ?_⟩
        refine iteNS rfl ?_
        have hw10 := hw9.same s10
        refine ⟨_, rfl, .ref a, webD n ts, rfl, web_dp hw10, web_showy W, _, rfl, rfl, true, by rw [decide_eq_true rfl], iteT ?_⟩
        refine ⟨_, rfl, decide ((3 : Int) < (n : Int)), rfl, !decide ((3 : Int) < (n : Int)), rfl, ?_⟩
        by_cases h3 : (3 : Int) < (n : Int)
        · rw [decide_eq_true h3]
          refine iteF ?_
          have hthree : Three n (Adj ts) := three_iff.mpr ⟨by omega, e⟩
          obtain ⟨t10, ha10, ht10⟩ := id hw10
          refine ⟨_, rfl, a, _, 1, .int (n : Int), rfl, rfl, SqT.of ha10, rfl, (n : Int), rfl, by omega, by omega, fun D hD => ?_⟩
          refine lc_it (walk_range (lo := 0) (n := ((n : Int)).toNat)) (fun i H11 => Same H10 H11 ∧ H11 D = some (.lst (List.replicate i (V.bl true)))) ⟨same_new hD, upd_same⟩ (fun _ _ _ _ => trivial) ?_ ?_
          · rintro i y Hx H11 hi ⟨s11, d11⟩ ⟨rfl, rfl⟩
            have hin : i < n := by omega
            refine ⟨rfl, _, rfl, _, rfl, a, n, i, ts, by show [V.ref a, V.int (0 + (i : Int))] = _; rw [show 0 + (i : Int) = (i : Int) by omega], hw10.same s11, W, hin, fun H12 r s12 hr => ?_⟩
            have hdeg : 2 < r.length := hthree.degree (fun x z => (W.adj z).2.2 rfl) hin hr
            refine ⟨_, _, rfl, rfl, ?_⟩
            have d12 := s12 _ _ d11
            refine ⟨_, d12, ?_, Same.upd (s11.trans s12) hD, ?_⟩
            · rw [List.length_replicate]
              exact small1000 (by omega)
            · rw [upd_same, List.replicate_succ']
              show some (HO.lst (_ ++ [V.bl (decide ((2 : Int) < (r.length : Int)))])) = _
              rw [decide_eq_true (show (2 : Int) < (r.length : Int) by omega)]
          · rintro H11 ⟨s11, d11⟩
            refine ⟨D, List.replicate ((n : Int)).toNat true, rfl, SqL.of (by rw [d11, List.map_replicate]), ?_⟩
            have hall : (List.replicate ((n : Int)).toNat true).all id = true := by simp
            rw [hall]
            exact k H11
        · rw [decide_eq_false h3]
          exact iteT (k H10)
      · rw [e]
        have R := partOk_of W e
        refine ⟨_, rfl, false, rfl, iteF (iteF ⟨_, rfl, true, rfl, iteT ?_⟩)⟩
        refine ⟨_, rfl, _, rfl, a, q, n, ts, cut, _, rfl, hw9, W, hq, R, fun H10 s10 => ⟨true, rfl, iteF ?_⟩⟩
        have hw10 := hw9.same s10
        have hq10 := hq.same s10
        obtain ⟨c, sd, hq1, hc, hsd⟩ := id hq10
        refine ⟨_, rfl, true, rfl, iteT ?_⟩
        refine ⟨_, rfl, q, _, 1, .ref c, rfl, rfl, SqT.of hq1, rfl, c, _, rfl, .inr (SqT.of hc), _, rfl, rfl, _, rfl, ?_⟩
        rw [cI_len]
        refine iteNS rfl ?_
        refine ⟨_, rfl, _, rfl, a, q, n, ts, cut, _, rfl, hw10, W, hq10, R, fun H11 s11 => ⟨true, true, rfl, rfl, _, rfl, ?_⟩⟩
        refine iteNS rfl ?_
        have hw11 := hw10.same s11
        refine ⟨_, rfl, false, rfl, iteF ?_⟩
        refine ⟨_, rfl, a, n, ts, rfl, hw11, W, fun H12 bb s12 hiff => ⟨bb, rfl, _, rfl, false, rfl, ?_⟩⟩
        have hb : bb = false := by
          rw [three_iff, e] at hiff
          cases bb with
          | false => rfl
          | true => exact absurd (hiff.mp rfl).2 (by simp)
        subst hb
        refine ⟨rfl, _, rfl, ?_⟩
        refine iteNS rfl ?_
        refine ⟨_, rfl, .ref a, webD n ts, rfl, web_dp (hw11.same s12), web_showy W, _, rfl, rfl, true, by rw [decide_eq_true rfl], iteT ?_⟩
        exact ⟨_, rfl, false, rfl, true, rfl, iteT (k H12)⟩
end
end Wp
namespace Wp
open PySem PySem.Spec L2 PyProof.Rows
section
variable {P : Program} {w : World} {K : PySem.W.Frag} {mg : Str → Option Value} {base : Heap}
/-! ### law -/
def spLaw (K : PySem.W.Frag) : Sp := fun vs H Q _ => ∃ (a : Addr) (ns : List Int), vs = [.ref a] ∧ SqL K H a (ns.map V.int) ∧ ∀ H', Q (.bl true) H'
theorem sc_law : FnScope ["_law_script"] ["_law_script"] (defScope sLaw) := ⟨rfl, rfl, rfl, by decide +kernel, rfl, by decide +kernel, by decide +kernel⟩
theorem ok_law {f : Addr} {fd : FuncData} (F : Fun K "law" "law" sLaw f fd) (c1 : Cal P w K mg base 1 "_law_pot" (spPot K)) (c2 : CalG P w K mg base 8 "_law_right" spRight) : FnG P w K mg base 9 f fd ["_law_script"] (spLaw K) := by
  refine fnG F sc_law (fun vs H Q E h => ?_) (fun cdv A outer s H vs Q E guard hr h => ?_)
  · obtain ⟨a, ns, rfl, _⟩ := h
    rfl
  · obtain ⟨a, ns, rfl, ha, k⟩ := h
    refine ⟨_, pss_one (ps_ret (pe_calG c2 guard hr (by decide) (by rfl) (pa_cons (pe_cal c1 hr (by decide) (by rfl) (pa_cons (pv 0) (pa_cons pe_int pa_nil))) pa_nil))), ?_⟩
    exact ⟨_, rfl, a, ns, rfl, ha, fun H' p _ hp => ⟨p, rfl, hp, k⟩⟩
end
/-! ### the end: the script's list laid, the law called -/
theorem lawG {P : Program} {w : World} {K : PySem.W.Frag} {mg mb : Str → Option Value} {k : Nat} {fa a : Addr} {fd : FuncData} {x : Str} {sp : Sp} {s : Shared} {vs : List Value} {ns : List Int}
    (kin : K.In s.heap) (nsm : s.heap.Ns mainGlobals mg) (nsb : s.heap.Ns builtinsNs mb) (boot : ∀ x : Str, x ≠ "__name__" → mb x = bootBuiltins x) (lim : s.heap.NoLimit) (gens : s.gens = #[])
    (ha : s.heap.get? a = some { cls := .type "list", data := .seq vs.toArray }) (nums : IntsAre vs ns) (few : ns.length ≤ sizeLine) (room : Room k callerA)
    (F : ∀ base : Heap, K.In base → base.Ns mainGlobals mg → FnG P w K mg base k fa fd [x] sp) (bind : ∀ (s : Shared) (u : Value), BindsTo s fd ⟨[u], []⟩ [(x, u)])
    (hsp : ∀ H : Hp, SqL K H a (ns.map V.int) → sp [.ref a] H (fun v _ => v = .bl true) E0) :
    codeAny (model P w) callerA (.call (.ref fa) ⟨[.ref a], []⟩) (fun r s' => r = .ok (.ret (.bool true)) ∧ OldK s.heap s'.heap ∧ s'.os = s.os ∧ AllBare s'.gens) s := by
  have rel := vals_ints nums
  have many := nums.length
  have main : ∀ H : Hp, (∀ b, H b = none ∨ ∃ o xs, H b = some (.frz o (.lst xs))) → SqL K H a (ns.map V.int) → HOk P w H s.heap → (∀ b, H b ≠ none → b = a ∧ K.lookup a = none) →
      codeAny (model P w) callerA (.call (.ref fa) ⟨[.ref a], []⟩) (fun r s' => r = .ok (.ret (.bool true)) ∧ OldK s.heap s'.heap ∧ s'.os = s.os ∧ AllBare s'.gens) s := by
    intro H only seq ok own
    have dictFree : ∀ {b : Addr} {o : Obj} {es : Array DictEntry} {ep : Nat}, s.heap.get? b = some o → o.data = .dict es ep → H b = none := by
      intro b o es ep e d
      refine Classical.byContradiction fun n => ?_
      obtain ⟨rfl, _⟩ := own b n
      rw [ha] at e
      cases e
      exact absurd d (by intro z; cases z)
    have hid : ∀ {b : Addr} {m : Str → Option Value}, s.heap.Ns b m → (hidT s.heap H).Ns b m := fun ⟨o, es, ep, e, d, z⟩ => ⟨o, es, ep, hidT_get e (dictFree e d), d, z⟩
    have hidK : K.In (hidT s.heap H) := fun b o e => hidT_get (kin b o e) (Classical.byContradiction fun n => by
      obtain ⟨rfl, z⟩ := own b n
      rw [z] at e
      cases e)
    have md : Mod K mg (hidT s.heap H) := ⟨hidK, hid nsm, ⟨mb, hid nsb, boot⟩, let ⟨mc, h1, h2⟩ := lim; ⟨mc, hid h1, h2⟩⟩
    have e0 : Env0 P w K mg (hidT s.heap H) callerA [] s H := ⟨rfl, md, fun _ _ e => of_hidT e, Nat.le_of_eq (hidT_size _ _), trivial, fun b hb => absurd hb (by show ¬ b ∈ ([] : List Addr); simp), ok, .of_eq gens⟩
    refine codeAny_mono ((F _ hidK (hid nsm)).go callerA [] s H ⟨[.ref a], []⟩ [.ref a] [.ref a] _ _ rfl room e0 (bind s (.ref a)) (.cons rfl .nil) (hsp H seq)) fun r s' h => ?_
    match r, h with
    | .error _, h => exact h.elim
    | .ok .next, h => exact h.elim
    | .ok .brk, h => exact h.elim
    | .ok .cont, h => exact h.elim
    | .ok (.ret u), h =>
      obtain ⟨v, H', os, bare, un, ok', rv, q⟩ := h
      have q' : v = .bl true := q
      subst q'
      obtain rfl : u = Value.bool true := rv
      refine ⟨rfl, OldK.of_keep fun b o e => ?_, os, bare⟩
      rcases only b with z | ⟨ob, xs, z⟩
      · exact un.keep b o e z (fun y => absurd y (by show ¬ b ∈ ([] : List Addr); simp)) (by simp)
      · have z2 := un.frzs b ob _ z
        have e1 := (ok b _ z).1
        have e2 := (ok' b _ z2).1
        rw [e] at e1
        cases e1
        exact e2
  cases hk : K.lookup a with
  | some o =>
    have e := kin a o hk
    rw [ha] at e
    cases e
    exact main (fun _ => none) (fun _ => .inl rfl) (.inr ⟨_, vs.toArray, _, hk, rfl, rfl, rfl, by rw [List.size_toArray, many]; exact few, by simpa using rel⟩) (fun b u z => by cases (show (none : Option HO) = some u from z)) fun b z => absurd rfl z
  | none =>
    have at_ : (fun b => if b = a then some (HO.frz { cls := .type "list", data := .seq vs.toArray } (.lst (ns.map V.int))) else none) a = some (HO.frz { cls := .type "list", data := .seq vs.toArray } (.lst (ns.map V.int))) := if_pos rfl
    refine main (fun b => if b = a then some (.frz { cls := .type "list", data := .seq vs.toArray } (.lst (ns.map V.int))) else none) (fun b => ?_) (.inl (.inr ⟨_, at_⟩)) (fun b u z => ?_) fun b z => ?_
    · by_cases hb : b = a
      · exact .inr ⟨_, _, if_pos hb⟩
      · exact .inl (if_neg hb)
    · by_cases hb : b = a
      · subst hb
        cases at_.symm.trans z
        exact ⟨ha, by rw [List.length_map]; exact few, vs, _, rel, ha⟩
      · cases (if_neg hb).symm.trans z
    · by_cases hb : b = a
      · exact ⟨hb, hk⟩
      · exact absurd (if_neg hb) z
theorem walkG {l : PySem.W.OpenLaw} {n k : Nat} {q : Program} {loose : List Str} {XP : (Str → Option Value) → Heap → Prop} {YP : World → Heap → Prop} {d : DefRec} {K : Params → PySem.W.Frag} {sp : PySem.W.Frag → Sp} {x : Str}
    (most : l.most = some n) (few : n ≤ sizeLine) (nodef : d.params.defaults = []) (room : Room k callerA) (kin : ∀ (w : World) (h : Heap), YP w h → (K w.params).In h)
    (F : ∀ (w : World) (mg : Str → Option Value) (fa : Addr) (h : Heap), (K w.params).In h → h.Ns mainGlobals mg → mg d.name = some (.ref fa) →
      ∃ fd : FuncData, (∀ (s : Shared) (u : Value), BindsTo s fd ⟨[u], []⟩ [(x, u)]) ∧ ∀ base : Heap, (K w.params).In base → base.Ns mainGlobals mg → FnG l.prog w (K w.params) mg base k fa fd [x] (sp (K w.params)))
    (hsp : ∀ (K : PySem.W.Frag) (H : Hp) (a : Addr) (ns : List Int), SqL K H a (ns.map V.int) → sp K [.ref a] H (fun v _ => v = .bl true) E0) :
    PySem.W.WalkO q loose XP YP l.row.toRowW d [] (fun f vs => PySem.call f vs) := by
  refine Att.attach_call most nodef fun w s0 s mg mb fa o pm cd doc a vs ns G Y _ _ _ name obj nums len gens => ?_
  obtain ⟨fd, bind, ok⟩ := F w mg fa _ (kin w _ Y) G.T.g name
  exact lawG (kin w _ Y) G.T.g G.T.b G.T.builtins G.T.nolimit gens obj nums (Nat.le_trans len few) room ok bind fun H seq => hsp _ H a ns seq
end Wp
namespace Wp
open PySem PySem.Spec L2 PyProof.Rows
/-! ### what the top has written -/
structure DefAt (K : PySem.W.Frag) (x : Str) (st : Stmt) : Prop where
  ex : ∃ (f : Addr) (fd : FuncData), PySem.W.nsIn K mainGlobals x = some (some (.ref f)) ∧ Fun K x x st f fd
theorem def_mk {K : PySem.W.Frag} {x : Str} {st : Stmt} {f : Addr} {oc kV doc pm cdv ct : Value} {od an : Option Addr} {osl : Array (Option Value)} (a : PySem.W.nsIn K mainGlobals x = some (some (.ref f)))
    (b : K.lookup f = some ⟨oc, od, .func (PySem.W.fnOf x x (defArgs st) (defBody st) (defScope st) .none kV doc pm an cdv ct), osl⟩) (c : PySem.W.codeIn K cdv x = true) (k : PySem.W.keepIn K (.ref f) = true) : DefAt K x st := ⟨_, _, a, fun_mk (st := st) b c k⟩
section
variable {P : Program} {w : World} {K : PySem.W.Frag} {mg : Str → Option Value} {base h : Heap} {x kw : Str} {st : Stmt} {k : Nat} {sp : Sp}
theorem cal_mk {ps : List Str} (d : DefAt K x st) (X : K.In h) (G : h.Ns mainGlobals mg)
    (hb : ∀ (kV doc pm : Value) (an : Option Addr) (cdv ct : Value) (us : List Value), us.length = ps.length → bindArgs (PySem.W.fnOf x x (defArgs st) (defBody st) (defScope st) .none kV doc pm an cdv ct) ⟨us, []⟩ = pure (ps.zip us))
    (ok : ∀ f fd, Fun K x x st f fd → FnOk P w K mg base CX0 k f fd ps sp) : Cal P w K mg base k x sp := by
  obtain ⟨f, fd, a, F⟩ := d.ex
  exact ⟨f, fd, ps, ok f fd F, PySem.W.mg_of X G a, F.kp, F.binds hb⟩
theorem calG_mk {ps : List Str} (d : DefAt K x st) (X : K.In h) (G : h.Ns mainGlobals mg)
    (hb : ∀ (kV doc pm : Value) (an : Option Addr) (cdv ct : Value) (us : List Value), us.length = ps.length → bindArgs (PySem.W.fnOf x x (defArgs st) (defBody st) (defScope st) .none kV doc pm an cdv ct) ⟨us, []⟩ = pure (ps.zip us))
    (ok : ∀ f fd, Fun K x x st f fd → FnG P w K mg base k f fd ps sp) : CalG P w K mg base k x sp := by
  obtain ⟨f, fd, a, F⟩ := d.ex
  exact ⟨f, fd, ps, ok f fd F, PySem.W.mg_of X G a, F.kp, F.binds hb⟩
theorem calK_mk (d : DefAt K x st) (X : K.In h) (G : h.Ns mainGlobals mg)
    (hb : ∀ (kV doc pm : Value) (an : Option Addr) (cdv ct u : Value), bindArgs (PySem.W.fnOf x x (defArgs st) (defBody st) (defScope st) .none kV doc pm an cdv ct) ⟨[], [(kw, u)]⟩ = pure [(kw, u)])
    (ok : ∀ f fd, Fun K x x st f fd → FnOk P w K mg base CX0 k f fd [kw] sp) : CalK P w K mg base k x kw sp := by
  obtain ⟨f, fd, a, F⟩ := d.ex
  refine ⟨f, fd, ok f fd F, PySem.W.mg_of X G a, F.kp, ?_⟩
  obtain ⟨oc, od, kV, doc, pm, an, cdv, ct, osl, rfl, _, _⟩ := F.ex
  exact fun s u => .of_eq (hb kV doc pm an cdv ct u)
theorem txt_mk {t1 t2 t3 t4 t5 : Tok} (X : K.In h) (G : h.Ns mainGlobals mg) (m1 : PySem.W.nsIn K mainGlobals "MOST_CORNERS" = some (some (.int 20 t1))) (m2 : PySem.W.nsIn K mainGlobals "MOST_TIES" = some (some (.int 60 t2))) (m3 : PySem.W.nsIn K mainGlobals "WEB" = some (some (.str "web" t3))) (m4 : PySem.W.nsIn K mainGlobals "MOST_CUT" = some (some (.int 2 t4))) (m5 : PySem.W.nsIn K mainGlobals "LEAST_CORNERS" = some (some (.int 4 t5)))
    (z1 : PySem.W.nsIn K mainGlobals "isinstance" = some none) (z2 : PySem.W.nsIn K mainGlobals "int" = some none) (z3 : PySem.W.nsIn K mainGlobals "bool" = some none) (z4 : PySem.W.nsIn K mainGlobals "str" = some none) (z5 : PySem.W.nsIn K mainGlobals "tuple" = some none) (z6 : PySem.W.nsIn K mainGlobals "list" = some none) (z7 : PySem.W.nsIn K mainGlobals "dict" = some none) (z8 : PySem.W.nsIn K mainGlobals "set" = some none) (z9 : PySem.W.nsIn K mainGlobals "len" = some none) (z10 : PySem.W.nsIn K mainGlobals "all" = some none) (z11 : PySem.W.nsIn K mainGlobals "any" = some none) (z12 : PySem.W.nsIn K mainGlobals "zip" = some none) (z13 : PySem.W.nsIn K mainGlobals "range" = some none) (z14 : PySem.W.nsIn K mainGlobals "sorted" = some none) (z15 : PySem.W.nsIn K mainGlobals "min" = some none) (z16 : PySem.W.nsIn K mainGlobals "max" = some none) (z17 : PySem.W.nsIn K mainGlobals "abs" = some none) (z18 : PySem.W.nsIn K mainGlobals "divmod" = some none) (z19 : PySem.W.nsIn K mainGlobals "repr" = some none) : Txt mg :=
  ⟨⟨_, PySem.W.mg_of X G m1⟩, ⟨_, PySem.W.mg_of X G m2⟩, ⟨_, PySem.W.mg_of X G m3⟩, ⟨_, PySem.W.mg_of X G m4⟩, ⟨_, PySem.W.mg_of X G m5⟩, PySem.W.mg_none_of X G z1, PySem.W.mg_none_of X G z2, PySem.W.mg_none_of X G z3, PySem.W.mg_none_of X G z4, PySem.W.mg_none_of X G z5, PySem.W.mg_none_of X G z6, PySem.W.mg_none_of X G z7, PySem.W.mg_none_of X G z8, PySem.W.mg_none_of X G z9, PySem.W.mg_none_of X G z10, PySem.W.mg_none_of X G z11, PySem.W.mg_none_of X G z12, PySem.W.mg_none_of X G z13, PySem.W.mg_none_of X G z14, PySem.W.mg_none_of X G z15, PySem.W.mg_none_of X G z16, PySem.W.mg_none_of X G z17, PySem.W.mg_none_of X G z18, PySem.W.mg_none_of X G z19⟩
end
/-! ### all together -/
set_option maxHeartbeats 0 in
theorem all_mk {l : PySem.W.OpenLaw} {w : World} {K : PySem.W.Frag} {h : Heap} {mg : Str → Option Value} {fa : Addr} (X : K.In h) (G : h.Ns mainGlobals mg) (hfa : mg "law" = some (.ref fa)) (T : Txt mg)
    (d_is_integer : DefAt K "is_integer" sIsInt)
    (d_neighbours_of : DefAt K "neighbours_of" sNear)
    (d_cuts_of : DefAt K "cuts_of" sCuts)
    (d_first_side : DefAt K "first_side" sFirstSide)
    (d_are_rising_corners : DefAt K "are_rising_corners" sRising)
    (d__law_pot : DefAt K "_law_pot" sPot)
    (d__law_draw : DefAt K "_law_draw" sDraw)
    (d__law_web : DefAt K "_law_web" sWeb)
    (d__law_parts : DefAt K "_law_parts" sParts)
    (d__law_lots : DefAt K "_law_lots" sLots)
    (d__law_is_whole : DefAt K "_law_is_whole" sWhole)
    (d_is_count : DefAt K "is_count" sIsCount)
    (d_two_sides : DefAt K "two_sides" sTwoSides)
    (d_is_parting_of : DefAt K "is_parting_of" sPartingOf)
    (d__law_pick : DefAt K "_law_pick" sPick)
    (d__law_mixed : DefAt K "_law_mixed" sMixed)
    (d__law_least_cut : DefAt K "_law_least_cut" sLeast)
    (d__law_is_rising : DefAt K "_law_is_rising" sLRising)
    (d_is_tie : DefAt K "is_tie" sIsTie)
    (d_is_many : DefAt K "is_many" sIsMany)
    (d_is_corner : DefAt K "is_corner" sIsCorner)
    (d_found_parting : DefAt K "found_parting" sFound)
    (d__law_is_three : DefAt K "_law_is_three" sThree)
    (d__law_is_parting : DefAt K "_law_is_parting" sLParting)
    (d__law_drawn_web : DefAt K "_law_drawn_web" sDrawn)
    (d__law_named : DefAt K "_law_named" sNamed)
    (d_is_web_value : DefAt K "is_web_value" sIsWeb)
    (d_want_corner : DefAt K "want_corner" sWantCorner)
    (d_is_three_joined_web : DefAt K "is_three_joined_web" sIsThreeWeb)
    (d__law_solid_web : DefAt K "_law_solid_web" sSolid)
    (d_want_web : DefAt K "want_web" sWantWeb)
    (d__law_any_web : DefAt K "_law_any_web" sAny)
    (d_neighbours : DefAt K "neighbours" sNeighbours)
    (d_parting : DefAt K "parting" sParting)
    (d_is_parting : DefAt K "is_parting" sIsParting)
    (d_least_cut : DefAt K "least_cut" sLeastCut)
    (d_is_three_joined : DefAt K "is_three_joined" sIsThree)
    (d_degree : DefAt K "degree" sDegree)
    (d__law_right : DefAt K "_law_right" sRight)
    (d_law : DefAt K "law" sLaw) :
    ∃ fd : FuncData, (∀ (s : Shared) (u : Value), BindsTo s fd ⟨[u], []⟩ [("_law_script", u)]) ∧ ∀ base : Heap, K.In base → base.Ns mainGlobals mg → FnG l.prog w K mg base 9 fa fd ["_law_script"] (spLaw K) := by
  obtain ⟨f, fd, a, F⟩ := d_law.ex
  have e := hfa.symm.trans (PySem.W.mg_of X G a)
  cases e
  refine ⟨fd, ?_, fun base _ _ => ?_⟩
  · obtain ⟨oc, od, kV, doc, pm, an, cdv, ct, osl, rfl, _, _⟩ := F.ex
    exact fun s u => .of_eq rfl
  have c_is_integer : Cal l.prog w K mg base 1 "is_integer" spIsInt := cal_mk (ps := ["value"]) d_is_integer X G (fun _ _ _ _ _ _ us hl => match us, hl with | [_], _ => rfl) fun f fd F => ok_isInt F T
  have c_neighbours_of : Cal l.prog w K mg base 1 "neighbours_of" spNear := cal_mk (ps := ["web"]) d_neighbours_of X G (fun _ _ _ _ _ _ us hl => match us, hl with | [_], _ => rfl) fun f fd F => ok_near F T
  have c_cuts_of : Cal l.prog w K mg base 1 "cuts_of" spCuts := cal_mk (ps := ["many"]) d_cuts_of X G (fun _ _ _ _ _ _ us hl => match us, hl with | [_], _ => rfl) fun f fd F => ok_cuts F T
  have c_first_side : Cal l.prog w K mg base 1 "first_side" spFirst := cal_mk (ps := ["near", "cut"]) d_first_side X G (fun _ _ _ _ _ _ us hl => match us, hl with | [_, _], _ => rfl) fun f fd F => ok_first F T
  have c_are_rising_corners : Cal l.prog w K mg base 1 "are_rising_corners" spRising := cal_mk (ps := ["web", "value"]) d_are_rising_corners X G (fun _ _ _ _ _ _ us hl => match us, hl with | [_, _], _ => rfl) fun f fd F => ok_rising F T
  have c__law_pot : Cal l.prog w K mg base 1 "_law_pot" (spPot K) := cal_mk (ps := ["_law_script", "_law_k"]) d__law_pot X G (fun _ _ _ _ _ _ us hl => match us, hl with | [_, _], _ => rfl) fun f fd F => ok_pot F T
  have c__law_draw : Cal l.prog w K mg base 1 "_law_draw" spDraw := cal_mk (ps := ["_law_pot_here", "_law_many"]) d__law_draw X G (fun _ _ _ _ _ _ us hl => match us, hl with | [_, _], _ => rfl) fun f fd F => ok_draw F T
  have c__law_web : Cal l.prog w K mg base 1 "_law_web" spWeb := cal_mk (ps := ["_law_many", "_law_pairs"]) d__law_web X G (fun _ _ _ _ _ _ us hl => match us, hl with | [_, _], _ => rfl) fun f fd F => ok_web F T
  have c__law_parts : Cal l.prog w K mg base 1 "_law_parts" spParts := cal_mk (ps := ["_law_web_here", "_law_gone"]) d__law_parts X G (fun _ _ _ _ _ _ us hl => match us, hl with | [_, _], _ => rfl) fun f fd F => ok_parts F T
  have c__law_lots : Cal l.prog w K mg base 1 "_law_lots" spLots := cal_mk (ps := ["_law_corners", "_law_size"]) d__law_lots X G (fun _ _ _ _ _ _ us hl => match us, hl with | [_, _], _ => rfl) fun f fd F => ok_lots F T
  have c__law_is_whole : Cal l.prog w K mg base 1 "_law_is_whole" spWhole := cal_mk (ps := ["_law_value", "_law_many"]) d__law_is_whole X G (fun _ _ _ _ _ _ us hl => match us, hl with | [_, _], _ => rfl) fun f fd F => ok_whole F T
  have c_is_count : Cal l.prog w K mg base 2 "is_count" spIsCount := cal_mk (ps := ["value"]) d_is_count X G (fun _ _ _ _ _ _ us hl => match us, hl with | [_], _ => rfl) fun f fd F => ok_isCount F c_is_integer
  have c_two_sides : Cal l.prog w K mg base 2 "two_sides" spTwo := cal_mk (ps := ["near", "cut"]) d_two_sides X G (fun _ _ _ _ _ _ us hl => match us, hl with | [_, _], _ => rfl) fun f fd F => ok_two F T c_first_side
  have c_is_parting_of : Cal l.prog w K mg base 2 "is_parting_of" spPartingOf := cal_mk (ps := ["web", "value"]) d_is_parting_of X G (fun _ _ _ _ _ _ us hl => match us, hl with | [_, _], _ => rfl) fun f fd F => ok_po F T c_are_rising_corners c_neighbours_of
  have c__law_pick : Cal l.prog w K mg base 2 "_law_pick" spPick := cal_mk (ps := ["_law_pot_here", "_law_some"]) d__law_pick X G (fun _ _ _ _ _ _ us hl => match us, hl with | [_, _], _ => rfl) fun f fd F => ok_pick F T c__law_draw
  have c__law_mixed : Cal l.prog w K mg base 2 "_law_mixed" spMixed := cal_mk (ps := ["_law_pot_here", "_law_some"]) d__law_mixed X G (fun _ _ _ _ _ _ us hl => match us, hl with | [_, _], _ => rfl) fun f fd F => ok_mixed F T c__law_draw
  have c__law_least_cut : Cal l.prog w K mg base 2 "_law_least_cut" spLeast := cal_mk (ps := ["_law_web_here"]) d__law_least_cut X G (fun _ _ _ _ _ _ us hl => match us, hl with | [_], _ => rfl) fun f fd F => ok_least F T c__law_lots c__law_parts
  have c__law_is_rising : Cal l.prog w K mg base 2 "_law_is_rising" spLRising := cal_mk (ps := ["_law_value", "_law_many"]) d__law_is_rising X G (fun _ _ _ _ _ _ us hl => match us, hl with | [_, _], _ => rfl) fun f fd F => ok_lrising F T c__law_is_whole
  have c_is_tie : Cal l.prog w K mg base 3 "is_tie" spIsTie := cal_mk (ps := ["many", "value"]) d_is_tie X G (fun _ _ _ _ _ _ us hl => match us, hl with | [_, _], _ => rfl) fun f fd F => ok_isTie F T c_is_count
  have c_is_many : Cal l.prog w K mg base 3 "is_many" spIsMany := cal_mk (ps := ["value"]) d_is_many X G (fun _ _ _ _ _ _ us hl => match us, hl with | [_], _ => rfl) fun f fd F => ok_isMany F T c_is_count
  have c_is_corner : Cal l.prog w K mg base 3 "is_corner" spIsCorner := cal_mk (ps := ["web", "value"]) d_is_corner X G (fun _ _ _ _ _ _ us hl => match us, hl with | [_, _], _ => rfl) fun f fd F => ok_isCorner F c_is_count
  have c_found_parting : Cal l.prog w K mg base 3 "found_parting" spFound := cal_mk (ps := ["web"]) d_found_parting X G (fun _ _ _ _ _ _ us hl => match us, hl with | [_], _ => rfl) fun f fd F => ok_found F T c_neighbours_of c_cuts_of c_two_sides
  have c__law_is_three : Cal l.prog w K mg base 3 "_law_is_three" spThreeWeb := cal_mk (ps := ["_law_web_here"]) d__law_is_three X G (fun _ _ _ _ _ _ us hl => match us, hl with | [_], _ => rfl) fun f fd F => ok_three F T c__law_least_cut
  have c__law_is_parting : Cal l.prog w K mg base 3 "_law_is_parting" spPartingOf := cal_mk (ps := ["_law_web_here", "_law_value"]) d__law_is_parting X G (fun _ _ _ _ _ _ us hl => match us, hl with | [_, _], _ => rfl) fun f fd F => ok_lpo F T c__law_is_rising
  have c__law_drawn_web : Cal l.prog w K mg base 3 "_law_drawn_web" spDrawn := cal_mk (ps := ["_law_pot_here", "_law_many"]) d__law_drawn_web X G (fun _ _ _ _ _ _ us hl => match us, hl with | [_, _], _ => rfl) fun f fd F => ok_drawn F T c__law_pick c__law_draw c__law_web
  have c__law_named : Cal l.prog w K mg base 3 "_law_named" spNamed := cal_mk (ps := ["_law_pot_here", "_law_web_here"]) d__law_named X G (fun _ _ _ _ _ _ us hl => match us, hl with | [_, _], _ => rfl) fun f fd F => ok_named F T c__law_mixed c__law_web
  have c_is_web_value : Cal l.prog w K mg base 4 "is_web_value" spIsWeb := cal_mk (ps := ["value"]) d_is_web_value X G (fun _ _ _ _ _ _ us hl => match us, hl with | [_], _ => rfl) fun f fd F => ok_isWeb F T c_is_tie c_is_many
  have c_want_corner : Cal l.prog w K mg base 4 "want_corner" spWantCorner := cal_mk (ps := ["web", "value"]) d_want_corner X G (fun _ _ _ _ _ _ us hl => match us, hl with | [_, _], _ => rfl) fun f fd F => ok_wantCorner F c_is_corner
  have c_is_three_joined_web : Cal l.prog w K mg base 4 "is_three_joined_web" spThreeWeb := cal_mk (ps := ["web"]) d_is_three_joined_web X G (fun _ _ _ _ _ _ us hl => match us, hl with | [_], _ => rfl) fun f fd F => ok_threeWeb F T c_found_parting
  have c__law_solid_web : Cal l.prog w K mg base 4 "_law_solid_web" spSolid := cal_mk (ps := ["_law_pot_here", "_law_many"]) d__law_solid_web X G (fun _ _ _ _ _ _ us hl => match us, hl with | [_, _], _ => rfl) fun f fd F => ok_solid F T c__law_draw c__law_web c__law_pick c__law_is_three
  have c_want_web : Cal l.prog w K mg base 5 "want_web" spWantWeb := cal_mk (ps := ["value"]) d_want_web X G (fun _ _ _ _ _ _ us hl => match us, hl with | [_], _ => rfl) fun f fd F => ok_wantWeb F c_is_web_value
  have c__law_any_web : Cal l.prog w K mg base 5 "_law_any_web" spAny := cal_mk (ps := ["_law_pot_here"]) d__law_any_web X G (fun _ _ _ _ _ _ us hl => match us, hl with | [_], _ => rfl) fun f fd F => ok_any F T c__law_draw c__law_drawn_web c__law_named c__law_solid_web c__law_pick
  have c_neighbours : Cal l.prog w K mg base 6 "neighbours" spNeighbours := cal_mk (ps := ["web", "corner"]) d_neighbours X G (fun _ _ _ _ _ _ us hl => match us, hl with | [_, _], _ => rfl) fun f fd F => ok_neighbours F c_want_web c_want_corner c_neighbours_of
  have c_parting : Cal l.prog w K mg base 6 "parting" spFound := cal_mk (ps := ["web"]) d_parting X G (fun _ _ _ _ _ _ us hl => match us, hl with | [_], _ => rfl) fun f fd F => ok_parting F c_found_parting c_want_web
  have k_parting : CalK l.prog w K mg base 6 "parting" "web" spFound := calK_mk d_parting X G (fun _ _ _ _ _ _ _ => rfl) fun f fd F => ok_parting F c_found_parting c_want_web
  have c_is_parting : Cal l.prog w K mg base 6 "is_parting" spPartingOf := cal_mk (ps := ["web", "value"]) d_is_parting X G (fun _ _ _ _ _ _ us hl => match us, hl with | [_, _], _ => rfl) fun f fd F => ok_isParting F c_is_parting_of c_want_web
  have c_least_cut : Cal l.prog w K mg base 6 "least_cut" spLeastCut := cal_mk (ps := ["web"]) d_least_cut X G (fun _ _ _ _ _ _ us hl => match us, hl with | [_], _ => rfl) fun f fd F => ok_leastCut F T c_found_parting c_want_web
  have k_least_cut : CalK l.prog w K mg base 6 "least_cut" "web" spLeastCut := calK_mk d_least_cut X G (fun _ _ _ _ _ _ _ => rfl) fun f fd F => ok_leastCut F T c_found_parting c_want_web
  have c_is_three_joined : Cal l.prog w K mg base 6 "is_three_joined" spThreeWeb := cal_mk (ps := ["web"]) d_is_three_joined X G (fun _ _ _ _ _ _ us hl => match us, hl with | [_], _ => rfl) fun f fd F => ok_isThree F c_is_three_joined_web c_want_web
  have k_is_three_joined : CalK l.prog w K mg base 6 "is_three_joined" "web" spThreeWeb := calK_mk d_is_three_joined X G (fun _ _ _ _ _ _ _ => rfl) fun f fd F => ok_isThree F c_is_three_joined_web c_want_web
  have c_degree : Cal l.prog w K mg base 7 "degree" spDegree := cal_mk (ps := ["web", "corner"]) d_degree X G (fun _ _ _ _ _ _ us hl => match us, hl with | [_, _], _ => rfl) fun f fd F => ok_degree F T c_neighbours
  have g__law_right : CalG l.prog w K mg base 8 "_law_right" spRight := calG_mk (ps := ["_law_pot_here"]) d__law_right X G (fun _ _ _ _ _ _ us hl => match us, hl with | [_], _ => rfl) fun f fd F => ok_right F T c__law_draw c__law_named c__law_solid_web c_is_three_joined c_parting c__law_any_web c__law_least_cut c_least_cut c__law_is_parting c_is_parting c_degree k_is_three_joined k_parting k_least_cut
  exact ok_law F c__law_pot g__law_right
end Wp
open PySem PySem.W PyProof.Rows
set_option maxRecDepth 100000 in
set_option maxHeartbeats 0 in
theorem PySem.Challenge.cw_websolids_k22_whole_partings_holds : PySem.Challenge.rw_websolids_k22_whole_partings.Holds := by
  w_on; o_law; k_head; (case hw => w_witness2)
  k_fill
  refine Wp.walkG (l := PySem.Challenge.rw_websolids_k22_whole_partings) (n := 63) (k := 9) (x := "_law_script") (sp := Wp.spLaw) rfl (by decide) rfl ⟨rfl, by decide, by decide⟩ (fun w h Y => PySem.W.kIn_of Y) ?F (fun K H a ns seq => ⟨a, ns, rfl, seq, fun _ => rfl⟩)
  case F =>
    intro w mg fa h KX G hmg
    refine' Wp.all_mk KX G hmg ?T ?d1 ?d2 ?d3 ?d4 ?d5 ?d6 ?d7 ?d8 ?d9 ?d10 ?d11 ?d12 ?d13 ?d14 ?d15 ?d16 ?d17 ?d18 ?d19 ?d20 ?d21 ?d22 ?d23 ?d24 ?d25 ?d26 ?d27 ?d28 ?d29 ?d30 ?d31 ?d32 ?d33 ?d34 ?d35 ?d36 ?d37 ?d38 ?d39 ?d40
    (case T =>
      refine' Wp.txt_mk KX G ?m1 ?m2 ?m3 ?m4 ?m5 ?z1 ?z2 ?z3 ?z4 ?z5 ?z6 ?z7 ?z8 ?z9 ?z10 ?z11 ?z12 ?z13 ?z14 ?z15 ?z16 ?z17 ?z18 ?z19
      (case m1 => k_is)
      (case m2 => k_is)
      (case m3 => k_is)
      (case m4 => k_is)
      (case m5 => k_is)
      (case z1 => k_is)
      (case z2 => k_is)
      (case z3 => k_is)
      (case z4 => k_is)
      (case z5 => k_is)
      (case z6 => k_is)
      (case z7 => k_is)
      (case z8 => k_is)
      (case z9 => k_is)
      (case z10 => k_is)
      (case z11 => k_is)
      (case z12 => k_is)
      (case z13 => k_is)
      (case z14 => k_is)
      (case z15 => k_is)
      (case z16 => k_is)
      (case z17 => k_is)
      (case z18 => k_is)
      (case z19 => k_is))
    (case d1 => (refine' Wp.def_mk ?a ?b ?c ?k; (case a => k_is); (case b => k_is); (case c => k_is); (case k => k_is)))
    (case d2 => (refine' Wp.def_mk ?a ?b ?c ?k; (case a => k_is); (case b => k_is); (case c => k_is); (case k => k_is)))
    (case d3 => (refine' Wp.def_mk ?a ?b ?c ?k; (case a => k_is); (case b => k_is); (case c => k_is); (case k => k_is)))
    (case d4 => (refine' Wp.def_mk ?a ?b ?c ?k; (case a => k_is); (case b => k_is); (case c => k_is); (case k => k_is)))
    (case d5 => (refine' Wp.def_mk ?a ?b ?c ?k; (case a => k_is); (case b => k_is); (case c => k_is); (case k => k_is)))
    (case d6 => (refine' Wp.def_mk ?a ?b ?c ?k; (case a => k_is); (case b => k_is); (case c => k_is); (case k => k_is)))
    (case d7 => (refine' Wp.def_mk ?a ?b ?c ?k; (case a => k_is); (case b => k_is); (case c => k_is); (case k => k_is)))
    (case d8 => (refine' Wp.def_mk ?a ?b ?c ?k; (case a => k_is); (case b => k_is); (case c => k_is); (case k => k_is)))
    (case d9 => (refine' Wp.def_mk ?a ?b ?c ?k; (case a => k_is); (case b => k_is); (case c => k_is); (case k => k_is)))
    (case d10 => (refine' Wp.def_mk ?a ?b ?c ?k; (case a => k_is); (case b => k_is); (case c => k_is); (case k => k_is)))
    (case d11 => (refine' Wp.def_mk ?a ?b ?c ?k; (case a => k_is); (case b => k_is); (case c => k_is); (case k => k_is)))
    (case d12 => (refine' Wp.def_mk ?a ?b ?c ?k; (case a => k_is); (case b => k_is); (case c => k_is); (case k => k_is)))
    (case d13 => (refine' Wp.def_mk ?a ?b ?c ?k; (case a => k_is); (case b => k_is); (case c => k_is); (case k => k_is)))
    (case d14 => (refine' Wp.def_mk ?a ?b ?c ?k; (case a => k_is); (case b => k_is); (case c => k_is); (case k => k_is)))
    (case d15 => (refine' Wp.def_mk ?a ?b ?c ?k; (case a => k_is); (case b => k_is); (case c => k_is); (case k => k_is)))
    (case d16 => (refine' Wp.def_mk ?a ?b ?c ?k; (case a => k_is); (case b => k_is); (case c => k_is); (case k => k_is)))
    (case d17 => (refine' Wp.def_mk ?a ?b ?c ?k; (case a => k_is); (case b => k_is); (case c => k_is); (case k => k_is)))
    (case d18 => (refine' Wp.def_mk ?a ?b ?c ?k; (case a => k_is); (case b => k_is); (case c => k_is); (case k => k_is)))
    (case d19 => (refine' Wp.def_mk ?a ?b ?c ?k; (case a => k_is); (case b => k_is); (case c => k_is); (case k => k_is)))
    (case d20 => (refine' Wp.def_mk ?a ?b ?c ?k; (case a => k_is); (case b => k_is); (case c => k_is); (case k => k_is)))
    (case d21 => (refine' Wp.def_mk ?a ?b ?c ?k; (case a => k_is); (case b => k_is); (case c => k_is); (case k => k_is)))
    (case d22 => (refine' Wp.def_mk ?a ?b ?c ?k; (case a => k_is); (case b => k_is); (case c => k_is); (case k => k_is)))
    (case d23 => (refine' Wp.def_mk ?a ?b ?c ?k; (case a => k_is); (case b => k_is); (case c => k_is); (case k => k_is)))
    (case d24 => (refine' Wp.def_mk ?a ?b ?c ?k; (case a => k_is); (case b => k_is); (case c => k_is); (case k => k_is)))
    (case d25 => (refine' Wp.def_mk ?a ?b ?c ?k; (case a => k_is); (case b => k_is); (case c => k_is); (case k => k_is)))
    (case d26 => (refine' Wp.def_mk ?a ?b ?c ?k; (case a => k_is); (case b => k_is); (case c => k_is); (case k => k_is)))
    (case d27 => (refine' Wp.def_mk ?a ?b ?c ?k; (case a => k_is); (case b => k_is); (case c => k_is); (case k => k_is)))
    (case d28 => (refine' Wp.def_mk ?a ?b ?c ?k; (case a => k_is); (case b => k_is); (case c => k_is); (case k => k_is)))
    (case d29 => (refine' Wp.def_mk ?a ?b ?c ?k; (case a => k_is); (case b => k_is); (case c => k_is); (case k => k_is)))
    (case d30 => (refine' Wp.def_mk ?a ?b ?c ?k; (case a => k_is); (case b => k_is); (case c => k_is); (case k => k_is)))
    (case d31 => (refine' Wp.def_mk ?a ?b ?c ?k; (case a => k_is); (case b => k_is); (case c => k_is); (case k => k_is)))
    (case d32 => (refine' Wp.def_mk ?a ?b ?c ?k; (case a => k_is); (case b => k_is); (case c => k_is); (case k => k_is)))
    (case d33 => (refine' Wp.def_mk ?a ?b ?c ?k; (case a => k_is); (case b => k_is); (case c => k_is); (case k => k_is)))
    (case d34 => (refine' Wp.def_mk ?a ?b ?c ?k; (case a => k_is); (case b => k_is); (case c => k_is); (case k => k_is)))
    (case d35 => (refine' Wp.def_mk ?a ?b ?c ?k; (case a => k_is); (case b => k_is); (case c => k_is); (case k => k_is)))
    (case d36 => (refine' Wp.def_mk ?a ?b ?c ?k; (case a => k_is); (case b => k_is); (case c => k_is); (case k => k_is)))
    (case d37 => (refine' Wp.def_mk ?a ?b ?c ?k; (case a => k_is); (case b => k_is); (case c => k_is); (case k => k_is)))
    (case d38 => (refine' Wp.def_mk ?a ?b ?c ?k; (case a => k_is); (case b => k_is); (case c => k_is); (case k => k_is)))
    (case d39 => (refine' Wp.def_mk ?a ?b ?c ?k; (case a => k_is); (case b => k_is); (case c => k_is); (case k => k_is)))
    (case d40 => (refine' Wp.def_mk ?a ?b ?c ?k; (case a => k_is); (case b => k_is); (case c => k_is); (case k => k_is)))
