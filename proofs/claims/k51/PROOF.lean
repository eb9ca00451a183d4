import PyProof.Rows.All
import Wide.All
import OpenK.AllK
import Wide.FinOn
import HandS.ForMost
import HandS.Defaults
import HandS.IsInst
import HandS.Walk
import HandS.Exc
import KE.GoesEnum
import KE.GoesZip
import KE.GoesMore
import KE.KDictKeyed
import HandS.ReCall
import PyProof.DictCompW
import HandS.DictComp
import HandS.SortOrd
import HandS.SortRule
import HandS.TupLe
import HandS.Conv
import KE.KDictSum
import HandS.SortInts
import HandS.Strs
import HandS.SetFor
import KE.DataFind
import HandS.TryMany
import HandS.TupSets
import HandS.HeadHook1
import HandS.HeadHook2
import HandS.Codes
import HandS.TupAny
import HandS.Steps
import HandS.TupLen
import HandS.ExcInit
import HandS.ExcField
import HandS.Lambda
import HandS.HeadHook4
import KE.KStateDown
import Lean
import HandS.Head0
import HandS.Head1
import HandS.Head2
import HandS.HeadEnd
import HandS.HeadHook3
import HandS.HeadWalk
import PySem.Challenge.RW_exactbeats_k51_whole_planes_lost_and_bac
set_option Elab.async false
set_option linter.all false
set_option maxRecDepth 100000
/-! Alternating rows in a coloured web: plain Lean. -/
namespace Kx
/-- the end of a pair at a side (false: line, true: output) -/
def sd (p : Int × Int) : Bool → Int
  | false => p.1
  | true => p.2
section
variable {α : Type} (e : α → Int × Int) (c : α → Int)
def isAt (s : Bool) (p k : Int) (x : α) : Bool := decide (sd (e x) s = p) && decide (c x = k)
def hit (L : List α) (s : Bool) (p k : Int) : Option α := L.find? (isAt e c s p k)
def path (L : List α) : Nat → Bool → Int → Int → Int → List α
  | 0, _, _, _, _ => []
  | n + 1, s, p, k, k' => match hit e c L s p k with
    | none => []
    | some x => x :: path L n (!s) (sd (e x) (!s)) k' k
structure Proper (L : List α) : Prop where
  nd : L.Nodup
  uq : ∀ x ∈ L, ∀ y ∈ L, ∀ s, sd (e x) s = sd (e y) s → c x = c y → x = y
/-- what is walked from (s0, p0), k first; now at (s, p), where a is looked for (b at the other side) -/
inductive Wk (L : List α) (s0 : Bool) (p0 k k' : Int) : List α → Bool → Int → Int → Int → Prop
  | start : Wk L s0 p0 k k' [] s0 p0 k k'
  | step {vs s p a b x} : Wk L s0 p0 k k' vs s p a b → hit e c L s p a = some x → Wk L s0 p0 k k' (vs ++ [x]) (!s) (sd (e x) (!s)) b a
variable {e c}
theorem isAt_iff {s : Bool} {p k : Int} {x : α} : isAt e c s p k x = true ↔ sd (e x) s = p ∧ c x = k := by simp [isAt]
theorem hit_some {L : List α} {s : Bool} {p k : Int} {x : α} (h : hit e c L s p k = some x) : x ∈ L ∧ sd (e x) s = p ∧ c x = k :=
  ⟨List.mem_of_find?_eq_some h, isAt_iff.mp (List.find?_some h)⟩
theorem hit_none {L : List α} {s : Bool} {p k : Int} (h : hit e c L s p k = none) : ∀ x ∈ L, sd (e x) s = p → c x ≠ k := fun x hx h1 h2 => by
  have := List.find?_eq_none.mp h x hx
  exact this (isAt_iff.mpr ⟨h1, h2⟩)
theorem hit_of {L : List α} (P : Proper e c L) {s : Bool} {p k : Int} {x : α} (hx : x ∈ L) (h1 : sd (e x) s = p) (h2 : c x = k) : hit e c L s p k = some x := by
  cases h : hit e c L s p k with
  | none => exact absurd h2 (hit_none h x hx h1)
  | some y =>
    obtain ⟨hy, y1, y2⟩ := hit_some h
    rw [P.uq y hy x hx s (y1.trans h1.symm) (y2.trans h2.symm)]
theorem hit_none_of {L : List α} {s : Bool} {p k : Int} (h : ∀ x ∈ L, sd (e x) s = p → c x ≠ k) : hit e c L s p k = none :=
  List.find?_eq_none.mpr fun x hx q => by
    obtain ⟨h1, h2⟩ := isAt_iff.mp q
    exact h x hx h1 h2
/-- the row's facts -/
structure WkOk (L : List α) (s0 : Bool) (p0 k k' : Int) (vs : List α) (s : Bool) (p a b : Int) : Prop where
  cols : (s = s0 ∧ a = k ∧ b = k') ∨ (s = !s0 ∧ a = k' ∧ b = k)
  sub : ∀ v ∈ vs, v ∈ L ∧ (c v = k ∨ c v = k')
  nd : vs.Nodup
  /-- not walked from here -/
  new : ∀ v ∈ vs, sd (e v) s = p → c v ≠ a
  /-- come here -/
  here : (vs = [] ∧ s = s0 ∧ p = p0) ∨ ∃ u ∈ vs, sd (e u) s = p ∧ c u = b
  /-- what is walked with k begins at s0's side, there another one has come or it is the start -/
  near : ∀ v ∈ vs, c v = k → sd (e v) s0 = p0 ∨ ∃ u ∈ vs, sd (e u) s0 = sd (e v) s0 ∧ c u = k'
  near' : ∀ v ∈ vs, c v = k' → ∃ u ∈ vs, sd (e u) (!s0) = sd (e v) (!s0) ∧ c u = k
  /-- where it came there it went on, but at the end -/
  far : ∀ v ∈ vs, c v = k → (s = !s0 ∧ sd (e v) (!s0) = p) ∨ ∃ u ∈ vs, sd (e u) (!s0) = sd (e v) (!s0) ∧ c u = k'
  far' : ∀ v ∈ vs, c v = k' → (s = s0 ∧ sd (e v) s0 = p) ∨ ∃ u ∈ vs, sd (e u) s0 = sd (e v) s0 ∧ c u = k
  first : vs ≠ [] → ∃ u ∈ vs, sd (e u) s0 = p0 ∧ c u = k
theorem nodup_snoc {l : List α} {x : α} (h : l.Nodup) (hx : x ∉ l) : (l ++ [x]).Nodup := by
  rw [List.nodup_append]
  refine ⟨h, by simp, fun a ha b hb => ?_⟩
  rw [List.mem_singleton] at hb
  subst hb
  intro e
  exact hx (e ▸ ha)
theorem wk_ok {L : List α} (P : Proper e c L) {s0 : Bool} {p0 k k' : Int} (hk : k ≠ k') (h0 : ∀ x ∈ L, sd (e x) s0 = p0 → c x ≠ k') :
    ∀ {vs s p a b}, Wk e c L s0 p0 k k' vs s p a b → WkOk (e := e) (c := c) L s0 p0 k k' vs s p a b := by
  intro vs s p a b h
  induction h with
  | start => exact ⟨.inl ⟨rfl, rfl, rfl⟩, by simp, by simp, by simp, .inl ⟨rfl, rfl, rfl⟩, by simp, by simp, by simp, by simp, by simp⟩
  | @step vs s p a b x h hx ih =>
    obtain ⟨hxL, x1, x2⟩ := hit_some hx
    have xnew : x ∉ vs := fun z => ih.new x z x1 x2
    have bs : (!(!s)) = s := by cases s <;> rfl
    refine ⟨?_, ?_, nodup_snoc ih.nd xnew, ?_, ?_, ?_, ?_, ?_, ?_, ?_⟩
    · rcases ih.cols with ⟨q1, q2, q3⟩ | ⟨q1, q2, q3⟩
      · exact .inr ⟨by rw [q1], q3, q2⟩
      · exact .inl ⟨by rw [q1]; cases s0 <;> rfl, q3, q2⟩
    · intro v hv
      rcases List.mem_append.mp hv with hv | hv
      · exact ih.sub v hv
      · rw [List.mem_singleton] at hv
        subst hv
        refine ⟨hxL, ?_⟩
        rcases ih.cols with ⟨q1, q2, q3⟩ | ⟨q1, q2, q3⟩
        · exact .inl (x2.trans q2)
        · exact .inr (x2.trans q2)
    · -- not walked from the new place
      intro v hv v1 v2
      rcases List.mem_append.mp hv with hv | hv
      · rcases ih.cols with ⟨q1, q2, q3⟩ | ⟨q1, q2, q3⟩
        · subst q1
          obtain ⟨u, hu, u1, u2⟩ := ih.near' v hv (v2.trans q3)
          have : u = x := P.uq u (ih.sub u hu).1 x hxL (!s) (u1.trans v1) (by rw [u2, x2, q2])
          exact xnew (this ▸ hu)
        · subst q1
          rw [show (!(!s0)) = s0 by cases s0 <;> rfl] at v1
          rcases ih.near v hv (v2.trans q3) with z | ⟨u, hu, u1, u2⟩
          · exact h0 x hxL (by
              rw [show (!(!s0)) = s0 by cases s0 <;> rfl] at *
              exact v1.symm.trans z) (x2.trans q2)
          · rw [show (!(!s0)) = s0 by cases s0 <;> rfl] at *
            have : u = x := P.uq u (ih.sub u hu).1 x hxL s0 (u1.trans v1) (by rw [u2, x2, q2])
            exact xnew (this ▸ hu)
      · rw [List.mem_singleton] at hv
        subst hv
        rcases ih.cols with ⟨q1, q2, q3⟩ | ⟨q1, q2, q3⟩
        · exact hk (by rw [← q2, ← x2, v2, q3])
        · exact hk (by rw [← q3, ← v2, x2, q2])
    · exact .inr ⟨x, by simp, rfl, x2⟩
    · -- near
      intro v hv v2
      rcases List.mem_append.mp hv with hv | hv
      · rcases ih.near v hv v2 with z | ⟨u, hu, z⟩
        · exact .inl z
        · exact .inr ⟨u, List.mem_append_left _ hu, z⟩
      · rw [List.mem_singleton] at hv
        subst hv
        rcases ih.cols with ⟨q1, q2, q3⟩ | ⟨q1, q2, q3⟩
        · subst q1
          rcases ih.here with ⟨_, _, z⟩ | ⟨u, hu, u1, u2⟩
          · exact .inl (x1.trans z)
          · exact .inr ⟨u, List.mem_append_left _ hu, u1.trans x1.symm, u2.trans q3⟩
        · exact absurd (v2.symm.trans (x2.trans q2)) hk
    · -- near'
      intro v hv v2
      rcases List.mem_append.mp hv with hv | hv
      · obtain ⟨u, hu, z⟩ := ih.near' v hv v2
        exact ⟨u, List.mem_append_left _ hu, z⟩
      · rw [List.mem_singleton] at hv
        subst hv
        rcases ih.cols with ⟨q1, q2, q3⟩ | ⟨q1, q2, q3⟩
        · exact absurd ((x2.trans q2).symm.trans v2) hk
        · subst q1
          rcases ih.here with ⟨_, z, _⟩ | ⟨u, hu, u1, u2⟩
          · cases s0 <;> simp at z
          · exact ⟨u, List.mem_append_left _ hu, u1.trans x1.symm, u2.trans q3⟩
    · -- far
      intro v hv v2
      rcases List.mem_append.mp hv with hv | hv
      · rcases ih.far v hv v2 with ⟨z, z2⟩ | ⟨u, hu, z⟩
        · rcases ih.cols with ⟨q1, q2, q3⟩ | ⟨q1, q2, q3⟩
          · rw [q1] at z; cases s0 <;> simp at z
          · subst q1
            exact .inr ⟨x, by simp, x1.trans z2.symm, x2.trans q2⟩
        · exact .inr ⟨u, List.mem_append_left _ hu, z⟩
      · rw [List.mem_singleton] at hv
        subst hv
        rcases ih.cols with ⟨q1, q2, q3⟩ | ⟨q1, q2, q3⟩
        · subst q1
          exact .inl ⟨rfl, rfl⟩
        · exact absurd (v2.symm.trans (x2.trans q2)) hk
    · -- far'
      intro v hv v2
      rcases List.mem_append.mp hv with hv | hv
      · rcases ih.far' v hv v2 with ⟨z, z2⟩ | ⟨u, hu, z⟩
        · rcases ih.cols with ⟨q1, q2, q3⟩ | ⟨q1, q2, q3⟩
          · subst q1
            exact .inr ⟨x, by simp, x1.trans z2.symm, x2.trans q2⟩
          · rw [q1] at z; cases s0 <;> simp at z
        · exact .inr ⟨u, List.mem_append_left _ hu, z⟩
      · rw [List.mem_singleton] at hv
        subst hv
        rcases ih.cols with ⟨q1, q2, q3⟩ | ⟨q1, q2, q3⟩
        · exact absurd ((x2.trans q2).symm.trans v2) hk
        · subst q1
          exact .inl ⟨by cases s0 <;> rfl, by cases s0 <;> rfl⟩
    · intro _
      by_cases hv : vs = []
      · subst hv
        rcases ih.here with ⟨_, z1, z2⟩ | ⟨u, hu, _⟩
        · rcases ih.cols with ⟨q1, q2, q3⟩ | ⟨q1, q2, q3⟩
          · subst q1
            exact ⟨x, by simp, x1.trans z2, x2.trans q2⟩
          · rw [q1] at z1; cases s0 <;> simp at z1
        · simp at hu
      · obtain ⟨u, hu, z⟩ := ih.first hv
        exact ⟨u, List.mem_append_left _ hu, z⟩
/-- the whole row: walked to its end -/
structure Row (L : List α) (s0 : Bool) (p0 k k' : Int) (vs : List α) : Prop where
  sub : ∀ v ∈ vs, v ∈ L ∧ (c v = k ∨ c v = k')
  nd : vs.Nodup
  closed : ∀ v ∈ vs, ∀ y ∈ L, ∀ s, sd (e y) s = sd (e v) s → (c y = k ∨ c y = k') → y ∈ vs
  start : ∀ y ∈ L, sd (e y) s0 = p0 → c y = k → y ∈ vs
  /-- a place of the other side that has no k has nothing of the row -/
  away : ∀ q, (∀ y ∈ L, sd (e y) (!s0) = q → c y ≠ k) → ∀ v ∈ vs, sd (e v) (!s0) ≠ q
theorem wk_row {L : List α} (P : Proper e c L) {s0 : Bool} {p0 k k' : Int} (hk : k ≠ k') (h0 : ∀ x ∈ L, sd (e x) s0 = p0 → c x ≠ k')
    {vs s p a b} (h : Wk e c L s0 p0 k k' vs s p a b) (hn : hit e c L s p a = none) : Row (e := e) (c := c) L s0 p0 k k' vs := by
  have W := wk_ok P hk h0 h
  have nn : (!(!s0)) = s0 := by cases s0 <;> rfl
  refine ⟨W.sub, W.nd, fun v hv y hy t ht hc => ?_, fun y hy y1 y2 => ?_, fun q hq v hv hvq => ?_⟩
  · have hvL := (W.sub v hv).1
    by_cases same : c y = c v
    · rw [P.uq y hy v hvL t ht same]; exact hv
    · -- the other colour
      rcases (W.sub v hv).2 with v2 | v2
      · have y2 : c y = k' := by
          rcases hc with z | z
          · exact absurd (z.trans v2.symm) same
          · exact z
        by_cases ts : t = s0
        · subst ts
          rcases W.near v hv v2 with z | ⟨u, hu, u1, u2⟩
          · exact absurd y2 (h0 y hy (ht.trans z))
          · rw [P.uq y hy u (W.sub u hu).1 t (ht.trans u1.symm) (y2.trans u2.symm)]; exact hu
        · have ts' : t = !s0 := by cases t <;> cases s0 <;> simp at ts ⊢
          subst ts'
          rcases W.far v hv v2 with ⟨z1, z2⟩ | ⟨u, hu, u1, u2⟩
          · subst z1
            rcases W.cols with ⟨q1, q2, q3⟩ | ⟨q1, q2, q3⟩
            · cases s0 <;> simp at q1
            · exact absurd (y2.trans q2.symm) (hit_none hn y hy (ht.trans z2))
          · rw [P.uq y hy u (W.sub u hu).1 _ (ht.trans u1.symm) (y2.trans u2.symm)]; exact hu
      · have y2 : c y = k := by
          rcases hc with z | z
          · exact z
          · exact absurd (z.trans v2.symm) same
        by_cases ts : t = s0
        · subst ts
          rcases W.far' v hv v2 with ⟨z1, z2⟩ | ⟨u, hu, u1, u2⟩
          · subst z1
            rcases W.cols with ⟨q1, q2, q3⟩ | ⟨q1, q2, q3⟩
            · exact absurd (y2.trans q2.symm) (hit_none hn y hy (ht.trans z2))
            · cases s <;> simp at q1
          · rw [P.uq y hy u (W.sub u hu).1 _ (ht.trans u1.symm) (y2.trans u2.symm)]; exact hu
        · have ts' : t = !s0 := by cases t <;> cases s0 <;> simp at ts ⊢
          subst ts'
          obtain ⟨u, hu, u1, u2⟩ := W.near' v hv v2
          rw [P.uq y hy u (W.sub u hu).1 _ (ht.trans u1.symm) (y2.trans u2.symm)]; exact hu
  · by_cases hv : vs = []
    · rcases W.here with ⟨_, z1, z2⟩ | ⟨u, hu, _⟩
      · rcases W.cols with ⟨q1, q2, q3⟩ | ⟨q1, q2, q3⟩
        · subst z1; subst z2
          exact absurd (y2.trans q2.symm) (hit_none hn y hy y1)
        · rw [q1] at z1; cases s0 <;> simp at z1
      · rw [hv] at hu; simp at hu
    · obtain ⟨u, hu, u1, u2⟩ := W.first hv
      rw [P.uq y hy u (W.sub u hu).1 s0 (y1.trans u1.symm) (y2.trans u2.symm)]; exact hu
  · rcases (W.sub v hv).2 with v2 | v2
    · exact hq v (W.sub v hv).1 hvq v2
    · obtain ⟨u, hu, u1, u2⟩ := W.near' v hv v2
      exact hq u (W.sub u hu).1 (u1.trans hvq) u2
/-- the walk so far and what is to come -/
theorem wk_path {L : List α} {s0 : Bool} {p0 k k' : Int} {vs s p a b} (h : Wk e c L s0 p0 k k' vs s p a b) : ∀ n, path e c L (vs.length + n) s0 p0 k k' = vs ++ path e c L n s p a b := by
  induction h with
  | start => intro n; simp
  | @step vs s p a b x h hx ih =>
    intro n
    have q := ih (1 + n)
    rw [List.length_append, List.length_singleton, Nat.add_assoc, q, List.append_assoc]
    congr 1
    rw [Nat.add_comm 1 n]
    simp [path, hx]
theorem nodup_len [DecidableEq α] : ∀ {l m : List α}, l.Nodup → (∀ x ∈ l, x ∈ m) → l.length ≤ m.length
  | [], _, _, _ => Nat.zero_le _
  | x :: l, m, h, hs => by
    obtain ⟨hx, hl⟩ := List.nodup_cons.mp h
    have hm := hs x (List.mem_cons_self ..)
    have := nodup_len (m := m.erase x) hl fun y hy => (List.mem_erase_of_ne (fun z => hx (by rw [← z]; exact hy))).mpr (hs y (List.mem_cons_of_mem _ hy))
    rw [List.length_erase_of_mem hm] at this
    have hp : 0 < m.length := List.length_pos_of_mem hm
    simp only [List.length_cons]
    omega
theorem wk_len [DecidableEq α] {L : List α} (P : Proper e c L) {s0 : Bool} {p0 k k' : Int} (hk : k ≠ k') (h0 : ∀ x ∈ L, sd (e x) s0 = p0 → c x ≠ k')
    {vs s p a b} (h : Wk e c L s0 p0 k k' vs s p a b) : vs.length ≤ L.length := nodup_len (wk_ok P hk h0 h).nd fun v hv => ((wk_ok P hk h0 h).sub v hv).1
/-- the end of the walk is the path, with fuel enough -/
theorem wk_end [DecidableEq α] {L : List α} (P : Proper e c L) {s0 : Bool} {p0 k k' : Int} (hk : k ≠ k') (h0 : ∀ x ∈ L, sd (e x) s0 = p0 → c x ≠ k')
    {vs s p a b} (h : Wk e c L s0 p0 k k' vs s p a b) (hn : hit e c L s p a = none) {n : Nat} (hle : L.length ≤ n) : vs = path e c L n s0 p0 k k' := by
  have hl := wk_len P hk h0 h
  have q := wk_path h (n - vs.length)
  rw [show vs.length + (n - vs.length) = n by omega] at q
  rw [q]
  cases hz : n - vs.length with
  | zero => simp [path]
  | succ m => simp [path, hn]
/-- and there is such an end -/
theorem path_row [DecidableEq α] {L : List α} (P : Proper e c L) {s0 : Bool} {p0 k k' : Int} (hk : k ≠ k') (h0 : ∀ x ∈ L, sd (e x) s0 = p0 → c x ≠ k') {n : Nat} (hle : L.length ≤ n) :
    Row (e := e) (c := c) L s0 p0 k k' (path e c L n s0 p0 k k') := by
  have key : ∀ m vs s p a b, L.length - vs.length = m → Wk e c L s0 p0 k k' vs s p a b → ∃ vs s p a b, Wk e c L s0 p0 k k' vs s p a b ∧ hit e c L s p a = none := by
    intro m
    induction m with
    | zero =>
      intro vs s p a b hm h
      cases hx : hit e c L s p a with
      | none => exact ⟨_, _, _, _, _, h, hx⟩
      | some x =>
        have := wk_len P hk h0 (h.step hx)
        rw [List.length_append, List.length_singleton] at this
        omega
    | succ m ih =>
      intro vs s p a b hm h
      cases hx : hit e c L s p a with
      | none => exact ⟨_, _, _, _, _, h, hx⟩
      | some x => exact ih _ _ _ _ _ (by rw [List.length_append, List.length_singleton]; omega) (h.step hx)
  obtain ⟨vs, s, p, a, b, h, hn⟩ := key _ _ _ _ _ _ rfl .start
  rw [← wk_end P hk h0 h hn hle]
  exact wk_row P hk h0 h hn
end
/-- the same web told otherwise -/
theorem path_map {α β : Type} {e : α → Int × Int} {c : α → Int} {e' : β → Int × Int} {c' : β → Int} {f : α → β} {L : List α} {k k' g g' : Int} (he : ∀ x ∈ L, e' (f x) = e x) (hk : ∀ x ∈ L, c' (f x) = g ↔ c x = k) (hk' : ∀ x ∈ L, c' (f x) = g' ↔ c x = k') :
    ∀ n s p, path e' c' (L.map f) n s p g g' = (path e c L n s p k k').map f := by
  intro n
  induction n generalizing k k' g g' with
  | zero => intro s p; rfl
  | succ n ih =>
    intro s p
    have hh : hit e' c' (L.map f) s p g = (hit e c L s p k).map f := by
      unfold hit
      rw [List.find?_map]
      congr 1
      have : ∀ M : List α, (∀ x ∈ M, x ∈ L) → M.find? (isAt e' c' s p g ∘ f) = M.find? (isAt e c s p k) := by
        intro M
        induction M with
        | nil => intro _; rfl
        | cons x M ihM =>
          intro hM
          have hx := hM x (List.mem_cons_self ..)
          have : (isAt e' c' s p g ∘ f) x = isAt e c s p k x := by
            simp only [Function.comp, isAt, he x hx]
            congr 1
            rw [decide_eq_decide]
            exact hk x hx
          rw [List.find?_cons, List.find?_cons, this, ihM fun y hy => hM y (List.mem_cons_of_mem _ hy)]
      exact this L fun _ h => h
    unfold path
    rw [hh]
    cases hx : hit e c L s p k with
    | none => rfl
    | some x =>
      have hm := (hit_some hx).1
      simp only [Option.map_some, List.map_cons, he x hm]
      rw [ih hk' hk]
theorem hit_perm {α : Type} {e : α → Int × Int} {c : α → Int} {L L' : List α} (P : Proper e c L) (h : L'.Perm L) (s : Bool) (p k : Int) : hit e c L' s p k = hit e c L s p k := by
  have P' : Proper e c L' := ⟨h.nodup_iff.mpr P.nd, fun x hx y hy => P.uq x (h.mem_iff.mp hx) y (h.mem_iff.mp hy)⟩
  cases hx : hit e c L s p k with
  | none =>
    exact hit_none_of fun x hm => hit_none hx x (h.mem_iff.mp hm)
  | some x =>
    obtain ⟨h1, h2, h3⟩ := hit_some hx
    exact hit_of P' (h.mem_iff.mpr h1) h2 h3
theorem path_perm {α : Type} {e : α → Int × Int} {c : α → Int} {L L' : List α} (P : Proper e c L) (h : L'.Perm L) : ∀ n s p k k', path e c L' n s p k k' = path e c L n s p k k' := by
  intro n
  induction n with
  | zero => intros; rfl
  | succ n ih =>
    intro s p k k'
    unfold path
    rw [hit_perm P h]
    cases hit e c L s p k with
    | none => rfl
    | some x => simp only [ih]
end Kx
namespace Kx
open PySem L2
def top (i : Nat) : Stmt := PySem.Challenge.pw_exactbeats_k51_whole_planes_lost_and_bac.main.body.getD i (.Pass ⟨0, 0, 0, 0⟩)
abbrev sIsInteger : Stmt := top 2
abbrev sIsWithin : Stmt := top 3
abbrev sIsPair : Stmt := top 4
abbrev sIsLot : Stmt := top 5
abbrev sNoWayInit : Stmt := inClass (top 13) 0
abbrev sIsTie : Stmt := top 15
abbrev sEndsOf : Stmt := top 17
abbrev sPaintInit : Stmt := inClass (top 18) 0
abbrev sLeastFree : Stmt := inClass (top 18) 1
abbrev sRowFrom : Stmt := inClass (top 18) 2
abbrev sExchange : Stmt := inClass (top 18) 3
abbrev sAdd : Stmt := inClass (top 18) 4
abbrev sAdded : Stmt := top 19
abbrev sCheckSizes : Stmt := top 23
abbrev sCheckPlanes : Stmt := top 24
abbrev sBoxesOf : Stmt := top 25
abbrev sFullBox : Stmt := top 26
abbrev sCheckRoom : Stmt := top 27
abbrev sLaidInit : Stmt := inClass (top 28) 0
abbrev sCheckWish : Stmt := inClass (top 28) 1
abbrev sCheckPlane : Stmt := inClass (top 28) 2
abbrev sLay : Stmt := inClass (top 28) 3
abbrev sPut : Stmt := inClass (top 28) 4
abbrev sDrop : Stmt := inClass (top 28) 7
abbrev sLose : Stmt := inClass (top 28) 8
abbrev sBack : Stmt := inClass (top 28) 9
abbrev sLaid : Stmt := inClass (top 28) 10
abbrev sAlive : Stmt := inClass (top 28) 11
abbrev sMoved : Stmt := inClass (top 28) 13
abbrev sHand : Stmt := top 30
abbrev sDraw : Stmt := top 31
abbrev sSizes : Stmt := top 32
abbrev sWishes : Stmt := top 33
abbrev sBoxes : Stmt := top 34
abbrev sFull : Stmt := top 35
abbrev sAreWays : Stmt := top 36
abbrev sTold : Stmt := top 37
abbrev sRow : Stmt := top 38
abbrev sPutIn : Stmt := top 39
abbrev sLLaid : Stmt := top 40
abbrev sLPut : Stmt := top 41
abbrev sLost : Stmt := top 42
abbrev sIsSo : Stmt := top 43
abbrev sLaw : Stmt := top 44
end Kx
set_option maxHeartbeats 4000000
namespace Kx
open PySem PySem.Spec PyProof.Rows L2
/-- a def as the head tells it -/
abbrev FnP (K : PySem.W.Frag) (x qual : Str) (st : Stmt) (f : Addr) (fd : FuncData) : Prop := FunD K x qual (defArgs st) (defBody st) (defScope st) [] [] f fd

/-! ### heaps -/
/-- all but what stands at W is as it was -/
def Kp (W : List Addr) (H H' : Hp) : Prop := ∀ b o, b ∉ W → H b = some o → H' b = some o
section
variable {H H' H1 H2 : Hp} {a b p : Addr} {o u v : HO} {W : List Addr}
theorem Kp.refl : Kp W H H := fun _ _ _ h => h
theorem Kp.trans (x : Kp W H H1) (y : Kp W H1 H2) : Kp W H H2 := fun b o n h => y b o n (x b o n h)
theorem Kp.of_same (s : Same H H') : Kp W H H' := fun b o _ h => s b o h
theorem Kp.same (x : Kp [] H H') : Same H H' := fun b o h => x b o (by simp) h
theorem Kp.new (hp : H p = none) : Kp W H (upd H p o) := fun b u _ h => by rw [upd_ne (ne_of_none h hp)]; exact h
theorem Kp.upd (hp : p ∈ W) : Kp W H (L2.upd H p o) := fun b u n h => by rw [upd_ne (fun z => n (by rw [z]; exact hp))]; exact h
theorem Kp.mono {W' : List Addr} (x : Kp W H H') (h : ∀ b ∈ W, b ∈ W') : Kp W' H H' := fun b o n e => x b o (fun z => n (h b z)) e
theorem Kp.free (x : Kp W H H') (hp : p ∉ W) (h : H' p = none) : H p = none := by
  cases e : H p with
  | none => rfl
  | some o => rw [x p o hp e] at h; cases h
theorem upd_old (h : H b = some u) (hn : H a = none) : L2.upd H a o b = some u := by rw [upd_ne (ne_of_none h hn)]; exact h
theorem upd_oth (h : H b = some u) (ha : H a = some v) (d : u ≠ v) : L2.upd H a o b = some u := by rw [upd_ne (ne_of h ha d)]; exact h
theorem upd_nn (h : H b = none) (d : b ≠ a) : L2.upd H a o b = none := by rw [upd_ne d]; exact h
theorem upd_none (h : L2.upd H a o b = none) : H b = none ∧ b ≠ a := by
  by_cases e : b = a
  · subst e; rw [upd_same] at h; cases h
  · rw [upd_ne e] at h; exact ⟨h, e⟩
theorem _root_.L2.Same.at_ (s : Same H H') (h : H b = some u) : H' b = some u := s b u h
theorem Kp.at_ (s : Kp W H H') (h : H b = some u) (n : b ∉ W) : H' b = some u := s b u n h
theorem same_new (hp : H p = none) : Same H (L2.upd H p o) := fun b u h => by rw [upd_ne (ne_of_none h hp)]; exact h
theorem same_cons (s : Same (L2.upd H p o) H') (hp : H p = none) : Same H H' := (same_new hp).trans s
theorem same_snoc (s : Same H H') (hp : H' p = none) : Same H (L2.upd H' p o) := s.trans (same_new hp)
theorem same_mut (s : Same H H') (hp : H p = none) : Same H (L2.upd H' p o) := fun b u h => by rw [upd_ne (ne_of_none h hp)]; exact s b u h
theorem kp_snoc (s : Kp W H H') (hp : H' p = none) : Kp W H (L2.upd H' p o) := s.trans (Kp.new hp)
theorem kp_mut (s : Kp W H H') (hp : p ∈ W ∨ H p = none) : Kp W H (L2.upd H' p o) := fun b u n h => by
  rw [upd_ne]
  · exact s b u n h
  · intro z
    subst z
    rcases hp with q | q
    · exact n q
    · rw [q] at h; cases h
end

/-! ### readings, one step each -/
section
variable {K : PySem.W.Frag} {σ : L2.St} {H : Hp} {Q : VK} {QB : Bool → Hp → Prop} {QA : List V → Hp → Prop} {ta tb te tc : TE} {t u : TT} {tl : TA} {x y z v : V} {r : R2} {i j : Int}
theorem g_var {n : Nat} (h : σ[n]? = some (some v)) (q : Q v H) : tVar n σ H Q := ⟨v, h, q⟩
theorem g_c (q : Q v H) : tC v σ H Q := q
theorem g_op (q : ta σ H fun x H1 => tb σ H1 fun y H2 => r x y H2 Q) : tOp r ta tb σ H Q := q
theorem g_un {r : V → Hp → VK → Prop} (q : ta σ H fun x H1 => r x H1 Q) : tUn r ta σ H Q := q
theorem g_I0 {g : Int → Int → V} (q : Q (g i j) H) : rI0 g (.int i) (.int j) H Q := ⟨i, j, rfl, rfl, q⟩
theorem g_I {C : Int → Int → Prop} {g : Int → Int → V} (c : C i j) (q : Q (g i j) H) : rI C g (.int i) (.int j) H Q := ⟨i, j, rfl, rfl, c, q⟩
theorem g_eq (h : scal x y = true) (q : Q (.bl (decide (x = y))) H) : rEq x y H Q := ⟨h, q⟩
theorem g_ne (h : scal x y = true) (q : Q (.bl (!decide (x = y))) H) : rNe x y H Q := ⟨h, q⟩
theorem g_ixT {p : Addr} {xs : List V} (h : SqT K H p xs) (ha : atI xs i = some v) (q : Q v H) : rIxT K (.ref p) (.int i) H Q := ⟨p, xs, i, v, rfl, rfl, h, ha, q⟩
theorem g_ixL {p : Addr} {xs : List V} (h : SqL K H p xs) (ha : atI xs i = some v) (q : Q v H) : rIxL K (.ref p) (.int i) H Q := ⟨p, xs, i, v, rfl, rfl, h, ha, q⟩
theorem g_test (q : te σ H fun x H' => ∃ k, x = .bl k ∧ QB k H') : tTest te σ H QB := q
theorem g_B (q : te σ H fun x H' => ∃ k, x = .bl k ∧ QB k H') : tB te σ H QB := q
theorem g_bl {b : Bool} {F : Bool → Prop} (q : F b) : ∃ k, V.bl b = .bl k ∧ F k := ⟨b, rfl, q⟩
theorem g_and (q : t σ H fun c H1 => if c = true then u σ H1 QB else QB false H1) : tAnd t u σ H QB := q
theorem g_or (q : t σ H fun c H1 => if c = true then QB true H1 else u σ H1 QB) : tOr t u σ H QB := q
theorem g_not (q : t σ H fun c H1 => QB (!c) H1) : tNot t σ H QB := q
theorem g_andV (q : ta σ H fun x H1 => ∃ c, x = .bl c ∧ if c = true then tb σ H1 Q else Q (.bl false) H1) : tAndV ta tb σ H Q := q
theorem g_orV (q : ta σ H fun x H1 => ∃ c, x = .bl c ∧ if c = true then Q (.bl true) H1 else tb σ H1 Q) : tOrV ta tb σ H Q := q
theorem g_notV (q : ta σ H fun x H1 => ∃ c, x = .bl c ∧ Q (.bl (!c)) H1) : tNotV ta σ H Q := q
theorem g_if (q : t σ H fun c H1 => if c = true then ta σ H1 Q else tb σ H1 Q) : tIf t ta tb σ H Q := q
theorem g_tup (q : tl σ H fun xs H1 => xs.length ≤ sizeLine ∧ ∀ p, H1 p = none → Q (.ref p) (upd H1 p (.tup xs))) : tTup tl σ H Q := q
theorem g_lst (q : tl σ H fun xs H1 => xs.length ≤ sizeLine ∧ ∀ p, H1 p = none → Q (.ref p) (upd H1 p (.lst xs))) : tLst tl σ H Q := q
theorem g_nil (q : QA [] H) : tNil σ H QA := q
theorem g_cons (q : te σ H fun x H1 => tl σ H1 fun xs H2 => QA (x :: xs) H2) : tCons te tl σ H QA := q
theorem g_fld {f : Str} (q : ta σ H fun x H1 => ∃ a C dx fs v, x = .ref a ∧ H1 a = some (.ins C dx fs) ∧ Cls K C ∧ NoAttr K C f ∧ fs.lookup f = some v ∧ Q v H1) : tFld K ta f σ H Q := q
theorem g_cb {r : List V → Hp → VK → Prop} (q : tl σ H fun vs H1 => r vs H1 Q) : tCB r tl σ H Q := q
theorem g_call {sp : Sp} {dvs : List V} {E : XK} (q : tl σ H fun vs H1 => sp (vs ++ dvs) H1 Q E) : tCall sp dvs E tl σ H Q := q
theorem g_chain {r r' : R2} (q : ta σ H fun x H1 => tb σ H1 fun y H2 => r x y H2 fun z H3 => ∃ k, z = .bl k ∧ if k = true then tc σ H3 fun w H4 => r' y w H4 Q else Q (.bl false) H3) : tChain r r' ta tb tc σ H Q := q
/-! ### statements -/
variable {D : Ends} {s1 s2 : TS}
theorem g_seq (q : s1 { D with nx := s2 D } σ H) : tSeq s1 s2 D σ H := q
theorem g_next (q : D.nx σ H) : tNext D σ H := q
theorem g_ret (q : te σ H D.rt) : tRet te D σ H := q
theorem g_set {n : Nat} (q : te σ H fun x H1 => D.nx (σ.set n (some x)) H1) : tAsg te (gName n) D σ H := q
theorem g_ifS (q : t σ H fun b H1 => if b = true then s1 D σ H1 else s2 D σ H1) : tIfS t s1 s2 D σ H := q
theorem g_drop (q : te σ H fun _ H1 => D.nx σ H1) : tDrop te D σ H := q
theorem dsz {n : Nat} (h : Nat.ble n 16000000 = true) : n ≤ sizeLine := Nat.le_trans (Nat.le_of_ble_eq_true h) (by decide)
end
local macro_rules | `(tactic| walk_at "ht") => `(tactic| (repeat (first | assumption | exact upd_same | refine upd_old ?_ (by assumption) | refine Same.at_ (by assumption) ?_)))
local macro_rules | `(tactic| walk_at "go1") => `(tactic| (first
  | refine g_var (by rfl) ?_ | refine g_op ?_ | refine g_c ?_ | refine g_I0 ?_ | refine g_cons ?_ | refine g_nil ?_ | refine g_tup ?_ | refine g_lst ?_
  | refine g_ixT (SqT.of (by walk_at "ht")) (by rfl) ?_ | refine g_ixL (SqL.of (by walk_at "ht")) (by rfl) ?_
  | refine g_bl ?_ | refine g_test ?_ | refine g_B ?_ | refine g_and ?_ | refine g_or ?_ | refine g_not ?_ | refine g_andV ?_ | refine g_orV ?_ | refine g_notV ?_
  | refine g_if ?_ | refine g_cb ?_ | refine g_call ?_ | refine g_chain ?_ | refine g_un ?_
  | refine g_seq ?_ | refine g_next ?_ | refine g_ret ?_ | refine g_set ?_ | refine g_ifS ?_ | refine g_drop ?_ | refine iteT ?_ | refine iteF ?_))
local macro_rules | `(tactic| walk_at "go") => `(tactic| ((try dsimp only); (repeat (walk_at "go1"))))
section
variable {P : Program} {w : World} {K : PySem.W.Frag} {mg : Str → Option Value} {base : Heap}
/-! ### the small defs -/
def spIsInteger : Sp := fun vs H Q _ => ∃ i : Int, vs = [.int i] ∧ Q (.bl true) H
theorem scIsInteger : FnScope ["thing"] ["thing"] (defScope sIsInteger) := ⟨rfl, rfl, rfl, by decide +kernel, rfl, by decide +kernel, by decide +kernel⟩
theorem ok_is_integer {f : Addr} {fd : FuncData} (F : FnP K "is_integer" "is_integer" sIsInteger f fd) (z1 : mg "isinstance" = none) (z2 : mg "int" = none) (z3 : mg "bool" = none) : FnOk P w K mg base CX0 1 f fd ["thing"] spIsInteger := by
  refine F.ok scIsInteger (fun vs H Q E h => ?_) (fun cdv A outer s H vs Q E hr h => ?_)
  · obtain ⟨i, rfl, _⟩ := h; rfl
  · obtain ⟨i, rfl, k⟩ := h
    refine ⟨_, pss_one (ps_ret (pe_and (pe_callB call_isi (by rfl) z1 (by decide +kernel) (pa_cons (pv 0) (pa_cons (pe_bltn (v := .ty "int") (by rfl) z2 (by decide +kernel) rfl) pa_nil)))
      (pe_one (pe_not (pe_callB call_isi (by rfl) z1 (by decide +kernel) (pa_cons (pv 0) (pa_cons (pe_bltn (v := .ty "bool") (by rfl) z3 (by decide +kernel) rfl) pa_nil))))))), ?_⟩
    walk_at "go"
    refine ⟨_, _, _, _, true, rfl, .ty _, .base (.int i), kit_ty (by decide +kernel), ?_⟩
    walk_at "go"
    refine ⟨_, _, _, _, false, rfl, .ty _, .base (.int i), kit_ty (by decide +kernel), ?_⟩
    walk_at "go"
    exact k
def spIsWithin : Sp := fun vs H Q _ => ∃ i lo hi : Int, vs = [.int i, .int lo, .int hi] ∧ Q (.bl (decide (lo ≤ i ∧ i ≤ hi))) H
theorem scIsWithin : FnScope ["thing", "least", "most"] ["thing", "least", "most"] (defScope sIsWithin) := ⟨rfl, rfl, rfl, by decide +kernel, rfl, by decide +kernel, by decide +kernel⟩
theorem ok_is_within {f f1 : Addr} {fd fd1 : FuncData} (F : FnP K "is_within" "is_within" sIsWithin f fd) (G : FnOk P w K mg base CX0 1 f1 fd1 ["thing"] spIsInteger) (g1 : mg "is_integer" = some (.ref f1)) (k1 : PySem.W.keepIn K (.ref f1) = true) (b1 : Binds K fd1 ["thing"] []) :
    FnOk P w K mg base CX0 2 f fd ["thing", "least", "most"] spIsWithin := by
  refine F.ok scIsWithin (fun vs H Q E h => ?_) (fun cdv A outer s H vs Q E hr h => ?_)
  · obtain ⟨i, lo, hi, rfl, _⟩ := h; rfl
  · obtain ⟨i, lo, hi, rfl, k⟩ := h
    refine ⟨_, pss_one (ps_ret (pe_and (pe_call G hr rfl g1 k1 b1 .nil pass0 (pa_cons (pv 0) pa_nil)) (pe_one (pe_chain op_le op_le (pv 1) (pv 0) (pv 2))))), ?_⟩
    walk_at "go"
    refine ⟨_, rfl, ?_⟩
    walk_at "go"
    by_cases c : lo ≤ i
    · rw [decide_eq_true c]
      walk_at "go"
      have e : decide (lo ≤ i ∧ i ≤ hi) = decide (i ≤ hi) := by simp [c]
      rw [e] at k
      exact k
    · rw [decide_eq_false c]
      walk_at "go"
      have e : decide (lo ≤ i ∧ i ≤ hi) = false := by simp [c]
      rw [e] at k
      exact k
def spBoxesOf : Sp := fun vs H Q _ => ∃ (s t : Addr) (l b i j : Int), vs = [.ref s, .ref t] ∧ H s = some (.tup [.int l, .int b]) ∧ H t = some (.tup [.int i, .int j]) ∧ 0 < l ∧ l ≤ 12 ∧
  ∀ p, H p = none → Q (.ref p) (upd H p (.tup [.int (i.fdiv l), .int (j.fdiv l)]))
theorem scBoxesOf : FnScope ["sizes", "wish"] ["sizes", "wish"] (defScope sBoxesOf) := ⟨rfl, rfl, rfl, by decide +kernel, rfl, by decide +kernel, by decide +kernel⟩
theorem ok_boxes_of {f : Addr} {fd : FuncData} (F : FnP K "boxes_of" "boxes_of" sBoxesOf f fd) : FnOk P w K mg base CX0 1 f fd ["sizes", "wish"] spBoxesOf := by
  refine F.ok scBoxesOf (fun vs H Q E h => ?_) (fun cdv A outer s H vs Q E hr h => ?_)
  · obtain ⟨s, t, l, b, i, j, rfl, _⟩ := h; rfl
  · obtain ⟨s, t, l, b, i, j, rfl, hs, ht, l0, l1, k⟩ := h
    refine ⟨_, pss_one (ps_ret (pe_tup (pa_cons (pe_op op_fdivN (pe_ix ix_tup (pv 1) pe_int (fun _ _ => rfl)) (pe_ix ix_tup (pv 0) pe_int (fun _ _ => rfl)))
      (pa_cons (pe_op op_fdivN (pe_ix ix_tup (pv 1) pe_int (fun _ _ => rfl)) (pe_ix ix_tup (pv 0) pe_int (fun _ _ => rfl))) pa_nil)))), ?_⟩
    walk_at "go"
    refine g_I ⟨by omega, by omega⟩ ?_
    walk_at "go"
    refine g_I ⟨by omega, by omega⟩ ?_
    walk_at "go"
    exact ⟨dsz rfl, k⟩
end
end Kx
set_option maxHeartbeats 4000000
/-! enumerate(t) of a tuple; zip(list, tuple). -/
namespace Kx
open PySem PySem.Spec PyProof.Rows L2
open Sem (wp)
section
variable {prog : Program} {w : World} {A : Around} {E : Value → Shared → Prop} {s : Shared}
theorem meets_enumT (t : Addr) (items : Array Value) :
    Meets (Builtin.«enumerate.__new__» ⟨[.type "enumerate", .ref t], []⟩) (fun _ R s => s.heap.IsTuple t items ∧
      R (.ok (.ret (.ref (s.heap.push { cls := .type "tuple_iterator", data := .fields #[.ref t, .int 0 0] }).objs.size)))
        { s with heap := (s.heap.push { cls := .type "tuple_iterator", data := .fields #[.ref t, .int 0 0] }).push { cls := .type "enumerate", data := .fields #[.none, .bool false, .ref s.heap.objs.size, rawInt 0, .none, .none] } }) :=
  .of_wp fun prog w A R s h => by
    obtain ⟨hp, g, d, tk, os⟩ := s; obtain ⟨h1, h⟩ := h
    have hsub := sub_enumerate
    have q1 : ∀ {A' : Around} {E : Value → Shared → Prop} {Q : Value → Shared → Prop}, Q (.ref hp.objs.size) ⟨hp.push { cls := .type "tuple_iterator", data := .fields #[.ref t, .int 0 0] }, g, d, tk, os⟩ → wpAny (model prog w) A' (pyIter (.ref t)) Q E ⟨hp, g, d, tk, os⟩ :=
      fun q => (begins_tuple t items).iter prog w _ _ ⟨hp, g, d, tk, os⟩ _ h1 q
    wp_walk using q1
    refine wpAny_stack_any fun st => wpAny_pure ?_
    split
    · rename_i c _ _ _ _ _
      cases (c == Value.type "enumerate")
      · wp_walk using q1
        exact ⟨_, rfl, h⟩
      · wp_walk using q1
        exact ⟨_, rfl, h⟩
    · wp_walk using q1
      exact ⟨_, rfl, h⟩
theorem call_enumT {t : Addr} {items : Array Value} {Q : Value → Shared → Prop} (hL : s.heap.IsTuple t items)
    (h : ∀ h', IsEnum h' (s.heap.objs.size + 1) s.heap.objs.size 0 .none → h'.IsTupleIter s.heap.objs.size t 0 → h'.objs.size = s.heap.objs.size + 2 →
      (∀ b o, s.heap.get? b = some o → h'.get? b = some o) → Q (.ref (s.heap.objs.size + 1)) { s with heap := h' }) :
    wpAny (model prog w) A (call (.type "enumerate") [.ref t]) Q E s := by
  refine callType_new F.called_enumerate (by decide) (F.typeCall_enumerate_1 _) (F.newCall_enumerate_1 _) (fun obj => F.args_object_init_2 obj _) F.entry_enumerate_new
    (meets_enumT t items) ⟨hL, ?_⟩
  generalize hr : s.heap.push { cls := .type "tuple_iterator", data := .fields #[.ref t, .int 0 0] } = g1
  have hz : g1.objs.size = s.heap.objs.size + 1 := by rw [← hr]; exact Heap.size_push ..
  have ha : g1.get? s.heap.objs.size = some { cls := .type "tuple_iterator", data := .fields #[.ref t, .int 0 0] } := by rw [← hr]; exact Heap.get?_push_size _ rfl
  show _ ∧ _
  rw [hz]
  have he := Heap.get?_push_size g1 (o := { cls := .type "enumerate", data := .fields #[.none, .bool false, .ref s.heap.objs.size, rawInt 0, .none, .none] }) rfl
  rw [hz] at he
  refine ⟨⟨_, he, rfl⟩, h _ he ⟨_, Heap.get?_push_of_some _ ha, rfl, rfl⟩ (by rw [Heap.size_push, hz]) fun b o x => Heap.get?_push_of_some _ ?_⟩
  rw [← hr]
  exact Heap.get?_push_of_some _ x
end
/-- the tuple tracked at a, each item in a new pair behind its number -/
def Ite2 (a : Addr) : It :=
  ⟨fun i H => ∃ (xs : List V) (x : V), H a = some (.tup xs) ∧ xs[i]? = some x, fun i H v H' => ∃ T x, v = .ref T ∧ H T = none ∧ H' = upd H T (.tup [.int (i : Nat), x]) ∧ ∀ xs, H a = some (.tup xs) → xs[i]? = some x,
    fun i H => ∃ xs : List V, H a = some (.tup xs) ∧ xs.length = i⟩
theorem tup_here {X : Cx} {pins : List (Addr × Obj)} {σ : L2.St} {H : Hp} {s : Shared} {a : Addr} {xs : List V} (I : Inv X pins σ H s) (h : H a = some (.tup xs)) : ∃ its : List Value, Vals xs its ∧ s.heap.IsTuple a its.toArray ∧ xs.length ≤ sizeLine := by
  obtain ⟨z, its, r, p⟩ := (show ObjOk X.prog X.w H s.heap a (.tup xs) from I.hok a _ h)
  exact ⟨its, r, p, z⟩
theorem turn_enum2 {P : Program} {w : World} {K : PySem.W.Frag} {elts : List Expr} {kk : Nat} {tpos : Pos} (a e it : Addr) :
    Turn P w K (.Tuple elts kk tpos) (Ite2 a) [e, it] e (fun i h => (∃ old, IsEnum h e it ((i : Nat) : Int) old) ∧ h.IsTupleIter it a i ∧ e ≠ it) where
  mem := by simp
  obj := fun i h st b hb => by
    obtain ⟨⟨old, he⟩, ⟨o, ho, _, hd⟩, _⟩ := st
    rcases (by simpa using hb : b = e ∨ b = it) with rfl | rfl
    · exact ⟨_, he, fun v q => nomatch q⟩
    · exact ⟨o, ho, fun v q => by rw [hd] at q; cases q⟩
  keep := fun i h h' st k => ⟨st.1.imp fun old he => k e (by simp) _ he, st.2.1.at fun o q => k it (by simp) o q, st.2.2⟩
  item := by
    intro X hP hw hK hc i pins s σ H E I hf st hg
    subst hP hw hK
    obtain ⟨⟨old, he⟩, hit, hne⟩ := st
    obtain ⟨xs, x, hq, hx⟩ := hg
    obtain ⟨its, rv, ht, hz⟩ := tup_here I hq
    have hae : a ≠ e := fun z => by have := (hf e (by simp)).1; rw [← z, hq] at this; cases this
    have hai : a ≠ it := fun z => by have := (hf it (by simp)).1; rw [← z, hq] at this; cases this
    have hil : i < its.toArray.size := by
      have q := (List.getElem?_eq_some_iff.mp hx).1
      rw [rv.length] at q
      simpa using q
    refine wpAny_pyNext_enum_itemD (Draws.tuple (show X.A.in1.handled = none from I.ok.hd hc) it a hai its.toArray) he ⟨hit, ht⟩ hil hne (by simp [Ne.symm hae, hne]) fun u h' tk hu ho hst hT hsz hk => ?_
    have ru : RelV x u := by
      obtain ⟨u', hu', r'⟩ := rv.get hx
      have hu2 : its[i]? = some u := by simpa using hu
      rw [hu'] at hu2
      rw [← Option.some.inj hu2]
      exact r'
    refine ⟨_, rfl, wpAny_letOwnedTupleGo_enum (s := { s with heap := h', toks := tk + 1 }) ho fun h2 he2 sb => ?_⟩
    have hel : e < s.heap.objs.size := Heap.lt_size he
    have hitl : it < s.heap.objs.size := by obtain ⟨_, q, _⟩ := hit; exact Heap.lt_size q
    have hT2 : h2.get? s.heap.objs.size = some { cls := .type "tuple", data := .seq #[.int i tk, u] } := (sb.2 _ (Nat.ne_of_gt hel)).trans hT
    have new : ObjOk X.prog X.w (upd H s.heap.objs.size (.tup [.int (i : Nat), x])) h2 s.heap.objs.size (.tup [.int (i : Nat), x]) :=
      ⟨(by show 2 ≤ sizeLine; decide), [.int i tk, u], .cons ⟨_, rfl⟩ (.cons ru .nil), ⟨_, hT2, rfl, _, rfl⟩⟩
    have I1 : Inv X pins σ (upd H s.heap.objs.size (.tup [.int (i : Nat), x])) { s with heap := h2, toks := tk + 1 } :=
      I.turnedNew (ch := [e, it]) (fun b ob hb q => (sb.2 b (fun z => hb (by simp [z]))).trans (hk b ob (fun z => hb (by simp [z])) (fun z => hb (by simp [z])) q)) hf (Nat.le_refl _) new
    refine ⟨.ref s.heap.objs.size, _, I1, rfl, ⟨_, x, rfl, I.hok.fresh (Nat.le_refl _), rfl, fun ys hy => by rw [hq] at hy; cases hy; exact hx⟩, ⟨⟨u, ?_⟩, hst.1.at fun o q => (sb.2 it (Ne.symm hne)).trans q, hne⟩, fun b hb => ?_⟩
    · rw [show ((i + 1 : Nat) : Int) = (i : Int) + 1 by omega]
      exact he2
    · rcases (by simpa using hb : b = e ∨ b = it) with rfl | rfl
      · rw [upd_ne (Nat.ne_of_lt hel)]; exact (hf _ hb).1
      · rw [upd_ne (Nat.ne_of_lt hitl)]; exact (hf _ hb).1
  done := by
    intro X hP hw hK hc i pins s σ H E I hf st hg
    subst hP hw hK
    obtain ⟨⟨old, he⟩, hit, hne⟩ := st
    obtain ⟨xs, hq, hx⟩ := hg
    obtain ⟨its, rv, ht, hz⟩ := tup_here I hq
    have hai : a ≠ it := fun z => by have := (hf it (by simp)).1; rw [← z, hq] at this; cases this
    have hn : i = its.toArray.size := by have := rv.length; simp; omega
    obtain ⟨f0, f1, f2, f3, f4, f5⟩ := hf it (by simp)
    exact wpAny_pyNext_enum_endD (Draws.tuple (show X.A.in1.handled = none from I.ok.hd hc) it a hai its.toArray) he ⟨by rw [← hn]; exact hit, ht⟩ fun h' eb => ⟨rfl, I.turned (t' := s.toks) (fun b o hb q => eb b o hb q) f0 f1 f3 f4 f5⟩
  self := fun A i s Q E st h => let ⟨⟨_, he⟩, _⟩ := st; wpAny_pyIter_enum he h
def iEnum2 (ta : TA) : TI := fun σ H R => ta σ H fun vs H1 => ∃ a xs, vs = [.ref a] ∧ H1 a = some (.tup xs) ∧ R (Ite2 a) H1
theorem pi_enumT {X : Cx} {e : Expr} {ta : TA} {p pos tpos : Pos} {elts : List Expr} {kk : Nat} (hg : Gl X "enumerate") (hm : X.mg "enumerate" = none) (ha : PA X [e] ta) (hs : starEach [e] X.env = [(false, eval e X.env)] := by rfl) :
    PI X (.Tuple elts kk tpos) (.Call (.Name "enumerate" p) [e] [] pos) (iEnum2 ta) := by
  refine ⟨fun pins s σ H R I h => ?_⟩
  refine Call_ (ld_blt I hg hm boot_enumerate (PyProof.Rows.callWith_type1 (thn (ha.run pos pins s σ H _ I h) fun us s1 ⟨vs, H1, I1, r1, q1⟩ => ?_) hs rfl))
  obtain ⟨a, xs, rfl, hq, q⟩ := q1
  obtain ⟨u1, rfl, ra⟩ := vals1 r1
  obtain rfl : u1 = Value.ref a := ra
  obtain ⟨its, rv, ht, hz⟩ := tup_here I1 hq
  refine call_enumT ht fun h' he hit hsz hk => wpAny_pyIter_enum he ?_
  have I2 : Inv X pins σ H1 { s1 with heap := h' } := I1.kept (t' := s1.toks) hk
  refine ⟨s1.heap.objs.size + 1, [s1.heap.objs.size + 1, s1.heap.objs.size], _, _, H1, rfl, I2, turn_enum2 a (s1.heap.objs.size + 1) s1.heap.objs.size, ⟨⟨.none, he⟩, hit, Nat.succ_ne_self _⟩, fun b hb => ?_, q⟩
  have hle : s1.heap.objs.size ≤ b := by
    rcases (by simpa using hb : b = s1.heap.objs.size + 1 ∨ b = s1.heap.objs.size) with rfl | rfl
    · exact Nat.le_add_right _ _
    · exact Nat.le_refl _
  exact I1.fpOk hle (I1.hok.fresh hle)
theorem walk_enum2 {a : Addr} {xs : List V} : Walk (Ite2 a) xs.length (fun H => H a = some (.tup xs)) (YPair (fun i => some (.int (i : Nat))) (fun i => xs[i]?)) := by
  refine ⟨fun i _ hi q => ⟨xs, xs[i], q, by simp [hi]⟩, fun _ q => ⟨xs, q, rfl⟩, fun i H v H' _ q y => ?_⟩
  obtain ⟨T, x, h1, h2, h3, h4⟩ := y
  exact ⟨T, .int (i : Nat), x, h1, h2, h3, rfl, h4 xs q⟩

/-! ### zip(list, tuple) -/
def Itz2 (a b : Addr) : It :=
  ⟨fun i H => ∃ (xs ys : List V) (x y : V), H a = some (.lst xs) ∧ H b = some (.tup ys) ∧ xs[i]? = some x ∧ ys[i]? = some y,
    fun i H v H' => ∃ T x y, v = .ref T ∧ H T = none ∧ H' = upd H T (.tup [x, y]) ∧ (∀ xs, H a = some (.lst xs) → xs[i]? = some x) ∧ ∀ ys, H b = some (.tup ys) → ys[i]? = some y,
    fun i H => ∃ xs ys : List V, H a = some (.lst xs) ∧ H b = some (.tup ys) ∧ xs.length = i ∧ ys.length = i⟩
theorem lst_here {X : Cx} {pins : List (Addr × Obj)} {σ : L2.St} {H : Hp} {s : Shared} {a : Addr} {xs : List V} (I : Inv X pins σ H s) (h : H a = some (.lst xs)) : ∃ its : List Value, Vals xs its ∧ s.heap.IsList a its.toArray ∧ xs.length ≤ sizeLine := by
  obtain ⟨its, r, p, z⟩ := I.list (SqL.of h)
  exact ⟨its, r, p.isList, z⟩
abbrev zFp (N : Addr) : List Addr := [N + 4, N + 2, N + 3, N, N + 1]
theorem zFp_mem {N c : Addr} (h : c ∈ zFp N) : c = N + 4 ∨ c = N + 2 ∨ c = N + 3 ∨ c = N ∨ c = N + 1 := by simpa using h
theorem turn_zip2 {P : Program} {w : World} {K : PySem.W.Frag} {elts : List Expr} {kk : Nat} {tpos : Pos} (a b N : Addr) (la : a < N) (lb : b < N) :
    Turn P w K (.Tuple elts kk tpos) (Itz2 a b) (zFp N) (N + 4) (fun i h => IsZip h (N + 4) (N + 2) (N + 3) .none ∧ IsTupOf2 h (N + 2) (.ref N) (.ref (N + 1)) ∧ (∃ x y, IsTupOf2 h (N + 3) x y) ∧ h.IsListIter N a i ∧ h.IsTupleIter (N + 1) b i) where
  mem := by simp
  obj := fun i h st c hc => by
    obtain ⟨hz, hTI, ⟨x, y, hTO⟩, ⟨o1, e1, _, d1⟩, ⟨o2, e2, _, d2⟩⟩ := st
    rcases zFp_mem hc with rfl | rfl | rfl | rfl | rfl
    · exact ⟨_, hz, fun v q => nomatch q⟩
    · exact ⟨_, hTI, fun v q => nomatch q⟩
    · exact ⟨_, hTO, fun v q => nomatch q⟩
    · exact ⟨o1, e1, fun v q => by rw [d1] at q; cases q⟩
    · exact ⟨o2, e2, fun v q => by rw [d2] at q; cases q⟩
  keep := fun i h h' st k => by
    obtain ⟨hz, hTI, ⟨x, y, hTO⟩, h1, h2⟩ := st
    exact ⟨k _ (by simp) _ hz, k _ (by simp) _ hTI, ⟨x, y, k _ (by simp) _ hTO⟩, h1.at fun o q => k _ (by simp) o q, h2.at fun o q => k _ (by simp) o q⟩
  item := by
    intro X hP hw hK hc i pins s σ H E I hf st hg
    subst hP hw hK
    obtain ⟨hz, hTI, ⟨x0, y0, hTO⟩, h1, h2⟩ := st
    obtain ⟨xs, ys, x, y, hqx, hqy, hx, hy⟩ := hg
    obtain ⟨its, rv, hl1, _⟩ := lst_here I hqx
    obtain ⟨its2, rv2, hl2, _⟩ := tup_here I hqy
    have i1 : i < its.toArray.size := by have q := (List.getElem?_eq_some_iff.mp hx).1; rw [rv.length] at q; simpa using q
    have i2 : i < its2.toArray.size := by have q := (List.getElem?_eq_some_iff.mp hy).1; rw [rv2.length] at q; simpa using q
    have hh : X.A.in1.handled = none := I.ok.hd hc
    have na : a ≠ N := Nat.ne_of_lt la
    have nb : b ≠ N + 1 := Nat.ne_of_lt (Nat.lt_succ_of_lt lb)
    have S : ZipSep2 (N + 4) (N + 2) (N + 3) N (N + 1) [N, a] [N + 1, b] := zip_sep2 (fun c hc => by rw [List.mem_singleton.mp hc]; exact la) fun c hc => by rw [List.mem_singleton.mp hc]; exact lb
    refine wpAny_pyNext_zipD2_item S (Draws.list hh N a na its.toArray) (Draws.tuple hh (N + 1) b nb its2.toArray) hz hTI hTO ⟨h1, hl1⟩ ⟨h2, hl2⟩ i1 i2 fun u u2 h' tk p1 p2 z' TO' st1 st2 hT hsz hk => ?_
    have ru : RelV x u := by
      obtain ⟨u', hu', r'⟩ := rv.get hx
      have q : its[i]? = some u := by simpa using p1
      rw [hu'] at q
      rw [← Option.some.inj q]; exact r'
    have ru2 : RelV y u2 := by
      obtain ⟨u', hu', r'⟩ := rv2.get hy
      have q : its2[i]? = some u2 := by simpa using p2
      rw [hu'] at q
      rw [← Option.some.inj q]; exact r'
    refine ⟨_, rfl, wpAny_letOwnedTupleGo_zip (s := { s with heap := h', toks := tk }) z' fun h3 z3 sb => ?_⟩
    have hzl : N + 4 < s.heap.objs.size := Heap.lt_size hz
    have hT2 : h3.get? s.heap.objs.size = some { cls := .type "tuple", data := .seq #[u, u2] } := (sb.2 _ (Nat.ne_of_gt hzl)).trans hT
    have new : ObjOk X.prog X.w (upd H s.heap.objs.size (.tup [x, y])) h3 s.heap.objs.size (.tup [x, y]) :=
      ⟨(by show 2 ≤ sizeLine; decide), [u, u2], .cons ru (.cons ru2 .nil), ⟨_, hT2, rfl, _, rfl⟩⟩
    have I1 : Inv X pins σ (upd H s.heap.objs.size (.tup [x, y])) { s with heap := h3, toks := tk } :=
      I.turnedNew (t' := tk) (ch := zFp N) (fun c o hb q => (sb.2 c (fun q' => hb (by simp [q']))).trans (hk c o (fun q' => hb (by simp [q'])) (fun q' => hb (by simp [q'])) (fun q' => hb (by simp [q'])) (fun q' => hb (by simp [q'])) q)) hf (Nat.le_refl _) new
    have ne4 : ∀ {c : Addr}, c ≠ N + 4 → ∀ {o : Obj}, h'.get? c = some o → h3.get? c = some o := fun hc _ q => (sb.2 _ hc).trans q
    refine ⟨.ref s.heap.objs.size, _, I1, rfl, ⟨_, x, y, rfl, I.hok.fresh (Nat.le_refl _), rfl, fun l hl => by rw [hqx] at hl; cases hl; exact hx, fun l hl => by rw [hqy] at hl; cases hl; exact hy⟩, ⟨z3, ?_, ⟨u, u2, ?_⟩, ?_, ?_⟩, fun c hcm => ?_⟩
    · exact ne4 S.TIz (hk _ _ S.TIz S.TITO S.TIi1 S.TIi2 hTI)
    · exact ne4 S.TOz TO'
    · exact st1.1.at fun o q => ne4 (Ne.symm S.zi1) q
    · exact st2.1.at fun o q => ne4 (Ne.symm S.zi2) q
    · have hlt : c < s.heap.objs.size := Nat.lt_of_le_of_lt (by rcases zFp_mem hcm with rfl | rfl | rfl | rfl | rfl <;> (show (_ : Nat) ≤ _) <;> omega) hzl
      rw [upd_ne (Nat.ne_of_lt hlt)]
      exact (hf c hcm).1
  done := by
    intro X hP hw hK hc i pins s σ H E I hf st hg
    subst hP hw hK
    obtain ⟨hz, hTI, ⟨x0, y0, hTO⟩, h1, h2⟩ := st
    obtain ⟨xs, ys, hqx, hqy, e1, e2⟩ := hg
    obtain ⟨its, rv, hl1, _⟩ := lst_here I hqx
    obtain ⟨its2, rv2, hl2, _⟩ := tup_here I hqy
    have hh : X.A.in1.handled = none := I.ok.hd hc
    have na : a ≠ N := Nat.ne_of_lt la
    have nb : b ≠ N + 1 := Nat.ne_of_lt (Nat.lt_succ_of_lt lb)
    have S : ZipSep2 (N + 4) (N + 2) (N + 3) N (N + 1) [N, a] [N + 1, b] := zip_sep2 (fun c hc => by rw [List.mem_singleton.mp hc]; exact la) fun c hc => by rw [List.mem_singleton.mp hc]; exact lb
    have n1 : i = its.toArray.size := by have := rv.length; simp; omega
    have n2 : i = its2.toArray.size := by have := rv2.length; simp; omega
    exact wpAny_pyNext_zipD2_end S (Draws.list hh N a na its.toArray) (Draws.tuple hh (N + 1) b nb its2.toArray) hz hTI hTO ⟨h1, hl1⟩ ⟨h2, hl2⟩ (Nat.le_of_eq n1) (Nat.le_of_eq n2) (.inl n1) fun h' tk hk => ⟨rfl, I.turnedL (t' := tk) (ch := zFp N) (fun c o hb q =>
      hk c o (fun q' => hb (by simp [q'])) (fun q' => hb (by simp [q'])) (fun q' => hb (by simp [q'])) (fun q' => hb (by simp [q'])) q) hf⟩
  self := fun A i s Q E st h => wpAny_pyIter_zip st.1 h
def iZip2 (ta : TA) : TI := fun σ H R => ta σ H fun vs H1 => ∃ a b xs ys, vs = [.ref a, .ref b] ∧ H1 a = some (.lst xs) ∧ H1 b = some (.tup ys) ∧ R (Itz2 a b) H1
theorem pi_zipLT {X : Cx} {e e2 : Expr} {ta : TA} {p pos tpos : Pos} {elts : List Expr} {kk : Nat} (hg : Gl X "zip") (hm : X.mg "zip" = none) (ha : PA X [e, e2] ta)
    (hs : starEach [e, e2] X.env = (false, eval e X.env) :: starEach [e2] X.env := by rfl) (hpl : (backTo pos (starEach [e2] X.env)).any (·.1) = false := by rfl) :
    PI X (.Tuple elts kk tpos) (.Call (.Name "zip" p) [e, e2] [] pos) (iZip2 ta) := by
  refine ⟨fun pins s σ H R I h => ?_⟩
  refine Call_ (ld_blt I hg hm PyProof.Rows.boot_zip (PyProof.Rows.callWith_type1 (thn (ha.run pos pins s σ H _ I h) fun us s1 ⟨vs, H1, I1, r1, q1⟩ => ?_) hs hpl))
  obtain ⟨a, b, xs, ys, rfl, hqx, hqy, q⟩ := q1
  obtain ⟨u1, u2, rfl, ra, rb⟩ := vals2 r1
  obtain rfl : u1 = Value.ref a := ra
  obtain rfl : u2 = Value.ref b := rb
  obtain ⟨its, rv, hl1, _⟩ := lst_here I1 hqx
  obtain ⟨its2, rv2, hl2, _⟩ := tup_here I1 hqy
  refine zip_begins2 (begins_list a its.toArray) (begins_tuple b its2.toArray) hl1 hl2 fun h' hz hTI hTO o1 o2 hsz hk => wpAny_pyIter_zip hz ?_
  have I2 : Inv X pins σ H1 { s1 with heap := h' } := I1.kept (t' := s1.toks) hk
  refine ⟨s1.heap.objs.size + 4, zFp s1.heap.objs.size, _, _, H1, rfl, I2, turn_zip2 a b s1.heap.objs.size (I1.hok.lt hqx) (I1.hok.lt hqy), ⟨hz, hTI, ⟨_, _, hTO⟩, ⟨_, o1, rfl, rfl⟩, ⟨_, o2, rfl, rfl⟩⟩, fun c hcm => ?_, q⟩
  have hle : s1.heap.objs.size ≤ c := by rcases zFp_mem hcm with rfl | rfl | rfl | rfl | rfl <;> first | exact Nat.le_refl _ | exact Nat.le_add_right _ _
  exact I1.fpOk hle (I1.hok.fresh hle)
theorem walk_zip2 {a b : Addr} {xs ys : List V} (hl : xs.length = ys.length) : Walk (Itz2 a b) xs.length (fun H => H a = some (.lst xs) ∧ H b = some (.tup ys)) (YPair (fun i => xs[i]?) (fun i => ys[i]?)) := by
  refine ⟨fun i _ hi q => ⟨xs, ys, xs[i], ys[i]'(by omega), q.1, q.2, by simp [hi], by simp [show i < ys.length by omega]⟩, fun _ q => ⟨xs, ys, q.1, q.2, rfl, hl.symm⟩, fun i H v H' _ q y => ?_⟩
  obtain ⟨T, x, z, h1, h2, h3, h4, h5⟩ := y
  exact ⟨T, x, z, h1, h2, h3, h4 xs q.1, h5 ys q.2⟩
end Kx
set_option maxHeartbeats 4000000
/-! A dict whose keys are ((side, place), colour); pop of a dict whose keys are tuples. -/
namespace Kx
open PySem PySem.Spec PyProof.Rows L2
abbrev NK := NestedKey
def nk (s p c : Int) : NK := .tup [.tup [.num s, .num p], .num c]
theorem nk_inj {s p c s' p' c' : Int} (h : nk s p c = nk s' p' c') : s = s' ∧ p = p' ∧ c = c' := by
  unfold nk at h
  simp at h
  exact ⟨h.1.1, h.1.2, h.2⟩
/-- at b the key k -/
def KyAt (H : Hp) (k : NK) (b : Addr) : Prop := ∃ s p c e, k = nk s p c ∧ H b = some (.tup [.ref e, .int c]) ∧ H e = some (.tup [.int s, .int p])
theorem KyAt.of {H : Hp} {s p c : Int} {b e : Addr} (h1 : H b = some (.tup [.ref e, .int c])) (h2 : H e = some (.tup [.int s, .int p])) : KyAt H (nk s p c) b := ⟨s, p, c, e, rfl, h1, h2⟩
theorem KyAt.keeps {H H' : Hp} {k : NK} {b : Addr} (h : KyAt H k b) (t : ∀ b xs, H b = some (.tup xs) → H' b = some (.tup xs)) : KyAt H' k b := by
  obtain ⟨s, p, c, e, h1, h2, h3⟩ := h
  exact ⟨s, p, c, e, h1, t _ _ h2, t _ _ h3⟩
abbrev NR : List (NK × Addr × V) → List (NK × Addr × Value) → Prop := Paired fun x y => x.1 = y.1 ∧ x.2.1 = y.2.1 ∧ RelV x.2.2 y.2.2
def ndO (P : Program) (w : World) (a : Addr) (xs : List (NK × Addr × V)) : HO := .ext fun h => ∃ ys : List (NK × Addr × Value), NR xs ys ∧
  ∃ o es ep, h.get? a = some o ∧ o.ExactDict ∧ o.data = .dict es ep ∧ es.toList = ys.map (entryOfKey (nestedKind P w)) ∧ (ys.map (·.1)).Nodup
theorem ndO_ok {P : Program} {w : World} {H : Hp} {h : Heap} {a : Addr} {xs : List (NK × Addr × V)} {ys : List (NK × Addr × Value)} (r : NR xs ys) (d : h.DictOfH (nestedKind P w) a ys) : ObjOk P w H h a (ndO P w a xs) := by
  obtain ⟨o, es, ep, h1, h2, h3, h4, _, h5⟩ := d
  exact ⟨⟨ys, r, o, es, ep, h1, h2, h3, h4, h5⟩, ⟨o, h1⟩, fun g1 g2 ⟨ys, r, o, es, ep, h1, h2⟩ k => ⟨ys, r, o, es, ep, k o h1, h2⟩⟩
theorem ndO_tup {P : Program} {w : World} {a : Addr} {xs : List (NK × Addr × V)} {ys : List V} : ndO P w a xs ≠ .tup ys := fun z => by
  have z' : HO.ext _ = HO.tup ys := z
  cases z'
def ndP (xs : List (NK × Addr × V)) : List (NK × V) := xs.map fun x => (x.1, x.2.2)
/-- at a such a dict -/
def ND (P : Program) (w : World) (H : Hp) (a : Addr) (kvs : List (NK × V)) : Prop :=
  ∃ xs, H a = some (ndO P w a xs) ∧ ndP xs = kvs ∧ (∀ x ∈ xs, KyAt H x.1 x.2.1) ∧ xs.length ≤ sizeLine ∧ (a == sysModules) = false
section
variable {P : Program} {w : World} {H H' : Hp} {h : Heap} {a b : Addr} {kvs : List (NK × V)} {k : NK} {v : V}
theorem ND.keeps (d : ND P w H a kvs) (e : H' a = H a) (t : ∀ b xs, H b = some (.tup xs) → H' b = some (.tup xs)) : ND P w H' a kvs := by
  obtain ⟨xs, h1, h2, h3, h4, h5⟩ := d
  exact ⟨xs, e.trans h1, h2, fun x hx => (h3 x hx).keeps t, h4, h5⟩
theorem ND.some_ (d : ND P w H a kvs) : ∃ o, H a = some o ∧ (∀ xs, o ≠ .tup xs) ∧ (∀ xs, o ≠ .lst xs) ∧ (∀ C dx fs, o ≠ .ins C dx fs) := by
  obtain ⟨xs, h1, _⟩ := d
  refine ⟨_, h1, ?_, ?_, ?_⟩
  · exact fun ys => ndO_tup
  · intro ys z; have z' : HO.ext _ = HO.lst ys := z; cases z'
  · intro C dx fs z; have z' : HO.ext _ = HO.ins C dx fs := z; cases z'
theorem key_is (ok : HOk P w H h) (e : KyAt H k b) : (nestedKind P w).is h k b := by
  obtain ⟨s, p, c, q, rfl, h1, h2⟩ := e
  obtain ⟨_, its, r, o, o1, o2, n, o3⟩ := (show ObjOk P w H h b (.tup [.ref q, .int c]) from ok b _ h1)
  obtain ⟨_, its2, r2, o', p1, p2, n2, p3⟩ := (show ObjOk P w H h q (.tup [.int s, .int p]) from ok q _ h2)
  obtain ⟨u1, u2, rfl, ru1, ru2⟩ := vals2 r
  obtain rfl : u1 = Value.ref q := ru1
  obtain ⟨t2, rfl⟩ := ru2
  obtain ⟨w1, w2, rfl, rw1, rw2⟩ := vals2 r2
  obtain ⟨t3, rfl⟩ := rw1
  obtain ⟨t4, rfl⟩ := rw2
  exact ⟨.tup o1 o2 o3 (.cons (.tup p1 p2 p3 (.cons (.int _ _) (.cons (.int _ _) .nil))) (.cons (.int _ _) .nil)), by simp [nk, NestedKey.depth, NestedKey.depthAll]⟩
theorem nd_at (ok : HOk P w H h) {xs : List (NK × Addr × V)} (e : H a = some (ndO P w a xs)) (hk : ∀ x ∈ xs, KyAt H x.1 x.2.1) : ∃ ys, NR xs ys ∧ h.DictOfH (nestedKind P w) a ys := by
  have z := ok a _ e
  obtain ⟨⟨ys, r, o, es, ep, h1, h2, h3, h4, h5⟩, _⟩ := z
  refine ⟨ys, r, o, es, ep, h1, h2, h3, h4, fun y hy => ?_, h5⟩
  have all : ∀ {l : List (NK × Addr × V)} {m : List (NK × Addr × Value)}, NR l m → (∀ x ∈ l, KyAt H x.1 x.2.1) → ∀ y ∈ m, (nestedKind P w).is h y.1 y.2.1 := by
    intro l m q
    induction q with
    | nil => intro _ y hy; exact nomatch hy
    | @cons p q ps qs hq t ih =>
      intro hl y hy
      rcases List.mem_cons.mp hy with e | hy
      · subst e
        have z := key_is ok (hl p (List.mem_cons_self ..))
        rw [hq.1, hq.2.1] at z
        exact z
      · exact ih (fun x hx => hl x (List.mem_cons_of_mem _ hx)) y hy
  exact all r hk y hy
theorem nr_val {xs : List (NK × Addr × V)} {ys : List (NK × Addr × Value)} (r : NR xs ys) (k : NK) : RelO (valV (ndP xs) k) ((atKey ys k).map (·.2)) := by
  induction r with
  | nil => exact True.intro
  | @cons p q ps qs h t ih =>
    obtain ⟨h1, _, h2⟩ := h
    by_cases e : p.1 = k
    · have e' : q.1 = k := h1.symm.trans e
      have b : atKey (q :: qs) k = some q.2 := by simp [atKey, List.find?_cons, e']
      show RelO (valV ((p.1, p.2.2) :: ndP ps) k) _
      rw [valV_pos (p := (p.1, p.2.2)) e, b]; exact h2
    · have e' : ¬ q.1 = k := fun z => e (h1.trans z)
      have b : atKey (q :: qs) k = atKey qs k := by simp [atKey, List.find?_cons, e']
      show RelO (valV ((p.1, p.2.2) :: ndP ps) k) _
      rw [valV_neg (p := (p.1, p.2.2)) e, b]; exact ih
def nPut (xs : List (NK × Addr × V)) (k : NK) (b : Addr) (v : V) : List (NK × Addr × V) :=
  if (valV (ndP xs) k).isSome then xs.map fun x => if x.1 = k then (x.1, x.2.1, v) else x else xs ++ [(k, b, v)]
theorem nPut_p (xs : List (NK × Addr × V)) (k : NK) (b : Addr) (v : V) : ndP (nPut xs k b v) = putK (ndP xs) k v := by
  unfold nPut putK
  rw [valV_any]
  by_cases q : (valV (ndP xs) k).isSome = true
  · rw [if_pos q, if_pos q]
    unfold ndP
    rw [List.map_map, List.map_map]
    refine List.map_congr_left fun x _ => ?_
    show (fun x : NK × Addr × V => (x.1, x.2.2)) (if x.1 = k then (x.1, x.2.1, v) else x) = if x.1 = k then (x.1, v) else (x.1, x.2.2)
    by_cases e : x.1 = k
    · rw [if_pos e, if_pos e]
    · rw [if_neg e, if_neg e]
  · rw [if_neg q, if_neg q]
    simp [ndP]
theorem nPut_key {xs : List (NK × Addr × V)} (hx : ∀ x ∈ xs, KyAt H x.1 x.2.1) (hk : KyAt H k b) : ∀ x ∈ nPut xs k b v, KyAt H x.1 x.2.1 := by
  intro x hm
  unfold nPut at hm
  split at hm
  · obtain ⟨y, hy, rfl⟩ := List.mem_map.mp hm
    by_cases e : y.1 = k
    · rw [if_pos e]; exact hx y hy
    · rw [if_neg e]; exact hx y hy
  · rcases List.mem_append.mp hm with hm | hm
    · exact hx x hm
    · rw [List.mem_singleton] at hm
      subst hm; exact hk
theorem nPut_len (xs : List (NK × Addr × V)) (k : NK) (b : Addr) (v : V) : (nPut xs k b v).length ≤ xs.length + 1 := by
  unfold nPut
  split <;> simp
theorem nr_put {xs : List (NK × Addr × V)} {ys : List (NK × Addr × Value)} (r : NR xs ys) (k : NK) (b : Addr) {y : V} {u : Value} (ry : RelV y u) : NR (nPut xs k b y) (storedH ys k b u) := by
  unfold nPut storedH
  have q := (nr_val r k).isSome_eq
  rw [Option.isSome_map] at q
  rw [q]
  by_cases e : (atKey ys k).isSome = true
  · rw [if_pos e, if_pos e]
    clear q e
    induction r with
    | nil => exact .nil
    | @cons p q ps qs h t ih =>
      refine .cons ?_ ih
      by_cases e : p.1 = k
      · have e' : q.1 = k := h.1.symm.trans e
        simp only [putAt, if_pos e, if_pos e']; exact ⟨h.1, h.2.1, ry⟩
      · have e' : ¬ q.1 = k := fun z => e (h.1.trans z)
        simp only [putAt, if_neg e, if_neg e']; exact h
  · rw [if_neg e, if_neg e]
    exact Paired.snoc r ⟨rfl, rfl, ry⟩
def nDrop (xs : List (NK × Addr × V)) (k : NK) : List (NK × Addr × V) := xs.filter fun x => decide (x.1 ≠ k)
theorem nDrop_p (xs : List (NK × Addr × V)) (k : NK) : ndP (nDrop xs k) = dropK (ndP xs) k := by
  unfold nDrop dropK ndP
  rw [List.filter_map]
  rfl
theorem nr_drop {xs : List (NK × Addr × V)} {ys : List (NK × Addr × Value)} (r : NR xs ys) (k : NK) : NR (nDrop xs k) (withoutH ys k) := by
  induction r with
  | nil => exact .nil
  | @cons p q ps qs h t ih =>
    by_cases e : p.1 = k
    · have e' : q.1 = k := h.1.symm.trans e
      have z1 : nDrop (p :: ps) k = nDrop ps k := by simp [nDrop, e]
      have z2 : withoutH (q :: qs) k = withoutH qs k := by simp [withoutH, e']
      rw [z1, z2]; exact ih
    · have e' : ¬ q.1 = k := fun z => e (h.1.trans z)
      have z1 : nDrop (p :: ps) k = p :: nDrop ps k := by simp [nDrop, e]
      have z2 : withoutH (q :: qs) k = q :: withoutH qs k := by simp [withoutH, e']
      rw [z1, z2]; exact .cons h ih
end
section
variable {X : Cx} {n : Nat}
theorem room_nk {A : Around} (hr : Room n A) : (nestedKind X.prog X.w).room A.in1 := by
  show A.units + 1 + 8 < cLine
  have := hr.units
  omega
theorem nd_type {pins : List (Addr × Obj)} {s : Shared} {σ : L2.St} {H : Hp} {a : Addr} {kvs : List (NK × V)} (I : Inv X pins σ H s) (d : ND X.prog X.w H a kvs) : s.TypeIs (.ref a) "dict" ∧ ∃ ob, s.heap.get? a = some ob ∧ ob.dict = none := by
  obtain ⟨xs, h1, _, h3, _⟩ := d
  obtain ⟨ys, _, dd⟩ := nd_at I.hok h1 h3
  refine ⟨dd.typeIs, ?_⟩
  obtain ⟨o, _, _, e, x, _⟩ := dd
  exact ⟨o, e, x.2.1⟩
/-- d[k] -/
def rIxN (P : Program) (w : World) : R2 := fun x y H Q => ∃ a b kvs k v, x = .ref a ∧ y = .ref b ∧ ND P w H a kvs ∧ KyAt H k b ∧ valV kvs k = some v ∧ Q v H
theorem ix_N (hr : Room n X.A) : IxR X (rIxN X.prog X.w) := by
  intro value slice pins s σ H x y v u Q I rx ry h hs
  obtain ⟨a, b, kvs, k, z, rfl, rfl, d, hk, hv, q⟩ := h
  obtain rfl : v = Value.ref a := rx
  obtain rfl : u = Value.ref b := ry
  obtain ⟨xs, h1, rfl, h3, h4, h5⟩ := d
  obtain ⟨ys, r, dd⟩ := nd_at I.hok h1 h3
  obtain ⟨w', hw, rw'⟩ := RelO.some_of (v := z) (o := (atKey ys k).map (·.2)) (by rw [← hv]; exact nr_val r k)
  obtain ⟨p, hp, rfl⟩ := Option.map_eq_some_iff.mp hw
  exact subscriptTail_builtinR (x := p.2) dd.typeIs PySem.F.slot_dict_getitem.lookup
    (wpAny_getItem_heap (Q := fun r s' => r = p.2 ∧ EP X pins σ Q r s') (room_nk hr) (key_is I.hok hk) dd hp ⟨rfl, z, H, I.tok _, rw', q⟩) hs
/-- k in d -/
def rInN (P : Program) (w : World) : R2 := fun y x H Q => ∃ a b kvs k, x = .ref a ∧ y = .ref b ∧ ND P w H a kvs ∧ KyAt H k b ∧ Q (.bl (valV kvs k).isSome) H
theorem op_inN (hr : Room n X.A) : OpR X (compareOp .In) (rInN X.prog X.w) := by
  intro pins s σ H y x u v Q I ry rx h
  obtain ⟨a, b, kvs, k, rfl, rfl, d, hk, q⟩ := h
  obtain rfl : v = Value.ref a := rx
  obtain rfl : u = Value.ref b := ry
  obtain ⟨xs, h1, rfl, h3, h4, h5⟩ := d
  obtain ⟨ys, r, dd⟩ := nd_at I.hok h1 h3
  refine wpAny_in_heap (room_nk hr) (key_is I.hok hk) h5 dd ?_
  have e := (nr_val r k).isSome_eq
  rw [Option.isSome_map] at e
  rw [← e]
  exact ⟨.bl _, H, I.tok _, rfl, q⟩
/-- d[k] = v -/
def rSetN (P : Program) (w : World) : V → V → V → Hp → (Hp → Prop) → Prop := fun o i v H Q => ∃ a b kvs k, o = .ref a ∧ i = .ref b ∧ ND P w H a kvs ∧ KyAt H k b ∧ kvs.length < sizeLine ∧
  ∀ u, ND P w (upd H a u) a (putK kvs k v) → Q (upd H a u)
theorem set_N (hr : Room n X.A) : PSet X (rSetN X.prog X.w) := by
  intro pins s σ H o i v ov iv u Q I ro ri rv h
  obtain ⟨a, b, kvs, k, rfl, rfl, d, hk, hl, q⟩ := h
  obtain rfl : ov = Value.ref a := ro
  obtain rfl : iv = Value.ref b := ri
  obtain ⟨xs, h1, rfl, h3, h4, h5⟩ := d
  obtain ⟨ys, r, dd⟩ := nd_at I.hok h1 h3
  have hz : ys.length ≤ sizeLine := by rw [← Paired.length r]; exact h4
  refine wpAny_setItem_heap (hsz := hz) (room_nk hr) (key_is I.hok hk) dd fun h' dd' hs => ?_
  have tp : ∀ c ys', H c = some (.tup ys') → upd H a (ndO X.prog X.w a (nPut xs k b v)) c = some (.tup ys') := fun c ys' e => by
    rw [upd_ne (ne_of e h1 (fun z => ndO_tup z.symm))]; exact e
  have he : ∃ q, h'.get? a = some q := let ⟨q, _, _, hq, _⟩ := dd'; ⟨q, hq⟩
  have I' : ∀ t, Inv X pins σ (upd H a (ndO X.prog X.w a (nPut xs k b v))) { s with heap := h', toks := t } := fun t =>
    d_write (t' := t) I (by rw [h1]; exact True.intro) hs he (ndO_ok (nr_put r k b rv) dd')
  have hlen : (ndP xs).length = xs.length := by simp [ndP]
  refine ⟨_, I' _, q _ ⟨_, upd_same, nPut_p xs k b v, fun x hx => (nPut_key h3 hk x hx).keeps tp, ?_, h5⟩⟩
  have := nPut_len xs k b v
  omega
/-- d.pop(k), k there -/
def rPopN (P : Program) (w : World) : V → List V → Hp → VK → Prop := fun x vs H Q => ∃ a b kvs k v, x = .ref a ∧ vs = [.ref b] ∧ ND P w H a kvs ∧ KyAt H k b ∧ valV kvs k = some v ∧
  ∀ u, ND P w (upd H a u) a (dropK kvs k) → Q v (upd H a u)
theorem mt_popN (hr : Room n X.A) : MtR X "dict.pop" (rPopN X.prog X.w) := by
  intro pins s σ H x vs v us Q I rx rvs h
  obtain ⟨a, b, kvs, k, z, rfl, rfl, d, hk, hv, q⟩ := h
  obtain rfl : v = Value.ref a := rx
  obtain ⟨u1, rfl, r1⟩ := vals1 rvs
  obtain rfl : u1 = Value.ref b := r1
  obtain ⟨xs, h1, rfl, h3, h4, h5⟩ := d
  obtain ⟨ys, r, dd⟩ := nd_at I.hok h1 h3
  have hz : ys.length ≤ sizeLine := by rw [← Paired.length r]; exact h4
  obtain ⟨w', hw, rw'⟩ := RelO.some_of (v := z) (o := (atKey ys k).map (·.2)) (by rw [← hv]; exact nr_val r k)
  obtain ⟨p, hp, rfl⟩ := Option.map_eq_some_iff.mp hw
  refine call_pop_heap (hsz := hz) (more := []) (.inl rfl) (PySem.F.args_dict_pop_2 _ _) (room_nk hr) (key_is I.hok hk) h5 dd hp fun h' dd' hs => ?_
  have tp : ∀ c ys', H c = some (.tup ys') → upd H a (ndO X.prog X.w a (nDrop xs k)) c = some (.tup ys') := fun c ys' e => by
    rw [upd_ne (ne_of e h1 (fun z => ndO_tup z.symm))]; exact e
  have he : ∃ q, h'.get? a = some q := let ⟨q, _, _, hq, _⟩ := dd'; ⟨q, hq⟩
  have I' : ∀ t, Inv X pins σ (upd H a (ndO X.prog X.w a (nDrop xs k))) { s with heap := h', toks := t } := fun t =>
    d_write (t' := t) I (by rw [h1]; exact True.intro) hs he (ndO_ok (nr_drop r k) dd')
  refine ⟨z, _, I' _, rw', q _ ⟨_, upd_same, nDrop_p xs k, fun x hx => (h3 x (List.mem_filter.mp hx).1).keeps tp, ?_, h5⟩⟩
  exact Nat.le_trans (List.length_filter_le _ _) h4
/-- {} -/
def tDNewN (P : Program) (w : World) : TE := fun _ H Q => ∀ p u, H p = none → ND P w (upd H p u) p [] → Q (.ref p) (upd H p u)
theorem pe_dnewN {pos : Pos} : PE X (.Dict [] [] pos) (tDNewN X.prog X.w) := ⟨fun pins s σ H Q I h =>
  wpAny_Dict_empty (by
    have hn : (s.heap.objs.size == sysModules) = false := beq_eq_false_iff_ne.mpr (Ne.symm (Nat.ne_of_lt I.big))
    have I' : Inv X pins σ (upd H s.heap.objs.size (ndO X.prog X.w s.heap.objs.size [])) { s with heap := s.heap.push { cls := .type "dict", data := .dict #[] } } :=
      I.laid (t' := s.toks) (fun b o e => Heap.get?_push_of_some _ e) (Nat.le_refl _) (ndO_ok (ys := []) .nil (Heap.DictOfH.new s.heap))
    exact ⟨.ref s.heap.objs.size, _, I', rfl, h _ _ (I.hok.fresh (Nat.le_refl _)) ⟨[], upd_same, rfl, ⟨fun x hx => (by simp at hx), Nat.zero_le _, hn⟩⟩⟩)⟩
/-! ### pop of a dict whose keys are tuples -/
def rPopT1 : V → List V → Hp → VK → Prop := fun x vs H Q => ∃ (a b : Addr) (kvs : List (List L2.Key × V)) (k : List L2.Key) (v : V), x = .ref a ∧ vs = [.ref b] ∧ H a = some (.dT kvs) ∧ H b = some (.tup (k.map kV)) ∧ valV kvs k = some v ∧ Q v (upd H a (.dT (dropK kvs k)))
theorem kt_drop {H : Hp} (k : List L2.Key) : ∀ {kvs : List (List L2.Key × V)} {xs : List (List L2.Key × Addr × Value)}, KT H kvs xs → KT H (dropK kvs k) (withoutH xs k) := by
  intro kvs xs r
  induction r with
  | nil => exact .nil
  | @cons p q ps qs h t ih =>
    by_cases e : p.1 = k
    · have e' : q.1 = k := h.1.symm.trans e
      have z2 : withoutH (q :: qs) k = withoutH qs k := by simp [withoutH, e']
      rw [dropK_pos e, z2]; exact ih
    · have e' : ¬ q.1 = k := fun z => e (h.1.trans z)
      have z2 : withoutH (q :: qs) k = q :: withoutH qs k := by simp [withoutH, e']
      rw [dropK_neg e, z2]; exact .cons h ih
theorem mt_popT1 (hr : Room n X.A) : MtR X "dict.pop" rPopT1 := by
  intro pins s σ H x vs v us Q I rx rvs h
  obtain ⟨a, b, kvs, k, z, rfl, rfl, ha, hb, hv, q⟩ := h
  obtain rfl : v = Value.ref a := rx
  obtain ⟨u1, rfl, r1⟩ := vals1 rvs
  obtain rfl : u1 = Value.ref b := r1
  obtain ⟨h4, h5, ys, r, dd⟩ := dt_of I.hok ha
  have hz : ys.length ≤ sizeLine := by rw [← Paired.length r]; exact h4
  obtain ⟨w', hw, rw'⟩ := RelO.some_of (v := z) (o := (atKey ys k).map (·.2)) (by rw [← hv]; exact r.val k)
  obtain ⟨p, hp, rfl⟩ := Option.map_eq_some_iff.mp hw
  refine call_pop_heap (hsz := hz) (more := []) (.inl rfl) (PySem.F.args_dict_pop_2 _ _) (tupleKind_room_in1 (hu_of hr)) (key_of I.hok hb) h5 dd hp fun h' dd' hs => ?_
  obtain ⟨o, es, ep, o1, o2, o3, o4, _, o5⟩ := dd'
  have I' : ∀ t, Inv X pins σ (upd H a (.dT (dropK kvs k))) { s with heap := h', toks := t } := fun t =>
    d_write (t' := t) I (by rw [ha]; exact True.intro) hs ⟨o, o1⟩ (show ObjOk X.prog X.w (upd H a (.dT (dropK kvs k))) h' a (.dT (dropK kvs k)) from
      ⟨Nat.le_trans (dropK_le kvs k) h4, h5, _, (kt_drop k r).keeps fun c ys' e => by rw [upd_ne (ne_of e ha (fun z => nomatch z))]; exact e, o, es, ep, o1, o2, o3, o4, o5⟩)
  exact ⟨z, _, I' _, rw', q⟩
/-- a nested dict as a method's receiver -/
def tyND (P : Program) (w : World) (x : V) (H : Hp) : Prop := ∃ a kvs, x = .ref a ∧ ND P w H a kvs
theorem ty_nd : TyOk X "dict" (tyND X.prog X.w) := by
  intro pins σ H s x v I r ty
  obtain ⟨a, kvs, rfl, d⟩ := ty
  obtain rfl : v = Value.ref a := r
  obtain ⟨h1, h2⟩ := nd_type I d
  exact ⟨h1, fun b e => by cases e; exact h2⟩
end
end Kx
set_option maxHeartbeats 4000000
/-! {k: v for .. in ..} whose keys are tuples of ints. -/
namespace Kx
open PySem PySem.Spec PyProof.Rows L2
theorem dt_dictSet {X : Cx} {pins : List (Addr × Obj)} {σ : L2.St} {H : Hp} {s : Shared} {E : Value → Shared → Prop} {D b : Addr} {kvs : List (List L2.Key × V)} {k : List L2.Key} {v : V} {r : Value} {Q : Unit → Shared → Prop}
    (hu : X.A.units + 1 < cLine) (I : Inv X pins σ H s) (hD : H D = some (.dT kvs)) (hb : H b = some (.tup (k.map kV))) (hz : kvs.length < sizeLine) (rv : RelV v r)
    (q : ∀ s', Inv X pins σ (upd H D (.dT (putK kvs k v))) s' → Q () s') : wpAny (model X.prog X.w) X.A (dictSet D (.ref b) r) Q E s := by
  obtain ⟨z1, z2, xs, rel, dd⟩ := dt_of I.hok hD
  have n1 : xs.length ≤ sizeLine := Paired.length rel ▸ z1
  have n2 : (putK kvs k v).length ≤ sizeLine := Nat.le_trans (length_putK kvs k v) hz
  refine wpAny_dictSet_heap (hsz := n1) (Nat.lt_of_lt_of_le (Nat.lt_succ_self _) (Nat.le_of_lt hu)) (key_of I.hok hb) dd fun h' dd' hs => ?_
  obtain ⟨o, es, ep, o1, o2, o3, o4, _, o5⟩ := dd'
  have keep : ∀ c ys, H c = some (.tup ys) → upd H D (.dT (putK kvs k v)) c = some (.tup ys) := fun c ys e => by
    rw [upd_ne (ne_of e hD (fun z => nomatch z))]; exact e
  have new : ObjOk X.prog X.w (upd H D (.dT (putK kvs k v))) h' D (.dT (putK kvs k v)) := ⟨n2, z2, _, (rel.put k hb rv).keeps keep, o, es, ep, o1, o2, o3, o4, o5⟩
  exact q _ (d_write I (by rw [hD]; exact True.intro) hs ⟨o, o1⟩ new)
section
variable {X : Cx}
/-- the promise of such a block -/
def tDcT (wi : TI) (g : TG) (tk tv : TE) (vs : List Nat) : TE := fun σ H Q => wi σ H fun J H1 => ∀ D, H1 D = none → ∃ W : Nat → Nat → Hp → Prop, (∃ m, W 0 m (upd H1 D (.dT []))) ∧ ∀ i m H, W i m H →
  (J.stop i H ∧ Q (.ref D) H) ∨ (J.go i H ∧ ∃ Nx : Hp → Prop, (∀ H', Nx H' → ∃ m', m' < m ∧ W (i + 1) m' H') ∧ ∀ x H', J.yld i H x H' → g x (wipe σ vs) H' fun σ2 H2 => wipe σ2 vs = wipe σ vs ∧
    tk σ2 H2 fun y H4 => tv σ2 H4 fun z H5 => ∃ b kvs k, y = .ref b ∧ H5 b = some (.tup (List.map kV k)) ∧ H5 D = some (.dT kvs) ∧ kvs.length < sizeLine ∧ Nx (upd H5 D (.dT (putK kvs k z))))
theorem pe_dcT {kx vx tg iter : Expr} {scope : Scope} {own : List (Str × Nat)} {pos : Pos} {wi : TI} {g : TG} {tk tv : TE} (hu : X.A.units + 1 < cLine) (hc : X.calm = true) (hN : X.N.Nodup) (hi : PI X tg iter wi) (ok : BlkOk X.N X.env.scope scope own)
    (hg : ∀ s H C cl fp, PG (X.blk s H scope (compEnvC scope cl C X.env) fp) tg g) (hk : ∀ s H C cl fp, PE (X.blk s H scope (compEnvC scope cl C X.env) fp) kx tk)
    (he : ∀ s H C cl fp, PE (X.blk s H scope (compEnvC scope cl C X.env) fp) vx tv) (hs : ∀ x, foldedSetIterable iter X.env x = pure x := by intro _; rfl) :
    PE X (.DictComp kx vx [⟨tg, iter, [], 0⟩] scope pos) (tDcT wi g tk tv (own.map (·.2))) := by
  refine ⟨fun pins s σ H Q I h => ?_⟩
  rw [arm_eval_DictComp]
  have fr : ∀ y ∈ scope.names, y.2 = .free → ∃ c, X.env.cells.lookup y.1 = some c := fun y hy e => (ok.free y hy e).elim (fun k => I.ok.has _ (.inl k)) fun k => I.ok.has _ (.inr k)
  refine wpAny_comprehension_free (use := none) rfl hs (closure_ok fr) ok.kind (fun y hy e => by rw [ok.uniq y hy, e]) ?_
  refine thn (hi.run pins s σ H _ I h) fun xv s1 hx => thn hx fun itv s2 h2 => ?_
  obtain ⟨it, fp, tn, J, H2, rfl, I2, T, st2, f2, q⟩ := h2
  refine wpAny_newObj_type (newEnv_comp ?_)
  obtain ⟨W, ⟨m0, w0⟩, turn⟩ := q s2.heap.objs.size (I2.hok.fresh (Nat.le_refl _))
  let D : Addr := s2.heap.objs.size
  let s3 : Shared := { s2 with heap := s2.heap.push { cls := .type "dict", data := .dict #[] } }
  let H3 : Hp := upd H2 D (.dT [])
  let cl := cellsFrom (s3.heap.objs.size + 1) scope.names (cloFrom X.env.cells scope.names [])
  let ce := compEnvC scope cl s3.heap.objs.size X.env
  let Y := X.blk s3 H3 scope ce fp
  have low : ∀ b ∈ fp, b < s2.heap.objs.size := fun b hb => let ⟨_, e, _⟩ := T.obj _ _ st2 b hb; Heap.lt_size e
  have I3 : Inv X pins σ H3 s3 := I2.laid (t' := s2.toks) (fun _ _ e => Heap.get?_push_of_some _ e) (Nat.le_refl _) (dt_empty s2.heap I2.big)
  have f3 : ∀ b ∈ fp, FpOk X pins H3 b ∧ b < s3.heap.objs.size := fun b hb =>
    ⟨⟨(upd_ne (Nat.ne_of_lt (low b hb))).trans (f2 b hb).1, (f2 b hb).2⟩, (Heap.size_push s2.heap _).symm ▸ Nat.lt_succ_of_lt (low b hb)⟩
  have st3 : tn 0 s3.heap := T.keep _ _ _ st2 fun b _ o e => Heap.get?_push_of_some _ e
  have I4 := block_start I3 ok hN f3
  have st4 : tn 0 (pushCells (s3.heap.push { cls := .type "dict", data := .dict #[] }) scope.names) := T.keep _ _ _ st3 fun b _ o e => pushCells_keeps _ _ _ _ (Heap.get?_push_of_some _ e)
  have stat : ∀ {τ : L2.St} {G : Hp} {t : Shared}, Inv Y [] τ G t → (∀ b ∈ fp, G b = none) → ∀ b ∈ fp, FpOk Y [] G b := fun {τ G t} I' n b hb =>
    ⟨n b hb, (I'.ok.exf b hb).1, I'.ok.exfs b hb, .inl hb, fun x c e => (I'.ok.exf b hb).2 x c e, fun p hp => absurd hp (by show ¬ p ∈ ([] : List (Addr × Obj)) ++ []; simp)⟩
  have hce : ce.locals = s3.heap.objs.size := rfl
  have loop : codeAny (model X.prog X.w) X.A (.compLoop (.DictComp kx vx [⟨tg, iter, [], 0⟩] scope pos) 0 (.ref it) (.ref D) ce)
      (compPost (model X.prog X.w) X.A X.xe none (EP X pins σ Q) (.ref D) s3.heap.objs.size) { s3 with heap := pushCells (s3.heap.push { cls := .type "dict", data := .dict #[] }) scope.names } := by
    refine compLoop_anyD (fun n t => ∃ i G, Inv Y [] (wipe σ (own.map (·.2))) G t ∧ tn i t.heap ∧ (∀ b ∈ fp, G b = none) ∧ W i n G) ?_ m0 ⟨0, H3, I4, st4, fun b hb => (f3 b hb).1.1, w0⟩
    rintro n t ⟨i, G, IG, sG, nG, wG⟩
    rcases turn i n G wG with ⟨stop, fin⟩ | ⟨go, Nx, less, body⟩
    · refine thnF (T.done Y rfl rfl rfl hc i [] t _ G (fun _ _ => False) IG (stat IG nG) sG stop) fun r t' ⟨hr, I6⟩ => ?_
      subst hr
      have I7 : Inv X pins σ G t' := I3.call' (ch := fp) I6.os I6.base I6.hok I6.bare fun b hb => let z := (f3 b hb).1.2; ⟨z.2.2.1, z.1, z.2.2.2.1, z.2.2.2.2⟩
      have nC : G s3.heap.objs.size = none := hce ▸ I6.free
      obtain ⟨m, hn, _⟩ := I6.loc
      obtain ⟨f0, f1, _, g3, g4, g5⟩ := I3.fpOk (Nat.le_refl _) nC
      exact ⟨m, (show t'.heap.Ns ce.locals m from hn), fun h'' sb => ⟨.ref D, G, I7.turned (t' := t'.toks) (fun b o hb e => (sb.2 b hb).trans e) f0 f1 g3 g4 g5, rfl, fin⟩⟩
    · refine thnF (T.item Y rfl rfl rfl hc i [] t _ G (fun _ _ => False) IG (stat IG nG) sG go) fun r t6 ⟨u, hr, h6⟩ => ?_
      subst hr
      refine thnF h6 fun _ t7 ⟨x, G7, I7, r7, y7, st7, n7⟩ => ?_
      have P7 := I7.pinned (stat I7 n7) (T.obj _ _ st7)
      refine thnF ((hg s3 H3 s3.heap.objs.size cl fp).run _ t7 _ G7 x u _ P7 r7 (body x G7 y7)) fun _ t8 ⟨σ8, G8, I8, hw, q8⟩ => ?_
      refine wpAny_pure ?_
      simp only [if_true]
      refine thnF ((hk s3 H3 s3.heap.objs.size cl fp).run _ t8 σ8 G8 _ I8 q8) fun kv t9 ⟨y, G9, I9, r9, q9⟩ => ?_
      refine thnF ((he s3 H3 s3.heap.objs.size cl fp).run _ t9 σ8 G9 _ I9 q9) fun vv t10 ⟨z, G10, I10, r10, b, kvs, k, ey, hb, hD, hz, nx⟩ => ?_
      subst ey
      obtain rfl : kv = Value.ref b := r9
      refine dt_dictSet (X := Y) hu I10 hD hb hz r10 fun t11 I11 => ?_
      obtain ⟨m', hm, w'⟩ := less _ nx
      have pin' : ∀ c ∈ fp, ∀ o, t7.heap.get? c = some o → t11.heap.get? c = some o ∧ (upd G10 D (.dT (putK kvs k z))) c = none := fun c hc' o e =>
        let z := I11.pin (c, o) (List.mem_append_right _ (List.mem_append_right _ (mem_pinsAt hc' e))); ⟨z.1, z.2.1⟩
      have hl : (wipe σ (own.map (·.2))).length = σ8.length := by rw [← hw, wipe_length]
      refine ⟨m', hm, i + 1, _, (I11.unpinned (pins := [])).weak hl (fun j v e => ?_), T.keep _ _ _ st7 fun c hc' o e => (pin' c hc' o e).1, fun c hc' => ?_, w'⟩
      · rw [← hw] at e
        exact (wipe_some e).1
      · obtain ⟨o, e, _⟩ := T.obj _ _ st7 c hc'
        exact (pin' c hc' o e).2
  exact codeAny_compStart_dict loop (T.self X.A 0 _ _ _ st4 loop)
end
end Kx
set_option maxHeartbeats 4000000
/-! sorted(list of ((i, j), (k, l))); sorted(dict) whose keys are pairs of ints. -/
namespace Kx
open PySem PySem.Spec PyProof.Rows L2
open SrtO (Swo Srtd Stb lexB Cmp lt2 SortableO)
abbrev PP := (Int × Int) × (Int × Int)
def lexPP (x y : PP) : Bool := if x.1 = y.1 then lexB x.2 y.2 else lexB x.1 y.1
theorem lexB_irr (p : Int × Int) : lexB p p = false := SrtO.lexB_no.mpr (by omega)
theorem lexB_tot {p q : Int × Int} (h : p ≠ q) : lexB p q = true ∨ lexB q p = true := by
  rw [SrtO.lexB_iff, SrtO.lexB_iff]
  have : ¬ (p.1 = q.1 ∧ p.2 = q.2) := fun z => h (Prod.ext z.1 z.2)
  omega
theorem swo_PP (k : Value → PP) : Swo fun v u => lexPP (k v) (k u) := by
  refine ⟨fun x y h => ?_, fun x y z h1 h2 => ?_⟩
  · unfold lexPP at *
    by_cases e : (k x).1 = (k y).1
    · rw [if_pos e] at h
      rw [if_pos e.symm]
      have a := SrtO.lexB_iff.mp h
      exact SrtO.lexB_no.mpr (by omega)
    · rw [if_neg e] at h
      rw [if_neg fun z => e z.symm]
      have a := SrtO.lexB_iff.mp h
      exact SrtO.lexB_no.mpr (by omega)
  · unfold lexPP at *
    by_cases e : (k y).1 = (k x).1
    · rw [if_pos e] at h1
      have a := SrtO.lexB_no.mp h1
      by_cases e2 : (k z).1 = (k y).1
      · rw [if_pos e2] at h2
        rw [if_pos (e2.trans e)]
        have b := SrtO.lexB_no.mp h2
        exact SrtO.lexB_no.mpr (by omega)
      · rw [if_neg e2] at h2
        rw [if_neg fun q => e2 (q.trans e.symm), ← e]
        exact h2
    · rw [if_neg e] at h1
      have a := SrtO.lexB_no.mp h1
      have ne1 : ¬ ((k y).1.1 = (k x).1.1 ∧ (k y).1.2 = (k x).1.2) := fun q => e (Prod.ext q.1 q.2)
      by_cases e2 : (k z).1 = (k y).1
      · rw [e2, if_neg e]; exact h1
      · rw [if_neg e2] at h2
        have b := SrtO.lexB_no.mp h2
        have ne2 : ¬ ((k z).1.1 = (k y).1.1 ∧ (k z).1.2 = (k y).1.2) := fun q => e2 (Prod.ext q.1 q.2)
        have e3 : ¬ (k z).1 = (k x).1 := fun q => by
          rw [q] at b ne2
          omega
        rw [if_neg e3]
        exact SrtO.lexB_no.mpr (by omega)
abbrev IsP (h : Heap) (v : Value) (p : Int × Int) : Prop := Srt.IsPair h v p.1 p.2
/-- a pair of pairs -/
def IsPP (h : Heap) (v : Value) (k : PP) : Prop := ∃ (a : Addr) (o : Obj) (u1 u2 : Value) (n : Nat), v = .ref a ∧ h.get? a = some o ∧ o.cls = .type "tuple" ∧ o.data = .seq #[u1, u2] n ∧ IsP h u1 k.1 ∧ IsP h u2 k.2
section
variable {prog : Program} {w : World} {A : Around} {E : Value → Shared → Prop} {s : Shared}
theorem isP_tup {h : Heap} {v : Value} {p : Int × Int} (x : IsP h v p) : ∃ a, v = .ref a ∧ ∃ t u, h.IsTuple a #[.int p.1 t, .int p.2 u] ∧ IsTupleKey (mixKind prog w) h [Sum.inl p.1, Sum.inl p.2] a := by
  obtain ⟨a, o, t, u, n, e, ho, hc, hd⟩ := x
  exact ⟨a, e, t, u, ⟨o, ho, hc, n, hd⟩, ⟨o, _, n, ho, hc, hd, .cons (mixKind_int prog w p.1 t) (.cons (mixKind_int prog w p.2 u) .nil)⟩⟩
theorem isP_tup1 {h : Heap} {v : Value} {p : Int × Int} (x : IsP h v p) : ∃ a, v = .ref a ∧ ∃ t u, h.IsTuple a #[.int p.1 t, .int p.2 u] := by
  obtain ⟨a, o, t, u, n, e, ho, hc, hd⟩ := x
  exact ⟨a, e, t, u, ⟨o, ho, hc, n, hd⟩⟩
theorem isP_lt {v u : Value} {p q : Int × Int} (hu : A.units < cLine) (x : IsP s.heap v p) (y : IsP s.heap u q) : Ob.RcOp .Lt A s v u (lexB p q) := by
  obtain ⟨a, rfl, t1, t2, ht⟩ := isP_tup1 x
  obtain ⟨b, rfl, t3, t4, hb⟩ := isP_tup1 y
  have z := Ob.RcOp.tuples_lt (A := A) (s := s) (e := fun j => if j = 0 then decide (p.1 = q.1) else decide (p.2 = q.2)) (r := fun j => if j = 0 then decide (p.1 < q.1) else decide (p.2 < q.2)) ht hb hu
    (fun j h1 h2 => by
      match j, h1 with
      | 0, _ => exact SeqAt.EqAt.int_int _ _ _ _
      | 1, _ => exact SeqAt.EqAt.int_int _ _ _ _)
    (fun j h1 h2 _ => by
      match j, h1 with
      | 0, _ => exact Ob.RcOp.lt_int _ _ _ _
      | 1, _ => exact Ob.RcOp.lt_int _ _ _ _)
  have e : Ob.lexAt (fun j => if j = 0 then decide (p.1 = q.1) else decide (p.2 = q.2)) (fun j => if j = 0 then decide (p.1 < q.1) else decide (p.2 < q.2)) (decide ((#[Value.int p.1 t1, Value.int p.2 t2] : Array Value).size < (#[Value.int q.1 t3, Value.int q.2 t4] : Array Value).size)) 0
      (min (#[Value.int p.1 t1, Value.int p.2 t2] : Array Value).size (#[Value.int q.1 t3, Value.int q.2 t4] : Array Value).size) = lexB p q := by
    show Ob.lexAt _ _ (decide (2 < 2)) 0 2 = _
    rw [Ob.lexAt_succ, Ob.lexAt_succ, Ob.lexAt_zero]
    unfold SrtO.lexB
    by_cases e1 : p.1 = q.1
    · simp [e1]
      by_cases e2 : p.2 = q.2
      · simp [e2]
      · simp [e2]
    · simp [e1]
  rw [e] at z
  exact z
theorem isP_eq {v u : Value} {p q : Int × Int} {Q : Bool → Shared → Prop} (hu : A.units < cLine) (x : IsP s.heap v p) (y : IsP s.heap u q) (h : Q (decide (p = q)) s) : wpAny (model prog w) A (eqBool v u) Q E s := by
  obtain ⟨a, rfl, _, _, _, k1⟩ := isP_tup (prog := prog) (w := w) x
  obtain ⟨b, rfl, _, _, _, k2⟩ := isP_tup (prog := prog) (w := w) y
  refine wpAny_eqBool_tuple hu k1 k2 ?_
  have e : decide ([(Sum.inl p.1 : L2.Key), Sum.inl p.2] = [Sum.inl q.1, Sum.inl q.2]) = decide (p = q) := by
    refine decide_eq_decide.mpr ⟨fun z => ?_, fun z => by rw [z]⟩
    simp at z
    exact Prod.ext z.1 z.2
  rw [e]; exact h
theorem IsPP.keeps {h h' : Heap} {v : Value} {k : PP} (x : IsPP h v k) (kp : ∀ b o, h.get? b = some o → o.cls = .type "tuple" → h'.get? b = some o) : IsPP h' v k := by
  obtain ⟨a, o, u1, u2, n, e, ho, hc, hd, p1, p2⟩ := x
  exact ⟨a, o, u1, u2, n, e, kp _ _ ho hc, hc, hd, p1.keeps kp, p2.keeps kp⟩
theorem pp_cmp {vs : List Value} {k : Value → PP} (hu : A.units < cLine) (hp : ∀ v ∈ vs, IsPP s.heap v (k v)) : Cmp prog w A s (tuples' false) (fun p => p.1 ∈ vs) (lt2 fun v u => lexPP (k v) (k u)) := by
  intro p q hm hm'
  have h1 := hp _ hm
  have h2 := hp _ hm'
  show wpAny (model prog w) A (keyLt' (tuples' false) p.1 q.1) (fun r s' => s' = s ∧ r = lexPP (k p.1) (k q.1)) (fun _ _ => False) s
  generalize k p.1 = x at h1 ⊢
  generalize k q.1 = y at h2 ⊢
  obtain ⟨a, o, u1, u2, n, e, ho, hc, hd, a1, a2⟩ := h1
  obtain ⟨b, o', v1, v2, m, e', ho', hc', hd', b1, b2⟩ := h2
  rw [e, e']
  refine PySem.W.kat_lt ho hd ho' hd' ?_
  show PySem.W.KatLex prog w A false (decide (2 < 2)) _ [(u1, v1), (u2, v2)] 0 s
  refine PySem.W.kat_cons (isP_eq hu a1 b1 (PySem.W.kat_go (fun c => ?_) fun c => ?_))
  · have c' : x.1 = y.1 := of_decide_eq_true c
    have hx : lexPP x y = lexB x.2 y.2 := if_pos c'
    refine PySem.W.kat_yes (PySem.W.kat_cons (isP_eq hu a2 b2 (PySem.W.kat_go (fun d => ?_) fun d => ?_)))
    · have d' : x.2 = y.2 := of_decide_eq_true d
      refine PySem.W.kat_yes (PySem.W.kat_nil ⟨rfl, ?_⟩)
      rw [hx, d', lexB_irr]
      rfl
    · exact PySem.W.kat_no (PySem.W.kat_one _ _ (isP_lt hu a2 b2 prog w _ _ ⟨rfl, hx.symm⟩))
  · have c' : ¬ x.1 = y.1 := of_decide_eq_false c
    have hx : lexPP x y = lexB x.1 y.1 := if_neg c'
    exact PySem.W.kat_no (PySem.W.kat_one _ _ (isP_lt hu a1 b1 prog w _ _ ⟨rfl, hx.symm⟩))
theorem pp_firsts {h : Heap} {k : Value → PP} : ∀ vs : List Value, (∀ v ∈ vs, IsPP h v (k v)) → ∃ fs : List Value, PySem.W.KatTups h vs fs ∧ fs.length = vs.length ∧ ∀ f ∈ fs, ∃ (q : Addr) (o : Obj), f = Value.ref q ∧ h.get? q = some o ∧ o.cls = .type "tuple"
  | [], _ => ⟨[], PySem.W.KatTups.nil, rfl, fun f hf => by simp at hf⟩
  | v :: vs, x => by
    obtain ⟨fs, z, hl, hi⟩ := pp_firsts vs fun u hu => x u (List.mem_cons_of_mem _ hu)
    obtain ⟨a, o, u1, u2, n, rfl, ho, hc, hd, ⟨b, o2, _, _, _, rfl, ho2, hc2, _⟩, _⟩ := x v (List.mem_cons_self ..)
    refine ⟨.ref b :: fs, PySem.W.KatTups.cons ho hc hd rfl z, by simp [hl], fun f hf => ?_⟩
    rcases List.mem_cons.mp hf with rfl | hf
    · exact ⟨b, o2, rfl, ho2, hc2⟩
    · exact hi f hf
theorem pp_sortable {a : Addr} {vs : List Value} {k : Value → PP} (hu : A.units < cLine) (h0 : 0 < vs.length) (hp : ∀ v ∈ vs, IsPP s.heap v (k v)) (ha : ∀ o, s.heap.get? a = some o → o.cls ≠ .type "tuple") : SortableO prog w A s a vs fun v u => lexPP (k v) (k u) := by
  intro h' keep
  have hp' : ∀ v ∈ vs, IsPP h' v (k v) := fun v hm => (hp v hm).keeps fun b o e c => keep b o (fun z => by subst z; exact ha o e c) e
  obtain ⟨fs, h1, h2, h3⟩ := pp_firsts vs hp'
  refine ⟨tuples' false, fun Q E hq => ?_, pp_cmp hu hp'⟩
  refine PySem.W.kat_kind (T := .type "tuple") h1 (by omega) (fun f hm => ?_) (by rfl) ?_
  · obtain ⟨q, o, rfl, ho, hc⟩ := h3 f hm
    have z : PySem.W.Looks (model prog w) h' (typeOf (.ref q)) o.cls := (PySem.W.Looks.ld ho).andThen .now
    rw [hc] at z
    exact z
  · have e : (Value.type "tuple" != Value.type "tuple") = false := by first | rfl | decide | simp
    rw [e]
    exact hq
theorem ppKey {X : Cx} {pins : List (Addr × Obj)} {σ : L2.St} {H : Hp} {t p q : Addr} {k : PP} (I : Inv X pins σ H s) (ht : H t = some (.tup [.ref p, .ref q])) (hp : H p = some (.tup [.int k.1.1, .int k.1.2])) (hq : H q = some (.tup [.int k.2.1, .int k.2.2])) : IsPP s.heap (.ref t) k := by
  have pr : ∀ {c : Addr} {i : Int × Int}, H c = some (.tup [.int i.1, .int i.2]) → IsP s.heap (.ref c) i := fun {c i} hc => by
    obtain ⟨_, its2, r2, o, ho, hcl, n, hd⟩ := I.hok _ _ hc
    obtain ⟨u1, u2, rfl, ri, rj⟩ := vals2 r2
    obtain ⟨t1, rfl⟩ := ri
    obtain ⟨t2, rfl⟩ := rj
    exact ⟨c, o, t1, t2, n, rfl, ho, hcl, hd⟩
  obtain ⟨_, its2, r2, o, ho, hcl, n, hd⟩ := I.hok _ _ ht
  obtain ⟨u1, u2, rfl, ri, rj⟩ := vals2 r2
  obtain rfl : u1 = Value.ref p := ri
  obtain rfl : u2 = Value.ref q := rj
  exact ⟨t, o, _, _, n, rfl, ho, hcl, hd, pr hp, pr hq⟩
end
def rSortedPP (K : PySem.W.Frag) : List V → Hp → VK → Prop := fun vs H Q => ∃ (a : Addr) (xs : List V) (k : V → PP), vs = [V.ref a] ∧ SqL K H a xs ∧
  (∀ x ∈ xs, ∃ t p q, x = V.ref t ∧ H t = some (.tup [.ref p, .ref q]) ∧ H p = some (.tup [.int (k x).1.1, .int (k x).1.2]) ∧ H q = some (.tup [.int (k x).2.1, .int (k x).2.2])) ∧
  ∀ ys p, ys.Perm xs → H p = none → Q (.ref p) (upd H p (.lst ys))
section
variable {X : Cx} {n : Nat}
theorem cr_sortedPP (hr : Room n X.A) : CallR X (.builtin "sorted") (rSortedPP X.K) := by
  intro pins s σ H vs us Q I r h
  obtain ⟨a, xs, k, rfl, hs, hx, q⟩ := h
  obtain ⟨its, rv, hl, hz⟩ := I.list hs
  obtain ⟨u, rfl, ru⟩ := vals1 r
  obtain rfl : u = Value.ref a := ru
  obtain ⟨e1, e2⟩ := refs_back rv fun x m => by
    obtain ⟨t, _, _, e, _⟩ := hx x m
    exact ⟨t, e⟩
  have hpp : ∀ v ∈ its, IsPP s.heap v (k (backV v)) := fun v hv => by
    obtain ⟨t, rfl⟩ := e2 v hv
    have hm : V.ref t ∈ xs := by rw [e1]; exact List.mem_map.mpr ⟨_, hv, rfl⟩
    obtain ⟨t', p, q', e, ht, hp, hq⟩ := hx _ hm
    cases e
    exact ppKey I ht hp hq
  have hu : X.A.in1.in1.units < cLine := by
    show X.A.units + 1 + 1 < cLine
    have := hr.units
    omega
  refine SrtO.sorted_ord (swo_PP fun v => k (backV v)) hl.isList (by rw [← rv.length]; exact hz) (fun h2 h₁ b hb kk => ?_) fun out hs hb => ?_
  · refine pp_sortable (s := { s with heap := h₁ }) hu (by omega) (fun v hm => (hpp v hm).keeps fun b o e _ => (kk b o e).2) fun o e c => ?_
    rw [hb] at e
    cases e
    exact absurd (Value.type.inj c) (by decide)
  · have h3 : ∀ u ∈ out, ∃ a, u = Value.ref a := fun u hu => e2 u (hb.perm.mem_iff.mp hu)
    obtain ⟨m, hm⟩ := sortedAll_at s.heap its out.toArray
    have hpm : (out.map backV).Perm xs := by rw [e1]; exact hb.perm.map backV
    refine ⟨.ref _, upd H _ (.lst (out.map backV)), I.laid (t' := s.toks) (fun b o e => sortedAll_old e) (Nat.le_succ _) ⟨?_, out, m, vals_back h3, hm⟩, rfl, q _ _ hpm (I.hok.fresh (Nat.le_succ _))⟩
    rw [hpm.length_eq]
    exact hz

/-- pairs of ints at these addresses -/
def Prs (H : Hp) (bs : List Addr) (ps : List (Int × Int)) : Prop := Paired (fun b p => H b = some (.tup [.int p.1, .int p.2])) bs ps
def pk (p : Int × Int) : List L2.Key := [Sum.inl p.1, Sum.inl p.2]
theorem pk_inj {p q : Int × Int} (h : pk p = pk q) : p = q := by
  unfold pk at h
  simp at h
  exact Prod.ext h.1 h.2
def prOf (H : Hp) (b : Addr) : Int × Int := match H b with
  | some (.tup [.int i, .int j]) => (i, j)
  | _ => (0, 0)
theorem prOf_of {H : Hp} {b : Addr} {p : Int × Int} (h : H b = some (.tup [.int p.1, .int p.2])) : prOf H b = p := by
  unfold prOf
  rw [h]
theorem Prs.map_ {H : Hp} {bs : List Addr} (h : ∀ b ∈ bs, H b = some (.tup [.int (prOf H b).1, .int (prOf H b).2])) : Prs H bs (bs.map (prOf H)) := by
  unfold Prs
  induction bs with
  | nil => exact .nil
  | cons b bs ih => exact .cons (h b (List.mem_cons_self ..)) (ih fun c hc => h c (List.mem_cons_of_mem _ hc))
theorem Prs.eq {H : Hp} {bs : List Addr} {ps : List (Int × Int)} (h : Prs H bs ps) : ps = bs.map (prOf H) := by
  unfold Prs at h
  induction h with
  | nil => rfl
  | cons e _ ih => rw [List.map_cons, ← ih, prOf_of e]
theorem Prs.mem {H : Hp} {bs : List Addr} {ps : List (Int × Int)} (h : Prs H bs ps) : ∀ b ∈ bs, H b = some (.tup [.int (prOf H b).1, .int (prOf H b).2]) ∧ prOf H b ∈ ps := by
  unfold Prs at h
  induction h with
  | nil => intro b hb; cases hb
  | cons e _ ih =>
    intro b hb
    rcases List.mem_cons.mp hb with rfl | hb
    · rw [prOf_of e]; exact ⟨e, List.mem_cons_self ..⟩
    · exact ⟨(ih b hb).1, List.mem_cons_of_mem _ (ih b hb).2⟩
/-- p before q or the same -/
def leP (p q : Int × Int) : Prop := lexB q p = false
def rSortedDT : List V → Hp → VK → Prop := fun vs H Q => ∃ (a : Addr) (kvs : List (List L2.Key × V)) (ks : List (Int × Int)), vs = [V.ref a] ∧ H a = some (.dT kvs) ∧ kvs.map (·.1) = ks.map pk ∧
  ∀ (bs : List Addr) (ps : List (Int × Int)) (p : Addr), Prs H bs ps → ps.Perm ks → ps.Pairwise leP → H p = none → Q (.ref p) (upd H p (.lst (bs.map V.ref)))
theorem prs_of_keys {H : Hp} {kvs : List (List L2.Key × V)} {bs : List Addr} (h : IsKeys H kvs bs) : ∀ {ks : List (Int × Int)}, kvs.map (·.1) = ks.map pk → Prs H bs ks := by
  unfold IsKeys at h
  unfold Prs
  induction h with
  | nil =>
    intro ks e
    cases ks with
    | nil => exact .nil
    | cons k ks => simp at e
  | @cons p b ps bs h t ih =>
    intro ks e
    cases ks with
    | nil => simp at e
    | cons k ks =>
      simp only [List.map_cons, List.cons.injEq] at e
      refine .cons ?_ (ih e.2)
      rw [e.1] at h
      exact h
def vAd : Value → Addr
  | .ref a => a
  | _ => 0
theorem cr_sortedDT (hc : X.calm = true) : CallR X (.builtin "sorted") rSortedDT := by
  intro pins s σ H vs us Q I r h
  obtain ⟨a, kvs, ks, rfl, hd, hks, q⟩ := h
  obtain ⟨u, rfl, ru⟩ := vals1 r
  obtain rfl : u = Value.ref a := ru
  obtain ⟨z, lo, xs, pr, o, es, ep, ho, hx, hdt, he, hn⟩ := (show ObjOk X.prog X.w H s.heap a (.dT kvs) from I.hok a _ hd)
  have l1 : es.size = xs.length := size_of_entries he
  have l2 : kvs.length = xs.length := Paired.length pr
  have hz : es.size ≤ sizeLine := by rw [l1, ← l2]; exact z
  refine Calls.call_function_entry PyProof.Rows.kind_sorted PyProof.Rows.plain_sorted PyProof.Rows.entry_sorted (PyProof.Rows.args_sorted1 _) ?_
  unfold Builtin.«sorted»
  refine wpAny_bind (m := checkCount "sorted" 1 1 _) (wpAny_pure ?_)
  refine wpAny_bind (PySem.W.kdu_collect (A := X.A.in1) (kdl_raw lo hx hdt) (I.ok.hd hc) ho hz fun h' tk acc hk it => ?_)
  have ea : acc.toList = (xs.map fun x => x.2.1).map Value.ref := by
    have hl : acc.toList.length = xs.length := by rw [Array.length_toList, it.1]; exact l1
    rw [List.map_map]
    apply List.ext_getElem?
    intro j
    rw [List.getElem?_map]
    cases hj : acc.toList[j]? with
    | none =>
      rw [List.getElem?_eq_none (by have := List.getElem?_eq_none_iff.mp hj; omega)]
      rfl
    | some v =>
      obtain ⟨en, hen, hv⟩ := it.2 j v (by rw [← Array.getElem?_toList]; exact hj)
      have qe := entry_at he j
      rw [hen] at qe
      cases hb : xs[j]? with
      | none => rw [hb] at qe; exact nomatch (show some en = none from qe)
      | some b =>
        rw [hb] at qe
        have e2 : en = entryOfKey (tupleKind (mixKind X.prog X.w)) b := Option.some.inj qe
        rw [hv, e2]
        rfl
  generalize hbs : (xs.map fun x => x.2.1) = bs at ea
  have kp : Prs H bs ks := prs_of_keys (hbs ▸ isKeys_of pr) hks
  have hm := kp.mem
  have hpa : ∀ v ∈ acc.toList, ∃ b ∈ bs, v = Value.ref b := fun v hv => by
    rw [ea] at hv
    obtain ⟨b, hb, e⟩ := List.mem_map.mp hv
    exact ⟨b, hb, e.symm⟩
  have I1 : Inv X pins σ H { s with heap := h', toks := tk } := I.kept hk
  have hal : acc.toList.length ≤ sizeLine := by rw [Array.length_toList, it.1]; exact hz
  refine wpAny_bind (wpAny_newList ?_ hal)
  have hoL : (h'.push (seqObj "list" acc.toList.toArray 0)).get? h'.objs.size = some (seqObj "list" acc.toList.toArray 0) := Heap.get?_push_size _ rfl
  show wpAny _ _ _ _ _ { s with heap := h'.push (seqObj "list" acc.toList.toArray 0), toks := tk }
  have kz : ∀ v ∈ acc.toList, Srt.IsPair (h'.push (seqObj "list" acc.toList.toArray 0)) v (prOf H (vAd v)).1 (prOf H (vAd v)).2 := fun v hv => by
    obtain ⟨b, hb, rfl⟩ := hpa v hv
    obtain ⟨_, its2, r2, o, ho, hcl, n, hd⟩ := I1.hok _ _ (hm b hb).1
    obtain ⟨u1, u2, rfl, ri, rj⟩ := vals2 r2
    obtain ⟨t1, rfl⟩ := ri
    obtain ⟨t2, rfl⟩ := rj
    exact ⟨b, o, t1, t2, n, rfl, Heap.get?_push_of_some _ ho, hcl, hd⟩
  refine wpAny_bind (wpAny_holding (wpAny_call_entry PyProof.Rows.slot_list_sort ⟨_, hoL, rfl⟩ PyProof.Rows.entry_list_sort
    (SrtO.list_sort_ord (s := { s with heap := h'.push (seqObj "list" acc.toList.toArray 0), toks := tk }) (SrtO.swo_lex fun v => prOf H (vAd v)) hoL hal
      (fun h2 => SrtO.pairs_sortableO (by omega) kz fun o e c => ?_) fun out hs hb => ⟨_, rfl, ?_⟩) (PyProof.Rows.args_list_sort _)))
  · have e' := e.symm.trans hoL
    cases e'
    exact absurd (Value.type.inj c) (by decide)
  · obtain ⟨e', he'⟩ := PyProof.Rows.sortedHeap_at (vs := acc.toList) (out := out.toArray) hoL
    have hout : ∀ v ∈ out, ∃ b ∈ bs, v = Value.ref b := fun v hv => hpa v (hb.perm.mem_iff.mp hv)
    have eo : out = (out.map vAd).map Value.ref := by
      rw [List.map_map]
      conv => lhs; rw [← List.map_id out]
      refine List.map_congr_left fun v hv => ?_
      obtain ⟨b, _, rfl⟩ := hout v hv
      rfl
    have hbp : (out.map vAd).Perm bs := by
      have z := hb.perm.map vAd
      rw [ea, List.map_map] at z
      have e2 : bs.map (vAd ∘ Value.ref) = bs := by
        conv => rhs; rw [← List.map_id bs]
        rfl
      rw [e2] at z
      exact z
    have hlen : ((out.map vAd).map V.ref).length ≤ sizeLine := by
      rw [List.length_map, List.length_map, hb.perm.length_eq]; exact hal
    have hps : (out.map vAd).map (prOf H) |>.Pairwise leP := by
      rw [List.map_map]
      exact List.pairwise_map.mpr hs
    have hpp : ((out.map vAd).map (prOf H)).Perm ks := by rw [kp.eq]; exact hbp.map _
    refine wpAny_pure ⟨_, rfl, .ref h'.objs.size, upd H h'.objs.size (.lst ((out.map vAd).map V.ref)), I1.laid (t' := tk) (fun b u e => ?_) (Nat.le_refl _)
      (show ObjOk X.prog X.w _ _ _ (.lst ((out.map vAd).map V.ref)) from ⟨hlen, out, e', ?_, he'⟩), rfl, q _ _ _ (Prs.map_ fun b hb => (hm b (hbp.mem_iff.mp hb)).1) hpp hps (I1.hok.fresh (Nat.le_refl _))⟩
    · have hb' : b < h'.objs.size := Heap.lt_size e
      rw [PyProof.Rows.sortedHeap_old (Nat.ne_of_lt hb') (by rw [size_push']; exact Nat.lt_succ_of_lt hb')]
      exact Heap.get?_push_of_some _ e
    · have z := vals_refs (out.map vAd)
      rw [← eo] at z
      exact z
end
end Kx
set_option maxHeartbeats 4000000
/-! sorted(tuple of ints). -/
namespace Kx
open PySem PySem.Spec PyProof.Rows L2
section
variable {prog : Program} {w : World} {A : Around} {E : Value → Shared → Prop} {s : Shared}
theorem collect_tup {l : Addr} {vs : List Value} {Q : List Value → Shared → Prop} (hl : s.heap.IsTuple l vs.toArray) (hsz : vs.length ≤ sizeLine)
    (h : ∀ h', (∀ b o, s.heap.get? b = some o → h'.get? b = some o) → Q vs { s with heap := h' }) : wpAny (model prog w) A (collect (.ref l)) Q E s := by
  obtain ⟨o, ho, hc, n, hd⟩ := id hl
  have hn : (s.heap.push (seqObj "list" #[] 0)).get? s.heap.objs.size = some (seqObj "list" #[] 0) := Heap.get?_push_size _ rfl
  have ho' : (s.heap.push (seqObj "list" #[] 0)).get? l = some o := Heap.get?_push_of_some _ ho
  unfold collect
  refine wpAny_bind (wpAny_runValue (codeAny_builtin F.entry_proto_collect ?_))
  rw [Around.under_plainId F.plain_proto_collect _]
  show wpAny _ A.in1 (newList [] >>= fun l => again (.builtin "list.__iadd__" ⟨[l, .ref _], []⟩)) _ _ s
  refine wpAny_bind (wpAny_newList (wpAny_pure ⟨plainId_quiet F.plain_list_iadd _, codeAny_builtin F.entry_list_iadd ?_⟩))
  rw [Around.under_plainId F.plain_list_iadd _]
  show wpAny _ _ (Builtin.List.listExtendWith (.ref s.heap.objs.size) (.ref l) (.ref s.heap.objs.size)) _ _ { s with heap := s.heap.push (seqObj "list" #[] 0) }
  unfold Builtin.List.listExtendWith
  refine wpAny_bind (wpAny_typeOf (T := "tuple") ⟨o, ho', hc⟩ ?_)
  rw [if_pos (by
    have ht : (Value.type "tuple" == Value.type "tuple") = true := by rfl
    rw [ht]; simp)]
  refine wpAny_bind (listItems_at ho' hd (wpAny_bind (listItems_at hn rfl ?_)))
  rw [if_neg (by simp)]
  refine wpAny_bind (listUpdate_at hn rfl ?_ (Nat.zero_le _) (by show (#[] ++ vs.toArray).size ≤ sizeLine + 1; simp only [Array.size_append, List.size_toArray, List.length_nil]; omega))
  refine wpAny_pure ?_
  obtain ⟨e1, he1⟩ : ∃ e1, ((s.heap.push (seqObj "list" #[] 0)).update s.heap.objs.size (Obj.mapSeq (· ++ vs.toArray))).get? s.heap.objs.size = some (seqObj "list" (#[] ++ vs.toArray) e1) := ⟨_, get?_update_seq hn (· ++ vs.toArray)⟩
  show wpAny _ A (load s.heap.objs.size >>= _) _ _ _
  refine wpAny_bind (wpAny_load he1 ?_)
  have e2 : (#[] ++ vs.toArray : Array Value).toList = vs := by simp
  refine wpAny_pure ?_
  rw [e2]
  refine h _ fun b u q => ?_
  rw [Heap.get?_update_ne _ _ _ _ (Nat.ne_of_lt (Heap.lt_size q))]
  exact Heap.get?_push_of_some _ q
end
def rSortedIT (K : PySem.W.Frag) : List V → Hp → VK → Prop := fun vs H Q => ∃ (a : Addr) (ns : List Int), vs = [V.ref a] ∧ SqT K H a (ns.map V.int) ∧
  ∀ (ns' : List Int) (p : Addr), ns'.Perm ns → ns'.Pairwise (· ≤ ·) → H p = none → Q (.ref p) (upd H p (.lst (ns'.map V.int)))
section
variable {X : Cx}
theorem cr_sortedIT : CallR X (.builtin "sorted") (rSortedIT X.K) := by
  intro pins s σ H vs us Q I r h
  obtain ⟨a, ns, rfl, hs, q⟩ := h
  obtain ⟨its, rv, hl, hz⟩ := I.tuple hs
  rw [Vals.ref1 r]
  have hi := rv.ints
  have hlen : its.length ≤ sizeLine := by rw [← rv.length]; exact hz
  refine Calls.call_function_entry PyProof.Rows.kind_sorted PyProof.Rows.plain_sorted PyProof.Rows.entry_sorted (PyProof.Rows.args_sorted1 _) ?_
  unfold Builtin.«sorted»
  refine wpAny_bind (m := checkCount "sorted" 1 1 _) (wpAny_pure ?_)
  refine wpAny_bind (collect_tup hl hlen fun h' hk => ?_)
  refine wpAny_bind (wpAny_newList ?_ hlen)
  have hoL : (h'.push (seqObj "list" its.toArray 0)).get? h'.objs.size = some (seqObj "list" its.toArray 0) := Heap.get?_push_size _ rfl
  show wpAny _ _ _ _ _ { s with heap := h'.push (seqObj "list" its.toArray 0) }
  have I1 : Inv X pins σ H { s with heap := h' } := I.kept (t' := s.toks) hk
  refine wpAny_bind (wpAny_holding (wpAny_call_entry PyProof.Rows.slot_list_sort ⟨_, hoL, rfl⟩ PyProof.Rows.entry_list_sort
    (SrtO.list_sort_ord (s := { s with heap := h'.push (seqObj "list" its.toArray 0) }) SrtO.swo_int hoL hlen (fun h2 => SrtO.ints_sortable hi h2) fun out h1 h2 => ⟨_, rfl, ?_⟩) (PyProof.Rows.args_list_sort _)))
  obtain ⟨k1, k2, k3⟩ := SrtO.ints_out hi h1 h2
  obtain ⟨e', he'⟩ := PyProof.Rows.sortedHeap_at (vs := its) (out := out.toArray) hoL
  have hl2 : ((out.map SrtO.iv).map V.int).length ≤ sizeLine := by
    rw [List.length_map, k2.length_eq]
    rw [List.length_map] at hz
    exact hz
  refine wpAny_pure ⟨_, rfl, .ref h'.objs.size, upd H h'.objs.size (.lst ((out.map SrtO.iv).map V.int)), I1.laid (t' := s.toks) (fun b u e => ?_) (Nat.le_refl _) ⟨hl2, out, e', vals_of_ints k1, he'⟩, rfl, q _ _ k2 k3 (I1.hok.fresh (Nat.le_refl _))⟩
  have hb' : b < h'.objs.size := Heap.lt_size e
  rw [PyProof.Rows.sortedHeap_old (Nat.ne_of_lt hb') (by rw [size_push']; exact Nat.lt_succ_of_lt hb')]
  exact Heap.get?_push_of_some _ e
end
end Kx
set_option maxHeartbeats 4000000
/-! Tuples of which it is known that they are plain; list.remove of a pair of ints; three names set at once. -/
namespace Kx
open PySem PySem.Spec PyProof.Rows L2
/-- at a a plain tuple -/
def Ft (H : Hp) (a : Addr) (xs : List V) : Prop := ∃ o : Obj, o.dict = none ∧ H a = some (.frz o (.tup xs))
theorem Ft.sq {K : PySem.W.Frag} {H : Hp} {a : Addr} {xs : List V} (h : Ft H a xs) : SqT K H a xs := let ⟨_, _, e⟩ := h; .inl (.inr ⟨_, e⟩)
theorem Ft.rd {H : Hp} {a : Addr} {xs : List V} (h : Ft H a xs) : Rd H a (.tup xs) := let ⟨_, _, e⟩ := h; .inr ⟨_, e⟩
theorem erase_map {α β : Type} (f : α → β) : ∀ (l : List α) (j : Nat), (l.map f).eraseIdx j = (l.eraseIdx j).map f
  | [], _ => rfl
  | _ :: _, 0 => rfl
  | x :: l, j + 1 => by
    show f x :: (l.map f).eraseIdx j = f x :: (l.eraseIdx j).map f
    rw [erase_map f l j]
section
variable {X : Cx} {n : Nat}
def tyFt (x : V) (H : Hp) : Prop := ∃ a xs, x = .ref a ∧ Ft H a xs
theorem ty_ft : TyOk X "tuple" tyFt := by
  intro pins σ H s x v I r ty
  obtain ⟨a, xs, rfl, o, h1, h2⟩ := ty
  obtain rfl : v = Value.ref a := r
  obtain ⟨e, _, its, rv, o2, e2, hc, _⟩ := (show ObjOk X.prog X.w H s.heap a (.frz o (.tup xs)) from I.hok a _ h2)
  refine ⟨⟨o2, e2, hc⟩, fun b z => ?_⟩
  cases z
  exact ⟨o, e, h1⟩
theorem mt_tindex : MtR X "tuple.index" (fun x xs H Q => ∃ p, ∃ ys : List Int, ∃ z j, x = .ref p ∧ xs = [.int z] ∧ SqT X.K H p (ys.map V.int) ∧ ys[j]? = some z ∧ (∀ m, m < j → ys[m]? ≠ some z) ∧ Q (.int (j : Nat)) H) := by
  intro pins s σ H x xs v us Q I rx rs h
  obtain ⟨p, ys, z, j, rfl, rfl, hq, hy, hno, q⟩ := h
  cases rx
  obtain ⟨u, rfl, t, rfl⟩ := vals1 rs
  obtain ⟨its, r, ⟨⟨cls, dd, dt, sl⟩, ho, hc, n, hd⟩, hz⟩ := I.tuple hq
  simp only at hc hd
  subst hc hd
  have hi := ints_of_vals r
  have hl : its.length = ys.length := by rw [← r.length, List.length_map]
  have hjn : j < ys.length := (List.getElem?_eq_some_iff.mp hy).1
  have hj : j < its.toArray.size := by rw [List.size_toArray]; omega
  have there : ∀ (m : Nat) (hm : m < its.toArray.size), ∃ (y : Int) (t' : Tok), ys[m]? = some y ∧ its.toArray[m] = Value.int y t' := fun m hm => by
    rw [List.size_toArray] at hm
    obtain ⟨tm, hmt⟩ := hi.get m _ (List.getElem?_eq_getElem (show m < ys.length by omega))
    obtain ⟨_, h2⟩ := List.getElem?_eq_some_iff.mp hmt
    exact ⟨_, tm, List.getElem?_eq_getElem (by omega), by simpa using h2⟩
  have fl : (ys.map V.int).all flatV = true := by rw [List.all_map]; exact List.all_eq_true.mpr fun _ _ => rfl
  refine call_meets PySem.F.slot_tuple_index ⟨_, ho, rfl⟩ PySem.F.entry_tuple_index (PySem.F.args_tuple_index_2 _ _) (TI.tuple_indexAt p its.toArray n dd sl (.int z t) (eqU (.int z)) j hj ?_ ?_)
    ⟨ho, fun w hw => mem_eqAt (x := .int z) ⟨t, rfl⟩ rfl r fl w (by simpa using hw), ⟨.int (j : Nat), H, I.tok _, ⟨_, rfl⟩, q⟩⟩
  · obtain ⟨y, t', h1, h2⟩ := there j hj
    rw [hy] at h1
    cases h1
    rw [h2]
    exact beq_self_eq_true z
  · intro m hm hmj
    obtain ⟨y, t', h1, h2⟩ := there m hm
    rw [h2]
    exact beq_eq_false_iff_ne.mpr fun e => hno m hmj (e ▸ h1)
/-- tuple(list): a plain one -/
theorem call_tupF : CallR X (.type "tuple") (fun xs H Q => ∃ p ys, xs = [.ref p] ∧ SqL X.K H p ys ∧ ∀ l o, H l = none → o.dict = none → Q (.ref l) (upd H l (.frz o (.tup ys)))) := by
  intro pins s σ H xs us Q I r h
  obtain ⟨p, ys, rfl, hq, q⟩ := h
  obtain ⟨u, rfl, rx⟩ := vals1 r
  cases rx
  obtain ⟨its, rv, pl, hz⟩ := I.list hq
  have hlen := rv.length
  refine call_tuple_list pl.isList (fun h' kp => ?_) (by simp only [List.size_toArray] <;> omega)
  have I1 : Inv X pins σ H { s with heap := h' } := I.kept (t' := s.toks) kp
  refine ⟨.ref h'.objs.size, upd H h'.objs.size (.frz { cls := .type "tuple", data := .seq its.toArray } (.tup ys)), I1.laid (t' := s.toks) (fun b o e => Heap.get?_push_of_some _ e) (Nat.le_refl _)
    (show ObjOk X.prog X.w _ _ _ (.frz _ (.tup ys)) from ⟨Heap.get?_push_size _ rfl, hz, its, rv, IsTup.new _ _⟩), rfl, q _ _ (I1.hok.fresh (Nat.le_refl _)) rfl⟩
def tTupRgF (te : L2.St → Hp → (Int → Int → Hp → Prop) → Prop) : TE := fun σ H Q => te σ H fun a b H1 => RgOk a b ∧ ∀ q o, H1 q = none → o.dict = none → Q (.ref q) (upd H1 q (.frz o (.tup (rgV a b))))
theorem pe_tupRgF {e : Expr} {te : L2.St → Hp → (Int → Int → Hp → Prop) → Prop} {p pos : Pos} (hc : X.calm = true) (hg : Gl X "tuple") (hm : X.mg "tuple" = none) (he : PRg X e te) (na : starEach [e] X.env = (false, eval e X.env) :: starEach [] X.env := by rfl) :
    PE X (.Call (.Name "tuple" p) [e] [] pos) (tTupRgF te) := by
  refine ⟨fun pins s σ H Q I h => ?_⟩
  refine Call_ (ld_blt I hg hm boot_tuple (PyProof.Rows.callWith_type1 (args_cons (thn (he pins s σ H _ I h) fun x s1 z => args_nil ?_) na) na))
  obtain ⟨r, a, b, t, u, v, H1, rfl, hr, I1, ⟨b1, b2, b3, b4, b5⟩, q⟩ := z
  refine call_tuple_range (n := (b - a).toNat) (I1.ok.hd hc) hr (small_one b1 b2 b3 b4) (rangeSize_nat a b) b5 fun h' tk acc hk hi => ?_
  have I2 : Inv X pins σ H1 { s1 with heap := h', toks := tk } := I1.kept hk
  refine ⟨.ref h'.objs.size, upd H1 h'.objs.size (.frz { cls := .type "tuple", data := .seq acc } (.tup (rgV a b))), I2.laid (t' := tk) (fun c o e => Heap.get?_push_of_some _ e) (Nat.le_refl _)
    (show ObjOk X.prog X.w _ _ _ (.frz _ (.tup (rgV a b))) from ⟨Heap.get?_push_size _ rfl, ?_, acc.toList, vals_rg hi, ?_⟩), rfl, q _ _ (I2.hok.fresh (Nat.le_refl _)) rfl⟩
  · rw [rgV_length, sizeLine_eq]; omega
  · rw [Array.toArray_toList]; exact IsTup.new _ _
/-- l.remove(p), p a pair of ints -/
def rRemP : V → List V → Hp → VK → Prop := fun x xs H Q => ∃ (l b : Addr) (bs : List Addr) (ps : List (Int × Int)) (p : Int × Int) (j : Nat), x = .ref l ∧ xs = [.ref b] ∧ H l = some (.lst (bs.map V.ref)) ∧ Prs H bs ps ∧ H b = some (.tup [.int p.1, .int p.2]) ∧
  ps[j]? = some p ∧ (∀ m : Nat, m < j → ps[m]? ≠ some p) ∧ Q .non (upd H l (.lst ((bs.eraseIdx j).map V.ref)))
theorem mt_removeP (hr : Room n X.A) : MtM X "list.remove" rRemP := by
  intro pins s σ H x xs v us Q I rx rxs h
  obtain ⟨l, b, bs, ps, p, j, rfl, rfl, hH, hp, hb, hj, hno, q⟩ := h
  cases rx
  obtain ⟨u, rfl, ru⟩ := rxs.one
  cases ru
  obtain ⟨z, its, n, r, hl, e⟩ := I.lstM hH
  obtain ⟨e1, e2⟩ := refs_back r fun x m => by
    obtain ⟨c, _, rfl⟩ := List.mem_map.mp m
    exact ⟨c, rfl⟩
  have eb : its.map vAd = bs := by
    have z : (its.map backV).map (fun v => match v with | V.ref a => a | _ => 0) = (bs.map V.ref).map (fun v => match v with | V.ref a => a | _ => 0) := by rw [e1]
    rw [List.map_map, List.map_map] at z
    have z2 : bs.map ((fun v => match v with | V.ref a => a | _ => 0) ∘ V.ref) = bs := by
      conv => rhs; rw [← List.map_id bs]
      rfl
    rw [z2] at z
    rw [← z]
    refine List.map_congr_left fun u hu => ?_
    obtain ⟨a, rfl⟩ := e2 u hu
    rfl
  have pr : ∀ {c : Addr} {i : Int × Int}, H c = some (.tup [.int i.1, .int i.2]) → IsP s.heap (.ref c) i := fun {c i} hc => by
    obtain ⟨_, its2, r2, o, ho, hcl, n, hd⟩ := I.hok _ _ hc
    obtain ⟨u1, u2, rfl, ri, rj⟩ := vals2 r2
    obtain ⟨t1, rfl⟩ := ri
    obtain ⟨t2, rfl⟩ := rj
    exact ⟨c, o, t1, t2, n, rfl, ho, hcl, hd⟩
  have hm := hp.mem
  have hps := hp.eq
  have at_ : ∀ (m : Nat) (hm' : m < its.toArray.size), ∃ c, its.toArray[m] = Value.ref c ∧ c ∈ bs ∧ ps[m]? = some (prOf H c) := fun m hm' => by
    have hml : m < its.length := by simpa using hm'
    have e3 : its.toArray[m] = its[m] := by simp
    obtain ⟨c, hc⟩ := e2 its[m] (List.getElem_mem _)
    have e4 : bs[m]? = some c := by
      rw [← eb, List.getElem?_map, List.getElem?_eq_getElem hml, hc]
      rfl
    refine ⟨c, by rw [e3, hc], List.mem_of_getElem? e4, ?_⟩
    rw [hps, List.getElem?_map, e4]
    rfl
  have hlen : its.length = bs.length := by rw [← eb, List.length_map]
  have hjl : j < its.toArray.size := by
    have := (List.getElem?_eq_some_iff.mp hj).1
    rw [hps, List.length_map] at this
    simp
    omega
  have hu : X.A.in1.units < cLine := by
    show X.A.units + 1 < cLine
    have := hr.units
    omega
  refine call_meets PySem.F.slot_list_remove ⟨_, e, rfl⟩ PySem.F.entry_list_remove (PySem.F.args_list_remove_2 _ _)
    (SeqAt.list_removeAt l its.toArray n none #[] (.ref b) (fun y => decide (prOf H (vAd y) = p)) j hjl ?_ ?_ (by rw [List.size_toArray, ← r.length]; exact z)) ⟨e, fun y hy => ?_, ?_⟩
  · obtain ⟨c, e3, _, e4⟩ := at_ j hjl
    rw [hj] at e4
    rw [e3]
    exact decide_eq_true (Option.some.inj e4).symm
  · intro m hm' hmj
    obtain ⟨c, e3, _, e4⟩ := at_ m hm'
    rw [e3]
    exact decide_eq_false fun z => hno m hmj (by rw [e4]; exact congrArg some z)
  · have hy' : y ∈ its := by simpa using hy
    obtain ⟨c, rfl⟩ := e2 y hy'
    have hcb : c ∈ bs := by rw [← eb]; exact List.mem_map.mpr ⟨_, hy', rfl⟩
    intro prog w E Q' hq
    exact isP_eq hu (pr (hm c hcb).1) (pr hb) hq
  · have rr := r.eraseIdx j
    have er : (bs.map V.ref).eraseIdx j = (bs.eraseIdx j).map V.ref := erase_map V.ref bs j
    rw [er] at rr
    refine ⟨.non, _, I.lset (its' := its.eraseIdx j) (t' := s.toks) hH e ?_ rr ?_, rfl, q⟩
    · show its.toArray.eraseIdxIfInBounds j = (its.eraseIdx j).toArray
      rw [List.eraseIdxIfInBounds_toArray]
    · rw [List.length_map]
      rw [List.length_map] at z
      exact Nat.le_trans (List.length_eraseIdx_le _ _) z
end
/-- x, y, z = .. -/
def tPar3 (i j k : Nat) (ta : TA) : TS := fun D σ H => ta σ H fun vs H1 => ∃ u v w, vs = [u, v, w] ∧ D.nx (((σ.set k (some w)).set j (some v)).set i (some u)) H1
section
variable {X : Cx} {pos : Pos}
theorem ps_par3 {i j k : Nat} {x y z : Str} {a b c : Expr} {ta : TA} {px py pz pt : Pos} {kt k2 pt2} (hc : X.calm = true) (hN : X.N.Nodup) (hi : X.N[i]? = some x) (hj : X.N[j]? = some y) (hk : X.N[k]? = some z)
    (hx : X.env.scope.names.lookup x = some .local) (hy : X.env.scope.names.lookup y = some .local) (hz : X.env.scope.names.lookup z = some .local) (ha : PA X [a, b, c] ta)
    (hw : swappedStores [.Tuple [.Name x px, .Name y py, .Name z pz] kt pt] (.Tuple [a, b, c] k2 pt2) X.env = pure (some [x, y, z]))
    (hs : swapsWithSole [.Tuple [.Name x px, .Name y py, .Name z pz] kt pt] (.Tuple [a, b, c] k2 pt2) pos.line X.env = pure false := by rfl) :
    PS X (.Assign [.Tuple [.Name x px, .Name y py, .Name z pz] kt pt] (.Tuple [a, b, c] k2 pt2) pos) (tPar3 i j k ta) := by
  refine ⟨fun pins s σ H D I h => ?_⟩
  rw [exec_Assign_arm, hs]
  refine wpAny_bind (wpAny_standAt (wpAny_bind (wpAny_pure ?_)))
  rw [if_neg (by decide)]
  refine wpAny_bind (Tuple_ (thn (ha.run _ pins s σ H _ I h) fun us s1 ⟨vs, H1, I1, r1, q1⟩ => ?_))
  obtain ⟨u, v, w, rfl, q1⟩ := q1
  obtain ⟨u1, u2, u3, rfl, r1, r2, r3⟩ : ∃ u1 u2 u3, us = [u1, u2, u3] ∧ RelV u u1 ∧ RelV v u2 ∧ RelV w u3 := by
    cases r1 with
    | cons p q =>
      cases q with
      | cons p' q' =>
        cases q' with
        | cons p'' q'' =>
          cases q''
          exact ⟨_, _, _, rfl, p, p', p''⟩
  refine wpAny_newObj_type ?_ (by show 3 ≤ sizeLine; decide)
  have I2 : Inv X pins σ H1 { s1 with heap := s1.heap.push { cls := .type "tuple", data := .seq [u1, u2, u3].toArray } } := I1.kept (t' := s1.toks) fun _ _ e => Heap.get?_push_of_some _ e
  rw [hw]
  refine wpAny_bind (wpAny_pure ?_)
  show wpAny (model X.prog X.w) X.A (do rule "assign.swapped-stores"; let items ← unpackItems (.ref s1.heap.objs.size) 3 none; assignInOrder [fun v => bindName X.env z v, fun v => bindName X.env y v, fun v => bindName X.env x v] items.reverse; pure Flow.next) _ _ _
  refine wpAny_bind (wpAny_rule (wpAny_bind (unpackItems_tuple (items := #[u1, u2, u3]) (I.ok.hd hc) (IsTup.new s1.heap _) fun h' hx' => ?_)))
  have I3 := I2.kept (h' := h') (t' := s1.toks) fun b o e => hx' b o (Nat.ne_of_lt (Heap.lt_size e)) e
  show wpAny _ _ (assignInOrder [fun v => bindName X.env z v, fun v => bindName X.env y v, fun v => bindName X.env x v] [u3, u2, u1] >>= fun _ => pure Flow.next) _ _ _
  refine wpAny_bind (assignInOrder_cons (wpAny_bindName (store_ok I3 hN hk (.inl hz) r3 (fun s2 I4 => ?_) (.inr hz))))
  refine assignInOrder_cons (wpAny_bindName (store_ok I4 hN hj (.inl hy) r2 (fun s3 I5 => ?_) (.inr hy)))
  exact assignInOrder_cons (wpAny_bindName (store_ok I5 hN hi (.inl hx) r1 (fun s4 I6 => assignInOrder_nil (wpAny_pure ⟨_, H1, I6, q1⟩)) (.inr hx)))
end
end Kx
set_option maxHeartbeats 4000000
/-! try with several clauses, of which the first takes it (except C as n); len of a set of tuples. -/
namespace Kx
open PySem PySem.Spec PyProof.Rows L2
/-- what the first clause wishes: it takes what comes -/
def wFst (K : PySem.W.Frag) (c : Value) (i : Nat) (ts : Addr → Value → Option Addr → TS) (D : Ends) : WX := fun cls d σ H =>
  PySem.W.exmOne K cls c = some true ∧ ∀ a, H a = none → ts a cls d { nx := fun σ' H' => D.nx (σ'.set i none) H', rt := D.rt, bk := fun σ' H' => D.bk (σ'.set i none) H', ct := fun σ' H' => D.ct (σ'.set i none) H' } (σ.set i (some (.ref a))) H
section
variable {X : Cx} {x n : Str} {c : Value} {i : Nat} {body suite : List Stmt} {b₀ : Stmt} {hds : List ExceptHandler} {np pos pos' : Pos} {tb : WX → TS} {ts : Addr → Value → Option Addr → TS}
theorem ps_tryFst (hs : X.stack = X.env :: X.outer) (hf : X.env.frame = some X.env.locals) (hN : X.N.Nodup) (hi : X.N[i]? = some n) (hln : X.env.kindOf n = some .local) (hc : Names X x c)
    (hb : ∀ (W : WX) (pn : List (Addr × Obj)) (xe : Value → Shared → Prop), Takes (X.tr pn xe) W → PassesOwn (model X.prog X.w) X.A X.env xe → PSs (X.tr pn xe) body (tb W))
    (hsu : ∀ (a : Addr) (oe : Obj) (cls : Value) (d : Option Addr) (pn : List (Addr × Obj)), Zc cls d oe → (∃ vs, oe.data = .fields vs) → PSs (X.suite a ((a, oe) :: pn)) (b₀ :: suite) (ts a cls d)) :
    PS X (.Try body (.ExceptHandler (some (.Name x np)) (some n) (b₀ :: suite) pos' :: hds) [] [] pos) (fun D σ H => tb (wFst X.K c i ts D) D σ H) := by
  refine ⟨fun pins s σ H D I h => ?_⟩
  have ok := I.ok
  have fr : X.A.frames = some (X.env :: X.outer) := ok.frames.trans (congrArg some hs)
  refine wpAny_Try_except ?_
  refine wpAny_mono ((hb (wFst X.K c i ts D) (X.pn ++ pins) (fun e s₁ => wpAny (model X.prog X.w) X.A (noteFrame e X.env) (fun _ s₂ => wpAny (model X.prog X.w) X.A (setFlight e none) (fun _ s₃ =>
    wpAny (model X.prog X.w) X.A (handleBy e X.env (.ExceptHandler (some (.Name x np)) (some n) (b₀ :: suite) pos' :: hds)) (SP X pins D) X.xe s₃) X.xe s₂) X.xe s₁) (fun u t came => ?_) PassesOwn.looking).run [] s σ H D (I.toTry _) h) (fun f t out => ?_) fun _ _ z => z
  · obtain ⟨a, B, sI, _, τ, G, cls, d, rfl, J0, nb, up, sky, na, os, ag, take, go⟩ := came
    have J := J0.ofTry ok
    rw [hs] at sky
    show wpAny (model X.prog X.w) X.A (noteFrame (.ref a) X.env) _ _ _
    refine Sky.land Zc.steady fr hf sky fun h1 fl up1 => ?_
    have J1 : Inv X pins τ G { t with heap := h1 } := J.landed nb fl.1 (up.trans up1) os ag
    obtain ⟨oe, vs, at1, z1, dat1⟩ := fl.there
    have off : a ∉ frs (X.env :: X.outer) := fun hm => by
      obtain ⟨_, o', e', no⟩ := fl.2.2.1.mem hm
      rw [at1] at e'
      cases e'
      exact no _ dat1
    have offL : a ≠ X.env.locals := fun z => off (List.mem_filterMap.mpr ⟨X.env, List.mem_cons_self, by rw [hf, z]⟩)
    have offF : a ∉ X.fs := fun hm => let ⟨e, he, q⟩ := List.mem_filterMap.mp hm; off (List.mem_filterMap.mpr ⟨e, List.mem_cons_of_mem _ he, q⟩)
    have S1 := J1.suite at1 dat1 na offL offF
    refine wpAny_handleBy_cons (codeAny_handlers_test ?_) (by intro q; cases q)
    have name : ∀ {Q : Value → Shared → Prop} {E : Value → Shared → Prop}, Q c { t with heap := h1 } → wpAny (model X.prog X.w) (X.A.mark (some (.ref a))) (eval (.Name x np) X.env) Q E { t with heap := h1 } := fun {Q E} q => by
      obtain ⟨hg, hdbg, hm | ⟨hm, hv, hnn⟩⟩ := hc
      · exact ld_glob (X := X.suite a ((a, oe) :: (X.pn ++ pins))) S1 hg hm q hdbg
      · exact ld_blt (X := X.suite a ((a, oe) :: (X.pn ++ pins))) S1 hg hm hv q hnn hdbg
    have looks : PySem.W.Looks (model X.prog X.w) h1 (typeOf (.ref a)) cls := fun A Q E s k q => wpAny_typeOf_ref (k _ _ at1) (by rw [z1.1]; exact q)
    refine name ((PySem.W.exm_one (M := model X.prog X.w) (J1.kIn) looks take).here ?_)
    refine codeAny_handlers_suite_as (HandSPX.lands_againZ fl fun h2 fl2 up2 => ?_)
    have J2 : Inv X pins τ G { t with heap := h2 } := J.landed nb fl2.1 ((up.trans up1).trans up2) os ag
    obtain ⟨oe2, vs2, at2, z2, dat2⟩ := fl2.there
    refine store_ok (X := X.suite a ((a, oe2) :: (X.pn ++ pins))) (v := .ref a) (J2.suite at2 dat2 na offL offF) hN hi (.inl hln) rfl (fun t5 S5 => ?_) (.inr hln)
    refine wpAny_mono ((hsu a oe2 cls d (X.pn ++ pins) z2 ⟨_, dat2⟩).run [] t5 _ G _ S5 (go a na)) (fun f t6 out => ?_) fun _ _ z => z.elim
    have fin : ∀ {τ' : L2.St} {G' : Hp} {Q : Shared → Prop}, Inv (X.suite a ((a, oe2) :: (X.pn ++ pins))) [] τ' G' t6 → (∀ t7, Inv X pins (τ'.set i none) G' t7 → Q t7) →
        wpAny (model X.prog X.w) X.A (do bindName X.env n .none; unbindBehindTheSuite X.env n pos') (fun _ t7 => Q t7) X.xe t6 := fun {τ' G' Q} S6 hq => gone_ok (S6.unsuite ok) hN hi hln hq
    cases f with
    | next => exact let ⟨_, _, S6, q⟩ := out; fin S6 fun _ J7 => ⟨_, _, J7, q⟩
    | brk => exact let ⟨_, _, S6, q⟩ := out; fin S6 fun _ J7 => ⟨_, _, J7, q⟩
    | cont => exact let ⟨_, _, S6, q⟩ := out; fin S6 fun _ J7 => ⟨_, _, J7, q⟩
    | ret u => exact let ⟨_, _, _, S6, r, q⟩ := out; fin S6 fun _ J7 => ⟨_, _, _, J7, r, q⟩
  · cases f with
    | next => exact let ⟨_, _, J', q⟩ := out; wpAny_execs_nil ⟨_, _, J'.ofTry ok, q⟩
    | brk => exact let ⟨_, _, J', q⟩ := out; ⟨_, _, J'.ofTry ok, q⟩
    | cont => exact let ⟨_, _, J', q⟩ := out; ⟨_, _, J'.ofTry ok, q⟩
    | ret u => exact let ⟨_, _, _, J', r, q⟩ := out; ⟨_, _, _, J'.ofTry ok, r, q⟩
def rLenS (P : Program) (w : World) : List V → Hp → VK → Prop := fun xs H Q => ∃ (p : Addr) (L : List (Addr × List Int)), xs = [.ref p] ∧ H p = some (SetTO P w p L) ∧ Q (.int ((L.length : Nat) : Int)) H
theorem call_lenS : CallR X (.builtin "len") (rLenS X.prog X.w) := by
  intro pins s σ H xs us Q I r h
  obtain ⟨p, L, rfl, hp, q⟩ := h
  obtain ⟨u, rfl, rx⟩ := vals1 r
  obtain rfl : u = .ref p := rx
  obtain ⟨es, ep, t, ⟨o, ho, hex, hd⟩, rows, tab, _, _, _, room, few⟩ := SetT0.ex (I.hok p _ hp).1
  have hsz : es.size = L.length := by
    have h := congrArg List.length rows
    unfold rowsOf at h
    rw [Array.length_toList, List.length_map] at h
    exact h
  have fits : t.fits es.size = true := by
    have h1 := tab.sz
    rw [List.length_map] at h1
    unfold SetTable.fits SetTable.fill
    rw [tab.dm, Bool.and_eq_true, beq_iff_eq, decide_eq_true_eq]
    show t.place.size = es.size ∧ t.place.size + 0 ≤ t.mask
    omega
  refine call_len_set ho hex hd fits (by omega) ?_
  rw [hsz]
  exact ⟨.int ((L.length : Nat) : Int), H, I.tok _, ⟨_, rfl⟩, q⟩
end
end Kx
set_option maxHeartbeats 4000000
namespace Kx
open PySem PySem.Spec PyProof.Rows L2
/-! ### callees -/
/-- the name x of the module is a def that keeps this promise -/
structure Cal (P : Program) (w : World) (K : PySem.W.Frag) (mg : Str → Option Value) (base : Heap) (CX : CXT) (k : Nat) (x : Str) (ps : List Str) (sp : Sp) : Prop where
  ex : ∃ (f : Addr) (fd : FuncData), mg x = some (.ref f) ∧ PySem.W.keepIn K (.ref f) = true ∧ Binds K fd ps [] ∧ FnOk P w K mg base CX k f fd ps sp
/-- the method m of the class at C -/
structure CalM (P : Program) (w : World) (K : PySem.W.Frag) (mg : Str → Option Value) (base : Heap) (CX : CXT) (k : Nat) (C : Addr) (m : Str) (ps : List Str) (sp : Sp) : Prop where
  ex : ∃ (f : Addr) (fd : FuncData), Meth K C m f ∧ Binds K fd ps [] ∧ FnOk P w K mg base CX k f fd ps sp
/-- the class C of that name, by its __init__ -/
structure CalC (P : Program) (w : World) (K : PySem.W.Frag) (mg : Str → Option Value) (base : Heap) (CX : CXT) (k : Nat) (x : Str) (C : Addr) (ps : List Str) (sp : Sp) : Prop where
  ex : ∃ (f : Addr) (fd : FuncData), mg x = some (.ref C) ∧ Mk K C f ∧ Binds K fd ps [] ∧ FnOk P w K mg base CX k f fd ps sp
abbrev EE : XK := fun _ _ _ => False
section
variable {X : Cx} {k k' : Nat} {x m : Str} {ps : List Str} {sp : Sp} {C : Addr} {p pos apos : Pos} {e o : Expr} {es : List Expr} {ta : TE} {t : TA}
theorem pe_callF (c : Cal X.prog X.w X.K X.mg X.base CX0 k x ps sp) (hr : Room k' X.A) (h : k ≤ k') (hg : Gl X x) (ha : PA X (e :: es) t) (hdb : (x == ("__debug__" : Str)) = false := by decide)
    (he : starEach (e :: es) X.env = (false, eval e X.env) :: starEach es X.env := by rfl) (hpl : (backTo pos (starEach es X.env)).any (·.1) = false := by rfl) : PE X (.Call (.Name x p) (e :: es) [] pos) (tCall sp [] EE t) := by
  obtain ⟨f, fd, h1, h2, h3, h4⟩ := c.ex
  exact pe_call h4 (hr.mono h) hg h1 h2 h3 .nil (fun _ _ _ _ _ _ _ z => z.elim) ha hdb he hpl
theorem pe_callX {CX : CXT} {E : XK} (c : Cal X.prog X.w X.K X.mg X.base CX k x ps sp) (hr : Room k' X.A) (h : k ≤ k') (hx : Passes CX X E) (hg : Gl X x) (ha : PA X (e :: es) t) (hdb : (x == ("__debug__" : Str)) = false := by decide)
    (he : starEach (e :: es) X.env = (false, eval e X.env) :: starEach es X.env := by rfl) (hpl : (backTo pos (starEach es X.env)).any (·.1) = false := by rfl) : PE X (.Call (.Name x p) (e :: es) [] pos) (tCall sp [] E t) := by
  obtain ⟨f, fd, h1, h2, h3, h4⟩ := c.ex
  exact pe_call h4 (hr.mono h) hg h1 h2 h3 .nil hx ha hdb he hpl
theorem pe_methF {pl : Sem Bool} (cl : Cls X.K C) (c : CalM X.prog X.w X.K X.mg X.base CX0 k C m ps sp) (hr : Room k' X.A) (h : k ≤ k') (he : PE X o ta) (ha : PA X (e :: es) t)
    (hst : starEach (e :: es) X.env = (false, eval e X.env) :: starEach es X.env := by rfl) (hpl : (backTo pos (starEach es X.env)).any (·.1) = false := by rfl)
    (ht : eval (.Call (.Attribute o m apos) (e :: es) [] pos) X.env = (do
      let ov ← eval o X.env
      standAt apos.atName
      let (f, first) ← holding [ov] (getMethod ov m pl)
      callWith pos f first (backTo pos (starEach (e :: es) X.env)) (backToKw pos (keywordEach [] X.env))) := by rfl) :
    PE X (.Call (.Attribute o m apos) (e :: es) [] pos) (tMeth C m sp [] EE ta t) := by
  obtain ⟨f, fd, h1, h2, h3⟩ := c.ex
  exact pe_meth he cl h1 h3 (hr.mono h) h2 .nil (fun _ _ _ _ _ _ _ z => z.elim) ha hst hpl ht
theorem pe_methX {CX : CXT} {E : XK} {pl : Sem Bool} (cl : Cls X.K C) (c : CalM X.prog X.w X.K X.mg X.base CX k C m ps sp) (hr : Room k' X.A) (h : k ≤ k') (hx : Passes CX X E) (he : PE X o ta) (ha : PA X (e :: es) t)
    (hst : starEach (e :: es) X.env = (false, eval e X.env) :: starEach es X.env := by rfl) (hpl : (backTo pos (starEach es X.env)).any (·.1) = false := by rfl)
    (ht : eval (.Call (.Attribute o m apos) (e :: es) [] pos) X.env = (do
      let ov ← eval o X.env
      standAt apos.atName
      let (f, first) ← holding [ov] (getMethod ov m pl)
      callWith pos f first (backTo pos (starEach (e :: es) X.env)) (backToKw pos (keywordEach [] X.env))) := by rfl) :
    PE X (.Call (.Attribute o m apos) (e :: es) [] pos) (tMeth C m sp [] E ta t) := by
  obtain ⟨f, fd, h1, h2, h3⟩ := c.ex
  exact pe_meth he cl h1 h3 (hr.mono h) h2 .nil hx ha hst hpl ht
theorem pe_methF0 {pl : Sem Bool} (cl : Cls X.K C) (c : CalM X.prog X.w X.K X.mg X.base CX0 k C m ps sp) (hr : Room k' X.A) (h : k ≤ k') (he : PE X o ta)
    (ht : eval (.Call (.Attribute o m apos) [] [] pos) X.env = (do
      let ov ← eval o X.env
      standAt apos.atName
      let (f, first) ← holding [ov] (getMethod ov m pl)
      callWith pos f first (backTo pos (starEach [] X.env)) (backToKw pos (keywordEach [] X.env))) := by rfl) :
    PE X (.Call (.Attribute o m apos) [] [] pos) (tMeth C m sp [] EE ta tNil) := by
  obtain ⟨f, fd, h1, h2, h3⟩ := c.ex
  exact pe_meth0 he cl h1 h3 (hr.mono h) h2 .nil (fun _ _ _ _ _ _ _ z => z.elim) ht
theorem pe_makeF (c : CalC X.prog X.w X.K X.mg X.base CX0 k x C ps sp) (hr : Room k' X.A) (h : k + 1 ≤ k') (hg : Gl X x) (ha : PA X (e :: es) t) (hdb : (x == ("__debug__" : Str)) = false := by decide)
    (he : starEach (e :: es) X.env = (false, eval e X.env) :: starEach es X.env := by rfl) (hpl : (backTo pos (starEach es X.env)).any (·.1) = false := by rfl) : PE X (.Call (.Name x p) (e :: es) [] pos) (tMake C sp [] EE t) := by
  obtain ⟨f, fd, h1, h2, h3, h4⟩ := c.ex
  exact pe_make h2 h4 (hr.mono h) hg h1 h3 .nil (fun _ _ _ _ _ _ _ z => z.elim) ha hdb he hpl
end
/-! ### the text's facts -/
abbrev cP (K : PySem.W.Frag) : Addr := He.ga K "Paint"
abbrev cL (K : PySem.W.Frag) : Addr := He.ga K "Laid"
abbrev cN (K : PySem.W.Frag) : Addr := He.ga K "NoWay"
structure Tx (K : PySem.W.Frag) (mg : Str → Option Value) : Prop where
  z_isinstance : mg "isinstance" = none
  z_int : mg "int" = none
  z_bool : mg "bool" = none
  z_tuple : mg "tuple" = none
  z_len : mg "len" = none
  z_list : mg "list" = none
  z_enumerate : mg "enumerate" = none
  z_range : mg "range" = none
  z_any : mg "any" = none
  z_sorted : mg "sorted" = none
  z_zip : mg "zip" = none
  z_abs : mg "abs" = none
  z_min : mg "min" = none
  z_set : mg "set" = none
  z_all : mg "all" = none
  ml : ∃ t, mg "MOST_LINES" = some (.int 12 t)
  mp : ∃ t, mg "MOST_PLANES" = some (.int 12 t)
  cl_Paint : Cls K (cP K)
  cl_Laid : Cls K (cL K)
  nP1 : NoAttr K (cP K) "kept_ties"
  nP2 : NoAttr K (cP K) "kept_colours"
  nP3 : NoAttr K (cP K) "kept_at"
  nL1 : NoAttr K (cL K) "kept_sizes"
  nL2 : NoAttr K (cL K) "kept_alive"
  nL3 : NoAttr K (cL K) "kept_planes"
  nL4 : NoAttr K (cL K) "kept_moved"
  nN1 : NoAttr K (cN K) "side"
  nN2 : NoAttr K (cN K) "box"
  gN : mg "NoWay" = some (.ref (cN K))
/-! ### frames -/
/-- what never changes -/
def Imm : HO → Prop
  | .tup _ => True
  | .frz _ _ => True
  | _ => False
/-- only what stands at W has changed -/
structure Fr (W : List Addr) (H H' : Hp) : Prop where
  kp : ∀ b o, b ∉ W → H b = some o → H' b = some o
  im : ∀ b o, Imm o → H b = some o → H' b = some o
section
variable {W W' : List Addr} {H H' H1 H2 : Hp} {a b : Addr} {o u : HO} {xs : List V}
theorem Fr.refl : Fr W H H := ⟨fun _ _ _ h => h, fun _ _ _ h => h⟩
theorem Fr.of_same (s : Same H H') : Fr W H H' := ⟨fun b o _ h => s b o h, fun b o _ h => s b o h⟩
theorem Fr.same (f : Fr [] H H') : Same H H' := fun b o h => f.kp b o (by simp) h
theorem Fr.step (f : Fr W H H1) (g : Fr W' H1 H2) (h : ∀ b ∈ W', b ∈ W ∨ H b = none) : Fr W H H2 := by
  refine ⟨fun b o n e => g.kp b o (fun z => ?_) (f.kp b o n e), fun b o i e => g.im b o i (f.im b o i e)⟩
  rcases h b z with q | q
  · exact n q
  · rw [q] at e; cases e
theorem Fr.trans (f : Fr W H H1) (g : Fr W H1 H2) : Fr W H H2 := f.step g fun _ h => .inl h
theorem Fr.mono (f : Fr W H H') (h : ∀ b ∈ W, b ∈ W' ∨ H b = none) : Fr W' H H' := Fr.refl.step f h
theorem Fr.new (f : Fr W H H') (ha : H' a = none) : Fr W H (upd H' a u) :=
  ⟨fun b o n e => upd_old (f.kp b o n e) ha, fun b o i e => upd_old (f.im b o i e) ha⟩
theorem Fr.mut (f : Fr W H H') (ha : H' a = some o) (nm : ¬ Imm o) (hw : a ∈ W ∨ H a = none) : Fr W H (upd H' a u) := by
  refine ⟨fun b o' n e => ?_, fun b o' i e => ?_⟩
  · rw [upd_ne]
    · exact f.kp b o' n e
    · rintro rfl
      rcases hw with q | q
      · exact n q
      · rw [q] at e; cases e
  · rw [upd_ne]
    · exact f.im b o' i e
    · rintro rfl
      have := f.im b o' i e
      rw [ha] at this
      cases this
      exact nm i
theorem Fr.tup (f : Fr W H H') (h : H a = some (.tup xs)) : H' a = some (.tup xs) := f.im _ _ trivial h
theorem Fr.ft (f : Fr W H H') (h : Ft H a xs) : Ft H' a xs := let ⟨o, h1, h2⟩ := h; ⟨o, h1, f.im _ _ trivial h2⟩
theorem Fr.at_ (f : Fr W H H') (h : H a = some o) (n : a ∉ W) : H' a = some o := f.kp _ _ n h
theorem Fr.some_ (f : Fr W H H') (n : a ∉ W) (h : H' a = none) : H a = none := by
  cases e : H a with
  | none => rfl
  | some o => rw [f.kp _ _ n e] at h; cases h
end
/-! ### pairs and lists of them -/
/-- the pair at t -/
abbrev Pt (H : Hp) (t : Addr) (p : Int × Int) : Prop := H t = some (.tup [.int p.1, .int p.2])
section
variable {W : List Addr} {H H' : Hp} {a t : Addr} {bs cs : List Addr} {ps qs : List (Int × Int)} {p : Int × Int}
theorem Prs.keep (h : Prs H bs ps) (k : ∀ b xs, H b = some (.tup xs) → H' b = some (.tup xs)) : Prs H' bs ps := by
  unfold Prs at *
  induction h with
  | nil => exact .nil
  | cons e _ ih => exact .cons (k _ _ e) ih
theorem Prs.fr (h : Prs H bs ps) (f : Fr W H H') : Prs H' bs ps := h.keep fun _ _ e => f.tup e
theorem Prs.len (h : Prs H bs ps) : bs.length = ps.length := Paired.length h
theorem Prs.snoc (h : Prs H bs ps) (e : Pt H t p) : Prs H (bs ++ [t]) (ps ++ [p]) := Paired.snoc h e
theorem Prs.nil : Prs H [] [] := Paired.nil
theorem Prs.cons (e : Pt H t p) (h : Prs H bs ps) : Prs H (t :: bs) (p :: ps) := Paired.cons e h
theorem Prs.app (h : Prs H bs ps) (g : Prs H cs qs) : Prs H (bs ++ cs) (ps ++ qs) := by
  unfold Prs at *
  induction h with
  | nil => exact g
  | cons e _ ih => exact .cons e ih
theorem Prs.at_ (h : Prs H bs ps) {i : Nat} {b : Addr} (e : bs[i]? = some b) : ∃ p, ps[i]? = some p ∧ Pt H b p := by
  unfold Prs at h
  induction h generalizing i with
  | nil => simp at e
  | cons q _ ih =>
    cases i with
    | zero =>
      simp at e
      subst e
      exact ⟨_, rfl, q⟩
    | succ i =>
      simp at e
      obtain ⟨p, h1, h2⟩ := ih e
      exact ⟨p, by simpa using h1, h2⟩
theorem Prs.get (h : Prs H bs ps) {i : Nat} (e : ps[i]? = some p) : ∃ b, bs[i]? = some b ∧ Pt H b p := by
  have hl := h.len
  have hi : i < bs.length := by rw [hl]; exact (List.getElem?_eq_some_iff.mp e).1
  obtain ⟨q, h1, h2⟩ := h.at_ (List.getElem?_eq_getElem hi)
  rw [e] at h1
  cases h1
  exact ⟨_, List.getElem?_eq_getElem hi, h2⟩
theorem Prs.take (h : Prs H bs ps) (n : Nat) : Prs H (bs.take n) (ps.take n) := by
  unfold Prs at *
  induction h generalizing n with
  | nil => simp; exact .nil
  | cons e _ ih =>
    cases n with
    | zero => exact .nil
    | succ n => exact .cons e (ih n)
theorem Prs.drop (h : Prs H bs ps) (n : Nat) : Prs H (bs.drop n) (ps.drop n) := by
  unfold Prs at *
  induction h generalizing n with
  | nil => simp; exact .nil
  | cons e t ih =>
    cases n with
    | zero => exact .cons e t
    | succ n => exact ih n
theorem refs_at {bs : List Addr} {i : Nat} {v : V} (h : (bs.map V.ref)[i]? = some v) : ∃ b, v = .ref b ∧ bs[i]? = some b := by
  rw [List.getElem?_map] at h
  obtain ⟨b, h1, h2⟩ := Option.map_eq_some_iff.mp h
  exact ⟨b, h2.symm, h1⟩
theorem ints_at {ns : List Int} {i : Nat} {v : V} (h : (ns.map V.int)[i]? = some v) : ∃ n, v = .int n ∧ ns[i]? = some n := by
  rw [List.getElem?_map] at h
  obtain ⟨b, h1, h2⟩ := Option.map_eq_some_iff.mp h
  exact ⟨b, h2.symm, h1⟩
end
/-- a list of pairs -/
def Lp (H : Hp) (a : Addr) (ps : List (Int × Int)) : Prop := ∃ bs, H a = some (.lst (bs.map V.ref)) ∧ Prs H bs ps
/-- a tuple of pairs -/
def Tp (H : Hp) (a : Addr) (ps : List (Int × Int)) : Prop := ∃ bs, H a = some (.tup (bs.map V.ref)) ∧ Prs H bs ps
section
variable {W : List Addr} {H H' : Hp} {a : Addr} {ps : List (Int × Int)}
theorem Tp.fr (h : Tp H a ps) (f : Fr W H H') : Tp H' a ps := let ⟨bs, h1, h2⟩ := h; ⟨bs, f.tup h1, h2.fr f⟩
theorem Lp.fr (h : Lp H a ps) (f : Fr W H H') (n : a ∉ W) : Lp H' a ps := let ⟨bs, h1, h2⟩ := h; ⟨bs, f.at_ h1 n, h2.fr f⟩
end
/-- what an assoc list of pairs and ints is as a dict -/
abbrev Wy := List ((Int × Int) × Int)
def dm (m : Wy) : List (List L2.Key × V) := m.map fun e => (pk e.1, V.int e.2)
theorem dm_keys (m : Wy) : (dm m).map (·.1) = (m.map (·.1)).map pk := by unfold dm; rw [List.map_map, List.map_map]; rfl
theorem dm_len (m : Wy) : (dm m).length = m.length := by simp [dm]
def look (m : Wy) (p : Int × Int) : Option Int := (m.find? fun e => decide (e.1 = p)).map (·.2)
theorem dm_val (m : Wy) (p : Int × Int) : valV (dm m) (pk p) = (look m p).map V.int := by
  induction m with
  | nil => rfl
  | cons e m ih =>
    unfold look
    by_cases h : e.1 = p
    · rw [show dm (e :: m) = (pk e.1, V.int e.2) :: dm m from rfl, valV_pos (p := (pk e.1, V.int e.2)) (by rw [h])]
      simp [List.find?_cons, h]
    · rw [show dm (e :: m) = (pk e.1, V.int e.2) :: dm m from rfl, valV_neg (p := (pk e.1, V.int e.2)) (fun z => h (pk_inj z)), ih]
      simp [look, List.find?_cons, h]
def put (m : Wy) (p : Int × Int) (k : Int) : Wy := if (look m p).isSome then m.map (fun e => if e.1 = p then (e.1, k) else e) else m ++ [(p, k)]
theorem dm_put (m : Wy) (p : Int × Int) (k : Int) : putK (dm m) (pk p) (V.int k) = dm (put m p k) := by
  unfold putK put
  rw [valV_any, dm_val, Option.isSome_map]
  by_cases h : (look m p).isSome = true
  · rw [if_pos h, if_pos h]
    unfold dm
    rw [List.map_map, List.map_map]
    refine List.map_congr_left fun e _ => ?_
    show (if pk e.1 = pk p then (pk e.1, V.int k) else (pk e.1, V.int e.2)) = (fun e : (Int × Int) × Int => (pk e.1, V.int e.2)) (if e.1 = p then (e.1, k) else e)
    by_cases q : e.1 = p
    · rw [if_pos q, if_pos (by rw [q])]
    · rw [if_neg q, if_neg fun z => q (pk_inj z)]
  · rw [if_neg h, if_neg h]
    simp [dm]
def drp (m : Wy) (p : Int × Int) : Wy := m.filter fun e => decide (e.1 ≠ p)
theorem dm_drop (m : Wy) (p : Int × Int) : dropK (dm m) (pk p) = dm (drp m p) := by
  unfold dropK drp dm
  rw [List.filter_map]
  congr 1
  refine List.filter_congr fun e _ => ?_
  show decide (pk e.1 ≠ pk p) = decide (e.1 ≠ p)
  exact decide_eq_decide.mpr ⟨fun h z => h (by rw [z]), fun h z => h (pk_inj z)⟩
theorem pt_key {H : Hp} {t : Addr} {p : Int × Int} (h : Pt H t p) : H t = some (.tup ((pk p).map kV)) := h
end Kx
set_option maxHeartbeats 4000000
/-! Readings, one step each, and how a comprehension goes. -/
namespace Kx
open PySem PySem.Spec PyProof.Rows L2
section
variable {K : PySem.W.Frag} {σ : L2.St} {H H0 H1 H' : Hp} {Q : VK} {QB : Bool → Hp → Prop} {QA : List V → Hp → Prop} {ta tb te tc td ty tv to : TE} {t u : TT} {tl : TA} {x y z v : V} {r : R2} {i j : Int} {D : Ends} {a b p l d : Addr} {xs ys : List V} {f m : Str}
  {C dx : Addr} {fs : List (Str × V)} {QS : L2.St → Hp → Prop} {kvs : List (L2.Key × V)} {mm : Wy} {pr : Int × Int} {c : Int} {R : Prop} {us : TGs} {g : TG} {n : Nat}
theorem g_dsz (h : Nat.ble n 16000000 = true) (q : R) : n ≤ sizeLine ∧ R := ⟨dsz h, q⟩
theorem g_cU {rr : V → Hp → VK → Prop} (q : ta σ H fun x H1 => rr x H1 Q) : tUn rr ta σ H Q := q
theorem g_u {gg : Int → V} (q : Q (gg i) H) : rU gg (.int i) H Q := ⟨i, rfl, q⟩
theorem g_lenL {F : List V → Prop} (h : H p = some (.lst xs)) (q : F xs) : ∃ p' ys, [V.ref p] = [V.ref p'] ∧ (SqL K H p' ys ∨ SqT K H p' ys) ∧ F ys := ⟨p, xs, rfl, .inl (SqL.of h), q⟩
theorem g_lenT {F : List V → Prop} (h : H p = some (.tup xs)) (q : F xs) : ∃ p' ys, [V.ref p] = [V.ref p'] ∧ (SqL K H p' ys ∨ SqT K H p' ys) ∧ F ys := ⟨p, xs, rfl, .inr (SqT.of h), q⟩
theorem g_lenS {F : List V → Prop} (h : SqT K H p xs) (q : F xs) : ∃ p' ys, [V.ref p] = [V.ref p'] ∧ (SqL K H p' ys ∨ SqT K H p' ys) ∧ F ys := ⟨p, xs, rfl, .inr h, q⟩
theorem g_isiT (h : H p = some (.tup xs)) (q : Q (.bl true) H) : rIsi K [.ref p, .ty "tuple"] H Q := ⟨_, _, _, _, true, rfl, .ty _, .base (.tup h), kit_ty (by decide +kernel), q⟩
theorem g_isiF (h : Ft H p xs) (q : Q (.bl true) H) : rIsi K [.ref p, .ty "tuple"] H Q := let ⟨_, _, e⟩ := h; ⟨_, _, _, _, true, rfl, .ty _, .fTuple e, kit_ty (by decide +kernel), q⟩
theorem g_isiInt (q : Q (.bl true) H) : rIsi K [.int i, .ty "int"] H Q := ⟨_, _, _, _, true, rfl, .ty _, .base (.int i), kit_ty (by decide +kernel), q⟩
theorem g_isiBool (q : Q (.bl false) H) : rIsi K [.int i, .ty "bool"] H Q := ⟨_, _, _, _, false, rfl, .ty _, .base (.int i), kit_ty (by decide +kernel), q⟩
theorem g_asg (q : te σ H fun x H1 => g x σ H1 D.nx) : tAsg te g D σ H := q
theorem g_name {k : Nat} (q : QS (σ.set k (some v)) H) : gName k v σ H QS := q
theorem g_tT (h : SqT K H a xs) (hl : xs.length = n) (q : us xs σ H QS) : gTup K n us (.ref a) σ H QS := ⟨a, xs, rfl, h, hl, q⟩
theorem g_tc (q : g v σ H fun σ' H' => us xs σ' H' QS) : gCons g us (v :: xs) σ H QS := ⟨v, xs, rfl, q⟩
theorem g_tn (q : QS σ H) : gNil [] σ H QS := ⟨rfl, q⟩
theorem g_gsub {ti : TE} {ts : TSet} (q : to σ H fun o H1 => ti σ H1 fun i H2 => ts o i v H2 fun H3 => QS σ H3) : gSub to ti ts v σ H QS := q
theorem g_par {i j : Nat} (q : tl σ H fun vs H1 => ∃ v w, vs = [v, w] ∧ D.nx ((σ.set i (some v)).set j (some w)) H1) : tPar i j tl D σ H := q
theorem g_par2 {σ' : L2.St} {F : V → V → Prop} (q : F x y) : ∃ v w, [x, y] = [v, w] ∧ F v w := ⟨x, y, rfl, q⟩
theorem g_par3 {i j k : Nat} (q : tl σ H fun vs H1 => ∃ u v w, vs = [u, v, w] ∧ D.nx (((σ.set k (some w)).set j (some v)).set i (some u)) H1) : tPar3 i j k tl D σ H := q
theorem g_p2 {F : V → V → Prop} (q : F x y) : ∃ v w, [x, y] = [v, w] ∧ F v w := ⟨x, y, rfl, q⟩
theorem g_p3 {F : V → V → V → Prop} (q : F x y z) : ∃ u v w, [x, y, z] = [u, v, w] ∧ F u v w := ⟨x, y, z, rfl, q⟩
theorem g_fs (q : tv σ H fun y H1 => ta σ H1 fun x H2 => ∃ a C dx fs, x = .ref a ∧ H2 a = some (.ins C dx fs) ∧ Cls K C ∧ NoAttr K C f ∧ fs.length < 1000 ∧ D.nx σ (upd H2 a (.ins C dx (putF f y fs)))) : sFld K ta tv f D σ H := q
theorem g_fs2 {F : Addr → Addr → Addr → List (Str × V) → Prop} (h : H a = some (.ins C dx fs)) (hc : Cls K C) (hn : NoAttr K C f) (hl : fs.length < 1000) (q : F a C dx fs) :
    ∃ a' C' dx' fs', V.ref a = .ref a' ∧ H a' = some (.ins C' dx' fs') ∧ Cls K C' ∧ NoAttr K C' f ∧ fs'.length < 1000 ∧ F a' C' dx' fs' := ⟨a, C, dx, fs, rfl, h, hc, hn, hl, q⟩
theorem g_f2 {F : V → Prop} (h : H a = some (.ins C dx fs)) (hc : Cls K C) (hn : NoAttr K C f) (hl : fs.lookup f = some v) (q : F v) :
    ∃ a' C' dx' fs' v', V.ref a = .ref a' ∧ H a' = some (.ins C' dx' fs') ∧ Cls K C' ∧ NoAttr K C' f ∧ fs'.lookup f = some v' ∧ F v' := ⟨a, C, dx, fs, v, rfl, h, hc, hn, hl, q⟩
theorem g_m {sp : Sp} {E : XK} {dvs : List V} (q : ta σ H fun x H1 => ∃ a dx fs, x = .ref a ∧ H1 a = some (.ins C dx fs) ∧ fs.lookup m = none ∧ tl σ H1 fun vs H2 => sp (x :: (vs ++ dvs)) H2 Q E) : tMeth C m sp dvs E ta tl σ H Q := q
theorem g_m2 {F : Prop} (h : H a = some (.ins C dx fs)) (hl : fs.lookup m = none) (q : F) : ∃ a' dx' fs', V.ref a = .ref a' ∧ H a' = some (.ins C dx' fs') ∧ fs'.lookup m = none ∧ F := ⟨a, dx, fs, rfl, h, hl, q⟩
theorem g_mk {sp : Sp} {E : XK} {dvs : List V} (q : tl σ H fun vs H1 => ∀ x dx, H1 x = none → H1 dx = none → dx ≠ x → sp (.ref x :: (vs ++ dvs)) (upd (upd H1 dx (.own x)) x (.ins C dx [])) (fun v H2 => v = .non ∧ Q (.ref x) H2) E) : tMake C sp dvs E tl σ H Q := q
theorem g_dg (q : td σ H fun x H1 => ty σ H1 fun y H2 => ∃ a v, x = .ref a ∧ DGet H2 a y (some v) ∧ Q v H2) : tDGet td ty σ H Q := q
theorem g_dgS {F : V → Prop} {s : Str} (h : H a = some (.dK kvs)) (hv : valV kvs (Sum.inr s) = some v) (q : F v) : ∃ a' v', V.ref a = .ref a' ∧ DGet H a' (.str s) (some v') ∧ F v' :=
  ⟨a, v, rfl, by have z := DGet.k (k := Sum.inr s) h; rw [hv] at z; exact z, q⟩
theorem g_dgT {F : V → Prop} (h : H a = some (.dT (dm mm))) (hb : Pt H b pr) (hv : look mm pr = some c) (q : F (.int c)) : ∃ a' v', V.ref a = .ref a' ∧ DGet H a' (.ref b) (some v') ∧ F v' :=
  ⟨a, .int c, rfl, by have z := DGet.t (k := pk pr) h (pt_key hb); rw [dm_val, hv] at z; exact z, q⟩
theorem g_dp (q : tv σ H fun v H1 => td σ H1 fun x H2 => ty σ H2 fun y H3 => ∃ a H4, x = .ref a ∧ DPut H3 a y v H4 ∧ D.nx σ H4) : sDPut td ty tv D σ H := q
theorem g_dpS {F : Hp → Prop} {s : Str} (h : H a = some (.dK kvs)) (hl : kvs.length < sizeLine) (q : F (upd H a (.dK (putK kvs (Sum.inr s) v)))) : ∃ a' H4, V.ref a = .ref a' ∧ DPut H a' (.str s) v H4 ∧ F H4 := ⟨a, _, rfl, DPut.k (k := Sum.inr s) h hl, q⟩
theorem g_dpT {F : Hp → Prop} (h : H a = some (.dT (dm mm))) (hb : Pt H b pr) (hl : mm.length < sizeLine) (q : F (upd H a (.dT (dm (put mm pr c))))) : ∃ a' H4, V.ref a = .ref a' ∧ DPut H a' (.ref b) (.int c) H4 ∧ F H4 :=
  ⟨a, _, rfl, DPut.t (k := pk pr) h (pt_key hb) (by rw [dm_len]; exact hl), by rw [dm_put]; exact q⟩
theorem g_din (q : ty σ H fun y H1 => td σ H1 fun x H2 => ∃ a o, x = .ref a ∧ DGet H2 a y o ∧ Q (.bl o.isSome) H2) : tDIn ty td σ H Q := q
theorem g_dni (q : ty σ H fun y H1 => td σ H1 fun x H2 => ∃ a o, x = .ref a ∧ DGet H2 a y o ∧ Q (.bl (!o.isSome)) H2) : tDNotIn ty td σ H Q := q
theorem g_diT {F : Option V → Prop} (h : H a = some (.dT (dm mm))) (hb : Pt H b pr) (q : F ((look mm pr).map V.int)) : ∃ a' o, V.ref a = .ref a' ∧ DGet H a' (.ref b) o ∧ F o := by
  refine ⟨a, _, rfl, DGet.t (k := pk pr) h (pt_key hb), ?_⟩
  rw [dm_val]; exact q
theorem g_lock {o : HO} (h : H d = some o) (hm : Mut (some o)) (q : ∀ od, te σ (upd H d (.frz od o)) fun v H' => H' d = some (.frz od o) ∧ Q v (upd H' d o)) : tLockE te σ H Q := ⟨d, o, h, hm, q⟩
theorem g_bm {T : String} {rr : V → List V → Hp → VK → Prop} (q : to σ H fun x H1 => tyV K T x H1 ∧ tl σ H1 fun xs H2 => rr x xs H2 Q) : tBM K T rr to tl σ H Q := q
theorem g_tyL (h : H p = some (.lst xs)) (q : R) : tyV K "list" (.ref p) H ∧ R := ⟨.inl ⟨rfl, _, SqL.of h⟩, q⟩
theorem g_tyD {kvs : List (List L2.Key × V)} (h : H p = some (.dT kvs)) (q : R) : tyV K "dict" (.ref p) H ∧ R := ⟨.inr (.inr (.inl ⟨rfl, .inr ⟨_, h⟩⟩)), q⟩
theorem g_mg {tt : V → Hp → Prop} {rr : V → List V → Hp → VK → Prop} (q : to σ H fun x H1 => tt x H1 ∧ tl σ H1 fun xs H2 => rr x xs H2 Q) : tMG tt rr to tl σ H Q := q
theorem g_app (h : H l = some (.lst xs)) (hz : xs.length < sizeLine) (q : Q .non (upd H l (.lst (xs ++ [y])))) : rAppend (.ref l) [y] H Q := ⟨l, xs, y, rfl, rfl, h, hz, q⟩
theorem g_isN (q : Q (.bl (decide (x = .non))) H) : rIsN x .non H Q := ⟨rfl, q⟩
theorem g_ntN (q : Q (.bl (!decide (x = .non))) H) : rNotN x .non H Q := ⟨rfl, q⟩
theorem g_any {bs : List Bool} (h : H a = some (.lst (bs.map V.bl))) (q : Q (.bl (bs.any id)) H) : rAny K [.ref a] H Q := ⟨a, bs, rfl, SqL.of h, q⟩
theorem g_all {bs : List Bool} (h : H a = some (.lst (bs.map V.bl))) (q : Q (.bl (bs.all id)) H) : rAll K [.ref a] H Q := ⟨a, bs, rfl, SqL.of h, q⟩
theorem g_iL {F : Addr → Prop} (h : H a = some (.lst xs)) (q : F a) : ∃ a', V.ref a = .ref a' ∧ (∃ xs, SqL K H a' xs) ∧ F a' := ⟨a, rfl, ⟨_, SqL.of h⟩, q⟩
theorem g_iT {F : Addr → Prop} (h : SqT K H a xs) (q : F a) : ∃ a', V.ref a = .ref a' ∧ (∃ xs, SqT K H a' xs) ∧ F a' := ⟨a, rfl, ⟨_, h⟩, q⟩
theorem g_il {R : It → Hp → Prop} (q : te σ H fun x H1 => ∃ a, x = .ref a ∧ (∃ xs, SqL K H1 a xs) ∧ R (Itl K a) H1) : iList K te σ H R := q
theorem g_it {R : It → Hp → Prop} (q : te σ H fun x H1 => ∃ a, x = .ref a ∧ (∃ xs, SqT K H1 a xs) ∧ R (Itt K a) H1) : iTup K te σ H R := q
theorem g_ir {R : It → Hp → Prop} (q : tl σ H fun vs H1 => ∃ j : Int, vs = [.int j] ∧ -(2 ^ 62) ≤ j ∧ j < 2 ^ 62 ∧ R (Itr 0 j.toNat) H1) : iRng1 tl σ H R := q
theorem g_ir1 {F : Int → Prop} (h1 : -(2 ^ 62) ≤ i) (h2 : i < 2 ^ 62) (q : F i) : ∃ j : Int, [V.int i] = [.int j] ∧ -(2 ^ 62) ≤ j ∧ j < 2 ^ 62 ∧ F j := ⟨i, rfl, h1, h2, q⟩
theorem g_ik {R : It → Hp → Prop} (q : te σ H fun x H1 => ∃ d o, x = .ref d ∧ ((∃ kvs, H1 d = some (.frz o (.dK kvs)) ∧ R (Itk d o kvs) H1) ∨ ∃ kvs, H1 d = some (.frz o (.dT kvs)) ∧ R (Itkt d o kvs) H1)) : iKeys te σ H R := q
theorem g_ik1 {R1 : Addr → Obj → List (L2.Key × V) → Prop} {R2 : Addr → Obj → List (List L2.Key × V) → Prop} {o : Obj} {kvs : List (List L2.Key × V)} (h : H d = some (.frz o (.dT kvs))) (q : R2 d o kvs) :
    ∃ d' o', V.ref d = .ref d' ∧ ((∃ kvs, H d' = some (.frz o' (.dK kvs)) ∧ R1 d' o' kvs) ∨ ∃ kvs, H d' = some (.frz o' (.dT kvs)) ∧ R2 d' o' kvs) := ⟨d, o, rfl, .inr ⟨kvs, h, q⟩⟩
theorem g_for {wi : TI} {tb : TS} (q : wi σ H fun J H1 => ∃ W : Nat → Nat → L2.St → Hp → Prop, (∃ m, W 0 m σ H1) ∧ ∀ i m σ H, W i m σ H →
    (J.stop i H ∧ D.nx σ H) ∨ (J.go i H ∧ ∃ N : L2.St → Hp → Prop, (∀ σ' H', N σ' H' → ∃ m', m' < m ∧ W (i + 1) m' σ' H') ∧ ∀ x H', J.yld i H x H' → g x σ H' fun σ2 H2 => tb { D with nx := N, ct := N, bk := D.nx } σ2 H2)) : tFor wi g tb D σ H := q
theorem g_lc {wi : TI} {vs : List Nat} (q : wi σ H fun J H1 => ∀ D, H1 D = none → ∃ W : Nat → Nat → Hp → Prop, (∃ m, W 0 m (upd H1 D (.lst []))) ∧ ∀ i m H, W i m H →
    (J.stop i H ∧ Q (.ref D) H) ∨ (J.go i H ∧ ∃ Nx : Hp → Prop, (∀ H', Nx H' → ∃ m', m' < m ∧ W (i + 1) m' H') ∧ ∀ x H', J.yld i H x H' → g x (wipe σ vs) H' fun σ2 H2 => wipe σ2 vs = wipe σ vs ∧ t σ2 H2 fun b H3 =>
      if b = true then te σ2 H3 fun y H4 => ∃ acc, H4 D = some (.lst acc) ∧ acc.length < sizeLine ∧ Nx (upd H4 D (.lst (acc ++ [y]))) else Nx H3)) : tLc wi g t te vs σ H Q := q
theorem g_yes (q : QB true H) : tYes σ H QB := q
theorem g_retN (q : D.rt .non H) : tRetN D σ H := q
theorem g_eqI (q : Q (.bl (decide (i = j))) H) : rEq (.int i) (.int j) H Q := ⟨rfl, by
  have e : (V.int i = V.int j) = (i = j) := by simp
  simpa only [e] using q⟩
theorem g_neI (q : Q (.bl (!decide (i = j))) H) : rNe (.int i) (.int j) H Q := ⟨rfl, by
  have e : (V.int i = V.int j) = (i = j) := by simp
  simpa only [e] using q⟩
theorem g_ixTt (h : H p = some (.tup xs)) (ha : atI xs i = some v) (q : Q v H) : rIxT K (.ref p) (.int i) H Q := g_ixT (SqT.of h) ha q
theorem g_ixLl (h : H p = some (.lst xs)) (ha : atI xs i = some v) (q : Q v H) : rIxL K (.ref p) (.int i) H Q := g_ixL (SqL.of h) ha q
theorem g_tTt (h : H a = some (.tup xs)) (hl : xs.length = n) (q : us xs σ H QS) : gTup K n us (.ref a) σ H QS := g_tT (SqT.of h) hl q
theorem g_ie {R : It → Hp → Prop} (q : tl σ H fun vs H1 => ∃ a xs, vs = [.ref a] ∧ H1 a = some (.tup xs) ∧ R (Ite2 a) H1) : iEnum2 tl σ H R := q
theorem g_ie1 {F : Addr → Prop} (h : H a = some (.tup xs)) (q : F a) : ∃ a' xs', [V.ref a] = [.ref a'] ∧ H a' = some (.tup xs') ∧ F a' := ⟨a, xs, rfl, h, q⟩
theorem g_iz {R : It → Hp → Prop} (q : tl σ H fun vs H1 => ∃ a b xs ys, vs = [.ref a, .ref b] ∧ H1 a = some (.lst xs) ∧ H1 b = some (.tup ys) ∧ R (Itz2 a b) H1) : iZip2 tl σ H R := q
theorem g_iz1 {F : Addr → Addr → Prop} (h : H a = some (.lst xs)) (h2 : H b = some (.tup ys)) (q : F a b) : ∃ a' b' xs' ys', [V.ref a, .ref b] = [.ref a', .ref b'] ∧ H a' = some (.lst xs') ∧ H b' = some (.tup ys') ∧ F a' b' := ⟨a, b, xs, ys, rfl, h, h2, q⟩
theorem g_sl {rr : V → Option Int → Option Int → Hp → VK → Prop} {tlo thi : TO} (q : te σ H fun x H1 => tlo σ H1 fun l H2 => thi σ H2 fun u H3 => rr x l u H3 Q) : L2.tSl rr te tlo thi σ H Q := q
theorem same_unlock {o o' : HO} (s : Same (upd H0 d o') H') (h : H0 d = some o) : Same H0 (upd H' d o) := fun b u e => by
  by_cases q : b = d
  · subst q
    rw [h] at e
    cases e
    exact upd_same
  · rw [upd_ne q]
    exact s b u (by rw [upd_ne q]; exact e)
end
/-! ### rules at a given written part -/
section
variable {X : Cx} (K : PySem.W.Frag) (P : Program) (w : World)
theorem ix_tupK (h : X.K = K) : IxR X (rIxT K) := h ▸ ix_tup
theorem ix_listK (h : X.K = K) : IxR X (rIxL K) := h ▸ ix_list
theorem op_inK (h : X.K = K) : OpR X (compareOp .In) (rIn K false) := h ▸ op_in_seq
theorem op_notInK (h : X.K = K) : OpR X (compareOp .NotIn) (rIn K true) := h ▸ op_notIn_seq
theorem call_isiKK (h : X.K = K) : CallR X (.builtin "isinstance") (rIsi K) := h ▸ call_isi
theorem op_leTK (h : X.K = K) (hu : X.A.units < cLine) : OpR X (compareOp .LtE) (rLeT K) := h ▸ op_leT hu
def rTIx (K : PySem.W.Frag) : V → List V → Hp → VK → Prop := fun x xs H Q => ∃ p, ∃ ys : List Int, ∃ z j, x = .ref p ∧ xs = [.int z] ∧ SqT K H p (ys.map V.int) ∧ ys[j]? = some z ∧ (∀ m, m < j → ys[m]? ≠ some z) ∧ Q (.int (j : Nat)) H
theorem mt_tindexK (h : X.K = K) : MtR X "tuple.index" (rTIx K) := h ▸ mt_tindex
def rLn (K : PySem.W.Frag) : List V → Hp → VK → Prop := fun xs H Q => ∃ p ys, xs = [.ref p] ∧ (SqL K H p ys ∨ SqT K H p ys) ∧ Q (.int ys.length) H
theorem call_lenK (h : X.K = K) : CallR X (.builtin "len") (rLn K) := h ▸ call_len_seq
theorem ix_NK (hP : X.prog = P) (hw : X.w = w) {n : Nat} (hr : Room n X.A) : IxR X (rIxN P w) := by subst hP hw; exact ix_N hr
theorem op_inNK (hP : X.prog = P) (hw : X.w = w) {n : Nat} (hr : Room n X.A) : OpR X (compareOp .In) (rInN P w) := by subst hP hw; exact op_inN hr
theorem set_NK (hP : X.prog = P) (hw : X.w = w) {n : Nat} (hr : Room n X.A) : PSet X (rSetN P w) := by subst hP hw; exact set_N hr
theorem mt_popNK (hP : X.prog = P) (hw : X.w = w) {n : Nat} (hr : Room n X.A) : MtR X "dict.pop" (rPopN P w) := by subst hP hw; exact mt_popN hr
theorem ty_ndK (hP : X.prog = P) (hw : X.w = w) : TyOk X "dict" (tyND P w) := by subst hP hw; exact ty_nd
theorem pe_dnewNK (hP : X.prog = P) (hw : X.w = w) {pos : Pos} : PE X (.Dict [] [] pos) (tDNewN P w) := by subst hP hw; exact pe_dnewN
theorem pe_fldK (h : X.K = K) {e : Expr} {ta : TE} {f : Str} {pos : Pos} (he : PE X e ta) (hb : attributeBase e f X.env (eval e X.env) = eval e X.env) : PE X (.Attribute e f pos) (tFld K ta f) := h ▸ pe_fld he hb
theorem pg_tupK (h : X.K = K) {es : List Expr} {k : Nat} {t : TGs} {n : Nat} {pos : Pos} (hc : X.calm = true) (hp : PGs X es t) (hn : (assignEach es X.env).length = n := by rfl) (hst : (assignEach es X.env).findIdx? (·.1) = none := by rfl) : PG X (.Tuple es k pos) (gTup K n t) := h ▸ pg_tup hc hp hn hst
end
section
variable {K : PySem.W.Frag} {H : Hp} {Q : VK} {a p : Addr} {xs ys : List V}
theorem g_lnL (h : H p = some (.lst xs)) (q : Q (.int xs.length) H) : rLn K [.ref p] H Q := ⟨p, xs, rfl, .inl (SqL.of h), q⟩
theorem g_lnT (h : H p = some (.tup xs)) (q : Q (.int xs.length) H) : rLn K [.ref p] H Q := ⟨p, xs, rfl, .inr (SqT.of h), q⟩
theorem g_lnS (h : SqT K H p xs) (q : Q (.int xs.length) H) : rLn K [.ref p] H Q := ⟨p, xs, rfl, .inr h, q⟩
end
/-! ### comprehensions -/
section
variable {J : It} {n : Nat} {G : Hp → Prop} {Y : Nat → Hp → V → Hp → Prop} {g : TG} {tt : TT} {te : TE} {vs : List Nat} {σ : L2.St} {H1 : Hp} {D : Addr} {Qd : Hp → Prop}
/-- A by the turn, the new list, the heap -/
theorem lc_acc (w : Walk J n G Y) (A : Nat → List V → Hp → Prop) (h0 : A 0 [] (upd H1 D (.lst []))) (hG : ∀ i acc H, i ≤ n → A i acc H → H D = some (.lst acc) → G H)
    (hs : ∀ i acc x H H', i < n → A i acc H → H D = some (.lst acc) → Y i H x H' → ∀ (Kt : VK) (Kf : Hp → Prop), (∀ y H4, H4 D = some (.lst acc) → acc.length < sizeLine → A (i + 1) (acc ++ [y]) (upd H4 D (.lst (acc ++ [y]))) → Kt y H4) →
      (∀ H3, H3 D = some (.lst acc) → A (i + 1) acc H3 → Kf H3) → g x (wipe σ vs) H' fun σ2 H2 => wipe σ2 vs = wipe σ vs ∧ tt σ2 H2 fun b H3 => if b = true then te σ2 H3 Kt else Kf H3)
    (hd : ∀ acc H, A n acc H → H D = some (.lst acc) → Qd H) :
    ∃ W : Nat → Nat → Hp → Prop, (∃ m, W 0 m (upd H1 D (.lst []))) ∧ ∀ i m H, W i m H →
      (J.stop i H ∧ Qd H) ∨ (J.go i H ∧ ∃ Nx : Hp → Prop, (∀ H', Nx H' → ∃ m', m' < m ∧ W (i + 1) m' H') ∧ ∀ x H', J.yld i H x H' → g x (wipe σ vs) H' fun σ2 H2 => wipe σ2 vs = wipe σ vs ∧ tt σ2 H2 fun b H3 =>
        if b = true then te σ2 H3 fun y H4 => ∃ acc, H4 D = some (.lst acc) ∧ acc.length < sizeLine ∧ Nx (upd H4 D (.lst (acc ++ [y]))) else Nx H3) :=
  lc_it w (fun i H => ∃ acc, A i acc H ∧ H D = some (.lst acc)) ⟨[], h0, upd_same⟩ (fun i H hi ⟨acc, h1, h2⟩ => hG i acc H hi h1 h2)
    (fun i x H H' hi ⟨acc, h1, h2⟩ y => hs i acc x H H' hi h1 h2 y _ _ (fun y H4 e l z => ⟨acc, e, l, acc ++ [y], z, upd_same⟩) fun H3 e z => ⟨acc, z, e⟩) fun H ⟨acc, h1, h2⟩ => hd acc H h1 h2
theorem fm_snoc {α : Type} (f : Nat → Option α) (i : Nat) : (List.range (i + 1)).filterMap f = (List.range i).filterMap f ++ (match f i with | some v => [v] | none => []) := by
  rw [List.range_succ, List.filterMap_append]
  cases h : f i <;> simp [h]
theorem fm_len {α : Type} (f : Nat → Option α) (n : Nat) : ((List.range n).filterMap f).length ≤ n := by
  have := List.length_filterMap_le f (List.range n)
  simpa using this
theorem fm_some {α β : Type} (xs : List α) (f : α → Option β) (n : Nat) (h : n = xs.length) : (List.range n).filterMap (fun i => xs[i]?.bind f) = xs.filterMap f := by
  subst h
  induction xs with
  | nil => rfl
  | cons x xs ih =>
    rw [List.length_cons, List.range_succ_eq_map, List.filterMap_cons, List.filterMap_map, List.filterMap_cons]
    show (match f x with | none => _ | some b => _) = _
    have e : (List.range xs.length).filterMap ((fun i => (x :: xs)[i]?.bind f) ∘ Nat.succ) = xs.filterMap f := ih
    rw [e]
    cases f x <;> rfl
theorem fm_map {α β : Type} (xs : List α) (f : α → β) (n : Nat) (h : n = xs.length) : (List.range n).filterMap (fun i => xs[i]?.map f) = xs.map f := by
  have z := fm_some xs (fun x => some (f x)) n h
  rw [List.filterMap_eq_map'] at z
  rw [← z]
  congr 1
  funext i
  cases xs[i]? <;> rfl
/-- each turn gives a known value or nothing; the heap only grows -/
theorem lc_fm (w : Walk J n G Y) (f : Nat → Option V) (hD : H1 D = none) (hz : n < sizeLine) (hG : ∀ H, Same H1 H → G H)
    (hs : ∀ i x H H', i < n → Same H1 H → Y i H x H' → ∀ (Kt : VK) (Kf : Hp → Prop), (∀ y H4, f i = some y → Same H H4 → Kt y H4) → (∀ H3, f i = none → Same H H3 → Kf H3) →
      g x (wipe σ vs) H' fun σ2 H2 => wipe σ2 vs = wipe σ vs ∧ tt σ2 H2 fun b H3 => if b = true then te σ2 H3 Kt else Kf H3)
    (hd : ∀ H, Same H1 H → H D = some (.lst ((List.range n).filterMap f)) → Qd H) :
    ∃ W : Nat → Nat → Hp → Prop, (∃ m, W 0 m (upd H1 D (.lst []))) ∧ ∀ i m H, W i m H →
      (J.stop i H ∧ Qd H) ∨ (J.go i H ∧ ∃ Nx : Hp → Prop, (∀ H', Nx H' → ∃ m', m' < m ∧ W (i + 1) m' H') ∧ ∀ x H', J.yld i H x H' → g x (wipe σ vs) H' fun σ2 H2 => wipe σ2 vs = wipe σ vs ∧ tt σ2 H2 fun b H3 =>
        if b = true then te σ2 H3 fun y H4 => ∃ acc, H4 D = some (.lst acc) ∧ acc.length < sizeLine ∧ Nx (upd H4 D (.lst (acc ++ [y]))) else Nx H3) := by
  refine lc_acc w (fun i acc H => Same H1 H ∧ acc = (List.range i).filterMap f) ⟨same_new hD, rfl⟩ (fun i acc H _ h _ => hG H h.1) (fun i acc x H H' hi h e y Kt Kf k1 k2 => ?_) fun acc H h e => hd H h.1 (by rw [e, h.2])
  obtain ⟨s, rfl⟩ := h
  refine hs i x H H' hi s y Kt Kf (fun y H4 fi s4 => k1 y H4 (s4 _ _ e) (Nat.lt_of_le_of_lt (fm_len f i) (Nat.lt_trans hi hz)) ⟨same_mut (s.trans s4) hD, ?_⟩) fun H3 fi s3 => k2 H3 (s3 _ _ e) ⟨s.trans s3, ?_⟩
  · rw [fm_snoc, fi]
  · rw [fm_snoc, fi, List.append_nil]
/-- each turn gives a pair's address or nothing -/
theorem lc_prs (w : Walk J n G Y) (f : Nat → Option (Int × Int)) (hD : H1 D = none) (hz : n < sizeLine) (hG : ∀ H, Same H1 H → G H)
    (hs : ∀ i x H H', i < n → Same H1 H → Y i H x H' → ∀ (Kt : VK) (Kf : Hp → Prop), (∀ t p H4, f i = some p → Pt H4 t p → Same H H4 → Kt (.ref t) H4) → (∀ H3, f i = none → Same H H3 → Kf H3) →
      g x (wipe σ vs) H' fun σ2 H2 => wipe σ2 vs = wipe σ vs ∧ tt σ2 H2 fun b H3 => if b = true then te σ2 H3 Kt else Kf H3)
    (hd : ∀ H, Same H1 H → Lp H D ((List.range n).filterMap f) → Qd H) :
    ∃ W : Nat → Nat → Hp → Prop, (∃ m, W 0 m (upd H1 D (.lst []))) ∧ ∀ i m H, W i m H →
      (J.stop i H ∧ Qd H) ∨ (J.go i H ∧ ∃ Nx : Hp → Prop, (∀ H', Nx H' → ∃ m', m' < m ∧ W (i + 1) m' H') ∧ ∀ x H', J.yld i H x H' → g x (wipe σ vs) H' fun σ2 H2 => wipe σ2 vs = wipe σ vs ∧ tt σ2 H2 fun b H3 =>
        if b = true then te σ2 H3 fun y H4 => ∃ acc, H4 D = some (.lst acc) ∧ acc.length < sizeLine ∧ Nx (upd H4 D (.lst (acc ++ [y]))) else Nx H3) := by
  refine lc_acc w (fun i acc H => Same H1 H ∧ ∃ bs, acc = bs.map V.ref ∧ Prs H bs ((List.range i).filterMap f)) ⟨same_new hD, [], rfl, Prs.nil⟩ (fun i acc H _ h _ => hG H h.1) (fun i acc x H H' hi h e y Kt Kf k1 k2 => ?_)
    fun acc H h e => hd H h.1 (by obtain ⟨_, bs, e2, h2⟩ := h; exact ⟨bs, by rw [e, e2], h2⟩)
  obtain ⟨s, bs, rfl, pr⟩ := h
  have up : ∀ (H4 : Hp) (u : HO), Same H H4 → ∀ b xs, H b = some (.tup xs) → upd H4 D u b = some (.tup xs) := fun H4 u s4 b xs h => by
    rw [upd_ne (ne_of h e (fun z => nomatch z))]; exact s4 _ _ h
  refine hs i x H H' hi s y Kt Kf (fun t p H4 fi ht s4 => k1 (.ref t) H4 (s4 _ _ e) ?_ ⟨same_mut (s.trans s4) hD, bs ++ [t], by simp, ?_⟩) fun H3 fi s3 => k2 H3 (s3 _ _ e) ⟨s.trans s3, bs, rfl, ?_⟩
  · rw [List.length_map, pr.len]
    exact Nat.lt_of_le_of_lt (fm_len f i) (Nat.lt_trans hi hz)
  · rw [fm_snoc, fi]
    refine (pr.keep (up H4 _ s4)).snoc ?_
    show upd H4 D _ t = _
    rw [upd_ne]
    · exact ht
    · intro z
      have z1 : H4 D = some (.lst (bs.map V.ref)) := s4 _ _ e
      rw [← z, ht] at z1
      cases z1
  · rw [fm_snoc, fi, List.append_nil]
    exact pr.keep fun b xs h => s3 _ _ h
end
end Kx
/-! What is computed: plain Lean. -/
namespace Kx
/-- the box pair of a wish -/
def bx (l : Int) (p : Int × Int) : Int × Int := (p.1.fdiv l, p.2.fdiv l)
/-- how many of the wishes have that box at that side -/
def cnt (l : Int) (ws : List (Int × Int)) (s : Bool) (k : Int) : Nat := (ws.map fun w => sd (bx l w) s).count k
def fullAt (l : Int) (b : Nat) (ws : List (Int × Int)) (many : Int) (s : Bool) : Option (Bool × Int) := ((List.range b).find? (fun k : Nat => decide (many < ((cnt l ws s (k : Int) : Nat) : Int)))).map (fun k : Nat => (s, (k : Int)))
/-- the first box that has too many -/
def full (l : Int) (b : Nat) (ws : List (Int × Int)) (many : Int) : Option (Bool × Int) := match fullAt l b ws many false with
  | some r => some r
  | none => fullAt l b ws many true
/-- a new pair into a coloured web: its colour, the row that is exchanged, the two colours -/
structure PutR (α : Type) where
  col : Int
  row : List α
  one : Int
  other : Int
section
variable {α : Type} (e : α → Int × Int) (c : α → Int)
def fre (L : List α) (s : Bool) (p k : Int) : Bool := (hit e c L s p k).isNone
def putG (L : List α) (cols : List Int) (p : Int × Int) : PutR α := match cols.find? (fun k => fre e c L false p.1 k && fre e c L true p.2 k) with
  | some k => ⟨k, [], 0, 0⟩
  | none =>
    let one := (cols.find? (fre e c L false p.1)).getD 0
    let other := (cols.find? (fre e c L true p.2)).getD 0
    let r1 := path e c L L.length true p.2 one other
    let r2 := path e c L L.length false p.1 other one
    if r1.length ≤ r2.length then ⟨one, r1, one, other⟩ else ⟨other, r2, one, other⟩
/-- the colours behind the exchange -/
def recol [DecidableEq α] (r : PutR α) (x : α) : Int := if x ∈ r.row then r.one + r.other - c x else c x
end
/-- a web as lists: the pairs, the colours -/
def wE (web : List (Int × Int)) (i : Nat) : Int × Int := web.getD i (0, 0)
def wC (cs : List Int) (i : Nat) : Int := cs.getD i 0
/-- the colours as numbers from 0 on -/
def nums (m : Nat) : List Int := (List.range m).map Int.ofNat
end Kx
/-! The plain law of one pair into a coloured web. -/
namespace Kx
theorem find_congr {α : Type} {q r : α → Bool} : ∀ {l : List α}, (∀ x ∈ l, q x = r x) → l.find? q = l.find? r
  | [], _ => rfl
  | x :: l, h => by
    rw [List.find?_cons, List.find?_cons, h x (List.mem_cons_self ..), find_congr fun y hy => h y (List.mem_cons_of_mem _ hy)]
section
variable {α β : Type} {e : α → Int × Int} {c : α → Int} {e' : β → Int × Int} {c' : β → Int}
theorem hit_map {f : α → β} {L : List α} {s : Bool} {p k k' : Int} (he : ∀ x ∈ L, e' (f x) = e x) (hk : ∀ x ∈ L, c' (f x) = k' ↔ c x = k) : hit e' c' (L.map f) s p k' = (hit e c L s p k).map f := by
  unfold hit
  rw [List.find?_map]
  congr 1
  refine find_congr fun x hx => ?_
  simp only [Function.comp, isAt, he x hx]
  congr 1
  rw [decide_eq_decide]
  exact hk x hx
theorem fre_map {f : α → β} {L : List α} {s : Bool} {p k k' : Int} (he : ∀ x ∈ L, e' (f x) = e x) (hk : ∀ x ∈ L, c' (f x) = k' ↔ c x = k) : fre e' c' (L.map f) s p k' = fre e c L s p k := by
  unfold fre
  rw [hit_map he hk]
  cases hit e c L s p k <;> rfl
theorem fre_iff {L : List α} {s : Bool} {p k : Int} : fre e c L s p k = true ↔ ∀ x ∈ L, sd (e x) s = p → c x ≠ k := by
  unfold fre
  rw [Option.isNone_iff_eq_none]
  exact ⟨hit_none, hit_none_of⟩
theorem putG_perm {L L' : List α} (P : Proper e c L) (h : L'.Perm L) (cols : List Int) (p : Int × Int) : putG e c L' cols p = putG e c L cols p := by
  have hf : ∀ s q k, fre e c L' s q k = fre e c L s q k := fun s q k => by unfold fre; rw [hit_perm P h]
  have e1 : (fun k => fre e c L' false p.1 k && fre e c L' true p.2 k) = fun k => fre e c L false p.1 k && fre e c L true p.2 k := by funext k; rw [hf, hf]
  have e2 : fre e c L' false p.1 = fre e c L false p.1 := funext fun k => hf _ _ k
  have e3 : fre e c L' true p.2 = fre e c L true p.2 := funext fun k => hf _ _ k
  unfold putG
  simp only [e1, e2, e3, path_perm P h, h.length_eq]
/-- what putG gives, told by cases -/
theorem putG_cases [DecidableEq α] {L : List α} {cols : List Int} {p : Int × Int} (P : Proper e c L) (h0 : ∃ k ∈ cols, fre e c L false p.1 k = true) (h1 : ∃ k ∈ cols, fre e c L true p.2 k = true) :
    (∃ k ∈ cols, putG e c L cols p = ⟨k, [], 0, 0⟩ ∧ fre e c L false p.1 k = true ∧ fre e c L true p.2 k = true ∧ cols.find? (fun k => fre e c L false p.1 k && fre e c L true p.2 k) = some k) ∨
    ∃ one ∈ cols, ∃ other ∈ cols, one ≠ other ∧ fre e c L false p.1 one = true ∧ fre e c L true p.2 other = true ∧ cols.find? (fun k => fre e c L false p.1 k && fre e c L true p.2 k) = none ∧ cols.find? (fre e c L false p.1) = some one ∧ cols.find? (fre e c L true p.2) = some other ∧
      ((∃ row, row = path e c L L.length true p.2 one other ∧ row.length ≤ (path e c L L.length false p.1 other one).length ∧ putG e c L cols p = ⟨one, row, one, other⟩ ∧ Row (e := e) (c := c) L true p.2 one other row) ∨
        ∃ row, row = path e c L L.length false p.1 other one ∧ ¬ (path e c L L.length true p.2 one other).length ≤ row.length ∧ putG e c L cols p = ⟨other, row, one, other⟩ ∧ Row (e := e) (c := c) L false p.1 other one row) := by
  cases hb : cols.find? (fun k => fre e c L false p.1 k && fre e c L true p.2 k) with
  | some k =>
    have := List.find?_some hb
    rw [Bool.and_eq_true] at this
    exact .inl ⟨k, List.mem_of_find?_eq_some hb, by unfold putG; rw [hb], this.1, this.2, rfl⟩
  | none =>
    obtain ⟨k0, hk0, hf0⟩ := h0
    obtain ⟨k1, hk1, hf1⟩ := h1
    cases ho : cols.find? (fre e c L false p.1) with
    | none => exact absurd hf0 (List.find?_eq_none.mp ho k0 hk0)
    | some one =>
      cases ht : cols.find? (fre e c L true p.2) with
      | none => exact absurd hf1 (List.find?_eq_none.mp ht k1 hk1)
      | some other =>
        have f1 := List.find?_some ho
        have f2 := List.find?_some ht
        have m1 := List.mem_of_find?_eq_some ho
        have hne : one ≠ other := by
          rintro rfl
          have := List.find?_eq_none.mp hb one m1
          rw [f1, f2] at this
          exact this rfl
        refine .inr ⟨one, m1, other, List.mem_of_find?_eq_some ht, hne, f1, f2, rfl, rfl, rfl, ?_⟩
        have eP : putG e c L cols p = if (path e c L L.length true p.2 one other).length ≤ (path e c L L.length false p.1 other one).length then ⟨one, path e c L L.length true p.2 one other, one, other⟩ else ⟨other, path e c L L.length false p.1 other one, one, other⟩ := by
          unfold putG; rw [hb, ho, ht]; rfl
        by_cases q : (path e c L L.length true p.2 one other).length ≤ (path e c L L.length false p.1 other one).length
        · rw [if_pos q] at eP
          exact .inl ⟨_, rfl, q, eP, path_row P hne (fre_iff.mp f2) (Nat.le_refl _)⟩
        · rw [if_neg q] at eP
          exact .inr ⟨_, rfl, q, eP, path_row P (Ne.symm hne) (fre_iff.mp f1) (Nat.le_refl _)⟩
theorem putG_map [DecidableEq α] [DecidableEq β] {f : α → β} {g : Int → Int} {L : List α} {cols : List Int} {p : Int × Int} (P : Proper e c L) (he : ∀ x ∈ L, e' (f x) = e x) (hc : ∀ x ∈ L, ∀ k ∈ cols, c' (f x) = g k ↔ c x = k)
    (hi : ∀ x ∈ L, ∀ y ∈ L, f x = f y → x = y) (hx : ∀ x ∈ L, c x ∈ cols) (h0 : ∃ k ∈ cols, fre e c L false p.1 k = true) (h1 : ∃ k ∈ cols, fre e c L true p.2 k = true) :
    (putG e c L cols p).col ∈ cols ∧ (putG e' c' (L.map f) (cols.map g) p).col = g (putG e c L cols p).col ∧ (putG e' c' (L.map f) (cols.map g) p).row = (putG e c L cols p).row.map f ∧
      ∀ x ∈ L, recol c (putG e c L cols p) x ∈ cols ∧ recol c' (putG e' c' (L.map f) (cols.map g) p) (f x) = g (recol c (putG e c L cols p) x) := by
  have ff : ∀ s q, ∀ k ∈ cols, fre e' c' (L.map f) s q (g k) = fre e c L s q k := fun s q k hk => fre_map he fun x hx => hc x hx k hk
  have eb : (cols.map g).find? (fun k => fre e' c' (L.map f) false p.1 k && fre e' c' (L.map f) true p.2 k) = (cols.find? fun k => fre e c L false p.1 k && fre e c L true p.2 k).map g := by
    rw [List.find?_map]
    congr 1
    exact find_congr fun k hk => by simp only [Function.comp]; rw [ff _ _ k hk, ff _ _ k hk]
  have e0 : (cols.map g).find? (fre e' c' (L.map f) false p.1) = (cols.find? (fre e c L false p.1)).map g := by
    rw [List.find?_map]
    congr 1
    exact find_congr fun k hk => ff _ _ k hk
  have e1 : (cols.map g).find? (fre e' c' (L.map f) true p.2) = (cols.find? (fre e c L true p.2)).map g := by
    rw [List.find?_map]
    congr 1
    exact find_congr fun k hk => ff _ _ k hk
  have gc : ∀ x ∈ L, c' (f x) = g (c x) := fun x hxL => (hc x hxL _ (hx x hxL)).mpr rfl
  rcases putG_cases P h0 h1 with ⟨k, hk, eP, _, _, hb⟩ | ⟨one, m1, other, m2, hne, f1, f2, hb, ho, ht, hr⟩
  · have eP' : putG e' c' (L.map f) (cols.map g) p = ⟨g k, [], 0, 0⟩ := by unfold putG; rw [eb, hb]; rfl
    rw [eP, eP']
    exact ⟨hk, rfl, rfl, fun x hxL => ⟨by simp [recol, hx x hxL], by simp [recol, gc x hxL]⟩⟩
  · have pm : ∀ s q k k', k ∈ cols → k' ∈ cols → path e' c' (L.map f) (L.map f).length s q (g k) (g k') = (path e c L L.length s q k k').map f := fun s q k k' hk hk' => by
      rw [List.length_map]
      exact path_map he (fun x hx => hc x hx k hk) (fun x hx => hc x hx k' hk') _ _ _
    have eP' : putG e' c' (L.map f) (cols.map g) p = if (path e c L L.length true p.2 one other).length ≤ (path e c L L.length false p.1 other one).length then ⟨g one, (path e c L L.length true p.2 one other).map f, g one, g other⟩ else ⟨g other, (path e c L L.length false p.1 other one).map f, g one, g other⟩ := by
      unfold putG
      rw [eb, e0, e1, hb, ho, ht]
      simp only [Option.map_none, Option.map_some, Option.getD_some]
      rw [pm true p.2 one other m1 m2, pm false p.1 other one m2 m1, List.length_map, List.length_map]
    have rc : ∀ row : List α, (∀ v ∈ row, v ∈ L ∧ (c v = one ∨ c v = other)) → ∀ (k k' : Int), ∀ x ∈ L, recol c ⟨k, row, one, other⟩ x ∈ cols ∧ recol c' ⟨k', row.map f, g one, g other⟩ (f x) = g (recol c ⟨k, row, one, other⟩ x) := by
      intro row hrow k k' x hxL
      unfold recol
      by_cases hm : x ∈ row
      · have hm' : f x ∈ row.map f := List.mem_map.mpr ⟨x, hm, rfl⟩
        rw [if_pos hm', if_pos hm, gc x hxL]
        dsimp only
        rcases (hrow x hm).2 with h | h
        · rw [h, show one + other - one = other by omega]; exact ⟨m2, by omega⟩
        · rw [h, show one + other - other = one by omega]; exact ⟨m1, by omega⟩
      · have hm' : ¬ f x ∈ row.map f := fun z => by
          obtain ⟨y, hy, ey⟩ := List.mem_map.mp z
          exact hm (hi y (hrow y hy).1 x hxL ey ▸ hy)
        rw [if_neg hm', if_neg hm, gc x hxL]
        exact ⟨hx x hxL, rfl⟩
    rcases hr with ⟨row, rfl, hle, eP, R⟩ | ⟨row, rfl, hle, eP, R⟩
    · rw [if_pos hle] at eP'
      rw [eP, eP']
      exact ⟨m1, rfl, rfl, rc _ R.sub _ _⟩
    · rw [if_neg hle] at eP'
      rw [eP, eP']
      exact ⟨m2, rfl, rfl, rc _ (fun v hv => ⟨(R.sub v hv).1, (R.sub v hv).2.symm⟩) _ _⟩
/-- the web stays proper -/
theorem putG_proper [DecidableEq α] {L : List α} {cols : List Int} {p : Int × Int} (P : Proper e c L) (h0 : ∃ k ∈ cols, fre e c L false p.1 k = true) (h1 : ∃ k ∈ cols, fre e c L true p.2 k = true) :
    (∀ x ∈ L, ∀ y ∈ L, ∀ s, sd (e x) s = sd (e y) s → recol c (putG e c L cols p) x = recol c (putG e c L cols p) y → x = y) ∧ ∀ x ∈ L, ∀ s, sd (e x) s = sd p s → recol c (putG e c L cols p) x ≠ (putG e c L cols p).col := by
  rcases putG_cases P h0 h1 with ⟨k, hk, eP, f1, f2, _⟩ | ⟨one, m1, other, m2, hne, f1, f2, _, _, _, hr⟩
  · rw [eP]
    refine ⟨fun x hx y hy s h1 h2 => P.uq x hx y hy s h1 (by simpa [recol] using h2), fun x hx s hs => ?_⟩
    have : recol c (⟨k, [], 0, 0⟩ : PutR α) x = c x := by simp [recol]
    rw [this]
    cases s with
    | false => exact fre_iff.mp f1 x hx hs
    | true => exact fre_iff.mp f2 x hx hs
  · have gen : ∀ (row : List α) (k : Int), (∀ v ∈ row, v ∈ L ∧ (c v = one ∨ c v = other)) → (∀ v ∈ row, ∀ y ∈ L, ∀ s, sd (e y) s = sd (e v) s → (c y = one ∨ c y = other) → y ∈ row) →
        ∀ x ∈ L, ∀ y ∈ L, ∀ s, sd (e x) s = sd (e y) s → recol c ⟨k, row, one, other⟩ x = recol c ⟨k, row, one, other⟩ y → x = y := by
      intro row k sub cl x hx y hy s hs hr
      unfold recol at hr
      simp only at hr
      by_cases hxr : x ∈ row
      · by_cases hyr : y ∈ row
        · rw [if_pos hxr, if_pos hyr] at hr
          exact P.uq x hx y hy s hs (by omega)
        · rw [if_pos hxr, if_neg hyr] at hr
          refine absurd (cl x hxr y hy s hs.symm ?_) hyr
          rcases (sub x hxr).2 with h | h <;> omega
      · by_cases hyr : y ∈ row
        · rw [if_neg hxr, if_pos hyr] at hr
          refine absurd (cl y hyr x hx s hs ?_) hxr
          rcases (sub y hyr).2 with h | h <;> omega
        · rw [if_neg hxr, if_neg hyr] at hr
          exact P.uq x hx y hy s hs hr
    have F1 := fre_iff.mp f1
    have F2 := fre_iff.mp f2
    rcases hr with ⟨row, _, _, eP, R⟩ | ⟨row, _, _, eP, R⟩
    · rw [eP]
      refine ⟨gen row one R.sub fun v hv y hy s h1 h2 => R.closed v hv y hy s h1 h2, fun x hx s hs hq => ?_⟩
      unfold recol at hq
      simp only at hq
      by_cases hxr : x ∈ row
      · rw [if_pos hxr] at hq
        have hc : c x = other := by omega
        cases s with
        | false => exact R.away p.1 (fun y hy h => F1 y hy h) x hxr hs
        | true => exact F2 x hx hs hc
      · rw [if_neg hxr] at hq
        cases s with
        | false => exact F1 x hx hs hq
        | true => exact hxr (R.start x hx hs hq)
    · rw [eP]
      refine ⟨gen row other (fun v hv => ⟨(R.sub v hv).1, (R.sub v hv).2.symm⟩) fun v hv y hy s h1 h2 => R.closed v hv y hy s h1 h2.symm, fun x hx s hs hq => ?_⟩
      unfold recol at hq
      simp only at hq
      by_cases hxr : x ∈ row
      · rw [if_pos hxr] at hq
        have hc : c x = one := by omega
        cases s with
        | false => exact F1 x hx hs hc
        | true => exact R.away p.2 (fun y hy h => F2 y hy h) x hxr hs
      · rw [if_neg hxr] at hq
        cases s with
        | false => exact hxr (R.start x hx hs hq)
        | true => exact F2 x hx hs hq
end
end Kx
set_option maxHeartbeats 4000000
namespace Kx
open PySem PySem.Spec PyProof.Rows L2

local macro_rules | `(tactic| walk_at "ht") => `(tactic| (repeat (first | assumption | exact upd_same | refine upd_old ?_ (by assumption) | refine Same.at_ (by assumption) ?_ | refine Fr.tup (by assumption) ?_)))
local macro_rules | `(tactic| walk_at "go1") => `(tactic| (first
  | ((with_reducible apply g_var); (focus rfl)) | with_reducible refine g_op ?_ | with_reducible refine g_c ?_ | with_reducible refine g_I0 ?_ | with_reducible refine g_eqI ?_ | with_reducible refine g_neI ?_
  | with_reducible refine g_cons ?_ | with_reducible refine g_nil ?_ | with_reducible refine g_tup ?_ | with_reducible refine g_lst ?_ | with_reducible refine g_bl ?_ | with_reducible refine g_test ?_
  | with_reducible refine g_B ?_ | with_reducible refine g_and ?_ | with_reducible refine g_or ?_ | with_reducible refine g_not ?_ | with_reducible refine g_andV ?_ | with_reducible refine g_orV ?_
  | with_reducible refine g_notV ?_ | with_reducible refine g_if ?_ | with_reducible refine g_cb ?_ | with_reducible refine g_call ?_ | with_reducible refine g_chain ?_ | with_reducible refine g_un ?_
  | with_reducible refine g_u ?_ | with_reducible refine g_seq ?_ | with_reducible refine g_next ?_ | with_reducible refine g_ret ?_ | with_reducible refine g_set ?_ | with_reducible refine g_ifS ?_
  | with_reducible refine g_drop ?_ | with_reducible refine g_asg ?_ | with_reducible refine g_name ?_ | with_reducible refine g_tc ?_ | with_reducible refine g_tn ?_ | with_reducible refine g_par ?_
  | with_reducible refine g_par3 ?_ | with_reducible refine g_p2 ?_ | with_reducible refine g_p3 ?_ | with_reducible refine g_fs ?_ | with_reducible refine g_fld ?_ | with_reducible refine g_m ?_
  | with_reducible refine g_mk ?_ | with_reducible refine g_dg ?_ | with_reducible refine g_dp ?_ | with_reducible refine g_din ?_ | with_reducible refine g_dni ?_ | with_reducible refine g_bm ?_
  | with_reducible refine g_mg ?_ | with_reducible refine g_il ?_ | with_reducible refine g_it ?_ | with_reducible refine g_ir ?_ | with_reducible refine g_ik ?_ | with_reducible refine g_for ?_
  | with_reducible refine g_lc ?_ | with_reducible refine g_ie ?_ | with_reducible refine g_iz ?_ | with_reducible refine g_yes ?_ | with_reducible refine g_retN ?_ | with_reducible refine g_gsub ?_ | with_reducible refine g_isN ?_ | with_reducible refine g_ntN ?_
  | with_reducible refine g_isiInt ?_ | with_reducible refine g_isiBool ?_ | with_reducible refine g_sl ?_ | with_reducible refine g_on ?_ | with_reducible refine g_os ?_ | ((with_reducible refine g_dsz ?_ ?_); (focus rfl); intro p hp)
  | ((with_reducible apply g_ixTt); (focus (walk_at "ht"; done)); (focus rfl)) | ((with_reducible apply g_ixLl); (focus (walk_at "ht"; done)); (focus rfl)) | ((with_reducible apply g_isiT); (focus (walk_at "ht"; done))) | ((with_reducible apply g_lnL); (focus (walk_at "ht"; done))) | ((with_reducible apply g_lnT); (focus (walk_at "ht"; done))) | ((with_reducible apply g_tTt); (focus (walk_at "ht"; done)); (focus rfl))
  | ((with_reducible apply g_tyL); (focus (walk_at "ht"; done))) | refine iteT ?_ | refine iteF ?_))
local macro_rules | `(tactic| walk_at "go") => `(tactic| (repeat (walk_at "go1")))
theorem cnt_fm (l : Int) (ws : List (Int × Int)) (s : Bool) (c : Int) : ((ws.map (bx l)).filterMap fun p => if sd p s = c then some p else none).length = cnt l ws s c := by
  unfold cnt
  induction ws with
  | nil => rfl
  | cons q ws ih =>
    simp only [List.map_cons, List.filterMap_cons, List.count_cons]
    rw [List.filterMap_map] at ih ⊢
    by_cases h : sd (bx l q) s = c
    · simp [h, ih]
    · simp [h, ih]
theorem at_sd (p : Int × Int) (s : Bool) : atI [V.int p.1, V.int p.2] (if s then 1 else 0) = some (.int (sd p s)) := by cases s <;> rfl
theorem find_first {b i : Nat} {q : Nat → Bool} (hi : i < b) (h : q i = true) (hn : ∀ k, k < i → q k = false) : (List.range b).find? q = some i := by
  rw [List.find?_eq_some_iff_getElem]
  refine ⟨h, i, by simpa using hi, by simp, fun k hk => ?_⟩
  rw [List.getElem_range, hn k hk]
  rfl
/-! ### what the small defs promise -/
def spIsPair : Sp := fun vs H Q _ => ∃ (t : Addr) (x y : V), vs = [.ref t] ∧ H t = some (.tup [x, y]) ∧ Q (.bl true) H
def spIsLot : Sp := fun vs H Q _ => ∃ (t : Addr) (ns : List Int) (many : Int), vs = [.ref t, .int many] ∧ Ft H t (ns.map V.int) ∧ ns.Pairwise (· < ·) ∧ (∀ n ∈ ns, 0 ≤ n ∧ n < many) ∧ Q (.bl true) H
def spIsTie : Sp := fun vs H Q _ => ∃ (t : Addr) (p : Int × Int) (many : Int), vs = [.ref t, .int many] ∧ Pt H t p ∧ (0 ≤ p.1 ∧ p.1 < many) ∧ (0 ≤ p.2 ∧ p.2 < many) ∧ Q (.bl true) H
def spEndsOf : Sp := fun vs H Q _ => ∃ (t : Addr) (p : Int × Int), vs = [.ref t] ∧ Pt H t p ∧
  ∀ a b d, H a = none → upd H a (.tup [.int 0, .int p.1]) b = none → upd (upd H a (.tup [.int 0, .int p.1])) b (.tup [.int 1, .int p.2]) d = none →
    Q (.ref d) (upd (upd (upd H a (.tup [.int 0, .int p.1])) b (.tup [.int 1, .int p.2])) d (.tup [.ref a, .ref b]))
def spCheckSizes : Sp := fun vs H Q _ => ∃ (t : Addr) (l b : Int), vs = [.ref t] ∧ Pt H t (l, b) ∧ (1 ≤ l ∧ l ≤ 12) ∧ (1 ≤ b ∧ b ≤ 12) ∧ l * b ≤ 12 ∧ Q .non H
def spCheckPlanes : Sp := fun vs H Q _ => ∃ (t : Addr) (ns : List Int), vs = [.ref t] ∧ Ft H t (ns.map V.int) ∧ ns.Pairwise (· < ·) ∧ (∀ n ∈ ns, 0 ≤ n ∧ n < 12) ∧ Q .non H
/-- the answer of full_box, the pair at p -/
def sideV (s : Bool) : V := .str (if s then "out" else "in")
def spFullBox : Sp := fun vs H Q _ => ∃ (t a : Addr) (l : Int) (b : Nat) (ws : List (Int × Int)) (many : Int), vs = [.ref t, .ref a, .int many] ∧ Pt H t (l, (b : Int)) ∧ 0 < l ∧ l ≤ 12 ∧ b ≤ 12 ∧ Lp H a ws ∧ ws.length < sizeLine ∧
  ∀ H', Same H H' → (match full l b ws many with | none => Q .non H' | some (s, k) => ∀ p, H' p = some (.tup [sideV s, .int k]) → Q (.ref p) H')
section
variable {P : Program} {w : World} {K : PySem.W.Frag} {mg : Str → Option Value} {base : Heap} (T : Tx K mg)
theorem scIsPair : FnScope ["thing"] ["thing"] (defScope sIsPair) := ⟨rfl, rfl, rfl, by decide +kernel, rfl, by decide +kernel, by decide +kernel⟩
include T in
theorem ok_is_pair {f : Addr} {fd : FuncData} (F : FnP K "is_pair" "is_pair" sIsPair f fd)
      :
    FnOk P w K mg base CX0 1 f fd ["thing"] spIsPair := by
  refine F.ok scIsPair (fun vs H Q E h => ?_) (fun cdv A outer s H vs Q E hr h => ?_)
  · obtain ⟨t, x, y, rfl, _⟩ := h; rfl
  · obtain ⟨t, x, y, rfl, ht, k⟩ := h
    refine ⟨_, PSs.nox (pss_one (ps_ret (pe_and (pe_callB (call_isiKK K rfl) (by rfl) T.z_isinstance (by decide +kernel) (pa_cons (pv 0) (pa_cons (pe_bltn (v := .ty "tuple") (by rfl) T.z_tuple (by decide +kernel) rfl) pa_nil))) (pe_one (pe_cmpR op_eq (pe_callB (call_lenK K rfl) (by rfl) T.z_len (by decide +kernel) (pa_cons (pv 0) pa_nil)) pe_int (nomark _)))))), ?_⟩
    walk_at "go"
    exact k
theorem scIsTie : FnScope ["thing", "many"] ["thing", "many"] (defScope sIsTie) := ⟨rfl, rfl, rfl, by decide +kernel, rfl, by decide +kernel, by decide +kernel⟩
theorem ok_is_tie {f : Addr} {fd : FuncData} (F : FnP K "is_tie" "is_tie" sIsTie f fd)
    (c_is_pair : Cal P w K mg base CX0 1 "is_pair" ["thing"] spIsPair) (c_is_within : Cal P w K mg base CX0 2 "is_within" ["thing", "least", "most"] spIsWithin)  :
    FnOk P w K mg base CX0 3 f fd ["thing", "many"] spIsTie := by
  refine F.ok scIsTie (fun vs H Q E h => ?_) (fun cdv A outer s H vs Q E hr h => ?_)
  · obtain ⟨t, p, many, rfl, _⟩ := h; rfl
  · obtain ⟨t, p, many, rfl, ht, h1, h2, k⟩ := h
    refine ⟨_, PSs.nox (pss_one (ps_ret (pe_and (pe_callF c_is_pair hr (by decide) (by rfl) (pa_cons (pv 0) pa_nil)) (pe_and (pe_callF c_is_within hr (by decide) (by rfl) (pa_cons (pe_ix (ix_tupK K rfl) (pv 0) pe_int (fun _ _ => rfl)) (pa_cons pe_int (pa_cons (pe_op op_sub (pv 1) pe_int) pa_nil)))) (pe_one (pe_callF c_is_within hr (by decide) (by rfl) (pa_cons (pe_ix (ix_tupK K rfl) (pv 0) pe_int (fun _ _ => rfl)) (pa_cons pe_int (pa_cons (pe_op op_sub (pv 1) pe_int) pa_nil))))))))), ?_⟩
    walk_at "go"
    refine ⟨t, _, _, rfl, ht, ?_⟩
    walk_at "go"
    refine ⟨p.1, 0, many - 1, rfl, ?_⟩
    rw [decide_eq_true (show 0 ≤ p.1 ∧ p.1 ≤ many - 1 by omega)]
    walk_at "go"
    refine ⟨p.2, 0, many - 1, rfl, ?_⟩
    rw [decide_eq_true (show 0 ≤ p.2 ∧ p.2 ≤ many - 1 by omega)]
    exact k
theorem scIsLot : FnScope ["thing", "many", "last", "number"] ["thing", "many"] (defScope sIsLot) := ⟨rfl, rfl, rfl, by decide +kernel, rfl, by decide +kernel, by decide +kernel⟩
include T in
theorem ok_is_lot {f : Addr} {fd : FuncData} (F : FnP K "is_lot" "is_lot" sIsLot f fd)
    (c_is_within : Cal P w K mg base CX0 2 "is_within" ["thing", "least", "most"] spIsWithin)  :
    FnOk P w K mg base CX0 3 f fd ["thing", "many"] spIsLot := by
  refine F.ok scIsLot (fun vs H Q E h => ?_) (fun cdv A outer s H vs Q E hr h => ?_)
  · obtain ⟨t, ns, many, rfl, _⟩ := h; rfl
  · obtain ⟨t, ns, many, rfl, ht, hs, hb, k⟩ := h
    refine ⟨_, PSs.nox (pss_cons (ps_if (pt_not (pt_val (pe_callB (call_isiKK K rfl) (by rfl) T.z_isinstance (by decide +kernel) (pa_cons (pv 0) (pa_cons (pe_bltn (v := .ty "tuple") (by rfl) T.z_tuple (by decide +kernel) rfl) pa_nil))))) (pss_one (ps_ret pe_bl)) pss_nil)
      (pss_cons (ps_set (i := 2) scIsLot.nd rfl (Or.inl rfl) (pe_un un_neg pe_int))
      (pss_cons (ps_for PassesOwn.never rfl (pi_tup (pv 0)) (pg_name (i := 3) scIsLot.nd rfl (Or.inl rfl))
      (pss_cons (ps_if (pt_not (pt_val (pe_callF c_is_within hr (by decide) (by rfl) (pa_cons (pv 3) (pa_cons (pe_op op_add (pv 2) pe_int) (pa_cons (pe_op op_sub (pv 1) pe_int) pa_nil)))))) (pss_one (ps_ret pe_bl)) pss_nil)
      (pss_one (ps_set (i := 2) scIsLot.nd rfl (Or.inl rfl) (pv 3)))))
      (pss_one (ps_ret pe_bl))))), ?_⟩
    walk_at "go"
    refine g_isiF ht ?_
    walk_at "go"
    refine g_iT ht.sq ?_
    refine for_it walk_tup (fun i σ H' => H' = H ∧ ∃ last x3, σ = [some (.ref t), some (.int many), some (.int last), x3] ∧ -1 ≤ last ∧ ∀ n ∈ ns.drop i, last < n) ⟨rfl, -1, none, rfl, Int.le_refl _, fun n hn => by have := hb n hn; omega⟩
      (fun i σ H' _ h => by obtain ⟨rfl, _⟩ := h; exact ht.sq) (fun i x σ H1 H2 hi h y => ?_) (fun σ H' h => ?_)
    · obtain ⟨rfl, last, x3, rfl, l0, hl⟩ := h
      obtain ⟨rfl, hx⟩ := y
      obtain ⟨n, rfl, hn⟩ := ints_at hx
      have hm : n ∈ ns.drop i := List.mem_of_getElem? (i := 0) (by rw [List.getElem?_drop]; exact hn)
      have h3 := hl n hm
      have h4 := hb n (List.mem_of_getElem? hn)
      walk_at "go"
      refine ⟨n, last + 1, many - 1, rfl, ?_⟩
      rw [decide_eq_true (show last + 1 ≤ n ∧ n ≤ many - 1 by omega)]
      walk_at "go"
      refine ⟨rfl, n, some (.int n), rfl, by omega, fun m hm' => ?_⟩
      have hi' : i < ns.length := (List.getElem?_eq_some_iff.mp hn).1
      have e : ns.drop i = n :: ns.drop (i + 1) := by rw [List.drop_eq_getElem_cons hi', (List.getElem?_eq_some_iff.mp hn).2]
      have p := hs.sublist (List.drop_sublist i ns)
      rw [e] at p
      exact (List.pairwise_cons.mp p).1 m hm'
    · obtain ⟨rfl, last, x3, rfl, _⟩ := h
      walk_at "go"
      exact k
theorem scEndsOf : FnScope ["tie"] ["tie"] (defScope sEndsOf) := ⟨rfl, rfl, rfl, by decide +kernel, rfl, by decide +kernel, by decide +kernel⟩
theorem ok_ends_of {f : Addr} {fd : FuncData} (F : FnP K "ends_of" "ends_of" sEndsOf f fd)
      :
    FnOk P w K mg base CX0 1 f fd ["tie"] spEndsOf := by
  refine F.ok scEndsOf (fun vs H Q E h => ?_) (fun cdv A outer s H vs Q E hr h => ?_)
  · obtain ⟨t, p, rfl, _⟩ := h; rfl
  · obtain ⟨t, p, rfl, ht, k⟩ := h
    refine ⟨_, PSs.nox (pss_one (ps_ret (pe_tup (pa_cons (pe_tup (pa_cons pe_int (pa_cons (pe_ix (ix_tupK K rfl) (pv 0) pe_int (fun _ _ => rfl)) pa_nil))) (pa_cons (pe_tup (pa_cons pe_int (pa_cons (pe_ix (ix_tupK K rfl) (pv 0) pe_int (fun _ _ => rfl)) pa_nil))) pa_nil))))), ?_⟩
    walk_at "go"
    exact k _ _ _ (by assumption) (by assumption) (by assumption)
theorem scCheckSizes : FnScope ["sizes"] ["sizes"] (defScope sCheckSizes) := ⟨rfl, rfl, rfl, by decide +kernel, rfl, by decide +kernel, by decide +kernel⟩
include T in
theorem ok_check_sizes {f : Addr} {fd : FuncData} (F : FnP K "check_sizes" "check_sizes" sCheckSizes f fd)
    (c_is_pair : Cal P w K mg base CX0 1 "is_pair" ["thing"] spIsPair) (c_is_within : Cal P w K mg base CX0 2 "is_within" ["thing", "least", "most"] spIsWithin)  :
    FnOk P w K mg base CX0 3 f fd ["sizes"] spCheckSizes := by
  obtain ⟨tk, m12⟩ := T.ml
  refine F.ok scCheckSizes (fun vs H Q E h => ?_) (fun cdv A outer s H vs Q E hr h => ?_)
  · obtain ⟨t, l, b, rfl, _⟩ := h; rfl
  · obtain ⟨t, l, b, rfl, ht, h1, h2, h3, k⟩ := h
    refine ⟨_, PSs.nox (pss_cons (ps_if (PW.pt (pw_or (pt_not (pt_val (pe_callF c_is_pair hr (by decide) (by rfl) (pa_cons (pv 0) pa_nil)))) (pw_or (pt_not (pt_val (pe_callF c_is_within hr (by decide) (by rfl) (pa_cons (pe_ix (ix_tupK K rfl) (pv 0) pe_int (fun _ _ => rfl)) (pa_cons pe_int (pa_cons (pe_glob (v := .int 12) (by rfl) m12 ⟨_, rfl⟩) pa_nil)))))) (pw_or1 (pt_not (pt_val (pe_callF c_is_within hr (by decide) (by rfl) (pa_cons (pe_ix (ix_tupK K rfl) (pv 0) pe_int (fun _ _ => rfl)) (pa_cons pe_int (pa_cons (pe_glob (v := .int 12) (by rfl) m12 ⟨_, rfl⟩) pa_nil)))))))))) (pss_one ps_never) pss_nil)
      (pss_one (ps_if (pt_cmpR op_gt (pe_op op_mul (pe_ix (ix_tupK K rfl) (pv 0) pe_int (fun _ _ => rfl)) (pe_ix (ix_tupK K rfl) (pv 0) pe_int (fun _ _ => rfl))) (pe_glob (v := .int 12) (by rfl) m12 ⟨_, rfl⟩) (nomark _)) (pss_one ps_never) pss_nil))), ?_⟩
    walk_at "go"
    refine ⟨t, _, _, rfl, ht, ?_⟩
    walk_at "go"
    refine ⟨l, 1, 12, rfl, ?_⟩
    rw [decide_eq_true h1]
    walk_at "go"
    refine ⟨b, 1, 12, rfl, ?_⟩
    rw [decide_eq_true h2]
    walk_at "go"
    refine g_I (C := CMul) (.inl ⟨by omega, by omega⟩) ?_
    walk_at "go"
    rw [decide_eq_false (show ¬ l * b > 12 by omega)]
    walk_at "go"
    exact k
theorem scCheckPlanes : FnScope ["alive"] ["alive"] (defScope sCheckPlanes) := ⟨rfl, rfl, rfl, by decide +kernel, rfl, by decide +kernel, by decide +kernel⟩
include T in
theorem ok_check_planes {f : Addr} {fd : FuncData} (F : FnP K "check_planes" "check_planes" sCheckPlanes f fd)
    (c_is_lot : Cal P w K mg base CX0 3 "is_lot" ["thing", "many"] spIsLot)  :
    FnOk P w K mg base CX0 4 f fd ["alive"] spCheckPlanes := by
  obtain ⟨tk, m13⟩ := T.mp
  refine F.ok scCheckPlanes (fun vs H Q E h => ?_) (fun cdv A outer s H vs Q E hr h => ?_)
  · obtain ⟨t, ns, rfl, _⟩ := h; rfl
  · obtain ⟨t, ns, rfl, ht, hs, hb, k⟩ := h
    refine ⟨_, PSs.nox (pss_one (ps_if (pt_not (pt_val (pe_callF c_is_lot hr (by decide) (by rfl) (pa_cons (pv 0) (pa_cons (pe_glob (v := .int 12) (by rfl) m13 ⟨_, rfl⟩) pa_nil))))) (pss_one ps_never) pss_nil)), ?_⟩
    walk_at "go"
    refine ⟨t, ns, 12, rfl, ht, hs, hb, ?_⟩
    walk_at "go"
    exact k
theorem scFullBox : FnScope ["sizes", "wishes", "many", "boxes", "at", "side", "box", "wish", "pair"] ["sizes", "wishes", "many"] (defScope sFullBox) := ⟨rfl, rfl, rfl, by decide +kernel, rfl, by decide +kernel, by decide +kernel⟩
include T in
theorem ok_full_box {f : Addr} {fd : FuncData} (F : FnP K "full_box" "full_box" sFullBox f fd)
    (c_boxes_of : Cal P w K mg base CX0 1 "boxes_of" ["sizes", "wish"] spBoxesOf)  :
    FnOk P w K mg base CX0 2 f fd ["sizes", "wishes", "many"] spFullBox := by
  refine F.ok scFullBox (fun vs H Q E h => ?_) (fun cdv A outer s H vs Q E hr h => ?_)
  · obtain ⟨t, a, l, b, ws, many, rfl, _⟩ := h; rfl
  · obtain ⟨t, a, l, b, ws, many, rfl, ht, l0, l1, hb, ⟨bs, ha, hws⟩, hz, k⟩ := h
    refine ⟨_, PSs.nox (pss_cons (ps_setLc (i := 3) (own := [("wish", 7)]) (g := gName 7) (tt := tYes) rfl scFullBox.nd rfl rfl (sw_true rfl rfl rfl (by decide +kernel)) (pi_list (pv 1)) (blkOk_by (N := ["sizes", "wishes", "many", "boxes", "at", "side", "box", "wish", "pair"]) (sc := defScope sFullBox) (by decide +kernel)) (fun _ _ _ _ _ => (pg_name (i := 7) scFullBox.nd rfl (Or.inl rfl))) (fun _ _ _ _ _ => pts_nil) (fun _ _ _ _ _ => (pe_callF c_boxes_of hr (by decide) (by rfl) (pa_cons (pv 0) (pa_cons (pv 7) pa_nil)))))
      (pss_cons (ps_for PassesOwn.never rfl (pi_enumT (by rfl) T.z_enumerate (pa_cons (pe_tup (pa_cons pe_str (pa_cons pe_str pa_nil))) pa_nil)) (pg_tupK K rfl (n := 2) (by rfl) (pgs_cons (pg_name (i := 4) scFullBox.nd rfl (Or.inr rfl)) (pgs_cons (pg_name (i := 5) scFullBox.nd rfl (Or.inl rfl)) pgs_nil)))
      (pss_one (ps_for PassesOwn.never rfl (pi_range1 (by rfl) T.z_range (pa_cons (pe_ix (ix_tupK K rfl) (pv 0) pe_int (fun _ _ => rfl)) pa_nil)) (pg_name (i := 6) scFullBox.nd rfl (Or.inr rfl))
      (pss_one (ps_if (pt_cmpR op_gt (pe_callB (call_lenK K rfl) (by rfl) T.z_len (by decide +kernel) (pa_cons (pe_lc (own := [("pair", 8)]) (g := gName 8) rfl scFullBox.nd (pi_list (pv 3)) (blkOk_by (N := ["sizes", "wishes", "many", "boxes", "at", "side", "box", "wish", "pair"]) (sc := defScope sFullBox) (by decide +kernel)) (fun _ _ _ _ _ => (pg_name (i := 8) scFullBox.nd rfl (Or.inl rfl))) (fun _ _ _ _ _ => (pts_one (pt_cmpR op_eq (pe_ix (ix_tupK K rfl) (pv 8) (pv 4) (fun _ _ => rfl)) (pv 6) (nomark _)))) (fun _ _ _ _ _ => (pv 8))) pa_nil)) (pv 2) (nomark _)) (pss_one (ps_ret (pe_tup (pa_cons (pv 5) (pa_cons (pv 6) pa_nil))))) pss_nil)))))
      (pss_one (ps_ret pe_non)))), ?_⟩
    walk_at "go"
    refine g_iL ha ?_
    intro D hD
    refine lc_prs walk_list (fun i => ws[i]?.map (bx l)) hD (by rw [List.length_map, hws.len]; exact hz) (fun H' s => SqL.of (s _ _ ha)) (fun i x H1 H2 hi s y Kt Kf k1 k2 => ?_) (fun H1 s1 hl1 => ?_)
    · obtain ⟨rfl, hx⟩ := y
      obtain ⟨c, rfl, hc⟩ := refs_at hx
      obtain ⟨p, hp, hpt⟩ := hws.at_ hc
      walk_at "go"
      refine ⟨rfl, ?_⟩
      walk_at "go"
      refine ⟨t, c, l, b, p.1, p.2, rfl, s _ _ ht, s _ _ hpt, l0, l1, fun q hq => k1 q (bx l p) _ (by rw [hp]; rfl) upd_same (same_new hq)⟩
    have hbx : (List.range (bs.map V.ref).length).filterMap (fun i => ws[i]?.map (bx l)) = ws.map (bx l) := by
      exact fm_map ws (bx l) _ (by rw [List.length_map, hws.len])
    rw [hbx] at hl1
    obtain ⟨cs, hD1, hcs⟩ := hl1
    walk_at "go"
    rename_i p0 hp0
    refine g_ie1 upd_same ?_
    have ht1 : Pt (upd H1 p0 (.tup [.str "in", .str "out"])) t (l, (b : Int)) := upd_old (s1 _ _ ht) hp0
    have hD2 : (upd H1 p0 (.tup [.str "in", .str "out"])) D = some (.lst (cs.map V.ref)) := upd_old hD1 hp0
    have hcs2 : Prs (upd H1 p0 (.tup [.str "in", .str "out"])) cs (ws.map (bx l)) := hcs.keep fun b xs e => upd_old e hp0
    have sA : Same H (upd H1 p0 (.tup [.str "in", .str "out"])) := same_snoc s1 hp0
    have hp1 : (upd H1 p0 (.tup [.str "in", .str "out"])) p0 = some (.tup [.str "in", .str "out"]) := upd_same
    generalize (upd H1 p0 (.tup [.str "in", .str "out"])) = H2 at ht1 hD2 hcs2 sA hp1 ⊢
    have hcnt : ∀ (s : Bool) (c : Nat), ((List.range cs.length).filterMap fun i => (ws.map (bx l))[i]?.bind fun p => if sd p s = (c : Int) then some p else none).length = cnt l ws s c := fun s c => by
      rw [fm_some (ws.map (bx l)) _ _ hcs.len]
      exact cnt_fm l ws s c
    have hwl : cs.length < sizeLine := by rw [hcs.len, List.length_map]; exact hz
    refine for_it (walk_enum2 (xs := [.str "in", .str "out"])) (fun i σ H' => Same H2 H' ∧ (1 ≤ i → fullAt l b ws many false = none) ∧ (2 ≤ i → fullAt l b ws many true = none) ∧ ∃ x4 x5 x6, σ = [some (.ref t), some (.ref a), some (.int many), some (.ref D), x4, x5, x6, none, none])
      ⟨fun _ _ h => h, fun h => absurd h (by omega), fun h => absurd h (by omega), _, _, _, rfl⟩ (fun i σ H' _ h => h.1 _ _ hp1) (fun i x σ H3 H4 hi h y => ?_) (fun σ H' h => ?_)
    · obtain ⟨sB, f1, f2, x4, x5, x6, rfl⟩ := h
      obtain ⟨T', u, v, rfl, hT, rfl, hu, hv⟩ := y
      obtain ⟨sd', rfl, rfl, f0⟩ : ∃ sd : Bool, u = .int (if sd then 1 else 0) ∧ v = sideV sd ∧ i = (if sd then 1 else 0) := by
        match i, hi with
        | 0, _ =>
          cases hu; cases hv
          exact ⟨false, rfl, rfl, rfl⟩
        | 1, _ =>
          cases hu; cases hv
          exact ⟨true, rfl, rfl, rfl⟩
      have sC : Same H2 (upd H3 T' (.tup [.int (if sd' then 1 else 0), sideV sd'])) := same_snoc sB hT
      have hT1 : (upd H3 T' (.tup [.int (if sd' then 1 else 0), sideV sd'])) T' = some (.tup [.int (if sd' then 1 else 0), sideV sd']) := upd_same
      generalize (upd H3 T' (.tup [.int (if sd' then 1 else 0), sideV sd'])) = H4 at sC hT1 ⊢
      refine g_tTt hT1 rfl ?_
      walk_at "go"
      refine g_ir1 (by omega) (by omega) ?_
      refine for_it walk_range (fun j σ H' => Same H2 H' ∧ (∀ k : Nat, k < j → ¬ many < (cnt l ws sd' k : Nat)) ∧ ∃ x6, σ = [some (.ref t), some (.ref a), some (.int many), some (.ref D), some (.int (if sd' then 1 else 0)), some (sideV sd'), x6, none, none])
        ⟨sC, fun _ h => absurd h (by omega), _, rfl⟩ (fun _ _ _ _ _ => trivial) (fun j x σ H5 H6 hj h y => ?_) (fun σ H' h => ?_)
      · obtain ⟨sD, g1, x6, rfl⟩ := h
        obtain ⟨rfl, rfl⟩ := y
        walk_at "go"
        refine g_iL (sD _ _ hD2) ?_
        intro D2 hD2n
        refine lc_prs walk_list (fun i => (ws.map (bx l))[i]?.bind fun p => if sd p sd' = (j : Int) then some p else none) hD2n (by rw [List.length_map]; exact hwl) (fun H' s => SqL.of (s _ _ (sD _ _ hD2))) (fun i x H1 H2' hi s y Kt Kf k1 k2 => ?_) (fun H1 s1 hl1 => ?_)
        · obtain ⟨rfl, hx⟩ := y
          obtain ⟨c, rfl, hc⟩ := refs_at hx
          obtain ⟨p, hp, hpt⟩ := hcs2.at_ hc
          have hpt' := s _ _ (sD _ _ hpt)
          walk_at "go"
          refine ⟨rfl, ?_⟩
          walk_at "go"
          refine g_ixTt hpt' (at_sd p sd') ?_
          walk_at "go"
          by_cases e : sd p sd' = 0 + (j : Int)
          · rw [decide_eq_true e]
            walk_at "go"
            exact k1 c p _ (by rw [hp]; simp [e]) hpt' (fun _ _ h => h)
          · rw [decide_eq_false e]
            walk_at "go"
            exact k2 _ (by rw [hp]; simp; intro h; exact e (by omega)) (fun _ _ h => h)
        · obtain ⟨cs', hD', hcs'⟩ := hl1
          have hlen : ((cs'.map V.ref).length : Int) = (cnt l ws sd' (j : Int) : Nat) := by
            rw [List.length_map, hcs'.len, ← hcnt sd' j, List.length_map]
          have sE : Same H2 H1 := sD.trans s1
          walk_at "go"
          rw [hlen]
          by_cases e : many < ((cnt l ws sd' (j : Int) : Nat) : Int)
          · rw [decide_eq_true e]
            walk_at "go"
            have hj' : j < b := by simpa using hj
            have fa : fullAt l b ws many sd' = some (sd', (j : Int)) := by
              unfold fullAt
              rw [find_first (i := j) hj' (by simpa using e) fun k hk => by simpa using g1 k hk]
              rfl
            have ef : full l b ws many = some (sd', (j : Int)) := by
              unfold full
              cases sd' with
              | false => rw [fa]
              | true => rw [f1 (by rw [f0]; decide), fa]
            rename_i p9 hp9
            have z := k (upd H1 p9 (.tup [sideV sd', .int (0 + (j : Int))])) (same_snoc (sA.trans sE) hp9)
            rw [ef] at z
            exact z p9 (by rw [Int.zero_add]; exact upd_same)
          · rw [decide_eq_false e]
            walk_at "go"
            refine ⟨sE, fun k hk => ?_, _, rfl⟩
            by_cases ek : k = j
            · rw [ek]; exact e
            · exact g1 k (by omega)
      · obtain ⟨sD, g1, x6, rfl⟩ := h
        have fa : fullAt l b ws many sd' = none := by
          unfold fullAt
          rw [Option.map_eq_none_iff, List.find?_eq_none]
          intro k hk
          have := g1 k (by have := List.mem_range.mp hk; omega)
          simpa using this
        refine ⟨sD, fun h1 => ?_, fun h2 => ?_, _, _, _, rfl⟩
        · cases sd' with
          | false => exact fa
          | true => exact f1 (by rw [f0]; decide)
        · cases sd' with
          | false => rw [f0] at h2; exact absurd h2 (by decide)
          | true => exact fa
    · obtain ⟨sB, f1, f2, x4, x5, x6, rfl⟩ := h
      walk_at "go"
      have e : full l b ws many = none := by unfold full; rw [f1 (by decide), f2 (by decide)]
      have z := k H' (sA.trans sB)
      rw [e] at z
      exact z
end
end Kx
set_option maxHeartbeats 4000000
namespace Kx
open PySem PySem.Spec PyProof.Rows L2

local macro_rules | `(tactic| walk_at "ht") => `(tactic| (repeat (first | assumption | exact upd_same | refine upd_old ?_ (by assumption) | refine Same.at_ (by assumption) ?_ | refine Fr.tup (by assumption) ?_)))
local macro_rules | `(tactic| walk_at "go1") => `(tactic| (first
  | ((with_reducible apply g_var); (focus rfl)) | with_reducible refine g_op ?_ | with_reducible refine g_c ?_ | with_reducible refine g_I0 ?_ | with_reducible refine g_eqI ?_ | with_reducible refine g_neI ?_
  | with_reducible refine g_cons ?_ | with_reducible refine g_nil ?_ | with_reducible refine g_tup ?_ | with_reducible refine g_lst ?_ | with_reducible refine g_bl ?_ | with_reducible refine g_test ?_
  | with_reducible refine g_B ?_ | with_reducible refine g_and ?_ | with_reducible refine g_or ?_ | with_reducible refine g_not ?_ | with_reducible refine g_andV ?_ | with_reducible refine g_orV ?_
  | with_reducible refine g_notV ?_ | with_reducible refine g_if ?_ | with_reducible refine g_cb ?_ | with_reducible refine g_call ?_ | with_reducible refine g_chain ?_ | with_reducible refine g_un ?_
  | with_reducible refine g_u ?_ | with_reducible refine g_seq ?_ | with_reducible refine g_next ?_ | with_reducible refine g_ret ?_ | with_reducible refine g_set ?_ | with_reducible refine g_ifS ?_
  | with_reducible refine g_drop ?_ | with_reducible refine g_asg ?_ | with_reducible refine g_name ?_ | with_reducible refine g_tc ?_ | with_reducible refine g_tn ?_ | with_reducible refine g_par ?_
  | with_reducible refine g_par3 ?_ | with_reducible refine g_p2 ?_ | with_reducible refine g_p3 ?_ | with_reducible refine g_fs ?_ | with_reducible refine g_fld ?_ | with_reducible refine g_m ?_
  | with_reducible refine g_mk ?_ | with_reducible refine g_dg ?_ | with_reducible refine g_dp ?_ | with_reducible refine g_din ?_ | with_reducible refine g_dni ?_ | with_reducible refine g_bm ?_
  | with_reducible refine g_mg ?_ | with_reducible refine g_il ?_ | with_reducible refine g_it ?_ | with_reducible refine g_ir ?_ | with_reducible refine g_ik ?_ | with_reducible refine g_for ?_
  | with_reducible refine g_lc ?_ | with_reducible refine g_ie ?_ | with_reducible refine g_iz ?_ | with_reducible refine g_yes ?_ | with_reducible refine g_retN ?_ | with_reducible refine g_gsub ?_ | with_reducible refine g_isN ?_ | with_reducible refine g_ntN ?_
  | with_reducible refine g_isiInt ?_ | with_reducible refine g_isiBool ?_ | with_reducible refine g_sl ?_ | with_reducible refine g_on ?_ | with_reducible refine g_os ?_ | ((with_reducible refine g_dsz ?_ ?_); (focus rfl); intro p hp)
  | ((with_reducible apply g_ixTt); (focus (walk_at "ht"; done)); (focus rfl)) | ((with_reducible apply g_ixLl); (focus (walk_at "ht"; done)); (focus rfl)) | ((with_reducible apply g_isiT); (focus (walk_at "ht"; done))) | ((with_reducible apply g_lnL); (focus (walk_at "ht"; done))) | ((with_reducible apply g_lnT); (focus (walk_at "ht"; done))) | ((with_reducible apply g_tTt); (focus (walk_at "ht"; done)); (focus rfl))
  | ((with_reducible apply g_tyL); (focus (walk_at "ht"; done))) | refine iteT ?_ | refine iteF ?_))
local macro_rules | `(tactic| walk_at "go") => `(tactic| (repeat (walk_at "go1")))
/-- what the written part says of NoWay -/
structure TxN (K : PySem.W.Frag) : Prop where
  ox : OexC K (cN K)
  ini : PySem.W.findIn K (.ref (cN K)) "__init__" = some (some (.ref (He.ma K (cN K) "__init__")))
  ty : PySem.W.typeIn K (.ref (He.ma K (cN K) "__init__")) = some (.type "function")
  xf : XfC K (cN K)
def spNoWay (K : PySem.W.Frag) : Sp := fun vs H Q _ => ∃ (a : Addr) (x y : V), vs = [.ref a, x, y] ∧ H a = some (exo a (cN K) none) ∧
  ∀ dx, H dx = none → dx ≠ a → Q .non (upd (upd (upd H dx (exd dx [("side", x)])) a (exo a (cN K) (some dx))) dx (exd dx [("box", y), ("side", x)]))
/-- what flies out of it -/
abbrev NoW (cn : Addr) (E : XK) (H : Hp) (s : Bool) (k : Int) : Prop := ∀ d H', Same H H' → H' d = some (.xd [("box", .int k), ("side", sideV s)]) → E (.ref cn) (some d) H'
def spCheckRoom (cn : Addr) : Sp := fun vs H Q E => ∃ (t a : Addr) (l : Int) (b : Nat) (ws : List (Int × Int)) (many : Int), vs = [.ref t, .ref a, .int many] ∧ Pt H t (l, (b : Int)) ∧ 0 < l ∧ l ≤ 12 ∧ b ≤ 12 ∧ Lp H a ws ∧ ws.length < sizeLine ∧
  (match full l b ws many with | none => ∀ H', Same H H' → Q .non H' | some (s, k) => NoW cn E H s k)
theorem g_ost {K : PySem.W.Frag} {f : Str} {to te : TE} {D : Ends} {σ : L2.St} {H : Hp} (q : te σ H fun y H1 => to σ H1 fun x H2 => ∃ a C : Addr, x = .ref a ∧ OexC K C ∧ PySem.W.findIn K (.ref C) f = some none ∧
    ((H2 a = some (exo a C none) ∧ ∀ dx, H2 dx = none → dx ≠ a → D.nx σ (upd (upd H2 dx (exd dx [(f, y)])) a (exo a C (some dx)))) ∨
      ∃ (dx : Addr) (fs : List (Str × V)), H2 a = some (exo a C (some dx)) ∧ H2 dx = some (exd dx fs) ∧ fs.length ≤ 900 ∧ D.nx σ (upd H2 dx (exd dx ((f, y) :: fs))))) : tOst K f to te D σ H := q
theorem g_mko {C : Addr} {sp : Sp} {dvs : List V} {ta : TA} {σ : L2.St} {H : Hp} {Q : XK} (q : ta σ H fun vs H1 => vs.length ≤ 1000 ∧ ∀ a, H1 a = none → sp (.ref a :: (vs ++ dvs)) (upd H1 a (exo a C none))
    (fun v H2 => v = .non ∧ ∃ (d : Addr) (fs : List (Str × V)), H2 a = some (exo a C (some d)) ∧ H2 d = some (exd d fs) ∧ H1 d = none ∧ Q (.ref C) (some d) (upd (del H2 a) d (.xd fs))) (fun _ _ _ => False)) : tMkO C sp dvs ta σ H Q := q
theorem dsz' {n : Nat} (h : Nat.ble n 1000 = true) : n ≤ 1000 := Nat.le_of_ble_eq_true h
section
variable {P : Program} {w : World} {K : PySem.W.Frag} {mg : Str → Option Value} {base : Heap} (T : Tx K mg) (N : TxN K)
theorem scNoWay : FnScope ["self", "side", "box"] ["self", "side", "box"] (defScope sNoWayInit) := ⟨rfl, rfl, rfl, by decide +kernel, rfl, by decide +kernel, by decide +kernel⟩
include T N in
theorem ok_noway {f : Addr} {fd : FuncData} (F : FnP K "__init__" "NoWay.__init__" sNoWayInit f fd) : FnOk P w K mg base CX0 1 f fd ["self", "side", "box"] (spNoWay K) := by
  refine F.ok scNoWay (fun vs H Q E h => ?_) (fun cdv A outer s H vs Q E hr h => ?_)
  · obtain ⟨a, x, y, rfl, _⟩ := h; rfl
  · obtain ⟨a, x, y, rfl, ha, k⟩ := h
    refine ⟨_, pss_cons (ps_ost (pv 0) (pv 1)) (pss_one (ps_ost (pv 0) (pv 2))), ?_⟩
    walk_at "go"
    refine g_ost ?_
    walk_at "go"
    refine ⟨a, cN K, rfl, N.ox, T.nN1, .inl ⟨ha, fun dx h1 h2 => ?_⟩⟩
    dsimp only
    refine g_ost ?_
    walk_at "go"
    refine ⟨a, cN K, rfl, N.ox, T.nN2, .inr ⟨dx, [("side", x)], upd_same, ?_, Nat.le_of_ble_eq_true rfl, ?_⟩⟩
    · rw [upd_ne h2]; exact upd_same
    · exact k dx h1 h2
theorem scCheckRoom : FnScope ["sizes", "wishes", "many", "full"] ["sizes", "wishes", "many"] (defScope sCheckRoom) := ⟨rfl, rfl, rfl, by decide +kernel, rfl, by decide +kernel, by decide +kernel⟩
include T N in
theorem ok_check_room {f : Addr} {fd : FuncData} (F : FnP K "check_room" "check_room" sCheckRoom f fd)
    (c_full_box : Cal P w K mg base CX0 2 "full_box" ["sizes", "wishes", "many"] spFullBox) {f1 : Addr} {fd1 : FuncData} (F1 : FnP K "__init__" "NoWay.__init__" sNoWayInit (He.ma K (cN K) "__init__") fd1) :
    FnOk P w K mg base (L2.CX P w) 4 f fd ["sizes", "wishes", "many"] (spCheckRoom (cN K)) := by
  have b1 : Binds K fd1 ["self", "side", "box"] [] := F1.bindsN fun _ _ _ _ _ _ us hl => match us, hl with | [_, _, _], _ => rfl
  refine F.ok scCheckRoom (fun vs H Q E h => ?_) (fun cdv A outer s H vs Q E hr h => ?_)
  · obtain ⟨t, a, l, b, ws, many, rfl, _⟩ := h; rfl
  · obtain ⟨t, a, l, b, ws, many, rfl, ht, l0, l1, hb, hl, hz, k⟩ := h
    refine ⟨_, pss_cons (ps_set (i := 3) scCheckRoom.nd rfl (Or.inl rfl) (pe_callF c_full_box hr (by decide) (by rfl) (pa_cons (pv 0) (pa_cons (pv 1) (pa_cons (pv 2) pa_nil)))))
      (pss_one (ps_if (pt_cmpR op_notN (pv 3) pe_non (nomark _)) (pss_one (ps_raise rfl (takes_of rfl rfl rfl rfl) (pmk_oex N.ox N.ini N.ty (ok_noway T N F1) (hr.mono (by decide)) b1 .nil (fun _ _ _ _ _ _ _ z => z.elim) (by rfl) T.gN
        (pa_cons (pe_ix (ix_tupK K rfl) (pv 3) pe_int (fun _ _ => rfl)) (pa_cons (pe_ix (ix_tupK K rfl) (pv 3) pe_int (fun _ _ => rfl)) pa_nil))))) pss_nil)), ?_⟩
    walk_at "go"
    refine ⟨t, a, l, b, ws, many, rfl, ht, l0, l1, hb, hl, hz, fun H' s1 => ?_⟩
    cases e : full l b ws many with
    | none =>
      rw [e] at k
      walk_at "go"
      refine ⟨rfl, ?_⟩
      walk_at "go"
      exact k H' s1
    | some r =>
      obtain ⟨sd, kk⟩ := r
      rw [e] at k
      intro p hp
      walk_at "go"
      refine ⟨rfl, ?_⟩
      walk_at "go"
      refine g_mko ?_
      walk_at "go"
      refine ⟨dsz' rfl, fun a' ha' => ?_⟩
      refine ⟨a', sideV sd, .int kk, rfl, upd_same, fun dx h1 h2 => ⟨rfl, dx, [("box", .int kk), ("side", sideV sd)], ?_, upd_same, ?_, ?_⟩⟩
      · rw [upd_ne (Ne.symm h2)]; exact upd_same
      · exact (upd_ne h2).symm.trans h1
      · refine k dx _ (fun b o e => ?_) upd_same
        have z := s1 _ _ e
        have n1 : b ≠ dx := fun q => by rw [q, (upd_ne h2).symm.trans h1] at z; cases z
        have n2 : b ≠ a' := fun q => by rw [q, ha'] at z; cases z
        rw [upd_ne n1, del_ne n2, upd_ne n1, upd_ne n2, upd_ne n1, upd_ne n2]
        exact z
end
end Kx
set_option maxHeartbeats 4000000
namespace Kx
open PySem PySem.Spec PyProof.Rows L2
section
variable {P : Program} {w : World} {K : PySem.W.Frag} {H H' : Hp} {Q : VK} {a b d : Addr} {kvs : List (NK × V)} {k : NK} {v : V} {W : List Addr}
theorem ND.same (h : ND P w H a kvs) (s : Same H H') : ND P w H' a kvs := by
  obtain ⟨o, e, _⟩ := h.some_
  exact h.keeps ((s _ _ e).trans e.symm) fun b xs e => s _ _ e
theorem ND.fr (h : ND P w H a kvs) (f : Fr W H H') (n : a ∉ W) : ND P w H' a kvs := by
  obtain ⟨o, e, _⟩ := h.some_
  exact h.keeps ((f.at_ e n).trans e.symm) fun b xs e => f.tup e
theorem ND.ne_tup (h : ND P w H a kvs) {xs : List V} (e : H b = some (.tup xs)) : b ≠ a := by
  obtain ⟨o, e2, n, _⟩ := h.some_
  rintro rfl
  rw [e2] at e
  cases e
  exact n _ rfl
theorem ND.imm (h : ND P w H a kvs) : ∃ o, H a = some o ∧ ¬ Imm o := by
  obtain ⟨xs, e, _⟩ := h
  exact ⟨_, e, fun z => (show False from z)⟩
theorem g_ixN (h : ND P w H a kvs) (hk : KyAt H k b) (hv : valV kvs k = some v) (q : Q v H) : rIxN P w (.ref a) (.ref b) H Q := ⟨a, b, kvs, k, v, rfl, rfl, h, hk, hv, q⟩
theorem g_inN (h : ND P w H a kvs) (hk : KyAt H k b) (q : Q (.bl (valV kvs k).isSome) H) : rInN P w (.ref b) (.ref a) H Q := ⟨a, b, kvs, k, rfl, rfl, h, hk, q⟩
theorem g_stN {QH : Hp → Prop} (h : ND P w H a kvs) (hk : KyAt H k b) (hl : kvs.length < sizeLine) (q : ∀ u, ND P w (upd H a u) a (putK kvs k v) → QH (upd H a u)) : rSetN P w (.ref a) (.ref b) v H QH := ⟨a, b, kvs, k, rfl, rfl, h, hk, hl, q⟩
theorem g_popN (h : ND P w H a kvs) (hk : KyAt H k b) (hv : valV kvs k = some v) (q : ∀ u, ND P w (upd H a u) a (dropK kvs k) → Q v (upd H a u)) : rPopN P w (.ref a) [.ref b] H Q := ⟨a, b, kvs, k, v, rfl, rfl, h, hk, hv, q⟩
theorem dp_pair {t : Addr} {p : Int × Int} (h : Pt H t p) : Dp K H (.ref t) (.tuple [.int p.1, .int p.2]) := .tup (SqT.of h) (.cons (.int _) (.cons (.int _) .nil))
theorem eqv_pair (p q : Int × Int) : PyData.eqv (.tuple [.int p.1, .int p.2]) (.tuple [.int q.1, .int q.2]) = decide (p = q) := by
  rw [Bool.eq_iff_iff]
  simp [PyData.eqv, PyData.eqvAll, Prod.ext_iff]
theorem g_eqP {p q : Int × Int} (ha : Pt H a p) (hb : Pt H b q) (k : Q (.bl (decide (p = q))) H) : rEqD K (.ref a) (.ref b) H Q := ⟨_, _, dp_pair ha, dp_pair hb, by rfl, by rfl, by rw [eqv_pair]; exact k⟩
end
def sN (s : Bool) : Int := if s then 1 else 0
theorem sN_inj {s t : Bool} (h : sN s = sN t) : s = t := by cases s <;> cases t <;> first | rfl | (exact absurd h (by decide))
/-- the painted web at x -/
structure PaintAt (P : Program) (w : World) (cp : Addr) (H : Hp) (x l1 l2 d : Addr) (web : List (Int × Int)) (cs : List Int) (kv : List (NK × V)) : Prop where
  ob : ∃ dx, H x = some (.ins cp dx [("kept_ties", .ref l1), ("kept_colours", .ref l2), ("kept_at", .ref d)])
  ti : Lp H l1 web
  co : H l2 = some (.lst (cs.map V.int))
  nd : ND P w H d kv
  ne : l1 ≠ l2
  len : cs.length = web.length
abbrev wHit (web : List (Int × Int)) (cs : List Int) (s : Bool) (p k : Int) : Option Nat := hit (wE web) (wC cs) (List.range web.length) s p k
abbrev WProper (web : List (Int × Int)) (cs : List Int) : Prop := Proper (wE web) (wC cs) (List.range web.length)
/-- the dict tells who is where -/
def AtOk (web : List (Int × Int)) (cs : List Int) (kv : List (NK × V)) : Prop := ∀ s p k, valV kv (nk (sN s) p k) = (wHit web cs s p k).map fun i => V.int (i : Nat)
section
variable {P : Program} {w : World} {cp : Addr} {H H' : Hp} {x l1 l2 d : Addr} {web : List (Int × Int)} {cs : List Int} {kv : List (NK × V)} {W : List Addr}
theorem PaintAt.fr (h : PaintAt P w cp H x l1 l2 d web cs kv) (f : Fr W H H') (n1 : x ∉ W) (n2 : l1 ∉ W) (n3 : l2 ∉ W) (n4 : d ∉ W) : PaintAt P w cp H' x l1 l2 d web cs kv :=
  ⟨let ⟨dx, e⟩ := h.ob; ⟨dx, f.at_ e n1⟩, h.ti.fr f n2, f.at_ h.co n3, h.nd.fr f n4, h.ne, h.len⟩
theorem PaintAt.same (h : PaintAt P w cp H x l1 l2 d web cs kv) (s : Same H H') : PaintAt P w cp H' x l1 l2 d web cs kv := h.fr (W := []) (Fr.of_same s) (by simp) (by simp) (by simp) (by simp)
end
end Kx
set_option maxHeartbeats 4000000
namespace Kx
open PySem PySem.Spec PyProof.Rows L2

local macro_rules | `(tactic| walk_at "ht") => `(tactic| (repeat (first | assumption | exact upd_same | refine upd_old ?_ (by assumption) | refine Same.at_ (by assumption) ?_ | refine Fr.tup (by assumption) ?_)))
local macro_rules | `(tactic| walk_at "go1") => `(tactic| (first
  | ((with_reducible apply g_var); (focus rfl)) | with_reducible refine g_op ?_ | with_reducible refine g_c ?_ | with_reducible refine g_I0 ?_ | with_reducible refine g_eqI ?_ | with_reducible refine g_neI ?_
  | with_reducible refine g_cons ?_ | with_reducible refine g_nil ?_ | with_reducible refine g_tup ?_ | with_reducible refine g_lst ?_ | with_reducible refine g_bl ?_ | with_reducible refine g_test ?_
  | with_reducible refine g_B ?_ | with_reducible refine g_and ?_ | with_reducible refine g_or ?_ | with_reducible refine g_not ?_ | with_reducible refine g_andV ?_ | with_reducible refine g_orV ?_
  | with_reducible refine g_notV ?_ | with_reducible refine g_if ?_ | with_reducible refine g_cb ?_ | with_reducible refine g_call ?_ | with_reducible refine g_chain ?_ | with_reducible refine g_un ?_
  | with_reducible refine g_u ?_ | with_reducible refine g_seq ?_ | with_reducible refine g_next ?_ | with_reducible refine g_ret ?_ | with_reducible refine g_set ?_ | with_reducible refine g_ifS ?_
  | with_reducible refine g_drop ?_ | with_reducible refine g_asg ?_ | with_reducible refine g_name ?_ | with_reducible refine g_tc ?_ | with_reducible refine g_tn ?_ | with_reducible refine g_par ?_
  | with_reducible refine g_par3 ?_ | with_reducible refine g_p2 ?_ | with_reducible refine g_p3 ?_ | with_reducible refine g_fs ?_ | with_reducible refine g_fld ?_ | with_reducible refine g_m ?_
  | with_reducible refine g_mk ?_ | with_reducible refine g_dg ?_ | with_reducible refine g_dp ?_ | with_reducible refine g_din ?_ | with_reducible refine g_dni ?_ | with_reducible refine g_bm ?_
  | with_reducible refine g_mg ?_ | with_reducible refine g_il ?_ | with_reducible refine g_it ?_ | with_reducible refine g_ir ?_ | with_reducible refine g_ik ?_ | with_reducible refine g_for ?_
  | with_reducible refine g_lc ?_ | with_reducible refine g_ie ?_ | with_reducible refine g_iz ?_ | with_reducible refine g_yes ?_ | with_reducible refine g_retN ?_ | with_reducible refine g_gsub ?_ | with_reducible refine g_isN ?_ | with_reducible refine g_ntN ?_
  | with_reducible refine g_isiInt ?_ | with_reducible refine g_isiBool ?_ | with_reducible refine g_sl ?_ | with_reducible refine g_on ?_ | with_reducible refine g_os ?_ | ((with_reducible refine g_dsz ?_ ?_); (focus rfl); intro p hp)
  | ((with_reducible apply g_ixTt); (focus (walk_at "ht"; done)); (focus rfl)) | ((with_reducible apply g_ixLl); (focus (walk_at "ht"; done)); (focus rfl)) | ((with_reducible apply g_isiT); (focus (walk_at "ht"; done))) | ((with_reducible apply g_lnL); (focus (walk_at "ht"; done))) | ((with_reducible apply g_lnT); (focus (walk_at "ht"; done))) | ((with_reducible apply g_tTt); (focus (walk_at "ht"; done)); (focus rfl))
  | ((with_reducible apply g_tyL); (focus (walk_at "ht"; done))) | refine iteT ?_ | refine iteF ?_))
local macro_rules | `(tactic| walk_at "go") => `(tactic| (repeat (walk_at "go1")))
theorem find_nums {m j : Nat} {q : Int → Bool} (hj : j < m) (h : q (j : Int) = true) (hn : ∀ c : Nat, c < j → q (c : Int) = false) : (nums m).find? q = some (j : Int) := by
  unfold nums
  rw [List.find?_map, find_first (q := q ∘ Int.ofNat) hj h hn]
  rfl
theorem find_nums_none {m : Nat} {q : Int → Bool} (hn : ∀ c : Nat, c < m → q (c : Int) = false) : (nums m).find? q = none := by
  unfold nums
  rw [List.find?_map, Option.map_eq_none_iff, List.find?_eq_none]
  intro c hc
  rw [List.mem_range] at hc
  show ¬ q (c : Int) = true
  rw [hn c hc]
  simp
def spLeastFree (cp : Addr) (P : Program) (w : World) : Sp := fun vs H Q _ => ∃ (x t l1 l2 d : Addr) (m : Nat) (web : List (Int × Int)) (cs : List Int) (kv : List (NK × V)) (bs : List Addr) (es : List (Bool × Int)), vs = [.ref x, .ref t, .int m] ∧ PaintAt P w cp H x l1 l2 d web cs kv ∧ AtOk web cs kv ∧
  H t = some (.tup (bs.map V.ref)) ∧ Prs H bs (es.map fun e => (sN e.1, e.2)) ∧ m ≤ 1000 ∧ es.length ≤ 1000 ∧
  ∀ H', Same H H' → Q (match (nums m).find? (fun k => es.all fun e => fre (wE web) (wC cs) (List.range web.length) e.1 e.2 k) with | some k => .int k | none => .non) H'
section
variable {P : Program} {w : World} {K : PySem.W.Frag} {mg : Str → Option Value} {base : Heap} (T : Tx K mg)
theorem scLeastFree : FnScope ["self", "ends", "colours", "colour", "end"] ["self", "ends", "colours"] (defScope sLeastFree) := ⟨rfl, rfl, rfl, by decide +kernel, rfl, by decide +kernel, by decide +kernel⟩
include T in
theorem ok_Paint_least_free {f : Addr} {fd : FuncData} (F : FnP K "least_free" "Paint.least_free" sLeastFree f fd)
      :
    FnOk P w K mg base CX0 1 f fd ["self", "ends", "colours"] (spLeastFree (cP K) P w) := by
  refine F.ok scLeastFree (fun vs H Q E h => ?_) (fun cdv A outer s H vs Q E hr h => ?_)
  · obtain ⟨x, t, l1, l2, d, m, web, cs, kv, bs, es, rfl, _⟩ := h; rfl
  · obtain ⟨x, t, l1, l2, d, m, web, cs, kv, bs, es, rfl, hp, hat, ht, hes, hm, hel, k⟩ := h
    refine ⟨_, PSs.nox (pss_cons (ps_for PassesOwn.never rfl (pi_range1 (by rfl) T.z_range (pa_cons (pv 2) pa_nil)) (pg_name (i := 3) scLeastFree.nd rfl (Or.inr rfl))
      (pss_one (ps_if (pt_not (pt_val (pe_callB (cr_any rfl) (by rfl) T.z_any (by decide +kernel) (pa_cons (pe_lc (own := [("end", 4)]) (g := gName 4) (tt := tYes) rfl scLeastFree.nd (pi_tup (pv 1)) (blkOk_by (N := ["self", "ends", "colours", "colour", "end"]) (sc := defScope sLeastFree) (by decide +kernel)) (fun _ _ _ _ _ => (pg_name (i := 4) scLeastFree.nd rfl (Or.inl rfl))) (fun _ _ _ _ _ => pts_nil) (fun _ _ _ _ _ => (pe_cmpR (op_inNK P w rfl rfl hr) (pe_tup (pa_cons (pv 4) (pa_cons (pv 3) pa_nil))) (pe_fldK K rfl (pv 0) rfl) (by rfl)))) pa_nil)))) (pss_one (ps_ret (pv 3))) pss_nil)))
      (pss_one (ps_ret pe_non))), ?_⟩
    have hlen : bs.length = es.length := by rw [hes.len, List.length_map]
    walk_at "go"
    refine g_ir1 (by omega) (by omega) ?_
    refine for_it walk_range (fun j σ H' => Same H H' ∧ (∀ c : Nat, c < j → (es.all fun e => fre (wE web) (wC cs) (List.range web.length) e.1 e.2 c) = false) ∧ ∃ x3, σ = [some (.ref x), some (.ref t), some (.int m), x3, none])
      ⟨fun _ _ h => h, fun _ h => absurd h (by omega), _, rfl⟩ (fun _ _ _ _ _ => trivial) (fun j y σ H1 H2 hj h yy => ?_) (fun σ H' h => ?_)
    · obtain ⟨sB, g1, x3, rfl⟩ := h
      obtain ⟨rfl, rfl⟩ := yy
      walk_at "go"
      refine g_iT (SqT.of (sB _ _ ht)) ?_
      intro D hD
      refine lc_fm walk_tup (fun i => es[i]?.map fun e => V.bl (!(fre (wE web) (wC cs) (List.range web.length) e.1 e.2 j))) hD (by rw [List.length_map, hlen]; exact Nat.lt_of_le_of_lt hel (by rw [sizeLine_eq]; omega)) (fun H' s => SqT.of (s _ _ (sB _ _ ht))) (fun i x H3 H4 hi s y Kt Kf k1 k2 => ?_) (fun H3 s3 hl3 => ?_)
      · obtain ⟨rfl, hx⟩ := y
        obtain ⟨c, rfl, hc⟩ := refs_at hx
        obtain ⟨p, hp1, hpt⟩ := hes.at_ hc
        rw [List.getElem?_map] at hp1
        obtain ⟨e, he, rfl⟩ := Option.map_eq_some_iff.mp hp1
        have sC : Same H H4 := sB.trans s
        walk_at "go"
        refine ⟨rfl, ?_⟩
        walk_at "go"
        rename_i p9 hp9
        have hp3 := hp.same (same_snoc sC hp9 (o := .tup [.ref c, .int (0 + (j : Int))]))
        obtain ⟨dx, hob⟩ := hp3.ob
        refine g_f2 hob T.cl_Paint T.nP3 rfl ?_
        refine g_inN hp3.nd (KyAt.of upd_same (upd_old (sC _ _ hpt) hp9)) ?_
        refine k1 _ _ ?_ (same_new hp9)
        rw [he, Int.zero_add, hat e.1 e.2 j]
        show some (V.bl (!(wHit web cs e.1 e.2 j).isNone)) = some (V.bl ((wHit web cs e.1 e.2 j).map fun i => V.int (i : Nat)).isSome)
        cases wHit web cs e.1 e.2 j <;> rfl
      · have e1 : (List.range (bs.map V.ref).length).filterMap (fun i => es[i]?.map fun e => V.bl (!(fre (wE web) (wC cs) (List.range web.length) e.1 e.2 j))) = (es.map fun e => !(fre (wE web) (wC cs) (List.range web.length) e.1 e.2 j)).map V.bl := by
          rw [fm_map es _ _ (by rw [List.length_map, hlen]), List.map_map]
          rfl
        rw [e1] at hl3
        walk_at "go"
        refine g_any hl3 ?_
        walk_at "go"
        have e2 : (es.map fun e => !(fre (wE web) (wC cs) (List.range web.length) e.1 e.2 j)).any id = !(es.all fun e => fre (wE web) (wC cs) (List.range web.length) e.1 e.2 j) := by
          rw [List.any_map, List.not_all_eq_any_not]
          rfl
        rw [e2]
        by_cases c : (es.all fun e => fre (wE web) (wC cs) (List.range web.length) e.1 e.2 j) = true
        · rw [c]
          walk_at "go"
          have e3 : (nums m).find? (fun k => es.all fun e => fre (wE web) (wC cs) (List.range web.length) e.1 e.2 k) = some (j : Int) := find_nums (by simpa using hj) c g1
          have z := k H3 (sB.trans s3)
          rw [e3] at z
          show Q (.int (0 + (j : Int))) H3
          rw [Int.zero_add]
          exact z
        · have c' := Bool.eq_false_iff.mpr c
          rw [c']
          walk_at "go"
          refine ⟨sB.trans s3, fun i hi => ?_, _, rfl⟩
          by_cases ei : i = j
          · rw [ei]; exact c'
          · exact g1 i (by omega)
    · obtain ⟨sB, g1, x3, rfl⟩ := h
      walk_at "go"
      have e3 : (nums m).find? (fun k => es.all fun e => fre (wE web) (wC cs) (List.range web.length) e.1 e.2 k) = none := find_nums_none fun c hc => g1 c (by simpa using hc)
      have z := k H' sB
      rw [e3] at z
      exact z
end
end Kx
set_option maxHeartbeats 4000000
namespace Kx
open PySem PySem.Spec PyProof.Rows L2

local macro_rules | `(tactic| walk_at "ht") => `(tactic| (repeat (first | assumption | exact upd_same | refine upd_old ?_ (by assumption) | refine Same.at_ (by assumption) ?_ | refine Fr.tup (by assumption) ?_)))
local macro_rules | `(tactic| walk_at "go1") => `(tactic| (first
  | ((with_reducible apply g_var); (focus rfl)) | with_reducible refine g_op ?_ | with_reducible refine g_c ?_ | with_reducible refine g_I0 ?_ | with_reducible refine g_eqI ?_ | with_reducible refine g_neI ?_
  | with_reducible refine g_cons ?_ | with_reducible refine g_nil ?_ | with_reducible refine g_tup ?_ | with_reducible refine g_lst ?_ | with_reducible refine g_bl ?_ | with_reducible refine g_test ?_
  | with_reducible refine g_B ?_ | with_reducible refine g_and ?_ | with_reducible refine g_or ?_ | with_reducible refine g_not ?_ | with_reducible refine g_andV ?_ | with_reducible refine g_orV ?_
  | with_reducible refine g_notV ?_ | with_reducible refine g_if ?_ | with_reducible refine g_cb ?_ | with_reducible refine g_call ?_ | with_reducible refine g_chain ?_ | with_reducible refine g_un ?_
  | with_reducible refine g_u ?_ | with_reducible refine g_seq ?_ | with_reducible refine g_next ?_ | with_reducible refine g_ret ?_ | with_reducible refine g_set ?_ | with_reducible refine g_ifS ?_
  | with_reducible refine g_drop ?_ | with_reducible refine g_asg ?_ | with_reducible refine g_name ?_ | with_reducible refine g_tc ?_ | with_reducible refine g_tn ?_ | with_reducible refine g_par ?_
  | with_reducible refine g_par3 ?_ | with_reducible refine g_p2 ?_ | with_reducible refine g_p3 ?_ | with_reducible refine g_fs ?_ | with_reducible refine g_fld ?_ | with_reducible refine g_m ?_
  | with_reducible refine g_mk ?_ | with_reducible refine g_dg ?_ | with_reducible refine g_dp ?_ | with_reducible refine g_din ?_ | with_reducible refine g_dni ?_ | with_reducible refine g_bm ?_
  | with_reducible refine g_mg ?_ | with_reducible refine g_il ?_ | with_reducible refine g_it ?_ | with_reducible refine g_ir ?_ | with_reducible refine g_ik ?_ | with_reducible refine g_for ?_
  | with_reducible refine g_lc ?_ | with_reducible refine g_ie ?_ | with_reducible refine g_iz ?_ | with_reducible refine g_yes ?_ | with_reducible refine g_retN ?_ | with_reducible refine g_gsub ?_ | with_reducible refine g_isN ?_ | with_reducible refine g_ntN ?_
  | with_reducible refine g_isiInt ?_ | with_reducible refine g_isiBool ?_ | with_reducible refine g_sl ?_ | with_reducible refine g_on ?_ | with_reducible refine g_os ?_ | ((with_reducible refine g_dsz ?_ ?_); (focus rfl); intro p hp)
  | ((with_reducible apply g_ixTt); (focus (walk_at "ht"; done)); (focus rfl)) | ((with_reducible apply g_ixLl); (focus (walk_at "ht"; done)); (focus rfl)) | ((with_reducible apply g_isiT); (focus (walk_at "ht"; done))) | ((with_reducible apply g_lnL); (focus (walk_at "ht"; done))) | ((with_reducible apply g_lnT); (focus (walk_at "ht"; done))) | ((with_reducible apply g_tTt); (focus (walk_at "ht"; done)); (focus rfl))
  | ((with_reducible apply g_tyL); (focus (walk_at "ht"; done))) | refine iteT ?_ | refine iteF ?_))
local macro_rules | `(tactic| walk_at "go") => `(tactic| (repeat (walk_at "go1")))
theorem g_while {c : TT} {tb : TS} {D : Ends} {σ : L2.St} {H : Hp} (q : ∃ W : Nat → L2.St → Hp → Prop, (∃ m, W m σ H) ∧ ∀ m σ H, W m σ H →
    c σ H fun b H1 => if b = true then ∃ N : L2.St → Hp → Prop, (∀ σ' H', N σ' H' → ∃ m', m' < m ∧ W m' σ' H') ∧ tb { D with nx := N, ct := N, bk := D.nx } σ H1 else D.nx σ H1) : tWhile c tb D σ H := q
def spRowFrom (cp : Addr) (P : Program) (w : World) : Sp := fun vs H Q _ => ∃ (x t l1 l2 d : Addr) (s : Bool) (p one other : Int) (web : List (Int × Int)) (cs : List Int) (kv : List (NK × V)), vs = [.ref x, .ref t, .int one, .int other] ∧ PaintAt P w cp H x l1 l2 d web cs kv ∧ AtOk web cs kv ∧ WProper web cs ∧
  Pt H t (sN s, p) ∧ one ≠ other ∧ (∀ i ∈ List.range web.length, sd (wE web i) s = p → wC cs i ≠ other) ∧ web.length ≤ 1000 ∧
  ∀ H' r, Same H H' → H r = none → H' r = some (.lst ((path (wE web) (wC cs) (List.range web.length) web.length s p one other).map fun i => V.int (i : Nat))) → Q (.ref r) H'
section
variable {P : Program} {w : World} {K : PySem.W.Frag} {mg : Str → Option Value} {base : Heap} (T : Tx K mg)
theorem scRowFrom : FnScope ["self", "end", "one", "other", "found", "colour", "number", "ends"] ["self", "end", "one", "other"] (defScope sRowFrom) := ⟨rfl, rfl, rfl, by decide +kernel, rfl, by decide +kernel, by decide +kernel⟩
include T in
theorem ok_Paint_row_from {f : Addr} {fd : FuncData} (F : FnP K "row_from" "Paint.row_from" sRowFrom f fd)
    (c_ends_of : Cal P w K mg base CX0 1 "ends_of" ["tie"] spEndsOf)  :
    FnOk P w K mg base CX0 2 f fd ["self", "end", "one", "other"] (spRowFrom (cP K) P w) := by
  refine F.ok scRowFrom (fun vs H Q E h => ?_) (fun cdv A outer s H vs Q E hr h => ?_)
  · obtain ⟨x, t, l1, l2, d, sd0, p, one, other, web, cs, kv, rfl, _⟩ := h; rfl
  · obtain ⟨x, t, l1, l2, d, s0, p, one, other, web, cs, kv, rfl, hp, hat, hP, ht, hne, h0, hn, k⟩ := h
    refine ⟨_, PSs.nox (pss_cons (ps_par (i := 4) (j := 5) rfl scRowFrom.nd rfl rfl (by decide) rfl rfl (pa_cons (pe_lst pa_nil) (pa_cons (pv 2) pa_nil)) (by rfl))
      (pss_cons (ps_while PassesOwn.never (pt_cmpR (op_inNK P w rfl rfl hr) (pe_tup (pa_cons (pv 1) (pa_cons (pv 5) pa_nil))) (pe_fldK K rfl (pv 0) rfl) (by rfl))
      (pss_cons (ps_set (i := 6) scRowFrom.nd rfl (Or.inl rfl) (pe_ix (ix_NK P w rfl rfl hr) (pe_fldK K rfl (pv 0) rfl) (pe_tup (pa_cons (pv 1) (pa_cons (pv 5) pa_nil))) (fun _ _ => rfl)))
      (pss_cons (ps_expr (pe_bm PySem.F.plainAttrs_list PySem.F.slot_list_append PySem.F.type_list_append mt_append (pv 4) (pa_cons (pv 6) pa_nil)))
      (pss_cons (ps_set (i := 7) scRowFrom.nd rfl (Or.inl rfl) (pe_callF c_ends_of hr (by decide) (by rfl) (pa_cons (pe_ix (ix_listK K rfl) (pe_fldK K rfl (pv 0) rfl) (pv 6) (fun _ _ => rfl)) pa_nil)))
      (pss_cons (ps_set (i := 1) scRowFrom.nd rfl (Or.inl rfl) (pe_ifExp (pt_cmpR (op_eqD hr.units) (pe_ix (ix_tupK K rfl) (pv 7) pe_int (fun _ _ => rfl)) (pv 1) (nomark _)) (pe_ix (ix_tupK K rfl) (pv 7) pe_int (fun _ _ => rfl)) (pe_ix (ix_tupK K rfl) (pv 7) pe_int (fun _ _ => rfl))))
      (pss_one (ps_set (i := 5) scRowFrom.nd rfl (Or.inl rfl) (pe_ifExp (pt_cmpR op_eq (pv 5) (pv 2) (nomark _)) (pv 3) (pv 2)))))))))
      (pss_one (ps_ret (pv 4))))), ?_⟩
    walk_at "go"
    rename_i r hr0
    refine g_while ?_
    refine ⟨fun m σ H' => ∃ vs s' p' a b te x6 x7, Wk (wE web) (wC cs) (List.range web.length) s0 p one other vs s' p' a b ∧ m = web.length - vs.length ∧ Same H H' ∧ H' r = some (.lst (vs.map fun i => V.int (i : Nat))) ∧ Pt H' te (sN s', p') ∧
      σ = [some (.ref x), some (.ref te), some (.int one), some (.int other), some (.ref r), some (.int a), x6, x7], ⟨_, [], s0, p, one, other, t, none, none, .start, rfl, same_new hr0, upd_same, upd_old ht hr0, rfl⟩, ?_⟩
    rintro m σ H1 ⟨vs, s', p', a, b, te, x6, x7, hw, rfl, sA, hr1, hte, rfl⟩
    have hrange : (List.range web.length).length = web.length := List.length_range
    walk_at "go"
    rename_i p9 hp9
    have sB : Same H (upd H1 p9 (.tup [.ref te, .int a])) := same_snoc sA hp9
    have hp3 := hp.same sB
    obtain ⟨dx, hob⟩ := hp3.ob
    refine g_f2 hob T.cl_Paint T.nP3 rfl ?_
    refine g_inN hp3.nd (KyAt.of upd_same (upd_old hte hp9)) ?_
    rw [hat s' p' a]
    have hr2 : (upd H1 p9 (.tup [.ref te, .int a])) r = some (.lst (vs.map fun i => V.int (i : Nat))) := upd_old hr1 hp9
    have hte2 := upd_old (o := .tup [.ref te, .int a]) hte hp9
    generalize (upd H1 p9 (.tup [.ref te, .int a])) = H2 at sB hp3 hob hr2 hte2 ⊢
    cases hx : wHit web cs s' p' a with
    | none =>
      walk_at "go"
      refine k H2 r sB hr0 ?_
      rw [hr2, wk_end hP hne h0 hw hx (n := web.length) (by rw [hrange]; exact Nat.le_refl _)]
    | some i =>
      walk_at "go"
      refine ⟨_, fun _ _ h => h, ?_⟩
      obtain ⟨hiL, hi1, hi2⟩ := hit_some hx
      have hiw : i < web.length := by simpa using hiL
      have hw2 := hw.step hx
      have hlen2 := wk_len hP hne h0 hw2
      rw [hrange, List.length_append, List.length_singleton] at hlen2
      have hcol := (wk_ok hP hne h0 hw).cols
      walk_at "go"
      refine g_f2 hob T.cl_Paint T.nP3 rfl ?_
      walk_at "go"
      rename_i p8 hp8
      have hp4 := hp3.same (same_new (o := .tup [.ref te, .int a]) hp8)
      refine g_ixN hp4.nd (KyAt.of upd_same (upd_old hte2 hp8)) (by rw [hat s' p' a, hx]; rfl) ?_
      have sC : Same H (upd H2 p8 (.tup [.ref te, .int a])) := same_snoc sB hp8
      have hr3 : (upd H2 p8 (.tup [.ref te, .int a])) r = some (.lst (vs.map fun i => V.int (i : Nat))) := upd_old hr2 hp8
      have hte3 := upd_old (o := .tup [.ref te, .int a]) hte2 hp8
      generalize (upd H2 p8 (.tup [.ref te, .int a])) = H3 at sC hp4 hr3 hte3 ⊢
      walk_at "go"
      refine g_app hr3 (by rw [List.length_map]; exact Nat.lt_of_lt_of_le (by omega : vs.length < 1001) (by rw [sizeLine_eq]; omega)) ?_
      have e5 : (vs.map fun i => V.int (i : Nat)) ++ [V.int (i : Nat)] = (vs ++ [i]).map fun i => V.int (i : Nat) := by simp
      rw [e5]
      have sD : Same H (upd H3 r (.lst ((vs ++ [i]).map fun i => V.int (i : Nat)))) := same_mut sC hr0
      have hp5 := hp.same sD
      have hr4 : (upd H3 r (.lst ((vs ++ [i]).map fun i => V.int (i : Nat)))) r = some (.lst ((vs ++ [i]).map fun i => V.int (i : Nat))) := upd_same
      have hte4 : Pt (upd H3 r (.lst ((vs ++ [i]).map fun i => V.int (i : Nat)))) te (sN s', p') := by
        show upd _ _ _ _ = _
        rw [upd_ne (ne_of hte3 hr3 (fun z => nomatch z))]; exact hte3
      generalize (upd H3 r (.lst ((vs ++ [i]).map fun i => V.int (i : Nat)))) = H4 at sD hp5 hr4 hte4 ⊢
      obtain ⟨dx5, hob5⟩ := hp5.ob
      obtain ⟨bs, hl1, hbs⟩ := hp5.ti
      have hwi : web[i]? = some (wE web i) := by
        unfold wE
        rw [List.getD_eq_getElem?_getD, List.getElem?_eq_getElem hiw]; rfl
      obtain ⟨bi, hbi, hpt⟩ := hbs.get hwi
      walk_at "go"
      refine g_f2 hob5 T.cl_Paint T.nP1 rfl ?_
      walk_at "go"
      refine g_ixLl hl1 (atI_nat (by rw [List.getElem?_map, hbi]; rfl)) ?_
      walk_at "go"
      refine ⟨bi, _, rfl, hpt, fun ea eb ed n1 n2 n3 => ?_⟩
      have sE : Same H4 (upd (upd (upd H4 ea (.tup [.int 0, .int (wE web i).1])) eb (.tup [.int 1, .int (wE web i).2])) ed (.tup [.ref ea, .ref eb])) := same_snoc (same_snoc (same_new n1) n2) n3
      have ka : Pt (upd (upd (upd H4 ea (.tup [.int 0, .int (wE web i).1])) eb (.tup [.int 1, .int (wE web i).2])) ed (.tup [.ref ea, .ref eb])) ea (0, (wE web i).1) := upd_old (upd_old upd_same n2) n3
      have kb : Pt (upd (upd (upd H4 ea (.tup [.int 0, .int (wE web i).1])) eb (.tup [.int 1, .int (wE web i).2])) ed (.tup [.ref ea, .ref eb])) eb (1, (wE web i).2) := upd_old upd_same n3
      have kd : (upd (upd (upd H4 ea (.tup [.int 0, .int (wE web i).1])) eb (.tup [.int 1, .int (wE web i).2])) ed (.tup [.ref ea, .ref eb])) ed = some (.tup [.ref ea, .ref eb]) := upd_same
      generalize (upd (upd (upd H4 ea (.tup [.int 0, .int (wE web i).1])) eb (.tup [.int 1, .int (wE web i).2])) ed (.tup [.ref ea, .ref eb])) = H5 at sE ka kb kd ⊢
      have hte5 : Pt H5 te (sN s', p') := sE _ _ hte4
      walk_at "go"
      refine g_eqP ka hte5 ?_
      walk_at "go"
      have fin : ∀ te', Pt H5 te' (sN (!s'), sd (wE web i) (!s')) → ∃ m', m' < web.length - vs.length ∧ ∃ vs1 s1 p1 a1 b1 te1 x6 x7, Wk (wE web) (wC cs) (List.range web.length) s0 p one other vs1 s1 p1 a1 b1 ∧ m' = web.length - vs1.length ∧ Same H H5 ∧ H5 r = some (.lst (vs1.map fun i => V.int (i : Nat))) ∧ Pt H5 te1 (sN s1, p1) ∧
          [some (V.ref x), some (.ref te'), some (.int one), some (.int other), some (.ref r), some (.int b), some (.int (i : Nat)), some (.ref ed)] = [some (V.ref x), some (.ref te1), some (.int one), some (.int other), some (.ref r), some (.int a1), x6, x7] := fun te' h =>
        ⟨web.length - (vs ++ [i]).length, by rw [List.length_append, List.length_singleton]; omega, vs ++ [i], !s', _, b, a, te', _, _, hw2, rfl, sD.trans sE, sE _ _ hr4, h, rfl⟩
      have fin2 : ∀ (b' : Int), b' = b → ∀ te', Pt H5 te' (sN (!s'), sd (wE web i) (!s')) → ∃ m', m' < web.length - vs.length ∧ ∃ vs1 s1 p1 a1 b1 te1 x6 x7, Wk (wE web) (wC cs) (List.range web.length) s0 p one other vs1 s1 p1 a1 b1 ∧ m' = web.length - vs1.length ∧ Same H H5 ∧ H5 r = some (.lst (vs1.map fun i => V.int (i : Nat))) ∧ Pt H5 te1 (sN s1, p1) ∧
          [some (V.ref x), some (.ref te'), some (.int one), some (.int other), some (.ref r), some (.int b'), some (.int (i : Nat)), some (.ref ed)] = [some (V.ref x), some (.ref te1), some (.int one), some (.int other), some (.ref r), some (.int a1), x6, x7] := fun b' e => by subst e; exact fin
      cases s' with
      | false =>
        rw [decide_eq_true (show ((0 : Int), (wE web i).1) = (sN false, p') from by rw [← hi1]; rfl)]
        walk_at "go"
        by_cases ec : a = one
        · rw [decide_eq_true ec]
          walk_at "go"
          refine fin2 other ?_ eb kb
          rcases hcol with ⟨_, h1, h2⟩ | ⟨_, h1, h2⟩
          · exact h2.symm
          · exact absurd (ec.symm.trans h1) hne
        · rw [decide_eq_false ec]
          walk_at "go"
          refine fin2 one ?_ eb kb
          rcases hcol with ⟨_, h1, h2⟩ | ⟨_, h1, h2⟩
          · exact absurd h1 ec
          · exact h2.symm
      | true =>
        rw [decide_eq_false (show ¬ ((0 : Int), (wE web i).1) = (sN true, p') from fun z => absurd (congrArg Prod.fst z) (show ¬ (0 : Int) = 1 by decide))]
        walk_at "go"
        by_cases ec : a = one
        · rw [decide_eq_true ec]
          walk_at "go"
          refine fin2 other ?_ ea ka
          rcases hcol with ⟨_, h1, h2⟩ | ⟨_, h1, h2⟩
          · exact h2.symm
          · exact absurd (ec.symm.trans h1) hne
        · rw [decide_eq_false ec]
          walk_at "go"
          refine fin2 one ?_ ea ka
          rcases hcol with ⟨_, h1, h2⟩ | ⟨_, h1, h2⟩
          · exact absurd h1 ec
          · exact h2.symm
end
end Kx
set_option maxHeartbeats 4000000
namespace Kx
open PySem PySem.Spec PyProof.Rows L2

local macro_rules | `(tactic| walk_at "ht") => `(tactic| (repeat (first | assumption | exact upd_same | refine upd_old ?_ (by assumption) | refine Same.at_ (by assumption) ?_ | refine Fr.tup (by assumption) ?_)))
local macro_rules | `(tactic| walk_at "go1") => `(tactic| (first
  | ((with_reducible apply g_var); (focus rfl)) | with_reducible refine g_op ?_ | with_reducible refine g_c ?_ | with_reducible refine g_I0 ?_ | with_reducible refine g_eqI ?_ | with_reducible refine g_neI ?_
  | with_reducible refine g_cons ?_ | with_reducible refine g_nil ?_ | with_reducible refine g_tup ?_ | with_reducible refine g_lst ?_ | with_reducible refine g_bl ?_ | with_reducible refine g_test ?_
  | with_reducible refine g_B ?_ | with_reducible refine g_and ?_ | with_reducible refine g_or ?_ | with_reducible refine g_not ?_ | with_reducible refine g_andV ?_ | with_reducible refine g_orV ?_
  | with_reducible refine g_notV ?_ | with_reducible refine g_if ?_ | with_reducible refine g_cb ?_ | with_reducible refine g_call ?_ | with_reducible refine g_chain ?_ | with_reducible refine g_un ?_
  | with_reducible refine g_u ?_ | with_reducible refine g_seq ?_ | with_reducible refine g_next ?_ | with_reducible refine g_ret ?_ | with_reducible refine g_set ?_ | with_reducible refine g_ifS ?_
  | with_reducible refine g_drop ?_ | with_reducible refine g_asg ?_ | with_reducible refine g_name ?_ | with_reducible refine g_tc ?_ | with_reducible refine g_tn ?_ | with_reducible refine g_par ?_
  | with_reducible refine g_par3 ?_ | with_reducible refine g_p2 ?_ | with_reducible refine g_p3 ?_ | with_reducible refine g_fs ?_ | with_reducible refine g_fld ?_ | with_reducible refine g_m ?_
  | with_reducible refine g_mk ?_ | with_reducible refine g_dg ?_ | with_reducible refine g_dp ?_ | with_reducible refine g_din ?_ | with_reducible refine g_dni ?_ | with_reducible refine g_bm ?_
  | with_reducible refine g_mg ?_ | with_reducible refine g_il ?_ | with_reducible refine g_it ?_ | with_reducible refine g_ir ?_ | with_reducible refine g_ik ?_ | with_reducible refine g_for ?_
  | with_reducible refine g_lc ?_ | with_reducible refine g_ie ?_ | with_reducible refine g_iz ?_ | with_reducible refine g_yes ?_ | with_reducible refine g_retN ?_ | with_reducible refine g_gsub ?_ | with_reducible refine g_isN ?_ | with_reducible refine g_ntN ?_
  | with_reducible refine g_isiInt ?_ | with_reducible refine g_isiBool ?_ | with_reducible refine g_sl ?_ | with_reducible refine g_on ?_ | with_reducible refine g_os ?_ | ((with_reducible refine g_dsz ?_ ?_); (focus rfl); intro p hp)
  | ((with_reducible apply g_ixTt); (focus (walk_at "ht"; done)); (focus rfl)) | ((with_reducible apply g_ixLl); (focus (walk_at "ht"; done)); (focus rfl)) | ((with_reducible apply g_isiT); (focus (walk_at "ht"; done))) | ((with_reducible apply g_lnL); (focus (walk_at "ht"; done))) | ((with_reducible apply g_lnT); (focus (walk_at "ht"; done))) | ((with_reducible apply g_tTt); (focus (walk_at "ht"; done)); (focus rfl))
  | ((with_reducible apply g_tyL); (focus (walk_at "ht"; done))) | refine iteT ?_ | refine iteF ?_))
local macro_rules | `(tactic| walk_at "go") => `(tactic| (repeat (walk_at "go1")))
theorem wE_of {web : List (Int × Int)} {i : Nat} (h : i < web.length) : web[i]? = some (wE web i) := by
  unfold wE
  rw [List.getD_eq_getElem?_getD, List.getElem?_eq_getElem h]; rfl
theorem wC_of {cs : List Int} {i : Nat} (h : i < cs.length) : cs[i]? = some (wC cs i) := by
  unfold wC
  rw [List.getD_eq_getElem?_getD, List.getElem?_eq_getElem h]; rfl
/-- the same of the first i ties -/
def AtOkN (web : List (Int × Int)) (cs : List Int) (i : Nat) (kv : List (NK × V)) : Prop := ∀ s p k, valV kv (nk (sN s) p k) = (hit (wE web) (wC cs) (List.range i) s p k).map fun i => V.int (i : Nat)
theorem atOkN_step {web : List (Int × Int)} {cs : List Int} {i : Nat} {kv : List (NK × V)} (hP : WProper web cs) (hi : i < web.length) (h : AtOkN web cs i kv) :
    AtOkN web cs (i + 1) (putK (putK kv (nk 0 (wE web i).1 (wC cs i)) (.int (i : Nat))) (nk 1 (wE web i).2 (wC cs i)) (.int (i : Nat))) := by
  intro s p k
  rw [valV_put, valV_put, h s p k]
  have hh : hit (wE web) (wC cs) (List.range (i + 1)) s p k = if sd (wE web i) s = p ∧ wC cs i = k then some i else hit (wE web) (wC cs) (List.range i) s p k := by
    unfold hit
    rw [List.range_succ, List.find?_append]
    by_cases c : sd (wE web i) s = p ∧ wC cs i = k
    · rw [if_pos c]
      have : (List.range i).find? (isAt (wE web) (wC cs) s p k) = none := by
        rw [List.find?_eq_none]
        intro j hj hq
        obtain ⟨q1, q2⟩ := isAt_iff.mp hq
        have hj' := List.mem_range.mp hj
        have e := hP.uq j (List.mem_range.mpr (by omega)) i (List.mem_range.mpr hi) s (q1.trans c.1.symm) (q2.trans c.2.symm)
        omega
      rw [this]
      simp [isAt, c.1, c.2]
    · rw [if_neg c]
      have : [i].find? (isAt (wE web) (wC cs) s p k) = none := by
        rw [List.find?_eq_none]
        intro j hj hq
        rw [List.mem_singleton] at hj
        subst hj
        exact c (isAt_iff.mp hq)
      rw [this]
      simp
  rw [hh]
  cases s with
  | false =>
    rw [if_neg (fun z => absurd (nk_inj z).1 (show ¬ sN false = 1 by decide))]
    by_cases c : sd (wE web i) false = p ∧ wC cs i = k
    · rw [if_pos c, if_pos (by rw [← c.1, ← c.2]; rfl)]; rfl
    · rw [if_neg c, if_neg (show ¬ nk (sN false) p k = nk 0 (wE web i).1 (wC cs i) from fun z => c ⟨(nk_inj z).2.1.symm, (nk_inj z).2.2.symm⟩)]
  | true =>
    by_cases c : sd (wE web i) true = p ∧ wC cs i = k
    · rw [if_pos c, if_pos (by rw [← c.1, ← c.2]; rfl)]; rfl
    · rw [if_neg c, if_neg (show ¬ nk (sN true) p k = nk 1 (wE web i).2 (wC cs i) from fun z => c ⟨(nk_inj z).2.1.symm, (nk_inj z).2.2.symm⟩), if_neg (fun z => absurd (nk_inj z).1 (show ¬ sN true = 0 by decide))]
def spPaintInit (cp : Addr) (P : Program) (w : World) : Sp := fun vs H Q _ => ∃ (x t1 t2 dx : Addr) (web : List (Int × Int)) (cs : List Int), vs = [.ref x, .ref t1, .ref t2] ∧ H x = some (.ins cp dx []) ∧ Tp H t1 web ∧ H t2 = some (.tup (cs.map V.int)) ∧ cs.length = web.length ∧ WProper web cs ∧ web.length ≤ 1000 ∧
  ∀ H' l1 l2 d kv, Fr [x] H H' → H l1 = none → H l2 = none → H d = none → PaintAt P w cp H' x l1 l2 d web cs kv → AtOk web cs kv → kv.length ≤ 2 * web.length → Q .non H'
section
variable {P : Program} {w : World} {K : PySem.W.Frag} {mg : Str → Option Value} {base : Heap} (T : Tx K mg)
theorem scPaintInit : FnScope ["self", "ties", "colouring", "number", "tie", "end"] ["self", "ties", "colouring"] (defScope sPaintInit) := ⟨rfl, rfl, rfl, by decide +kernel, rfl, by decide +kernel, by decide +kernel⟩
include T in
theorem ok_Paint_init {f : Addr} {fd : FuncData} (F : FnP K "__init__" "Paint.__init__" sPaintInit f fd)
    (c_ends_of : Cal P w K mg base CX0 1 "ends_of" ["tie"] spEndsOf)  :
    FnOk P w K mg base CX0 2 f fd ["self", "ties", "colouring"] (spPaintInit (cP K) P w) := by
  refine F.ok scPaintInit (fun vs H Q E h => ?_) (fun cdv A outer s H vs Q E hr h => ?_)
  · obtain ⟨x, t1, t2, dx, web, cs, rfl, _⟩ := h; rfl
  · obtain ⟨x, t1, t2, dx, web, cs, rfl, hx, ⟨bs, ht1, hbs⟩, ht2, hlen, hP, hn, k⟩ := h
    refine ⟨_, PSs.nox (pss_cons (ps_fld (pv 0) (pe_callTy call_list_of (by rfl) T.z_list (by decide +kernel) (pa_cons (pv 1) pa_nil)) rfl)
      (pss_cons (ps_fld (pv 0) (pe_callTy call_list_of (by rfl) T.z_list (by decide +kernel) (pa_cons (pv 2) pa_nil)) rfl)
      (pss_cons (ps_fld (pv 0) (pe_dnewNK P w rfl rfl) rfl)
      (pss_one (ps_for PassesOwn.never rfl (pi_enumT (by rfl) T.z_enumerate (pa_cons (pv 1) pa_nil)) (pg_tupK K rfl (n := 2) (by rfl) (pgs_cons (pg_name (i := 3) scPaintInit.nd rfl (Or.inl rfl)) (pgs_cons (pg_name (i := 4) scPaintInit.nd rfl (Or.inl rfl)) pgs_nil)))
      (pss_one (ps_for PassesOwn.never rfl (pi_tup (pe_callF c_ends_of hr (by decide) (by rfl) (pa_cons (pv 4) pa_nil))) (pg_name (i := 5) scPaintInit.nd rfl (Or.inl rfl))
      (pss_one (ps_asg (pv 3) (pg_sub (pe_fldK K rfl (pv 0) rfl) (pe_tup (pa_cons (pv 5) (pa_cons (pe_ix (ix_tupK K rfl) (pv 2) (pv 3) (fun _ _ => rfl)) pa_nil))) (set_NK P w rfl rfl hr))))))))))), ?_⟩
    have nI : ¬ Imm (.ins (cP K) dx []) := fun z => z
    walk_at "go"
    refine ⟨t1, _, rfl, .inr (SqT.of ht1), fun l1 hl1 => ?_⟩
    walk_at "go"
    refine g_fs2 (upd_old hx hl1) T.cl_Paint T.nP1 (Nat.le_of_ble_eq_true rfl) ?_
    have f1 : Fr [x] H (upd (upd H l1 (.lst (bs.map V.ref))) x (.ins (cP K) dx (putF "kept_ties" (.ref l1) []))) := (Fr.refl.new hl1).mut (upd_old hx hl1) nI (.inl (by simp))
    have nx1 : l1 ≠ x := fun z => by rw [z, hx] at hl1; cases hl1
    have hx1 : (upd (upd H l1 (.lst (bs.map V.ref))) x (.ins (cP K) dx (putF "kept_ties" (.ref l1) []))) x = some (.ins (cP K) dx [("kept_ties", .ref l1)]) := upd_same
    have hL1 : (upd (upd H l1 (.lst (bs.map V.ref))) x (.ins (cP K) dx (putF "kept_ties" (.ref l1) []))) l1 = some (.lst (bs.map V.ref)) := by rw [upd_ne nx1]; exact upd_same
    generalize (upd (upd H l1 (.lst (bs.map V.ref))) x (.ins (cP K) dx (putF "kept_ties" (.ref l1) []))) = H1 at f1 hx1 hL1 ⊢
    walk_at "go"
    refine ⟨t2, _, rfl, .inr (SqT.of (f1.tup ht2)), fun l2 hl2 => ?_⟩
    walk_at "go"
    refine g_fs2 (upd_old hx1 hl2) T.cl_Paint T.nP2 (Nat.le_of_ble_eq_true rfl) ?_
    have nx2 : l2 ≠ x := fun z => by rw [z, hx1] at hl2; cases hl2
    have n12 : l1 ≠ l2 := fun z => by rw [← z, hL1] at hl2; cases hl2
    have hl2' : H l2 = none := f1.some_ (by simpa using nx2) hl2
    have f2 : Fr [x] H (upd (upd H1 l2 (.lst (cs.map V.int))) x (.ins (cP K) dx (putF "kept_colours" (.ref l2) [("kept_ties", .ref l1)]))) := (f1.new hl2).mut (upd_old hx1 hl2) (fun z => z) (.inl (by simp))
    have hx2 : (upd (upd H1 l2 (.lst (cs.map V.int))) x (.ins (cP K) dx (putF "kept_colours" (.ref l2) [("kept_ties", .ref l1)]))) x = some (.ins (cP K) dx [("kept_ties", .ref l1), ("kept_colours", .ref l2)]) := upd_same
    have hL12 : (upd (upd H1 l2 (.lst (cs.map V.int))) x (.ins (cP K) dx (putF "kept_colours" (.ref l2) [("kept_ties", .ref l1)]))) l1 = some (.lst (bs.map V.ref)) := by rw [upd_ne nx1]; exact upd_old hL1 hl2
    have hL2 : (upd (upd H1 l2 (.lst (cs.map V.int))) x (.ins (cP K) dx (putF "kept_colours" (.ref l2) [("kept_ties", .ref l1)]))) l2 = some (.lst (cs.map V.int)) := by rw [upd_ne nx2]; exact upd_same
    generalize (upd (upd H1 l2 (.lst (cs.map V.int))) x (.ins (cP K) dx (putF "kept_colours" (.ref l2) [("kept_ties", .ref l1)]))) = H2 at f2 hx2 hL12 hL2 ⊢
    walk_at "go"
    intro d u hd hnd
    walk_at "go"
    have hdx : (upd H2 d u) x = some (.ins (cP K) dx [("kept_ties", .ref l1), ("kept_colours", .ref l2)]) := upd_old hx2 hd
    have nxd : d ≠ x := fun z => by rw [z, hx2] at hd; cases hd
    refine g_fs2 hdx T.cl_Paint T.nP3 (Nat.le_of_ble_eq_true rfl) ?_
    have hd' : H d = none := f2.some_ (by simpa using nxd) hd
    have f3 : Fr [x] H (upd (upd H2 d u) x (.ins (cP K) dx (putF "kept_at" (.ref d) [("kept_ties", .ref l1), ("kept_colours", .ref l2)]))) := (f2.new hd).mut hdx (fun z => z) (.inl (by simp))
    have hx3 : (upd (upd H2 d u) x (.ins (cP K) dx (putF "kept_at" (.ref d) [("kept_ties", .ref l1), ("kept_colours", .ref l2)]))) x = some (.ins (cP K) dx [("kept_ties", .ref l1), ("kept_colours", .ref l2), ("kept_at", .ref d)]) := upd_same
    have hL13 : (upd (upd H2 d u) x (.ins (cP K) dx (putF "kept_at" (.ref d) [("kept_ties", .ref l1), ("kept_colours", .ref l2)]))) l1 = some (.lst (bs.map V.ref)) := by rw [upd_ne nx1]; exact upd_old hL12 hd
    have hL23 : (upd (upd H2 d u) x (.ins (cP K) dx (putF "kept_at" (.ref d) [("kept_ties", .ref l1), ("kept_colours", .ref l2)]))) l2 = some (.lst (cs.map V.int)) := by rw [upd_ne nx2]; exact upd_old hL2 hd
    have hnd3 : ND P w (upd (upd H2 d u) x (.ins (cP K) dx (putF "kept_at" (.ref d) [("kept_ties", .ref l1), ("kept_colours", .ref l2)]))) d [] := hnd.keeps (upd_ne nxd) fun b xs e => by
      rw [upd_ne]
      · exact e
      · rintro rfl; rw [hdx] at e; cases e
    generalize (upd (upd H2 d u) x (.ins (cP K) dx (putF "kept_at" (.ref d) [("kept_ties", .ref l1), ("kept_colours", .ref l2)]))) = Hb at f3 hx3 hL13 hL23 hnd3 ⊢
    have nd1 : d ≠ l1 := fun z => by rw [z, hL12] at hd; cases hd
    have nd2 : d ≠ l2 := fun z => by rw [z, hL2] at hd; cases hd
    walk_at "go"
    refine g_ie1 (f3.tup ht1) ?_
    have hlb : (bs.map V.ref).length = web.length := by rw [List.length_map, hbs.len]
    refine for_it walk_enum2 (fun i σ H' => Fr [d] Hb H' ∧ (∃ kv, ND P w H' d kv ∧ kv.length ≤ 2 * i ∧ AtOkN web cs i kv) ∧ ∃ x3 x4 x5, σ = [some (.ref x), some (.ref t1), some (.ref t2), x3, x4, x5])
      ⟨Fr.refl, ⟨[], hnd3, Nat.zero_le _, fun s p k => rfl⟩, _, _, _, rfl⟩ (fun i σ H' _ h => h.1.tup (f3.tup ht1)) (fun i y σ H3 H4 hi h yy => ?_) (fun σ H' h => ?_)
    · obtain ⟨fA, ⟨kv, hk1, hk2, hk3⟩, x3, x4, x5, rfl⟩ := h
      obtain ⟨T', u', v, rfl, hT, rfl, hu, hv⟩ := yy
      have hiw : i < web.length := by rw [← hlb]; exact hi
      cases hu
      obtain ⟨tb, rfl, htb⟩ := refs_at hv
      obtain ⟨pw, hpw, hpt⟩ := hbs.at_ htb
      have epw : pw = wE web i := by
        have := wE_of hiw
        rw [hpw] at this
        exact Option.some.inj this
      subst epw
      have fB : Fr [d] Hb (upd H3 T' (.tup [.int (i : Nat), .ref tb])) := fA.new hT
      have hkB : ND P w (upd H3 T' (.tup [.int (i : Nat), .ref tb])) d kv := hk1.same (same_new hT)
      have hT1 : (upd H3 T' (.tup [.int (i : Nat), .ref tb])) T' = some (.tup [.int (i : Nat), .ref tb]) := upd_same
      generalize (upd H3 T' (.tup [.int (i : Nat), .ref tb])) = H4 at fB hkB hT1 ⊢
      walk_at "go"
      refine ⟨tb, _, rfl, fB.tup (f3.tup hpt), fun ea eb ed n1 n2 n3 => ?_⟩
      have sE : Same H4 (upd (upd (upd H4 ea (.tup [.int 0, .int (wE web i).1])) eb (.tup [.int 1, .int (wE web i).2])) ed (.tup [.ref ea, .ref eb])) := same_snoc (same_snoc (same_new n1) n2) n3
      have ka : Pt (upd (upd (upd H4 ea (.tup [.int 0, .int (wE web i).1])) eb (.tup [.int 1, .int (wE web i).2])) ed (.tup [.ref ea, .ref eb])) ea (0, (wE web i).1) := upd_old (upd_old upd_same n2) n3
      have kb : Pt (upd (upd (upd H4 ea (.tup [.int 0, .int (wE web i).1])) eb (.tup [.int 1, .int (wE web i).2])) ed (.tup [.ref ea, .ref eb])) eb (1, (wE web i).2) := upd_old upd_same n3
      have kd : (upd (upd (upd H4 ea (.tup [.int 0, .int (wE web i).1])) eb (.tup [.int 1, .int (wE web i).2])) ed (.tup [.ref ea, .ref eb])) ed = some (.tup [.ref ea, .ref eb]) := upd_same
      have hkC := hkB.same sE
      have fC : Fr [d] Hb (upd (upd (upd H4 ea (.tup [.int 0, .int (wE web i).1])) eb (.tup [.int 1, .int (wE web i).2])) ed (.tup [.ref ea, .ref eb])) := fB.trans (Fr.of_same sE)
      generalize (upd (upd (upd H4 ea (.tup [.int 0, .int (wE web i).1])) eb (.tup [.int 1, .int (wE web i).2])) ed (.tup [.ref ea, .ref eb])) = H5 at sE ka kb kd hkC fC ⊢
      walk_at "go"
      refine g_iT (SqT.of kd) ?_
      refine for_it (walk_tup (xs := [.ref ea, .ref eb])) (fun j σ H' => Fr [d] Hb H' ∧ Pt H' ea (0, (wE web i).1) ∧ Pt H' eb (1, (wE web i).2) ∧ H' ed = some (.tup [.ref ea, .ref eb]) ∧
          ND P w H' d (match j with | 0 => kv | 1 => putK kv (nk 0 (wE web i).1 (wC cs i)) (.int (i : Nat)) | _ => putK (putK kv (nk 0 (wE web i).1 (wC cs i)) (.int (i : Nat))) (nk 1 (wE web i).2 (wC cs i)) (.int (i : Nat))) ∧
          ∃ x5, σ = [some (.ref x), some (.ref t1), some (.ref t2), some (.int (i : Nat)), some (.ref tb), x5])
        ⟨fC, ka, kb, kd, hkC, x5, rfl⟩ (fun j σ H' _ h => SqT.of h.2.2.2.1) (fun j y σ H6 H7 hj h yy => ?_) (fun σ H' h => ?_)
      · obtain ⟨fD, qa, qb, qd, hkD, x5', rfl⟩ := h
        obtain ⟨rfl, hy⟩ := yy
        obtain ⟨e, s, rfl, hpe, hj2⟩ : ∃ (e : Addr) (s : Bool), y = .ref e ∧ Pt H7 e (sN s, sd (wE web i) s) ∧ j = (if s then 1 else 0) := by
          match j, hj with
          | 0, _ => cases hy; exact ⟨ea, false, rfl, qa, rfl⟩
          | 1, _ => cases hy; exact ⟨eb, true, rfl, qb, rfl⟩
        walk_at "go"
        refine g_f2 (fD.at_ hx3 (by simpa using Ne.symm nxd)) T.cl_Paint T.nP3 rfl ?_
        walk_at "go"
        refine g_ixTt (fD.tup (f3.tup ht2)) (atI_nat (by rw [List.getElem?_map, wC_of (by omega : i < cs.length)]; rfl)) ?_
        walk_at "go"
        rename_i p9 hp9
        refine g_stN (hkD.same (same_new hp9)) (KyAt.of upd_same (upd_old hpe hp9)) ?_ fun u hnew => ?_
        · have big : 3000 < sizeLine := by rw [sizeLine_eq]; omega
          have h1 := length_putK kv (nk 0 (wE web i).1 (wC cs i)) (V.int (i : Nat))
          cases s with
          | false => subst hj2; show kv.length < sizeLine; omega
          | true => subst hj2; show (putK kv (nk 0 (wE web i).1 (wC cs i)) (V.int (i : Nat))).length < sizeLine; omega
        · have fE : Fr [d] H7 (upd (upd H7 p9 (.tup [.ref e, .int (wC cs i)])) d u) := by
            obtain ⟨o, e1, e2⟩ := (hkD.same (same_new hp9 (o := .tup [.ref e, .int (wC cs i)]))).imm
            exact (Fr.refl.new hp9).mut e1 e2 (.inl (by simp))
          refine ⟨fD.trans fE, fE.tup qa, fE.tup qb, fE.tup qd, ?_, _, rfl⟩
          cases s with
          | false => subst hj2; exact hnew
          | true => subst hj2; exact hnew
      · obtain ⟨fD, qa, qb, qd, hkD, x5', rfl⟩ := h
        refine ⟨fD, ⟨_, hkD, ?_, atOkN_step hP hiw hk3⟩, _, _, _, rfl⟩
        have h1 := length_putK kv (nk 0 (wE web i).1 (wC cs i)) (V.int (i : Nat))
        have h2 := length_putK (putK kv (nk 0 (wE web i).1 (wC cs i)) (V.int (i : Nat))) (nk 1 (wE web i).2 (wC cs i)) (V.int (i : Nat))
        show (putK (putK kv (nk 0 (wE web i).1 (wC cs i)) (V.int (i : Nat))) (nk 1 (wE web i).2 (wC cs i)) (V.int (i : Nat))).length ≤ _
        omega
    · obtain ⟨fA, ⟨kv, hk1, hk2, hk3⟩, x3, x4, x5, rfl⟩ := h
      walk_at "go"
      rw [hlb] at hk2 hk3
      refine k H' l1 l2 d kv (f3.step fA fun b hb => .inr ?_) hl1 hl2' hd' ⟨⟨dx, fA.at_ hx3 ?_⟩, ⟨bs, fA.at_ hL13 ?_, (hbs.fr f3).fr fA⟩, fA.at_ hL23 ?_, hk1, n12, hlen⟩ hk3 hk2
      · rw [List.mem_singleton.mp hb]; exact hd'
      · simpa using Ne.symm nxd
      · simpa using Ne.symm nd1
      · simpa using Ne.symm nd2
end
end Kx
set_option maxHeartbeats 4000000
namespace Kx
open PySem PySem.Spec PyProof.Rows L2

local macro_rules | `(tactic| walk_at "ht") => `(tactic| (repeat (first | assumption | exact upd_same | refine upd_old ?_ (by assumption) | refine Same.at_ (by assumption) ?_ | refine Fr.tup (by assumption) ?_)))
local macro_rules | `(tactic| walk_at "go1") => `(tactic| (first
  | ((with_reducible apply g_var); (focus rfl)) | with_reducible refine g_op ?_ | with_reducible refine g_c ?_ | with_reducible refine g_I0 ?_ | with_reducible refine g_eqI ?_ | with_reducible refine g_neI ?_
  | with_reducible refine g_cons ?_ | with_reducible refine g_nil ?_ | with_reducible refine g_tup ?_ | with_reducible refine g_lst ?_ | with_reducible refine g_bl ?_ | with_reducible refine g_test ?_
  | with_reducible refine g_B ?_ | with_reducible refine g_and ?_ | with_reducible refine g_or ?_ | with_reducible refine g_not ?_ | with_reducible refine g_andV ?_ | with_reducible refine g_orV ?_
  | with_reducible refine g_notV ?_ | with_reducible refine g_if ?_ | with_reducible refine g_cb ?_ | with_reducible refine g_call ?_ | with_reducible refine g_chain ?_ | with_reducible refine g_un ?_
  | with_reducible refine g_u ?_ | with_reducible refine g_seq ?_ | with_reducible refine g_next ?_ | with_reducible refine g_ret ?_ | with_reducible refine g_set ?_ | with_reducible refine g_ifS ?_
  | with_reducible refine g_drop ?_ | with_reducible refine g_asg ?_ | with_reducible refine g_name ?_ | with_reducible refine g_tc ?_ | with_reducible refine g_tn ?_ | with_reducible refine g_par ?_
  | with_reducible refine g_par3 ?_ | with_reducible refine g_p2 ?_ | with_reducible refine g_p3 ?_ | with_reducible refine g_fs ?_ | with_reducible refine g_fld ?_ | with_reducible refine g_m ?_
  | with_reducible refine g_mk ?_ | with_reducible refine g_dg ?_ | with_reducible refine g_dp ?_ | with_reducible refine g_din ?_ | with_reducible refine g_dni ?_ | with_reducible refine g_bm ?_
  | with_reducible refine g_mg ?_ | with_reducible refine g_il ?_ | with_reducible refine g_it ?_ | with_reducible refine g_ir ?_ | with_reducible refine g_ik ?_ | with_reducible refine g_for ?_
  | with_reducible refine g_lc ?_ | with_reducible refine g_ie ?_ | with_reducible refine g_iz ?_ | with_reducible refine g_yes ?_ | with_reducible refine g_retN ?_ | with_reducible refine g_gsub ?_ | with_reducible refine g_isN ?_ | with_reducible refine g_ntN ?_
  | with_reducible refine g_isiInt ?_ | with_reducible refine g_isiBool ?_ | with_reducible refine g_sl ?_ | with_reducible refine g_on ?_ | with_reducible refine g_os ?_ | ((with_reducible refine g_dsz ?_ ?_); (focus rfl); intro p hp)
  | ((with_reducible apply g_ixTt); (focus (walk_at "ht"; done)); (focus rfl)) | ((with_reducible apply g_ixLl); (focus (walk_at "ht"; done)); (focus rfl)) | ((with_reducible apply g_isiT); (focus (walk_at "ht"; done))) | ((with_reducible apply g_lnL); (focus (walk_at "ht"; done))) | ((with_reducible apply g_lnT); (focus (walk_at "ht"; done))) | ((with_reducible apply g_tTt); (focus (walk_at "ht"; done)); (focus rfl))
  | ((with_reducible apply g_tyL); (focus (walk_at "ht"; done))) | refine iteT ?_ | refine iteF ?_))
local macro_rules | `(tactic| walk_at "go") => `(tactic| (repeat (walk_at "go1")))
theorem valV_drop {κ : Type} [DecidableEq κ] (kvs : List (κ × V)) (k j : κ) : valV (dropK kvs k) j = if j = k then none else valV kvs j := by
  induction kvs with
  | nil => simp [dropK, valV]
  | cons p ps ih =>
    by_cases e : p.1 = k
    · rw [dropK_pos e, ih]
      by_cases q : j = k
      · rw [if_pos q, if_pos q]
      · rw [if_neg q, if_neg q, valV_neg (fun z => q (z.symm.trans e))]
    · rw [dropK_neg e]
      by_cases r : p.1 = j
      · rw [valV_pos r, if_neg (fun z => e (r.trans z)), valV_pos r]
      · rw [valV_neg r, ih, valV_neg r]
/-- the colours, those of the row exchanged -/
def swl (cs : List Int) (row : List Nat) (one other : Int) : List Int := (List.range cs.length).map fun i => if i ∈ row then one + other - wC cs i else wC cs i
theorem swl_len (cs : List Int) (row : List Nat) (one other : Int) : (swl cs row one other).length = cs.length := by simp [swl]
theorem swl_nil (cs : List Int) (one other : Int) : swl cs [] one other = cs := by
  apply List.ext_getElem
  · exact swl_len ..
  · intro i h1 h2
    have := wC_of h2
    simp only [swl, List.getElem_map, List.getElem_range, List.not_mem_nil, if_false]
    rw [List.getElem?_eq_getElem h2] at this
    exact (Option.some.inj this).symm
theorem swl_at {cs : List Int} {row : List Nat} {one other : Int} {i : Nat} (h : i < cs.length) : (swl cs row one other)[i]? = some (if i ∈ row then one + other - wC cs i else wC cs i) := by
  simp [swl, h]
theorem swl_wC {cs : List Int} {row : List Nat} {one other : Int} {i : Nat} (h : i < cs.length) : wC (swl cs row one other) i = if i ∈ row then one + other - wC cs i else wC cs i := by
  unfold wC
  rw [List.getD_eq_getElem?_getD, swl_at h]
  rfl
theorem swl_set {cs : List Int} {row : List Nat} {one other : Int} {i : Nat} (h : i < cs.length) (hn : i ∉ row) : (swl cs row one other).set i (one + other - wC cs i) = swl cs (row ++ [i]) one other := by
  apply List.ext_getElem?
  intro j
  rw [List.getElem?_set, swl_len]
  by_cases e : i = j
  · subst e
    rw [if_pos rfl, if_pos h, swl_at h, if_pos (by simp)]
  · rw [if_neg e]
    by_cases hj : j < cs.length
    · rw [swl_at hj, swl_at hj]
      congr 1
      have : j ∈ row ++ [i] ↔ j ∈ row := by simp [Ne.symm e]
      simp only [this]
    · rw [List.getElem?_eq_none (by rw [swl_len]; omega), List.getElem?_eq_none (by rw [swl_len]; omega)]
/-- a tie's key at a side -/
abbrev tK (web : List (Int × Int)) (cs : List Int) (i : Nat) (s : Bool) : NK := nk (sN s) (sd (wE web i) s) (wC cs i)
theorem tK_ne {web : List (Int × Int)} {cs : List Int} (hP : WProper web cs) {i j : Nat} (hi : i < web.length) (hj : j < web.length) {s t : Bool} (h : tK web cs i s = tK web cs j t) : i = j ∧ s = t := by
  obtain ⟨h1, h2, h3⟩ := nk_inj h
  have e := sN_inj h1
  subst e
  exact ⟨hP.uq i (List.mem_range.mpr hi) j (List.mem_range.mpr hj) s h2 h3, rfl⟩
/-- these ties' keys are in the dict -/
def Has (web : List (Int × Int)) (cs : List Int) (l : List Nat) (kv : List (NK × V)) : Prop := ∀ i ∈ l, ∀ s, (valV kv (tK web cs i s)).isSome = true
theorem has_of {web : List (Int × Int)} {cs : List Int} {kv : List (NK × V)} (hP : WProper web cs) (h : AtOk web cs kv) {l : List Nat} (hl : ∀ i ∈ l, i < web.length) : Has web cs l kv := fun i hi s => by
  have e : wHit web cs s (sd (wE web i) s) (wC cs i) = some i := hit_of hP (List.mem_range.mpr (hl i hi)) rfl rfl
  rw [h s, e]; rfl
theorem has_drop {web : List (Int × Int)} {cs : List Int} {kv : List (NK × V)} (hP : WProper web cs) {l : List Nat} {i : Nat} {s : Bool} (hi : i < web.length) (hl : ∀ i ∈ l, i < web.length) (hn : i ∉ l) (h : Has web cs l kv) : Has web cs l (dropK kv (tK web cs i s)) := fun j hj t => by
  rw [valV_drop, if_neg]
  · exact h j hj t
  · intro z
    have e := (tK_ne hP (hl j hj) hi z).1
    subst e
    exact hn hj
theorem ixN_nat {n i : Nat} (h : i < n) : ixN n (i : Int) = some i := by
  unfold ixN
  rw [if_pos (by omega), if_pos (by omega)]
  simp
theorem g_iteV {c : Bool} {n1 n2 : Nat} {σ : L2.St} {H : Hp} {Q : VK} {v1 v2 v : V} (h1 : σ[n1]? = some (some v1)) (h2 : σ[n2]? = some (some v2)) (h : (if c then v1 else v2) = v) (q : Q v H) : if c = true then tVar n1 σ H Q else tVar n2 σ H Q := by
  cases c with
  | true => rw [if_pos rfl]; rw [if_pos rfl] at h; subst h; exact g_var h1 q
  | false => rw [if_neg (by decide)]; rw [if_neg (by decide)] at h; subst h; exact g_var h2 q
def spExchange (cp : Addr) (P : Program) (w : World) : Sp := fun vs H Q _ => ∃ (x rr l1 l2 d : Addr) (one other : Int) (web : List (Int × Int)) (cs : List Int) (kv : List (NK × V)) (row : List Nat), vs = [.ref x, .ref rr, .int one, .int other] ∧ PaintAt P w cp H x l1 l2 d web cs kv ∧ AtOk web cs kv ∧ WProper web cs ∧
  H rr = some (.lst (row.map fun i => V.int (i : Nat))) ∧ rr ≠ l2 ∧ row.Nodup ∧ (∀ i ∈ row, i < web.length ∧ (wC cs i = one ∨ wC cs i = other)) ∧ kv.length ≤ 10000 ∧ web.length ≤ 1000 ∧ row.length ≤ 1000 ∧
  ∀ H' kv', Fr [l2, d] H H' → PaintAt P w cp H' x l1 l2 d web (swl cs row one other) kv' → kv'.length ≤ kv.length + 2 * row.length → Q .non H'
section
variable {P : Program} {w : World} {K : PySem.W.Frag} {mg : Str → Option Value} {base : Heap} (T : Tx K mg)
theorem scExchange : FnScope ["self", "row", "one", "other", "number", "end"] ["self", "row", "one", "other"] (defScope sExchange) := ⟨rfl, rfl, rfl, by decide +kernel, rfl, by decide +kernel, by decide +kernel⟩
include T in
theorem ok_Paint_exchange {f : Addr} {fd : FuncData} (F : FnP K "exchange" "Paint.exchange" sExchange f fd)
    (c_ends_of : Cal P w K mg base CX0 1 "ends_of" ["tie"] spEndsOf)  :
    FnOk P w K mg base CX0 2 f fd ["self", "row", "one", "other"] (spExchange (cP K) P w) := by
  refine F.ok scExchange (fun vs H Q E h => ?_) (fun cdv A outer s H vs Q E hr h => ?_)
  · obtain ⟨x, rr, l1, l2, d, one, other, web, cs, kv, row, rfl, _⟩ := h; rfl
  · obtain ⟨x, rr, l1, l2, d, one, other, web, cs, kv, row, rfl, hp, hat, hP, hrr, hrl2, hnd, hrow, hkl, hn, hrn, k⟩ := h
    refine ⟨_, PSs.nox (pss_cons (ps_for PassesOwn.never rfl (pi_list (pv 1)) (pg_name (i := 4) scExchange.nd rfl (Or.inl rfl))
      (pss_one (ps_for PassesOwn.never rfl (pi_tup (pe_callF c_ends_of hr (by decide) (by rfl) (pa_cons (pe_ix (ix_listK K rfl) (pe_fldK K rfl (pv 0) rfl) (pv 4) (fun _ _ => rfl)) pa_nil))) (pg_name (i := 5) scExchange.nd rfl (Or.inl rfl))
      (pss_one (ps_expr (pe_mG (ty_ndK P w rfl rfl) PySem.F.plainAttrs_dict PySem.F.slot_dict_pop PySem.F.type_dict_pop (mt_popNK P w rfl rfl hr) (pe_fldK K rfl (pv 0) rfl) (pa_cons (pe_tup (pa_cons (pv 5) (pa_cons (pe_ix (ix_listK K rfl) (pe_fldK K rfl (pv 0) rfl) (pv 4) (fun _ _ => rfl)) pa_nil))) pa_nil)))))))
      (pss_one (ps_for PassesOwn.never rfl (pi_list (pv 1)) (pg_name (i := 4) scExchange.nd rfl (Or.inl rfl))
      (pss_cons (ps_asg (pe_ifExp (pt_cmpR op_eq (pe_ix (ix_listK K rfl) (pe_fldK K rfl (pv 0) rfl) (pv 4) (fun _ _ => rfl)) (pv 2) (nomark _)) (pv 3) (pv 2)) (pg_sub (pe_fldK K rfl (pv 0) rfl) (pv 4) set_list))
      (pss_one (ps_for PassesOwn.never rfl (pi_tup (pe_callF c_ends_of hr (by decide) (by rfl) (pa_cons (pe_ix (ix_listK K rfl) (pe_fldK K rfl (pv 0) rfl) (pv 4) (fun _ _ => rfl)) pa_nil))) (pg_name (i := 5) scExchange.nd rfl (Or.inl rfl))
      (pss_one (ps_asg (pv 4) (pg_sub (pe_fldK K rfl (pv 0) rfl) (pe_tup (pa_cons (pv 5) (pa_cons (pe_ix (ix_listK K rfl) (pe_fldK K rfl (pv 0) rfl) (pv 4) (fun _ _ => rfl)) pa_nil))) (set_NK P w rfl rfl hr)))))))))), ?_⟩
    obtain ⟨dx, hob⟩ := hp.ob
    obtain ⟨bs, hl1, hbs⟩ := hp.ti
    obtain ⟨od, hd1, hd2, hd3, hd4⟩ := hp.nd.some_
    have hL : (row.map fun i => V.int (i : Nat)).length = row.length := List.length_map ..
    have nxd : x ≠ d := fun z => by rw [← z, hob] at hd1; exact hd4 _ _ _ (Option.some.inj hd1).symm
    have nl1d : l1 ≠ d := fun z => by rw [← z, hl1] at hd1; exact hd3 _ (Option.some.inj hd1).symm
    have nl2d : l2 ≠ d := fun z => by rw [← z, hp.co] at hd1; exact hd3 _ (Option.some.inj hd1).symm
    have nrd : rr ≠ d := fun z => by rw [← z, hrr] at hd1; exact hd3 _ (Option.some.inj hd1).symm
    have nxl2 : x ≠ l2 := fun z => by rw [z, hp.co] at hob; cases hob
    have big : 100000 < sizeLine := by rw [sizeLine_eq]; omega
    walk_at "go"
    refine g_iL hrr ?_
    refine for_it walk_list (fun i σ H' => Fr [d] H H' ∧ (∃ kv1, ND P w H' d kv1 ∧ kv1.length ≤ kv.length ∧ Has web cs (row.drop i) kv1) ∧ ∃ x4 x5, σ = [some (.ref x), some (.ref rr), some (.int one), some (.int other), x4, x5])
      ⟨Fr.refl, ⟨kv, hp.nd, Nat.le_refl _, has_of hP hat fun i hi => (hrow i hi).1⟩, _, _, rfl⟩ (fun i σ H' _ h => SqL.of (h.1.at_ hrr (by simpa using nrd))) (fun i y σ H3 H4 hi h yy => ?_) (fun σ H' h => ?_)
    · obtain ⟨fA, ⟨kv1, hk1, hk2, hk3⟩, x4, x5, rfl⟩ := h
      obtain ⟨rfl, hy⟩ := yy
      rw [List.getElem?_map] at hy
      obtain ⟨n, hn1, rfl⟩ := Option.map_eq_some_iff.mp hy
      have hirow : i < row.length := (List.getElem?_eq_some_iff.mp hn1).1
      obtain ⟨hnw, hnc⟩ := hrow n (List.mem_of_getElem? hn1)
      have hdrop : row.drop i = n :: row.drop (i + 1) := by rw [List.drop_eq_getElem_cons hirow, (List.getElem?_eq_some_iff.mp hn1).2]
      have hnd2 : n ∉ row.drop (i + 1) := by
        have := hnd.sublist (List.drop_sublist i row)
        rw [hdrop] at this
        exact (List.nodup_cons.mp this).1
      have hdw : ∀ j ∈ row.drop (i + 1), j < web.length := fun j hj => (hrow j (List.mem_of_mem_drop hj)).1
      obtain ⟨bi, hbi, hpt⟩ := hbs.get (wE_of hnw)
      walk_at "go"
      refine g_f2 (fA.at_ hob (by simpa using nxd)) T.cl_Paint T.nP1 rfl ?_
      walk_at "go"
      refine g_ixLl (fA.at_ hl1 (by simpa using nl1d)) (atI_nat (by rw [List.getElem?_map, hbi]; rfl)) ?_
      walk_at "go"
      refine ⟨bi, _, rfl, fA.tup hpt, fun ea eb ed n1 n2 n3 => ?_⟩
      have sE : Same H4 (upd (upd (upd H4 ea (.tup [.int 0, .int (wE web n).1])) eb (.tup [.int 1, .int (wE web n).2])) ed (.tup [.ref ea, .ref eb])) := same_snoc (same_snoc (same_new n1) n2) n3
      have ka : Pt (upd (upd (upd H4 ea (.tup [.int 0, .int (wE web n).1])) eb (.tup [.int 1, .int (wE web n).2])) ed (.tup [.ref ea, .ref eb])) ea (0, (wE web n).1) := upd_old (upd_old upd_same n2) n3
      have kb : Pt (upd (upd (upd H4 ea (.tup [.int 0, .int (wE web n).1])) eb (.tup [.int 1, .int (wE web n).2])) ed (.tup [.ref ea, .ref eb])) eb (1, (wE web n).2) := upd_old upd_same n3
      have kd : (upd (upd (upd H4 ea (.tup [.int 0, .int (wE web n).1])) eb (.tup [.int 1, .int (wE web n).2])) ed (.tup [.ref ea, .ref eb])) ed = some (.tup [.ref ea, .ref eb]) := upd_same
      have hkC := hk1.same sE
      have fC : Fr [d] H (upd (upd (upd H4 ea (.tup [.int 0, .int (wE web n).1])) eb (.tup [.int 1, .int (wE web n).2])) ed (.tup [.ref ea, .ref eb])) := fA.trans (Fr.of_same sE)
      generalize (upd (upd (upd H4 ea (.tup [.int 0, .int (wE web n).1])) eb (.tup [.int 1, .int (wE web n).2])) ed (.tup [.ref ea, .ref eb])) = H5 at sE ka kb kd hkC fC ⊢
      walk_at "go"
      refine g_iT (SqT.of kd) ?_
      refine for_it (walk_tup (xs := [.ref ea, .ref eb])) (fun j σ H' => Fr [d] H H' ∧ Pt H' ea (0, (wE web n).1) ∧ Pt H' eb (1, (wE web n).2) ∧ H' ed = some (.tup [.ref ea, .ref eb]) ∧
          (∃ kv2, ND P w H' d kv2 ∧ kv2.length ≤ kv.length ∧ Has web cs (row.drop (i + 1)) kv2 ∧ (j = 0 → (valV kv2 (tK web cs n false)).isSome = true) ∧ (j ≤ 1 → (valV kv2 (tK web cs n true)).isSome = true)) ∧
          ∃ x5, σ = [some (.ref x), some (.ref rr), some (.int one), some (.int other), some (.int (n : Nat)), x5])
        ⟨fC, ka, kb, kd, ⟨kv1, hkC, hk2, fun j hj => hk3 j (by rw [hdrop]; exact List.mem_cons_of_mem _ hj), fun _ => hk3 n (by rw [hdrop]; exact List.mem_cons_self ..) false, fun _ => hk3 n (by rw [hdrop]; exact List.mem_cons_self ..) true⟩, x5, rfl⟩ (fun j σ H' _ h => SqT.of h.2.2.2.1) (fun j y σ H6 H7 hj h yy => ?_) (fun σ H' h => ?_)
      · obtain ⟨fD, qa, qb, qd, ⟨kv2, hkD, hlD, hhD, hD0, hD1⟩, x5', rfl⟩ := h
        obtain ⟨rfl, hy2⟩ := yy
        obtain ⟨e, s, rfl, hpe, hj2, hval⟩ : ∃ (e : Addr) (s : Bool), y = .ref e ∧ Pt H7 e (sN s, sd (wE web n) s) ∧ j = (if s then 1 else 0) ∧ (valV kv2 (tK web cs n s)).isSome = true := by
          match j, hj with
          | 0, _ => cases hy2; exact ⟨ea, false, rfl, qa, rfl, hD0 rfl⟩
          | 1, _ => cases hy2; exact ⟨eb, true, rfl, qb, rfl, hD1 (Nat.le_refl _)⟩
        obtain ⟨v0, hv0⟩ := Option.isSome_iff_exists.mp hval
        walk_at "go"
        refine g_f2 (fD.at_ hob (by simpa using nxd)) T.cl_Paint T.nP3 rfl ?_
        refine ⟨⟨d, _, rfl, hkD⟩, ?_⟩
        walk_at "go"
        refine g_f2 (fD.at_ hob (by simpa using nxd)) T.cl_Paint T.nP2 rfl ?_
        walk_at "go"
        refine g_ixLl (fD.at_ hp.co (by simpa using nl2d)) (atI_nat (by rw [List.getElem?_map, wC_of (by rw [hp.len]; exact hnw)]; rfl)) ?_
        walk_at "go"
        rename_i p9 hp9
        refine g_popN (hkD.same (same_new hp9)) (KyAt.of upd_same (upd_old hpe hp9)) hv0 fun u hnew => ?_
        have fE : Fr [d] H7 (upd (upd H7 p9 (.tup [.ref e, .int (wC cs n)])) d u) := by
          obtain ⟨o, e1, e2⟩ := (hkD.same (same_new hp9 (o := .tup [.ref e, .int (wC cs n)]))).imm
          exact (Fr.refl.new hp9).mut e1 e2 (.inl (by simp))
        walk_at "go"
        refine ⟨fD.trans fE, fE.tup qa, fE.tup qb, fE.tup qd, ⟨_, hnew, Nat.le_trans (dropK_le kv2 _) hlD, has_drop hP hnw hdw hnd2 hhD, fun h => absurd h (by omega), fun h => ?_⟩, _, rfl⟩
        cases s with
        | false =>
          rw [valV_drop, if_neg (fun z => absurd (tK_ne hP hnw hnw z).2 (by decide))]
          exact hD1 (by omega)
        | true => rw [hj2] at h; exact absurd h (by decide)
      · obtain ⟨fD, qa, qb, qd, ⟨kv2, hkD, hlD, hhD, hD0, hD1⟩, x5', rfl⟩ := h
        exact ⟨fD, ⟨kv2, hkD, hlD, hhD⟩, _, _, rfl⟩
    · obtain ⟨fA, ⟨kv1, hk1, hk2, _⟩, x4, x5, rfl⟩ := h
      walk_at "go"
      refine g_iL (fA.at_ hrr (by simpa using nrd)) ?_
      refine for_it walk_list (fun i σ H2 => Fr [l2, d] H H2 ∧ H2 l2 = some (.lst ((swl cs (row.take i) one other).map V.int)) ∧ (∃ kv2, ND P w H2 d kv2 ∧ kv2.length ≤ kv.length + 2 * i) ∧ ∃ x4 x5, σ = [some (.ref x), some (.ref rr), some (.int one), some (.int other), x4, x5])
        ⟨fA.mono (by simp), by rw [List.take_zero, swl_nil]; exact fA.at_ hp.co (by simpa using nl2d), ⟨kv1, hk1, hk2⟩, x4, x5, rfl⟩ (fun i σ H' _ h => SqL.of (h.1.at_ hrr (by simpa using ⟨hrl2, nrd⟩))) (fun i y σ H3 H4 hi h yy => ?_) (fun σ H2 h => ?_)
      · obtain ⟨fB, hco, ⟨kv2, hkB, hlB⟩, x4, x5, rfl⟩ := h
        obtain ⟨rfl, hy⟩ := yy
        rw [List.getElem?_map] at hy
        obtain ⟨n, hn1, rfl⟩ := Option.map_eq_some_iff.mp hy
        have hirow : i < row.length := (List.getElem?_eq_some_iff.mp hn1).1
        obtain ⟨hnw, hnc⟩ := hrow n (List.mem_of_getElem? hn1)
        have hnl : n < cs.length := by rw [hp.len]; exact hnw
        have htake : row.take (i + 1) = row.take i ++ [n] := by rw [List.take_succ, hn1]; rfl
        have hnt : n ∉ row.take i := by
          have := hnd.sublist (List.take_sublist (i + 1) row)
          rw [htake] at this
          intro hm
          exact (List.nodup_append.mp this).2.2 n hm n (by simp) rfl
        obtain ⟨bi, hbi, hpt⟩ := hbs.get (wE_of hnw)
        have hcur : (swl cs (row.take i) one other)[n]? = some (wC cs n) := by rw [swl_at hnl, if_neg hnt]
        have hval : ∀ b : Bool, b = decide (wC cs n = one) → (if b then V.int other else V.int one) = V.int (one + other - wC cs n) := fun b hb => by
          subst hb
          by_cases e : wC cs n = one
          · rw [decide_eq_true e, if_pos rfl, e]; congr 1; omega
          · rw [decide_eq_false e]
            rcases hnc with h | h
            · exact absurd h e
            · rw [h, if_neg (by decide)]; congr 1; omega
        have stp : ∀ v : V, v = V.int (one + other - wC cs n) → ((swl cs (row.take i) one other).map V.int).set n v = (swl cs (row.take (i + 1)) one other).map V.int := fun v hv => by
          rw [hv, htake, ← swl_set hnl hnt, List.map_set]
        walk_at "go"
        refine g_f2 (fB.at_ hob (by simpa using ⟨nxl2, nxd⟩)) T.cl_Paint T.nP2 rfl ?_
        walk_at "go"
        refine g_ixLl hco (atI_nat (by rw [List.getElem?_map, hcur]; rfl)) ?_
        walk_at "go"
        refine g_iteV rfl rfl (hval _ rfl) ?_
        walk_at "go"
        refine g_f2 (fB.at_ hob (by simpa using ⟨nxl2, nxd⟩)) T.cl_Paint T.nP2 rfl ?_
        walk_at "go"
        refine ⟨l2, _, (n : Int), n, rfl, rfl, hco, ixN_nat (by rw [List.length_map, swl_len]; exact hnl), ?_⟩
        rw [stp _ rfl]
        have fC : Fr [l2, d] H (upd H4 l2 (.lst ((swl cs (row.take (i + 1)) one other).map V.int))) := fB.mut hco (fun z => z) (.inl (by simp))
        have hco1 : (upd H4 l2 (.lst ((swl cs (row.take (i + 1)) one other).map V.int))) l2 = some (.lst ((swl cs (row.take (i + 1)) one other).map V.int)) := upd_same
        have hkC : ND P w (upd H4 l2 (.lst ((swl cs (row.take (i + 1)) one other).map V.int))) d kv2 := hkB.keeps (upd_ne (Ne.symm nl2d)) fun b xs e => by
          rw [upd_ne (ne_of e hco (fun z => nomatch z))]; exact e
        generalize (upd H4 l2 (.lst ((swl cs (row.take (i + 1)) one other).map V.int))) = H6 at fC hco1 hkC ⊢
        have hcur2 : (swl cs (row.take (i + 1)) one other)[n]? = some (one + other - wC cs n) := by rw [swl_at hnl, htake, if_pos (by simp)]
        walk_at "go"
        refine g_f2 (fC.at_ hob (by simpa using ⟨nxl2, nxd⟩)) T.cl_Paint T.nP1 rfl ?_
        walk_at "go"
        refine g_ixLl (fC.at_ hl1 (by simpa using ⟨hp.ne, nl1d⟩)) (atI_nat (by rw [List.getElem?_map, hbi]; rfl)) ?_
        walk_at "go"
        refine ⟨bi, _, rfl, fC.tup hpt, fun ea eb ed n1 n2 n3 => ?_⟩
        have sE : Same H6 (upd (upd (upd H6 ea (.tup [.int 0, .int (wE web n).1])) eb (.tup [.int 1, .int (wE web n).2])) ed (.tup [.ref ea, .ref eb])) := same_snoc (same_snoc (same_new n1) n2) n3
        have ka : Pt (upd (upd (upd H6 ea (.tup [.int 0, .int (wE web n).1])) eb (.tup [.int 1, .int (wE web n).2])) ed (.tup [.ref ea, .ref eb])) ea (0, (wE web n).1) := upd_old (upd_old upd_same n2) n3
        have kb : Pt (upd (upd (upd H6 ea (.tup [.int 0, .int (wE web n).1])) eb (.tup [.int 1, .int (wE web n).2])) ed (.tup [.ref ea, .ref eb])) eb (1, (wE web n).2) := upd_old upd_same n3
        have kd : (upd (upd (upd H6 ea (.tup [.int 0, .int (wE web n).1])) eb (.tup [.int 1, .int (wE web n).2])) ed (.tup [.ref ea, .ref eb])) ed = some (.tup [.ref ea, .ref eb]) := upd_same
        have hkE := hkC.same sE
        have fE : Fr [l2, d] H (upd (upd (upd H6 ea (.tup [.int 0, .int (wE web n).1])) eb (.tup [.int 1, .int (wE web n).2])) ed (.tup [.ref ea, .ref eb])) := fC.trans (Fr.of_same sE)
        have hcoE := sE _ _ hco1
        generalize (upd (upd (upd H6 ea (.tup [.int 0, .int (wE web n).1])) eb (.tup [.int 1, .int (wE web n).2])) ed (.tup [.ref ea, .ref eb])) = H7 at sE ka kb kd hkE fE hcoE ⊢
        walk_at "go"
        refine g_iT (SqT.of kd) ?_
        refine for_it (walk_tup (xs := [.ref ea, .ref eb])) (fun j σ H' => Fr [l2, d] H H' ∧ H' l2 = some (.lst ((swl cs (row.take (i + 1)) one other).map V.int)) ∧ Pt H' ea (0, (wE web n).1) ∧ Pt H' eb (1, (wE web n).2) ∧ H' ed = some (.tup [.ref ea, .ref eb]) ∧
            (∃ kv3, ND P w H' d kv3 ∧ kv3.length ≤ kv.length + 2 * i + j) ∧ ∃ x5, σ = [some (.ref x), some (.ref rr), some (.int one), some (.int other), some (.int (n : Nat)), x5])
          ⟨fE, hcoE, ka, kb, kd, ⟨kv2, hkE, hlB⟩, x5, rfl⟩ (fun j σ H' _ h => SqT.of h.2.2.2.2.1) (fun j y σ H8 H9 hj h yy => ?_) (fun σ H' h => ?_)
        · obtain ⟨fD, hcD, qa, qb, qd, ⟨kv3, hkD, hlD⟩, x5', rfl⟩ := h
          obtain ⟨rfl, hy2⟩ := yy
          obtain ⟨e, s, rfl, hpe⟩ : ∃ (e : Addr) (s : Bool), y = .ref e ∧ Pt H9 e (sN s, sd (wE web n) s) := by
            match j, hj with
            | 0, _ => cases hy2; exact ⟨ea, false, rfl, qa⟩
            | 1, _ => cases hy2; exact ⟨eb, true, rfl, qb⟩
          walk_at "go"
          refine g_f2 (fD.at_ hob (by simpa using ⟨nxl2, nxd⟩)) T.cl_Paint T.nP3 rfl ?_
          walk_at "go"
          refine g_f2 (fD.at_ hob (by simpa using ⟨nxl2, nxd⟩)) T.cl_Paint T.nP2 rfl ?_
          walk_at "go"
          refine g_ixLl hcD (atI_nat (by rw [List.getElem?_map, hcur2]; rfl)) ?_
          walk_at "go"
          rename_i p9 hp9
          have hj' : j < 2 := hj
          refine g_stN (hkD.same (same_new hp9)) (KyAt.of upd_same (upd_old hpe hp9)) (by omega) fun u hnew => ?_
          have hkq : ND P w (upd H9 p9 (.tup [.ref e, .int (one + other - wC cs n)])) d kv3 := hkD.same (same_new hp9)
          have fF : Fr [d] H9 (upd (upd H9 p9 (.tup [.ref e, .int (one + other - wC cs n)])) d u) := by
            obtain ⟨o, e1, e2⟩ := hkq.imm
            exact (Fr.refl.new hp9).mut e1 e2 (.inl (by simp))
          have hlp := length_putK kv3 (nk (sN s) (sd (wE web n) s) (one + other - wC cs n)) (V.int (n : Nat))
          refine ⟨fD.step fF (by simp), fF.at_ hcD (by simpa using nl2d), fF.tup qa, fF.tup qb, fF.tup qd, ⟨_, hnew, Nat.le_trans hlp (by omega)⟩, _, rfl⟩
        · obtain ⟨fD, hcD, qa, qb, qd, ⟨kv3, hkD, hlD⟩, x5', rfl⟩ := h
          refine ⟨fD, hcD, ⟨kv3, hkD, ?_⟩, _, _, rfl⟩
          have e2 : ([V.ref ea, .ref eb] : List V).length = 2 := rfl
          rw [e2] at hlD
          omega
      · obtain ⟨fB, hco, ⟨kv2, hkB, hlB⟩, x4, x5, rfl⟩ := h
        walk_at "go"
        rw [hL] at hco hlB
        rw [List.take_length] at hco
        exact k H2 kv2 fB ⟨⟨dx, fB.at_ hob (by simpa using ⟨nxl2, nxd⟩)⟩, ⟨bs, fB.at_ hl1 (by simpa using ⟨hp.ne, nl1d⟩), hbs.fr fB⟩, hco, hkB, hp.ne, by rw [swl_len, hp.len]⟩ hlB
end
end Kx
set_option maxHeartbeats 4000000
namespace Kx
open PySem PySem.Spec PyProof.Rows L2

local macro_rules | `(tactic| walk_at "ht") => `(tactic| (repeat (first | assumption | exact upd_same | refine upd_old ?_ (by assumption) | refine Same.at_ (by assumption) ?_ | refine Fr.tup (by assumption) ?_)))
local macro_rules | `(tactic| walk_at "go1") => `(tactic| (first
  | ((with_reducible apply g_var); (focus rfl)) | with_reducible refine g_op ?_ | with_reducible refine g_c ?_ | with_reducible refine g_I0 ?_ | with_reducible refine g_eqI ?_ | with_reducible refine g_neI ?_
  | with_reducible refine g_cons ?_ | with_reducible refine g_nil ?_ | with_reducible refine g_tup ?_ | with_reducible refine g_lst ?_ | with_reducible refine g_bl ?_ | with_reducible refine g_test ?_
  | with_reducible refine g_B ?_ | with_reducible refine g_and ?_ | with_reducible refine g_or ?_ | with_reducible refine g_not ?_ | with_reducible refine g_andV ?_ | with_reducible refine g_orV ?_
  | with_reducible refine g_notV ?_ | with_reducible refine g_if ?_ | with_reducible refine g_cb ?_ | with_reducible refine g_call ?_ | with_reducible refine g_chain ?_ | with_reducible refine g_un ?_
  | with_reducible refine g_u ?_ | with_reducible refine g_seq ?_ | with_reducible refine g_next ?_ | with_reducible refine g_ret ?_ | with_reducible refine g_set ?_ | with_reducible refine g_ifS ?_
  | with_reducible refine g_drop ?_ | with_reducible refine g_asg ?_ | with_reducible refine g_name ?_ | with_reducible refine g_tc ?_ | with_reducible refine g_tn ?_ | with_reducible refine g_par ?_
  | with_reducible refine g_par3 ?_ | with_reducible refine g_p2 ?_ | with_reducible refine g_p3 ?_ | with_reducible refine g_fs ?_ | with_reducible refine g_fld ?_ | with_reducible refine g_m ?_
  | with_reducible refine g_mk ?_ | with_reducible refine g_dg ?_ | with_reducible refine g_dp ?_ | with_reducible refine g_din ?_ | with_reducible refine g_dni ?_ | with_reducible refine g_bm ?_
  | with_reducible refine g_mg ?_ | with_reducible refine g_il ?_ | with_reducible refine g_it ?_ | with_reducible refine g_ir ?_ | with_reducible refine g_ik ?_ | with_reducible refine g_for ?_
  | with_reducible refine g_lc ?_ | with_reducible refine g_ie ?_ | with_reducible refine g_iz ?_ | with_reducible refine g_yes ?_ | with_reducible refine g_retN ?_ | with_reducible refine g_gsub ?_ | with_reducible refine g_isN ?_ | with_reducible refine g_ntN ?_
  | with_reducible refine g_isiInt ?_ | with_reducible refine g_isiBool ?_ | with_reducible refine g_sl ?_ | with_reducible refine g_on ?_ | with_reducible refine g_os ?_ | ((with_reducible refine g_dsz ?_ ?_); (focus rfl); intro p hp)
  | ((with_reducible apply g_ixTt); (focus (walk_at "ht"; done)); (focus rfl)) | ((with_reducible apply g_ixLl); (focus (walk_at "ht"; done)); (focus rfl)) | ((with_reducible apply g_isiT); (focus (walk_at "ht"; done))) | ((with_reducible apply g_lnL); (focus (walk_at "ht"; done))) | ((with_reducible apply g_lnT); (focus (walk_at "ht"; done))) | ((with_reducible apply g_tTt); (focus (walk_at "ht"; done)); (focus rfl))
  | ((with_reducible apply g_tyL); (focus (walk_at "ht"; done))) | refine iteT ?_ | refine iteF ?_))
local macro_rules | `(tactic| walk_at "go") => `(tactic| (repeat (walk_at "go1")))
theorem same_none {H H' : Hp} {a : Addr} (s : Same H H') (h : H' a = none) : H a = none := by
  cases e : H a with
  | none => rfl
  | some o => rw [s _ _ e] at h; cases h
theorem g_cut3 {s1 s2 s3 s4 : TS} {D : Ends} {σ : L2.St} {H : Hp} (J : L2.St → Hp → Prop) (tail : ∀ σ' H', J σ' H' → s4 D σ' H') (first : ∀ N : L2.St → Hp → Prop, (∀ σ' H', J σ' H' → N σ' H') → tSeq s1 (tSeq s2 s3) { D with nx := N } σ H) : tSeq s1 (tSeq s2 (tSeq s3 s4)) D σ H := first (s4 D) tail
/-- the web behind a new pair -/
abbrev wPut (web : List (Int × Int)) (cs : List Int) (m : Nat) (p : Int × Int) : PutR Nat := putG (wE web) (wC cs) (List.range web.length) (nums m) p
abbrev wFre (web : List (Int × Int)) (cs : List Int) (s : Bool) (p k : Int) : Bool := fre (wE web) (wC cs) (List.range web.length) s p k
abbrev wNew (cs : List Int) (R : PutR Nat) : List Int := swl cs R.row R.one R.other ++ [R.col]
def spAdd (cp : Addr) (P : Program) (w : World) : Sp := fun vs H Q _ => ∃ (x t l1 l2 d : Addr) (m : Nat) (web : List (Int × Int)) (cs : List Int) (kv : List (NK × V)) (p : Int × Int), vs = [.ref x, .ref t, .int m] ∧ PaintAt P w cp H x l1 l2 d web cs kv ∧ AtOk web cs kv ∧ WProper web cs ∧
  Pt H t p ∧ m ≤ 1000 ∧ web.length ≤ 500 ∧ kv.length ≤ 1000 ∧ (∃ k ∈ nums m, wFre web cs false p.1 k = true) ∧ (∃ k ∈ nums m, wFre web cs true p.2 k = true) ∧
  ∀ H' r kv', Fr [l1, l2, d] H H' → H r = none → H' r = some (.lst ((wPut web cs m p).row.map fun i => V.int (i : Nat))) → PaintAt P w cp H' x l1 l2 d (web ++ [p]) (wNew cs (wPut web cs m p)) kv' → Q (.ref r) H'
section
variable {P : Program} {w : World} {K : PySem.W.Frag} {mg : Str → Option Value} {base : Heap} (T : Tx K mg)
theorem scAdd : FnScope ["self", "tie", "colours", "line", "output", "colour", "row", "one", "other", "back", "end"] ["self", "tie", "colours"] (defScope sAdd) := ⟨rfl, rfl, rfl, by decide +kernel, rfl, by decide +kernel, by decide +kernel⟩
include T in
theorem ok_Paint_add {f : Addr} {fd : FuncData} (F : FnP K "add" "Paint.add" sAdd f fd)
    (c_ends_of : Cal P w K mg base CX0 1 "ends_of" ["tie"] spEndsOf) (c_Paint_least_free : CalM P w K mg base CX0 1 (cP K) "least_free" ["self", "ends", "colours"] (spLeastFree (cP K) P w)) (c_Paint_row_from : CalM P w K mg base CX0 2 (cP K) "row_from" ["self", "end", "one", "other"] (spRowFrom (cP K) P w)) (c_Paint_exchange : CalM P w K mg base CX0 2 (cP K) "exchange" ["self", "row", "one", "other"] (spExchange (cP K) P w))  :
    FnOk P w K mg base CX0 3 f fd ["self", "tie", "colours"] (spAdd (cP K) P w) := by
  refine F.ok scAdd (fun vs H Q E h => ?_) (fun cdv A outer s H vs Q E hr h => ?_)
  · obtain ⟨x, t, l1, l2, d, m, web, cs, kv, p, rfl, _⟩ := h; rfl
  · obtain ⟨x, t, l1, l2, d, m, web, cs, kv, p, rfl, hp, hat, hP, ht, hm, hn, hkl, ⟨k0, hk0, hf0⟩, ⟨k1, hk1, hf1⟩, k⟩ := h
    refine ⟨_, PSs.nox (pss_cons (ps_asg (pe_callF c_ends_of hr (by decide) (by rfl) (pa_cons (pv 1) pa_nil)) (pg_tupK K rfl (n := 2) (by rfl) (pgs_cons (pg_name (i := 3) scAdd.nd rfl (Or.inl rfl)) (pgs_cons (pg_name (i := 4) scAdd.nd rfl (Or.inl rfl)) pgs_nil))))
      (pss_cons (ps_par (i := 5) (j := 6) rfl scAdd.nd rfl rfl (by decide) rfl rfl (pa_cons (pe_methF T.cl_Paint c_Paint_least_free hr (by decide) (pv 0) (pa_cons (pe_tup (pa_cons (pv 3) (pa_cons (pv 4) pa_nil))) (pa_cons (pv 2) pa_nil))) (pa_cons (pe_lst pa_nil) pa_nil)) (by rfl))
      (pss_cons (ps_if (pt_cmpR op_isN (pv 5) pe_non (nomark _)) (pss_cons (ps_par (i := 7) (j := 8) rfl scAdd.nd rfl rfl (by decide) rfl rfl (pa_cons (pe_methF T.cl_Paint c_Paint_least_free hr (by decide) (pv 0) (pa_cons (pe_tup (pa_cons (pv 3) pa_nil)) (pa_cons (pv 2) pa_nil))) (pa_cons (pe_methF T.cl_Paint c_Paint_least_free hr (by decide) (pv 0) (pa_cons (pe_tup (pa_cons (pv 4) pa_nil)) (pa_cons (pv 2) pa_nil))) pa_nil)) (by rfl))
      (pss_cons (ps_par (i := 6) (j := 9) rfl scAdd.nd rfl rfl (by decide) rfl rfl (pa_cons (pe_methF T.cl_Paint c_Paint_row_from hr (by decide) (pv 0) (pa_cons (pv 4) (pa_cons (pv 7) (pa_cons (pv 8) pa_nil)))) (pa_cons (pe_methF T.cl_Paint c_Paint_row_from hr (by decide) (pv 0) (pa_cons (pv 3) (pa_cons (pv 8) (pa_cons (pv 7) pa_nil)))) pa_nil)) (by rfl))
      (pss_cons (ps_set (i := 5) scAdd.nd rfl (Or.inl rfl) (pv 7))
      (pss_cons (ps_if (pt_cmpR op_lt (pe_callB (call_lenK K rfl) (by rfl) T.z_len (by decide +kernel) (pa_cons (pv 9) pa_nil)) (pe_callB (call_lenK K rfl) (by rfl) T.z_len (by decide +kernel) (pa_cons (pv 6) pa_nil)) (nomark _)) (pss_one (ps_par (i := 6) (j := 5) rfl scAdd.nd rfl rfl (by decide) rfl rfl (pa_cons (pv 9) (pa_cons (pv 8) pa_nil)) (by rfl))) pss_nil)
      (pss_one (ps_expr (pe_methF T.cl_Paint c_Paint_exchange hr (by decide) (pv 0) (pa_cons (pv 6) (pa_cons (pv 7) (pa_cons (pv 8) pa_nil)))))))))) pss_nil)
      (pss_cons (ps_expr (pe_bm PySem.F.plainAttrs_list PySem.F.slot_list_append PySem.F.type_list_append mt_append (pe_fldK K rfl (pv 0) rfl) (pa_cons (pv 1) pa_nil)))
      (pss_cons (ps_expr (pe_bm PySem.F.plainAttrs_list PySem.F.slot_list_append PySem.F.type_list_append mt_append (pe_fldK K rfl (pv 0) rfl) (pa_cons (pv 5) pa_nil)))
      (pss_cons (ps_for PassesOwn.never rfl (pi_tup (pe_tup (pa_cons (pv 3) (pa_cons (pv 4) pa_nil)))) (pg_name (i := 10) scAdd.nd rfl (Or.inl rfl))
      (pss_one (ps_asg (pe_op op_sub (pe_callB (call_lenK K rfl) (by rfl) T.z_len (by decide +kernel) (pa_cons (pe_fldK K rfl (pv 0) rfl) pa_nil)) pe_int) (pg_sub (pe_fldK K rfl (pv 0) rfl) (pe_tup (pa_cons (pv 10) (pa_cons (pv 5) pa_nil))) (set_NK P w rfl rfl hr)))))
      (pss_one (ps_ret (pv 6))))))))), ?_⟩
    obtain ⟨dx, hob⟩ := hp.ob
    obtain ⟨bs, hl1, hbs⟩ := hp.ti
    obtain ⟨od, hd1, hd2, hd3, hd4⟩ := hp.nd.some_
    have nxd : x ≠ d := fun z => by rw [← z, hob] at hd1; exact hd4 _ _ _ (Option.some.inj hd1).symm
    have nl1d : l1 ≠ d := fun z => by rw [← z, hl1] at hd1; exact hd3 _ (Option.some.inj hd1).symm
    have nl2d : l2 ≠ d := fun z => by rw [← z, hp.co] at hd1; exact hd3 _ (Option.some.inj hd1).symm
    have nxl2 : x ≠ l2 := fun z => by rw [z, hp.co] at hob; cases hob
    have nxl1 : x ≠ l1 := fun z => by rw [z, hl1] at hob; cases hob
    have big : 100000 < sizeLine := by rw [sizeLine_eq]; omega
    refine g_cut3 (fun σ' H' => Fr [l2, d] H H' ∧ (∃ kv2, PaintAt P w (cP K) H' x l1 l2 d web (swl cs (wPut web cs m p).row (wPut web cs m p).one (wPut web cs m p).other) kv2 ∧ kv2.length ≤ 5000) ∧
      ∃ ea eb rr x7 x8 x9 x10, Pt H' ea (0, p.1) ∧ Pt H' eb (1, p.2) ∧ H rr = none ∧ H' rr = some (.lst ((wPut web cs m p).row.map fun i => V.int (i : Nat))) ∧
        σ' = [some (.ref x), some (.ref t), some (.int m), some (.ref ea), some (.ref eb), some (.int (wPut web cs m p).col), some (.ref rr), x7, x8, x9, x10]) ?_ (fun NX tail => ?_)
    · rintro σ' H5 ⟨fA, ⟨kv2, hp2, hk2⟩, ea, eb, rr, x7, x8, x9, x10, qa, qb, hrn, hrr, rfl⟩
      obtain ⟨dx2, hob2⟩ := hp2.ob
      obtain ⟨bs2, hl2, hbs2⟩ := hp2.ti
      have hlb2 : bs2.length = web.length := hbs2.len
      walk_at "go"
      refine g_f2 hob2 T.cl_Paint T.nP1 rfl ?_
      refine g_tyL hl2 ?_
      walk_at "go"
      refine g_app hl2 (by rw [List.length_map, hlb2]; omega) ?_
      have e1 : bs2.map V.ref ++ [V.ref t] = (bs2 ++ [t]).map V.ref := by simp
      rw [e1]
      have fB : Fr [l1] H5 (upd H5 l1 (.lst ((bs2 ++ [t]).map V.ref))) := Fr.refl.mut hl2 (fun z => z) (.inl (by simp))
      have hl6 : (upd H5 l1 (.lst ((bs2 ++ [t]).map V.ref))) l1 = some (.lst ((bs2 ++ [t]).map V.ref)) := upd_same
      generalize (upd H5 l1 (.lst ((bs2 ++ [t]).map V.ref))) = H6 at fB hl6 ⊢
      have hob6 := fB.at_ hob2 (by simpa using nxl1)
      have hco6 := fB.at_ hp2.co (by simpa using Ne.symm hp.ne)
      have hnd6 := hp2.nd.fr fB (by simpa using Ne.symm nl1d)
      walk_at "go"
      refine g_f2 hob6 T.cl_Paint T.nP2 rfl ?_
      refine g_tyL hco6 ?_
      walk_at "go"
      refine g_app hco6 (by rw [List.length_map, hp2.len]; omega) ?_
      have e2 : (swl cs (wPut web cs m p).row (wPut web cs m p).one (wPut web cs m p).other).map V.int ++ [V.int (wPut web cs m p).col] = (wNew cs (wPut web cs m p)).map V.int := by simp [wNew]
      rw [e2]
      have fC : Fr [l2] H6 (upd H6 l2 (.lst ((wNew cs (wPut web cs m p)).map V.int))) := Fr.refl.mut hco6 (fun z => z) (.inl (by simp))
      have hco7 : (upd H6 l2 (.lst ((wNew cs (wPut web cs m p)).map V.int))) l2 = some (.lst ((wNew cs (wPut web cs m p)).map V.int)) := upd_same
      generalize (upd H6 l2 (.lst ((wNew cs (wPut web cs m p)).map V.int))) = H7 at fC hco7 ⊢
      have hob7 := fC.at_ hob6 (by simpa using nxl2)
      have hl7 := fC.at_ hl6 (by simpa using hp.ne)
      have hnd7 := hnd6.fr fC (by simpa using Ne.symm nl2d)
      walk_at "go"
      rename_i p9 hp9
      refine g_iT (SqT.of upd_same) ?_
      have fD : Fr [l1, l2, d] H (upd H7 p9 (.tup [.ref ea, .ref eb])) := (((fA.mono (by simp)).step fB (by simp)).step fC (by simp)).new hp9
      have qa9 : Pt (upd H7 p9 (.tup [.ref ea, .ref eb])) ea (0, p.1) := upd_old (fC.tup (fB.tup qa)) hp9
      have qb9 : Pt (upd H7 p9 (.tup [.ref ea, .ref eb])) eb (1, p.2) := upd_old (fC.tup (fB.tup qb)) hp9
      have hob9 := upd_old (o := .tup [.ref ea, .ref eb]) hob7 hp9
      have hl9 := upd_old (o := .tup [.ref ea, .ref eb]) hl7 hp9
      have hco9 := upd_old (o := .tup [.ref ea, .ref eb]) hco7 hp9
      have hnd9 : ND P w (upd H7 p9 (.tup [.ref ea, .ref eb])) d kv2 := hnd7.same (same_new hp9)
      have h9 : (upd H7 p9 (.tup [.ref ea, .ref eb])) p9 = some (.tup [.ref ea, .ref eb]) := upd_same
      have hrl1 : rr ≠ l1 := fun z => by rw [z, hl1] at hrn; cases hrn
      have hrl2 : rr ≠ l2 := fun z => by rw [z, hp.co] at hrn; cases hrn
      have hrd : rr ≠ d := fun z => by rw [z, hd1] at hrn; cases hrn
      have hrr9 := upd_old (o := .tup [.ref ea, .ref eb]) (fC.at_ (fB.at_ hrr (by simpa using hrl1)) (by simpa using hrl2)) hp9
      have hbs9 : Prs (upd H7 p9 (.tup [.ref ea, .ref eb])) (bs2 ++ [t]) (web ++ [p]) := (((hbs2.fr fB).fr fC).keep fun b xs e => upd_old e hp9).snoc (fD.tup ht)
      generalize (upd H7 p9 (.tup [.ref ea, .ref eb])) = H9 at fD qa9 qb9 hob9 hl9 hco9 hnd9 h9 hrr9 hbs9 ⊢
      have hn2 : (List.map V.ref (bs2 ++ [t])).length = web.length + 1 := by rw [List.length_map, List.length_append, hlb2]; rfl
      refine for_it (walk_tup (xs := [.ref ea, .ref eb])) (fun j σ H' => Fr [d] H9 H' ∧ (∃ kv3, ND P w H' d kv3 ∧ kv3.length ≤ 5000 + j) ∧ ∃ x10, σ = [some (.ref x), some (.ref t), some (.int m), some (.ref ea), some (.ref eb), some (.int (wPut web cs m p).col), some (.ref rr), x7, x8, x9, x10])
        ⟨Fr.refl, ⟨kv2, hnd9, hk2⟩, x10, rfl⟩ (fun j σ H' _ h => SqT.of (h.1.tup h9)) (fun j y σ H10 H11 hj h yy => ?_) (fun σ H' h => ?_)
      · obtain ⟨fE, ⟨kv3, hk3, hl3⟩, x10', rfl⟩ := h
        obtain ⟨rfl, hy⟩ := yy
        have hj' : j < 2 := hj
        obtain ⟨e, s, rfl, hpe⟩ : ∃ (e : Addr) (s : Bool), y = .ref e ∧ Pt H11 e (sN s, sd p s) := by
          match j, hj with
          | 0, _ => cases hy; exact ⟨ea, false, rfl, fE.tup qa9⟩
          | 1, _ => cases hy; exact ⟨eb, true, rfl, fE.tup qb9⟩
        walk_at "go"
        refine g_f2 (fE.at_ hob9 (by simpa using nxd)) T.cl_Paint T.nP1 rfl ?_
        walk_at "go"
        refine g_lnL (fE.at_ hl9 (by simpa using nl1d)) ?_
        walk_at "go"
        refine g_f2 (fE.at_ hob9 (by simpa using nxd)) T.cl_Paint T.nP3 rfl ?_
        walk_at "go"
        rename_i p8 hp8
        refine g_stN (hk3.same (same_new hp8)) (KyAt.of upd_same (upd_old hpe hp8)) (by omega) fun u hnew => ?_
        have hkq : ND P w (upd H11 p8 (.tup [.ref e, .int (wPut web cs m p).col])) d kv3 := hk3.same (same_new hp8)
        have fF : Fr [d] H11 (upd (upd H11 p8 (.tup [.ref e, .int (wPut web cs m p).col])) d u) := by
          obtain ⟨o, e1, e2⟩ := hkq.imm
          exact (Fr.refl.new hp8).mut e1 e2 (.inl (by simp))
        exact ⟨fE.trans fF, ⟨_, hnew, Nat.le_trans (length_putK kv3 _ _) (by omega)⟩, _, rfl⟩
      · obtain ⟨fE, ⟨kv3, hk3, hl3⟩, x10', rfl⟩ := h
        walk_at "go"
        refine k H' rr kv3 (fD.step fE (by simp)) hrn (fE.at_ hrr9 (by simpa using hrd)) ⟨⟨dx2, fE.at_ hob9 (by simpa using nxd)⟩, ⟨_, fE.at_ hl9 (by simpa using nl1d), hbs9.fr fE⟩, fE.at_ hco9 (by simpa using nl2d), hk3, hp.ne, ?_⟩
        rw [List.length_append, List.length_append, swl_len, hp.len]
        rfl
    · walk_at "go"
      refine ⟨t, p, rfl, ht, fun ea eb ed n1 n2 n3 => ?_⟩
      have sE : Same H (upd (upd (upd H ea (.tup [.int 0, .int p.1])) eb (.tup [.int 1, .int p.2])) ed (.tup [.ref ea, .ref eb])) := same_snoc (same_snoc (same_new n1) n2) n3
      have ka : Pt (upd (upd (upd H ea (.tup [.int 0, .int p.1])) eb (.tup [.int 1, .int p.2])) ed (.tup [.ref ea, .ref eb])) ea (0, p.1) := upd_old (upd_old upd_same n2) n3
      have kb : Pt (upd (upd (upd H ea (.tup [.int 0, .int p.1])) eb (.tup [.int 1, .int p.2])) ed (.tup [.ref ea, .ref eb])) eb (1, p.2) := upd_old upd_same n3
      have kd : (upd (upd (upd H ea (.tup [.int 0, .int p.1])) eb (.tup [.int 1, .int p.2])) ed (.tup [.ref ea, .ref eb])) ed = some (.tup [.ref ea, .ref eb]) := upd_same
      generalize (upd (upd (upd H ea (.tup [.int 0, .int p.1])) eb (.tup [.int 1, .int p.2])) ed (.tup [.ref ea, .ref eb])) = H1 at sE ka kb kd ⊢
      walk_at "go"
      have hp1 := hp.same sE
      obtain ⟨dx1, hob1⟩ := hp1.ob
      refine g_m2 hob1 rfl ?_
      walk_at "go"
      rename_i p1 hp1n
      have sF : Same H (upd H1 p1 (.tup [.ref ea, .ref eb])) := same_snoc sE hp1n
      refine ⟨x, p1, l1, l2, d, m, web, cs, kv, [ea, eb], [(false, p.1), (true, p.2)], rfl, hp.same sF, hat, upd_same, .cons (upd_old ka hp1n) (.cons (upd_old kb hp1n) .nil), hm, Nat.le_of_ble_eq_true rfl, fun H2 s2 => ?_⟩
      have sG := sF.trans s2
      have ka2 : Pt H2 ea (0, p.1) := s2 _ _ (upd_old ka hp1n)
      have kb2 : Pt H2 eb (1, p.2) := s2 _ _ (upd_old kb hp1n)
      have e0 : (fun k => ([(false, p.1), (true, p.2)] : List (Bool × Int)).all fun e => fre (wE web) (wC cs) (List.range web.length) e.1 e.2 k) = fun k => wFre web cs false p.1 k && wFre web cs true p.2 k := by
        funext k; simp
      rw [e0]
      cases hboth : (nums m).find? (fun k => wFre web cs false p.1 k && wFre web cs true p.2 k) with
      | some kk =>
        have eR : wPut web cs m p = ⟨kk, [], 0, 0⟩ := by unfold wPut putG; rw [hboth]
        walk_at "go"
        rename_i r0 hr0
        refine ⟨rfl, ?_⟩
        walk_at "go"
        have sH := same_snoc sG hr0 (o := .lst [])
        refine tail _ _ ⟨Fr.of_same sH, ⟨kv, ?_, by omega⟩, ea, eb, r0, none, none, none, none, upd_old ka2 hr0, upd_old kb2 hr0, ?_, ?_, ?_⟩
        · rw [eR]
          show PaintAt P w (cP K) _ x l1 l2 d web (swl cs [] 0 0) kv
          rw [swl_nil]
          exact hp.same sH
        · exact same_none sG hr0
        · rw [eR]; exact upd_same
        · rw [eR]; rfl
      | none =>
        obtain ⟨one, hone⟩ : ∃ k, (nums m).find? (wFre web cs false p.1) = some k := by
          cases e : (nums m).find? (wFre web cs false p.1) with
          | some k => exact ⟨k, rfl⟩
          | none => exact absurd hf0 (List.find?_eq_none.mp e k0 hk0)
        obtain ⟨other, hother⟩ : ∃ k, (nums m).find? (wFre web cs true p.2) = some k := by
          cases e : (nums m).find? (wFre web cs true p.2) with
          | some k => exact ⟨k, rfl⟩
          | none => exact absurd hf1 (List.find?_eq_none.mp e k1 hk1)
        have ho1 := List.find?_some hone
        have ho2 := List.find?_some hother
        have hne : one ≠ other := by
          rintro rfl
          have := List.find?_eq_none.mp hboth one (List.mem_of_find?_eq_some hone)
          rw [ho1, ho2] at this
          exact this rfl
        have hz1 : ∀ i ∈ List.range web.length, sd (wE web i) true = p.2 → wC cs i ≠ other := hit_none (Option.isNone_iff_eq_none.mp ho2)
        have hz2 : ∀ i ∈ List.range web.length, sd (wE web i) false = p.1 → wC cs i ≠ one := hit_none (Option.isNone_iff_eq_none.mp ho1)
        walk_at "go"
        rename_i r0 hr0
        refine ⟨rfl, ?_⟩
        walk_at "go"
        have sH := same_snoc sG hr0 (o := .lst [])
        have hpH := hp.same sH
        have kaH : Pt (upd H2 r0 (.lst [])) ea (0, p.1) := upd_old ka2 hr0
        have kbH : Pt (upd H2 r0 (.lst [])) eb (1, p.2) := upd_old kb2 hr0
        generalize (upd H2 r0 (.lst [])) = H3 at sH hpH kaH kbH ⊢
        obtain ⟨dx3, hob3⟩ := hpH.ob
        refine g_m2 hob3 rfl ?_
        walk_at "go"
        rename_i p2 hp2n
        have e1 : (fun k => ([(false, p.1)] : List (Bool × Int)).all fun e => fre (wE web) (wC cs) (List.range web.length) e.1 e.2 k) = wFre web cs false p.1 := by
          funext k; simp
        refine ⟨x, p2, l1, l2, d, m, web, cs, kv, [ea], [(false, p.1)], rfl, hpH.same (same_new hp2n), hat, upd_same, .cons (upd_old kaH hp2n) .nil, hm, Nat.le_of_ble_eq_true rfl, fun H4 s4 => ?_⟩
        rw [e1, hone]
        have s34 : Same H3 H4 := (same_new hp2n).trans s4
        have hp4 := hpH.same s34
        have ka4 : Pt H4 ea (0, p.1) := s34 _ _ kaH
        have kb4 : Pt H4 eb (1, p.2) := s34 _ _ kbH
        have sI := sH.trans s34
        walk_at "go"
        obtain ⟨dx4, hob4⟩ := hp4.ob
        refine g_m2 hob4 rfl ?_
        walk_at "go"
        rename_i p3 hp3n
        have e2 : (fun k => ([(true, p.2)] : List (Bool × Int)).all fun e => fre (wE web) (wC cs) (List.range web.length) e.1 e.2 k) = wFre web cs true p.2 := by
          funext k; simp
        refine ⟨x, p3, l1, l2, d, m, web, cs, kv, [eb], [(true, p.2)], rfl, hp4.same (same_new hp3n), hat, upd_same, .cons (upd_old kb4 hp3n) .nil, hm, Nat.le_of_ble_eq_true rfl, fun H5 s5 => ?_⟩
        rw [e2, hother]
        have s45 : Same H4 H5 := (same_new hp3n).trans s5
        have hp5 := hp4.same s45
        have ka5 : Pt H5 ea (0, p.1) := s45 _ _ ka4
        have kb5 : Pt H5 eb (1, p.2) := s45 _ _ kb4
        have sJ := sI.trans s45
        walk_at "go"
        obtain ⟨dx5, hob5⟩ := hp5.ob
        refine g_m2 hob5 rfl ?_
        walk_at "go"
        refine ⟨x, eb, l1, l2, d, true, p.2, one, other, web, cs, kv, rfl, hp5, hat, hP, kb5, hne, hz1, by omega, fun H6 r1 s6 hr1 hr1' => ?_⟩
        have hp6 := hp5.same s6
        have sK := sJ.trans s6
        have ka6 : Pt H6 ea (0, p.1) := s6 _ _ ka5
        have kb6 : Pt H6 eb (1, p.2) := s6 _ _ kb5
        have hr1n : H r1 = none := same_none sJ hr1
        walk_at "go"
        obtain ⟨dx6, hob6⟩ := hp6.ob
        refine g_m2 hob6 rfl ?_
        walk_at "go"
        refine ⟨x, ea, l1, l2, d, false, p.1, other, one, web, cs, kv, rfl, hp6, hat, hP, ka6, Ne.symm hne, hz2, by omega, fun H7 r2 s7 hr2 hr2' => ?_⟩
        have hp7 := hp6.same s7
        have sL := sK.trans s7
        have ka7 : Pt H7 ea (0, p.1) := s7 _ _ ka6
        have kb7 : Pt H7 eb (1, p.2) := s7 _ _ kb6
        have hr2n : H r2 = none := same_none sK hr2
        have hr17 := s7 _ _ hr1'
        obtain ⟨dx7, hob7⟩ := hp7.ob
        have hrange : (List.range web.length).length = web.length := List.length_range
        have row1 := path_row hP hne hz1 (n := web.length) (by rw [hrange]; exact Nat.le_refl _)
        have row2 := path_row hP (Ne.symm hne) hz2 (n := web.length) (by rw [hrange]; exact Nat.le_refl _)
        have eP : wPut web cs m p = if (path (wE web) (wC cs) (List.range web.length) web.length true p.2 one other).length ≤ (path (wE web) (wC cs) (List.range web.length) web.length false p.1 other one).length
            then ⟨one, path (wE web) (wC cs) (List.range web.length) web.length true p.2 one other, one, other⟩ else ⟨other, path (wE web) (wC cs) (List.range web.length) web.length false p.1 other one, one, other⟩ := by
          unfold wPut putG
          rw [hboth, hone, hother, hrange]
          rfl
        have rlen : ∀ l : List Nat, l.Nodup → (∀ v ∈ l, v ∈ List.range web.length) → l.length ≤ web.length := fun l h1 h2 => by
          have := nodup_len h1 h2
          rwa [hrange] at this
        walk_at "go"
        rw [List.length_map, List.length_map]
        by_cases c : (path (wE web) (wC cs) (List.range web.length) web.length true p.2 one other).length ≤ (path (wE web) (wC cs) (List.range web.length) web.length false p.1 other one).length
        · rw [if_pos c] at eP
          rw [decide_eq_false (show ¬ ((path (wE web) (wC cs) (List.range web.length) web.length false p.1 other one).length : Int) < ((path (wE web) (wC cs) (List.range web.length) web.length true p.2 one other).length : Int) by omega)]
          walk_at "go"
          refine g_m2 hob7 rfl ?_
          walk_at "go"
          refine ⟨x, r1, l1, l2, d, one, other, web, cs, kv, _, rfl, hp7, hat, hP, hr17, fun z => ?_, row1.nd, fun i hi => ⟨List.mem_range.mp (row1.sub i hi).1, (row1.sub i hi).2⟩, by omega, by omega, ?_, fun H8 kv' f8 hp8 hk8 => ?_⟩
          · rw [z, hp.co] at hr1n; cases hr1n
          · have := rlen _ row1.nd fun v hv => (row1.sub v hv).1
            omega
          · walk_at "go"
            refine tail _ _ ⟨(Fr.of_same sL).trans f8, ⟨kv', by rw [eP]; exact hp8, ?_⟩, ea, eb, r1, _, _, _, _, f8.tup ka7, f8.tup kb7, hr1n, ?_, by rw [eP]; rfl⟩
            · have := rlen _ row1.nd fun v hv => (row1.sub v hv).1
              omega
            · rw [eP]
              refine f8.at_ hr17 ?_
              have n1 : r1 ≠ l2 := fun z => by rw [z, hp.co] at hr1n; cases hr1n
              have n2 : r1 ≠ d := fun z => by rw [z, hd1] at hr1n; cases hr1n
              simpa using ⟨n1, n2⟩
        · rw [if_neg c] at eP
          rw [decide_eq_true (show ((path (wE web) (wC cs) (List.range web.length) web.length false p.1 other one).length : Int) < ((path (wE web) (wC cs) (List.range web.length) web.length true p.2 one other).length : Int) by omega)]
          walk_at "go"
          refine g_m2 hob7 rfl ?_
          walk_at "go"
          refine ⟨x, r2, l1, l2, d, one, other, web, cs, kv, _, rfl, hp7, hat, hP, hr2', fun z => ?_, row2.nd, fun i hi => ⟨List.mem_range.mp (row2.sub i hi).1, (row2.sub i hi).2.symm⟩, by omega, by omega, ?_, fun H8 kv' f8 hp8 hk8 => ?_⟩
          · rw [z, hp.co] at hr2n; cases hr2n
          · have := rlen _ row2.nd fun v hv => (row2.sub v hv).1
            omega
          · walk_at "go"
            refine tail _ _ ⟨(Fr.of_same sL).trans f8, ⟨kv', by rw [eP]; exact hp8, ?_⟩, ea, eb, r2, _, _, _, _, f8.tup ka7, f8.tup kb7, hr2n, ?_, by rw [eP]; rfl⟩
            · have := rlen _ row2.nd fun v hv => (row2.sub v hv).1
              omega
            · rw [eP]
              refine f8.at_ hr2' ?_
              have n1 : r2 ≠ l2 := fun z => by rw [z, hp.co] at hr2n; cases hr2n
              have n2 : r2 ≠ d := fun z => by rw [z, hd1] at hr2n; cases hr2n
              simpa using ⟨n1, n2⟩
end
end Kx
set_option maxHeartbeats 4000000
namespace Kx
open PySem PySem.Spec PyProof.Rows L2

local macro_rules | `(tactic| walk_at "ht") => `(tactic| (repeat (first | assumption | exact upd_same | refine upd_old ?_ (by assumption) | refine Same.at_ (by assumption) ?_ | refine Fr.tup (by assumption) ?_)))
local macro_rules | `(tactic| walk_at "go1") => `(tactic| (first
  | ((with_reducible apply g_var); (focus rfl)) | with_reducible refine g_op ?_ | with_reducible refine g_c ?_ | with_reducible refine g_I0 ?_ | with_reducible refine g_eqI ?_ | with_reducible refine g_neI ?_
  | with_reducible refine g_cons ?_ | with_reducible refine g_nil ?_ | with_reducible refine g_tup ?_ | with_reducible refine g_lst ?_ | with_reducible refine g_bl ?_ | with_reducible refine g_test ?_
  | with_reducible refine g_B ?_ | with_reducible refine g_and ?_ | with_reducible refine g_or ?_ | with_reducible refine g_not ?_ | with_reducible refine g_andV ?_ | with_reducible refine g_orV ?_
  | with_reducible refine g_notV ?_ | with_reducible refine g_if ?_ | with_reducible refine g_cb ?_ | with_reducible refine g_call ?_ | with_reducible refine g_chain ?_ | with_reducible refine g_un ?_
  | with_reducible refine g_u ?_ | with_reducible refine g_seq ?_ | with_reducible refine g_next ?_ | with_reducible refine g_ret ?_ | with_reducible refine g_set ?_ | with_reducible refine g_ifS ?_
  | with_reducible refine g_drop ?_ | with_reducible refine g_asg ?_ | with_reducible refine g_name ?_ | with_reducible refine g_tc ?_ | with_reducible refine g_tn ?_ | with_reducible refine g_par ?_
  | with_reducible refine g_par3 ?_ | with_reducible refine g_p2 ?_ | with_reducible refine g_p3 ?_ | with_reducible refine g_fs ?_ | with_reducible refine g_fld ?_ | with_reducible refine g_m ?_
  | with_reducible refine g_mk ?_ | with_reducible refine g_dg ?_ | with_reducible refine g_dp ?_ | with_reducible refine g_din ?_ | with_reducible refine g_dni ?_ | with_reducible refine g_bm ?_
  | with_reducible refine g_mg ?_ | with_reducible refine g_il ?_ | with_reducible refine g_it ?_ | with_reducible refine g_ir ?_ | with_reducible refine g_ik ?_ | with_reducible refine g_for ?_
  | with_reducible refine g_lc ?_ | with_reducible refine g_ie ?_ | with_reducible refine g_iz ?_ | with_reducible refine g_yes ?_ | with_reducible refine g_retN ?_ | with_reducible refine g_gsub ?_ | with_reducible refine g_isN ?_ | with_reducible refine g_ntN ?_
  | with_reducible refine g_isiInt ?_ | with_reducible refine g_isiBool ?_ | with_reducible refine g_sl ?_ | with_reducible refine g_on ?_ | with_reducible refine g_os ?_ | ((with_reducible refine g_dsz ?_ ?_); (focus rfl); intro p hp)
  | ((with_reducible apply g_ixTt); (focus (walk_at "ht"; done)); (focus rfl)) | ((with_reducible apply g_ixLl); (focus (walk_at "ht"; done)); (focus rfl)) | ((with_reducible apply g_isiT); (focus (walk_at "ht"; done))) | ((with_reducible apply g_lnL); (focus (walk_at "ht"; done))) | ((with_reducible apply g_lnT); (focus (walk_at "ht"; done))) | ((with_reducible apply g_tTt); (focus (walk_at "ht"; done)); (focus rfl))
  | ((with_reducible apply g_tyL); (focus (walk_at "ht"; done))) | refine iteT ?_ | refine iteF ?_))
local macro_rules | `(tactic| walk_at "go") => `(tactic| (repeat (walk_at "go1")))
theorem sqt_same {K : PySem.W.Frag} {H H' : Hp} {a : Addr} {xs : List V} (h : SqT K H a xs) (s : Same H H') : SqT K H' a xs := by
  rcases h with h | h
  · rcases h with h | ⟨o, h⟩
    · exact .inl (.inl (s _ _ h))
    · exact .inl (.inr ⟨o, s _ _ h⟩)
  · exact .inr h
theorem g_slA {K : PySem.W.Frag} {H : Hp} {a : Addr} {xs : List V} {lo hi : Option Int} {Q : VK} (h : SqT K H a xs) (q : ∀ c H', Same H H' → SqT K H' c (cutV xs lo hi) → Q (.ref c) H') : rSlA K (.ref a) lo hi H Q := by
  refine ⟨a, xs, rfl, h, fun hw => q a H (fun _ _ h => h) ?_, fun _ p hp => q p _ (same_new hp) (SqT.of upd_same)⟩
  have e : cutV xs lo hi = xs := by
    unfold cutV
    rw [hw.1, hw.2]
    simp
  rw [e]; exact h
theorem g_catA {K : PySem.W.Frag} {H : Hp} {a b : Addr} {xs ys : List V} {Q : VK} (h : SqT K H a xs) (h2 : SqT K H b ys) (hl : xs.length + ys.length ≤ sizeLine) (q : ∀ c H', Same H H' → SqT K H' c (xs ++ ys) → Q (.ref c) H') : rCatA K (.ref a) (.ref b) H Q := by
  refine ⟨a, b, xs, ys, rfl, rfl, h, h2, hl, fun e => q b H (fun _ _ h => h) (by rw [e]; exact h2), fun _ e => q a H (fun _ _ h => h) (by rw [e, List.append_nil]; exact h), fun _ _ p hp => q p _ (same_new hp) (SqT.of upd_same)⟩
theorem g_slT {K : PySem.W.Frag} {H : Hp} {a : Addr} {xs : List V} {lo hi : Option Int} {Q : VK} (h : H a = some (.tup xs)) (q : ∀ c H', Same H H' → H' c = some (.tup (cutV xs lo hi)) → Q (.ref c) H') : rSlA K (.ref a) lo hi H Q := by
  refine ⟨a, xs, rfl, SqT.of h, fun hw => q a H (fun _ _ h => h) ?_, fun _ p hp => q p _ (same_new hp) upd_same⟩
  have e : cutV xs lo hi = xs := by
    unfold cutV
    rw [hw.1, hw.2]
    simp
  rw [e]; exact h
theorem g_catT {K : PySem.W.Frag} {H : Hp} {a b : Addr} {xs ys : List V} {Q : VK} (h : H a = some (.tup xs)) (h2 : H b = some (.tup ys)) (hl : xs.length + ys.length ≤ sizeLine) (q : ∀ c H', Same H H' → H' c = some (.tup (xs ++ ys)) → Q (.ref c) H') : rCatA K (.ref a) (.ref b) H Q := by
  refine ⟨a, b, xs, ys, rfl, rfl, SqT.of h, SqT.of h2, hl, fun e => q b H (fun _ _ h => h) (by rw [e]; exact h2), fun _ e => q a H (fun _ _ h => h) (by rw [e, List.append_nil]; exact h), fun _ _ p hp => q p _ (same_new hp) upd_same⟩
theorem g_no {σ : L2.St} {H : Hp} {Q : Option Int → Hp → Prop} (q : Q none H) : tNoPart σ H Q := q
theorem g_pt {te : TE} {σ : L2.St} {H : Hp} {Q : Option Int → Hp → Prop} (q : te σ H fun x H1 => ∃ i, x = .int i ∧ Q (some i) H1) : tPart te σ H Q := q
theorem g_pi {i : Int} {F : Int → Prop} (q : F i) : ∃ j, V.int i = .int j ∧ F j := ⟨i, rfl, q⟩
theorem cut_take (xs : List V) (n : Nat) : cutV xs none (some (n : Int)) = xs.take n := by
  unfold cutV
  rw [HT.sIx_none, HT.sIx_nat]
  simp only [List.drop_zero, Nat.sub_zero]
  rcases Nat.le_total n xs.length with h | h
  · rw [Nat.min_eq_left h]
  · rw [Nat.min_eq_right h, List.take_of_length_le h, List.take_of_length_le (Nat.le_refl _)]
theorem cut_drop (xs : List V) (n : Nat) : cutV xs (some (n : Int)) none = xs.drop n := by
  unfold cutV
  rw [HT.sIx_none, HT.sIx_nat]
  rcases Nat.le_total n xs.length with h | h
  · rw [Nat.min_eq_left h, List.take_of_length_le (by rw [List.length_drop]; omega)]
  · rw [Nat.min_eq_right h, List.drop_of_length_le h, List.drop_of_length_le (Nat.le_refl _)]; simp
theorem cut_init (xs : List V) (x : V) : cutV (xs ++ [x]) none (some (-1)) = xs := by
  unfold cutV HT.sIx
  simp
  have : ((-1 : Int) + ((xs.length : Int) + 1)).toNat = xs.length := by omega
  rw [this]
  simp
theorem at_last (xs : List V) (x : V) : atI (xs ++ [x]) (-1) = some x := by
  unfold atI ixN
  rw [if_neg (by decide)]
  simp
  have : ((-1 : Int) + ((xs.length : Int) + 1)).toNat = xs.length := by omega
  rw [if_pos (by omega), this]
  simp
def leB (q p : Int × Int) : Bool := Ob.lexAt (fun j => decide ([q.1, q.2].getD j 0 = [p.1, p.2].getD j 0)) (fun j => decide ([q.1, q.2].getD j 0 ≤ [p.1, p.2].getD j 0)) (decide ([q.1, q.2].length ≤ [p.1, p.2].length)) 0 (min [q.1, q.2].length [p.1, p.2].length)
theorem g_leP {K : PySem.W.Frag} {H : Hp} {a b : Addr} {q p : Int × Int} {Q : VK} (h : Pt H a q) (h2 : Pt H b p) (k : Q (.bl (leB q p)) H) : rLeT K (.ref a) (.ref b) H Q := ⟨a, b, [q.1, q.2], [p.1, p.2], rfl, rfl, SqT.of h, SqT.of h2, k⟩
def spAdded (K : PySem.W.Frag) : Sp := fun vs H Q _ => ∃ (t1 t2 t3 : Addr) (m : Nat) (web : List (Int × Int)) (cs : List Int) (p : Int × Int), vs = [.ref t1, .int m, .ref t2, .ref t3] ∧ Tp H t1 web ∧ H t2 = some (.tup (cs.map V.int)) ∧ cs.length = web.length ∧ WProper web cs ∧ Pt H t3 p ∧ m ≤ 1000 ∧ web.length ≤ 400 ∧
  (∃ k ∈ nums m, wFre web cs false p.1 k = true) ∧ (∃ k ∈ nums m, wFre web cs true p.2 k = true) ∧
  ∀ H' r f mv (place : Nat) (mo : List Int), Same H H' → H' r = some (.tup [.ref f, .ref mv, .int place]) → place ≤ web.length → H' f = some (.tup ((((swl cs (wPut web cs m p).row (wPut web cs m p).one (wPut web cs m p).other).take place ++ [(wPut web cs m p).col]) ++ (swl cs (wPut web cs m p).row (wPut web cs m p).one (wPut web cs m p).other).drop place).map V.int)) →
    H' mv = some (.lst (mo.map V.int)) → mo.length = (wPut web cs m p).row.length → Q (.ref r) H'
section
variable {P : Program} {w : World} {K : PySem.W.Frag} {mg : Str → Option Value} {base : Heap} (T : Tx K mg)
theorem scAdded : FnScope ["web", "colours", "colouring", "pair", "paint", "moved", "place", "left", "tie"] ["web", "colours", "colouring", "pair"] (defScope sAdded) := ⟨rfl, rfl, rfl, by decide +kernel, rfl, by decide +kernel, by decide +kernel⟩
include T in
theorem ok_added {f : Addr} {fd : FuncData} (F : FnP K "added" "added" sAdded f fd)
    (c_Paint_init : CalC P w K mg base CX0 2 "Paint" (cP K) ["self", "ties", "colouring"] (spPaintInit (cP K) P w)) (c_Paint_add : CalM P w K mg base CX0 3 (cP K) "add" ["self", "tie", "colours"] (spAdd (cP K) P w))  :
    FnOk P w K mg base CX0 4 f fd ["web", "colours", "colouring", "pair"] (spAdded K) := by
  refine F.ok scAdded (fun vs H Q E h => ?_) (fun cdv A outer s H vs Q E hr h => ?_)
  · obtain ⟨t1, t2, t3, m, web, cs, p, rfl, _⟩ := h; rfl
  · obtain ⟨t1, t2, t3, m, web, cs, p, rfl, ht1, ht2, hlen, hP, ht3, hm, hn, hf0, hf1, k⟩ := h
    refine ⟨_, PSs.nox (pss_cons (ps_set (i := 4) scAdded.nd rfl (Or.inl rfl) (pe_makeF c_Paint_init hr (by decide) (by rfl) (pa_cons (pv 0) (pa_cons (pv 2) pa_nil))))
      (pss_cons (ps_set (i := 5) scAdded.nd rfl (Or.inl rfl) (pe_callB cr_sortedI (by rfl) T.z_sorted (by decide +kernel) (pa_cons (pe_methF T.cl_Paint c_Paint_add hr (by decide) (pv 4) (pa_cons (pv 3) (pa_cons (pv 1) pa_nil))) pa_nil)))
      (pss_cons (ps_set (i := 6) scAdded.nd rfl (Or.inl rfl) (pe_callB (call_lenK K rfl) (by rfl) T.z_len (by decide +kernel) (pa_cons (pe_lc (own := [("tie", 8)]) (g := gName 8) rfl scAdded.nd (pi_tup (pv 0)) (blkOk_by (N := ["web", "colours", "colouring", "pair", "paint", "moved", "place", "left", "tie"]) (sc := defScope sAdded) (by decide +kernel)) (fun _ _ _ _ _ => (pg_name (i := 8) scAdded.nd rfl (Or.inl rfl))) (fun _ _ _ _ _ => (pts_one (pt_cmpR (op_leTK K rfl hr.units0) (pv 8) (pv 3) (nomark _)))) (fun _ _ _ _ _ => (pv 8))) pa_nil)))
      (pss_cons (ps_set (i := 7) scAdded.nd rfl (Or.inl rfl) (pe_callTy call_tuple_of (by rfl) T.z_tuple (by decide +kernel) (pa_cons (pe_slice sl_list (pe_fldK K rfl (pv 4) rfl) po_none (po_some (pe_un un_neg pe_int))) pa_nil)))
      (pss_one (ps_ret (pe_tup (pa_cons (pe_op op_catA (pe_op op_catA (pe_slice sl_tupA (pv 7) po_none (po_some (pv 6))) (pe_tup (pa_cons (pe_ix (ix_listK K rfl) (pe_fldK K rfl (pv 4) rfl) (pe_un un_neg pe_int) (fun _ _ => rfl)) pa_nil))) (pe_slice sl_tupA (pv 7) (po_some (pv 6)) po_none)) (pa_cons (pv 5) (pa_cons (pv 6) pa_nil)))))))))), ?_⟩
    have big : 100000 < sizeLine := by rw [sizeLine_eq]; omega
    walk_at "go"
    intro x dx hx hdx hne
    have s1 : Same H (upd (upd H dx (.own x)) x (.ins (cP K) dx [])) := fun b o e => by
      rw [upd_ne (ne_of_none e hx), upd_ne (ne_of_none e hdx)]; exact e
    refine ⟨x, t1, t2, dx, web, cs, rfl, upd_same, ht1.fr (Fr.of_same (W := []) s1), s1 _ _ ht2, hlen, hP, by omega, fun H1 l1 l2 d kv f1 hl1n hl2n hdn hp hat hk => ⟨rfl, ?_⟩⟩
    have s2 : Same H H1 := fun b o e => f1.at_ (s1 _ _ e) (by simpa using ne_of_none e hx)
    have hl1H : H l1 = none := same_none s1 hl1n
    have hl2H : H l2 = none := same_none s1 hl2n
    have hdH : H d = none := same_none s1 hdn
    walk_at "go"
    obtain ⟨dx1, hob⟩ := hp.ob
    refine g_m2 hob rfl ?_
    walk_at "go"
    refine ⟨x, t3, l1, l2, d, m, web, cs, kv, p, rfl, hp, hat, hP, s2 _ _ ht3, hm, by omega, by omega, hf0, hf1, fun H2 r kv2 f2 hrn hr1 hp2 => ?_⟩
    have s3 : Same H H2 := fun b o e => f2.at_ (s2 _ _ e) (by simpa using ⟨ne_of_none e hl1H, ne_of_none e hl2H, ne_of_none e hdH⟩)
    walk_at "go"
    refine ⟨r, (wPut web cs m p).row.map fun i : Nat => (i : Int), rfl, SqL.of (by rw [hr1, List.map_map]; rfl), fun mo mv hmp hms hmv => ?_⟩
    have hmo : mo.length = (wPut web cs m p).row.length := by rw [hmp.length_eq, List.length_map]
    have s4 : Same H (upd H2 mv (.lst (mo.map V.int))) := same_snoc s3 hmv
    have hp3 := hp2.same (same_new (o := .lst (mo.map V.int)) hmv)
    have hmv1 : (upd H2 mv (.lst (mo.map V.int))) mv = some (.lst (mo.map V.int)) := upd_same
    generalize (upd H2 mv (.lst (mo.map V.int))) = H3 at s4 hp3 hmv1 ⊢
    walk_at "go"
    obtain ⟨bs, hb1, hbs⟩ := ht1
    refine g_iT (SqT.of (s4 _ _ hb1)) ?_
    intro D hD
    have hbs4 := hbs.keep fun b xs e => s4 b _ e
    refine lc_prs walk_tup (fun i => web[i]?.bind fun q => if leB q p then some q else none) hD (by rw [List.length_map, hbs.len]; omega) (fun H' s => SqT.of (s _ _ (s4 _ _ hb1))) (fun i y H4 H5 hi s yy Kt Kf k1 k2 => ?_) (fun H4 s5 hl4 => ?_)
    · obtain ⟨rfl, hy⟩ := yy
      obtain ⟨c, rfl, hc⟩ := refs_at hy
      obtain ⟨q, hq, hqt⟩ := hbs4.at_ hc
      walk_at "go"
      refine ⟨rfl, ?_⟩
      walk_at "go"
      refine g_leP (s _ _ hqt) (s _ _ (s4 _ _ ht3)) ?_
      walk_at "go"
      by_cases e : leB q p = true
      · rw [e]
        walk_at "go"
        exact k1 c q _ (by rw [hq]; simp [e]) (s _ _ hqt) (fun _ _ h => h)
      · have e' := Bool.eq_false_iff.mpr e
        rw [e']
        walk_at "go"
        exact k2 _ (by rw [hq]; simp [e']) (fun _ _ h => h)
    · have s6 := s4.trans s5
      have hp4 := hp3.same s5
      obtain ⟨cs4, hD4, hcs4⟩ := hl4
      have hpl : ∃ pl : Nat, (cs4.map V.ref).length = pl ∧ pl ≤ web.length := by
        refine ⟨_, rfl, ?_⟩
        rw [List.length_map, hcs4.len]
        have := fm_len (fun i => web[i]?.bind fun q => if leB q p then some q else none) (bs.map V.ref).length
        rw [List.length_map, hbs.len] at this
        rw [List.length_map, hbs.len]
        exact this
      obtain ⟨place, hpe, hpl⟩ := hpl
      obtain ⟨dx4, hob4⟩ := hp4.ob
      have hmv4 := s5 _ _ hmv1
      walk_at "go"
      rw [hpe]
      refine g_f2 hob4 T.cl_Paint T.nP2 rfl ?_
      walk_at "go"
      refine g_no ?_
      refine g_pt ?_
      walk_at "go"
      refine g_pi ?_
      refine ⟨l2, _, rfl, SqL.of hp4.co, fun p5 hp5n => ?_⟩
      have hco : (wNew cs (wPut web cs m p)).map V.int = ((swl cs (wPut web cs m p).row (wPut web cs m p).one (wPut web cs m p).other).map V.int) ++ [V.int (wPut web cs m p).col] := by simp [wNew]
      rw [hco, cut_init]
      walk_at "go"
      refine ⟨p5, _, rfl, .inl ⟨SqL.of upd_same, fun p6 hp6n => ?_⟩⟩
      have s7 : Same H4 (upd (upd H4 p5 (.lst ((swl cs (wPut web cs m p).row (wPut web cs m p).one (wPut web cs m p).other).map V.int))) p6 (.tup ((swl cs (wPut web cs m p).row (wPut web cs m p).one (wPut web cs m p).other).map V.int))) := same_snoc (same_new hp5n) hp6n
      have hp6 : (upd (upd H4 p5 (.lst ((swl cs (wPut web cs m p).row (wPut web cs m p).one (wPut web cs m p).other).map V.int))) p6 (.tup ((swl cs (wPut web cs m p).row (wPut web cs m p).one (wPut web cs m p).other).map V.int))) p6 = some (.tup ((swl cs (wPut web cs m p).row (wPut web cs m p).one (wPut web cs m p).other).map V.int)) := upd_same
      generalize (upd (upd H4 p5 (.lst ((swl cs (wPut web cs m p).row (wPut web cs m p).one (wPut web cs m p).other).map V.int))) p6 (.tup ((swl cs (wPut web cs m p).row (wPut web cs m p).one (wPut web cs m p).other).map V.int))) = H6 at s7 hp6 ⊢
      have hll : ((swl cs (wPut web cs m p).row (wPut web cs m p).one (wPut web cs m p).other).map V.int).length = web.length := by rw [List.length_map, swl_len, hlen]
      generalize hL : (swl cs (wPut web cs m p).row (wPut web cs m p).one (wPut web cs m p).other) = L at hp6 hco hll k
      walk_at "go"
      refine g_no ?_
      refine g_pt ?_
      walk_at "go"
      refine g_pi ?_
      refine g_slT hp6 fun c1 H7 s8 hc1 => ?_
      rw [cut_take] at hc1
      have hp7 := hp4.same (s7.trans s8)
      obtain ⟨dx7, hob7⟩ := hp7.ob
      walk_at "go"
      refine g_f2 hob7 T.cl_Paint T.nP2 rfl ?_
      walk_at "go"
      refine g_ixLl hp7.co (by rw [hco]; exact at_last _ _) ?_
      walk_at "go"
      rename_i p8 hp8n
      refine g_catT (upd_old hc1 hp8n) upd_same (by rw [List.length_take]; simp; omega) fun c2 H9 s9 hc2 => ?_
      have s79 : Same H6 H9 := s8.trans ((same_new hp8n).trans s9)
      walk_at "go"
      refine g_pt ?_
      walk_at "go"
      refine g_pi ?_
      refine g_no ?_
      refine g_slT (s79 _ _ hp6) fun c3 H10 s10 hc3 => ?_
      rw [cut_drop] at hc3
      refine g_catT (s10 _ _ hc2) hc3 (by rw [List.length_append, List.length_take, List.length_drop, hll]; show min place web.length + 1 + (web.length - place) ≤ sizeLine; omega) fun c4 H11 s11 hc4 => ?_
      have s411 : Same H4 H11 := s7.trans (s79.trans (s10.trans s11))
      walk_at "go"
      rename_i p9 hp9n
      refine k _ p9 c4 mv place mo (same_snoc (s6.trans s411) hp9n) upd_same hpl ?_ (upd_old (s411 _ _ hmv4) hp9n) hmo
      have e9 : (L.take place ++ [(wPut web cs m p).col] ++ L.drop place).map V.int = ((L.map V.int).take place ++ [V.int (wPut web cs m p).col]) ++ (L.map V.int).drop place := by
        simp [List.map_take, List.map_drop]
      rw [e9]
      exact upd_old hc4 hp9n
end
end Kx
set_option maxHeartbeats 4000000
namespace Kx
open PySem PySem.Spec PyProof.Rows L2
/-- of tuples only -/
def Stab {β : Type} (R : Hp → Addr → β → Prop) : Prop := ∀ H H' b e, (∀ c xs, H c = some (.tup xs) → H' c = some (.tup xs)) → R H b e → R H' b e
section
variable {β : Type} {R : Hp → Addr → β → Prop} {H H' : Hp} {bs cs : List Addr} {es fs : List β}
abbrev Pd (R : Hp → Addr → β → Prop) (H : Hp) (bs : List Addr) (es : List β) : Prop := Paired (R H) bs es
theorem Pd.keep (st : Stab R) (h : Pd R H bs es) (k : ∀ b xs, H b = some (.tup xs) → H' b = some (.tup xs)) : Pd R H' bs es := by
  unfold Pd at *
  induction h with
  | nil => exact .nil
  | cons e _ ih => exact .cons (st _ _ _ _ k e) ih
theorem Pd.same (st : Stab R) (h : Pd R H bs es) (s : Same H H') : Pd R H' bs es := h.keep st fun b xs e => s b _ e
theorem Pd.fr {W : List Addr} (st : Stab R) (h : Pd R H bs es) (f : Fr W H H') : Pd R H' bs es := h.keep st fun b xs e => f.tup e
theorem Pd.len (h : Pd R H bs es) : bs.length = es.length := Paired.length h
theorem Pd.at_ (h : Pd R H bs es) {i : Nat} {b : Addr} (e : bs[i]? = some b) : ∃ p, es[i]? = some p ∧ R H b p := by
  unfold Pd at h
  induction h generalizing i with
  | nil => simp at e
  | cons q _ ih =>
    cases i with
    | zero => simp at e; subst e; exact ⟨_, rfl, q⟩
    | succ i =>
      simp at e
      obtain ⟨p, h1, h2⟩ := ih e
      exact ⟨p, by simpa using h1, h2⟩
theorem Pd.get (h : Pd R H bs es) {i : Nat} {p : β} (e : es[i]? = some p) : ∃ b, bs[i]? = some b ∧ R H b p := by
  have hl := h.len
  have hi : i < bs.length := by rw [hl]; exact (List.getElem?_eq_some_iff.mp e).1
  obtain ⟨q, h1, h2⟩ := h.at_ (List.getElem?_eq_getElem hi)
  rw [e] at h1
  cases h1
  exact ⟨_, List.getElem?_eq_getElem hi, h2⟩
theorem Pd.take (h : Pd R H bs es) (n : Nat) : Pd R H (bs.take n) (es.take n) := by
  unfold Pd at *
  induction h generalizing n with
  | nil => simp; exact .nil
  | cons e _ ih =>
    cases n with
    | zero => exact .nil
    | succ n => exact .cons e (ih n)
theorem Pd.drop (h : Pd R H bs es) (n : Nat) : Pd R H (bs.drop n) (es.drop n) := by
  unfold Pd at *
  induction h generalizing n with
  | nil => simp; exact .nil
  | cons e t ih =>
    cases n with
    | zero => exact .cons e t
    | succ n => exact ih n
theorem Pd.perm (h : Pd R H bs es) (p : cs.Perm bs) : ∃ fs, fs.Perm es ∧ Pd R H cs fs := by
  have key : ∀ {as bs : List Addr}, as.Perm bs → ∀ {es : List β}, Paired (R H) bs es → ∃ fs, fs.Perm es ∧ Paired (R H) as fs := by
    intro as bs p
    induction p with
    | nil => intro es h; exact ⟨es, .refl _, h⟩
    | cons x p ih =>
      intro es h
      cases h with
      | cons e t =>
        obtain ⟨fs, h1, h2⟩ := ih t
        exact ⟨_ :: fs, h1.cons _, .cons e h2⟩
    | swap x y l =>
      intro es h
      cases h with
      | cons e t =>
        cases t with
        | cons e' t' => exact ⟨_, List.Perm.swap .., .cons e' (.cons e t')⟩
    | trans p q ih1 ih2 =>
      intro es h
      obtain ⟨fs, h1, h2⟩ := ih2 h
      obtain ⟨gs, h3, h4⟩ := ih1 h2
      exact ⟨gs, h3.trans h1, h4⟩
  exact key p h
def adV : V → Addr
  | .ref a => a
  | _ => 0
theorem refs_perm {ys : List V} (p : ys.Perm (bs.map V.ref)) : ∃ cs : List Addr, ys = cs.map V.ref ∧ cs.Perm bs := by
  refine ⟨ys.map adV, ?_, ?_⟩
  · rw [List.map_map]
    conv => lhs; rw [← List.map_id ys]
    refine List.map_congr_left fun v hv => ?_
    obtain ⟨b, _, rfl⟩ := List.mem_map.mp (p.mem_iff.mp hv)
    rfl
  · have := p.map adV
    rw [List.map_map] at this
    have e : bs.map (adV ∘ V.ref) = bs := by
      conv => rhs; rw [← List.map_id bs]
      rfl
    rwa [e] at this
end
section
variable {J : It} {n : Nat} {G : Hp → Prop} {Y : Nat → Hp → V → Hp → Prop} {g : TG} {tt : TT} {te : TE} {vs : List Nat} {σ : L2.St} {H1 : Hp} {D : Addr} {Qd : Hp → Prop} {β : Type} {R : Hp → Addr → β → Prop}
/-- each turn gives the address of such a thing or nothing -/
theorem lc_st (st : Stab R) (w : Walk J n G Y) (f : Nat → Option β) (hD : H1 D = none) (hz : n < sizeLine) (hG : ∀ H, Same H1 H → G H)
    (hs : ∀ i x H H', i < n → Same H1 H → Y i H x H' → ∀ (Kt : VK) (Kf : Hp → Prop), (∀ t p H4, f i = some p → R H4 t p → Same H H4 → Kt (.ref t) H4) → (∀ H3, f i = none → Same H H3 → Kf H3) →
      g x (wipe σ vs) H' fun σ2 H2 => wipe σ2 vs = wipe σ vs ∧ tt σ2 H2 fun b H3 => if b = true then te σ2 H3 Kt else Kf H3)
    (hd : ∀ H bs, Same H1 H → H D = some (.lst (bs.map V.ref)) → Pd R H bs ((List.range n).filterMap f) → Qd H) :
    ∃ W : Nat → Nat → Hp → Prop, (∃ m, W 0 m (upd H1 D (.lst []))) ∧ ∀ i m H, W i m H →
      (J.stop i H ∧ Qd H) ∨ (J.go i H ∧ ∃ Nx : Hp → Prop, (∀ H', Nx H' → ∃ m', m' < m ∧ W (i + 1) m' H') ∧ ∀ x H', J.yld i H x H' → g x (wipe σ vs) H' fun σ2 H2 => wipe σ2 vs = wipe σ vs ∧ tt σ2 H2 fun b H3 =>
        if b = true then te σ2 H3 fun y H4 => ∃ acc, H4 D = some (.lst acc) ∧ acc.length < sizeLine ∧ Nx (upd H4 D (.lst (acc ++ [y]))) else Nx H3) := by
  refine lc_acc w (fun i acc H => Same H1 H ∧ ∃ bs, acc = bs.map V.ref ∧ Pd R H bs ((List.range i).filterMap f)) ⟨same_new hD, [], rfl, .nil⟩ (fun i acc H _ h _ => hG H h.1) (fun i acc x H H' hi h e y Kt Kf k1 k2 => ?_)
    fun acc H h e => by obtain ⟨h1, bs, e2, h2⟩ := h; exact hd H bs h1 (by rw [e, e2]) h2
  obtain ⟨s, bs, rfl, pr⟩ := h
  have up : ∀ (H4 : Hp) (u : HO), H4 D = some (.lst (bs.map V.ref)) → ∀ b xs, H4 b = some (.tup xs) → upd H4 D u b = some (.tup xs) := fun H4 u e4 b xs h => by
    rw [upd_ne (ne_of h e4 (fun z => nomatch z))]; exact h
  refine hs i x H H' hi s y Kt Kf (fun t p H4 fi ht s4 => k1 (.ref t) H4 (s4 _ _ e) ?_ ⟨same_mut (s.trans s4) hD, bs ++ [t], by simp, ?_⟩) fun H3 fi s3 => k2 H3 (s3 _ _ e) ⟨s.trans s3, bs, rfl, ?_⟩
  · rw [List.length_map, pr.len]
    exact Nat.lt_of_le_of_lt (fm_len f i) (Nat.lt_trans hi hz)
  · rw [fm_snoc, fi]
    exact Paired.snoc ((pr.same st s4).keep st (up H4 _ (s4 _ _ e))) (st _ _ _ _ (up H4 _ (s4 _ _ e)) ht)
  · rw [fm_snoc, fi, List.append_nil]
    exact pr.same st s3
end
/-- (wish, plane) at b -/
def EntA (H : Hp) (b : Addr) (e : (Int × Int) × Int) : Prop := ∃ q, H b = some (.tup [.ref q, .int e.2]) ∧ Pt H q e.1
theorem stEnt : Stab EntA := fun _ _ _ _ k ⟨q, h1, h2⟩ => ⟨q, k _ _ h1, k _ _ h2⟩
def ents (m : Wy) (ws : List (Int × Int)) : Wy := ws.map fun w => (w, (look m w).getD 0)
/-- (box pair, wish) at b -/
def RowA (l : Int) (H : Hp) (b : Addr) (w : Int × Int) : Prop := ∃ p q, H b = some (.tup [.ref p, .ref q]) ∧ Pt H p (bx l w) ∧ Pt H q w
theorem stRow (l : Int) : Stab (RowA l) := fun _ _ _ _ k ⟨p, q, h1, h2, h3⟩ => ⟨p, q, k _ _ h1, k _ _ h2, k _ _ h3⟩
end Kx
set_option maxHeartbeats 4000000
/-! The same of ways: a list of wishes and their planes. -/
namespace Kx
theorem ext_idx {α : Type} {l m : List α} (h : l.length = m.length) (e : ∀ i (h1 : i < l.length) (h2 : i < m.length), l[i] = m[i]) : l = m := List.ext_getElem h e
def eE (l : Int) (x : (Int × Int) × Int) : Int × Int := bx l x.1
def cC (x : (Int × Int) × Int) : Int := x.2
structure LOk (l : Int) (al : List Int) (m : Wy) : Prop where
  kn : (m.map (·.1)).Nodup
  col : ∀ e ∈ m, e.2 ∈ al
  pr : Proper (eE l) cC m
/-- there is a colour at both boxes -/
def FreeAt (l : Int) (al : List Int) (m : Wy) (w : Int × Int) : Prop := ∀ s, ∃ k ∈ al, fre (eE l) cC m s (sd (bx l w) s) k = true
def newR (l : Int) (al : List Int) (m : Wy) (w : Int × Int) : PutR ((Int × Int) × Int) := putG (eE l) cC m al (bx l w)
def newM (l : Int) (al : List Int) (m : Wy) (w : Int × Int) : Wy := m.map (fun e => (e.1, recol cC (newR l al m w) e)) ++ [(w, (newR l al m w).col)]
theorem LOk.perm {l : Int} {al : List Int} {m m' : Wy} (h : LOk l al m) (p : m'.Perm m) : LOk l al m' :=
  ⟨(p.map _).nodup_iff.mpr h.kn, fun e he => h.col e (p.mem_iff.mp he), ⟨p.nodup_iff.mpr h.pr.nd, fun x hx y hy => h.pr.uq x (p.mem_iff.mp hx) y (p.mem_iff.mp hy)⟩⟩
theorem newR_perm {l : Int} {al : List Int} {m m' : Wy} (h : LOk l al m) (p : m'.Perm m) (w : Int × Int) : newR l al m' w = newR l al m w := putG_perm h.pr p al _
theorem newM_perm {l : Int} {al : List Int} {m m' : Wy} (h : LOk l al m) (p : m'.Perm m) (w : Int × Int) : (newM l al m' w).Perm (newM l al m w) := by
  unfold newM
  rw [newR_perm h p w]
  exact (p.map _).append_right _
theorem kn_inj {m : Wy} (h : (m.map (·.1)).Nodup) {x y : (Int × Int) × Int} (hx : x ∈ m) (hy : y ∈ m) (e : x.1 = y.1) : x = y := by
  induction m with
  | nil => cases hx
  | cons z m ih =>
    rw [List.map_cons, List.nodup_cons] at h
    rcases List.mem_cons.mp hx with rfl | hx'
    · rcases List.mem_cons.mp hy with rfl | hy'
      · rfl
      · exact absurd (List.mem_map.mpr ⟨y, hy', e.symm⟩) h.1
    · rcases List.mem_cons.mp hy with rfl | hy'
      · exact absurd (List.mem_map.mpr ⟨x, hx', e⟩) h.1
      · exact ih h.2 hx' hy'
theorem look_of {m : Wy} (h : (m.map (·.1)).Nodup) {e : (Int × Int) × Int} (he : e ∈ m) : look m e.1 = some e.2 := by
  unfold look
  cases hf : m.find? fun e' => decide (e'.1 = e.1) with
  | none =>
    have := List.find?_eq_none.mp hf e he
    simp at this
  | some q =>
    have h1 := List.find?_some hf
    have h2 := List.mem_of_find?_eq_some hf
    have := kn_inj h h2 he (of_decide_eq_true h1)
    rw [this]; rfl
theorem look_some {m : Wy} {p : Int × Int} {c : Int} (h : look m p = some c) : (p, c) ∈ m := by
  unfold look at h
  obtain ⟨q, h1, h2⟩ := Option.map_eq_some_iff.mp h
  have hq := List.find?_some h1
  have := of_decide_eq_true hq
  have hm := List.mem_of_find?_eq_some h1
  rw [← this, ← h2]; exact hm
theorem look_none {m : Wy} {p : Int × Int} (h : p ∉ m.map (·.1)) : look m p = none := by
  cases e : look m p with
  | none => rfl
  | some c => exact absurd (List.mem_map.mpr ⟨_, look_some e, rfl⟩) h
theorem ents_perm {m : Wy} (h : (m.map (·.1)).Nodup) {ws : List (Int × Int)} (p : ws.Perm (m.map (·.1))) : (ents m ws).Perm m := by
  have q : (ents m ws).Perm ((m.map (·.1)).map fun w => (w, (look m w).getD 0)) := p.map _
  refine q.trans (List.Perm.of_eq ?_)
  rw [List.map_map]
  conv => rhs; rw [← List.map_id m]
  refine List.map_congr_left fun e he => ?_
  simp [look_of h he]
/-- the place of a colour -/
def pos : List Int → Int → Nat
  | [], _ => 0
  | x :: xs, c => if x = c then 0 else pos xs c + 1
theorem pos_get {al : List Int} {c : Int} (h : c ∈ al) : al[pos al c]? = some c := by
  induction al with
  | nil => cases h
  | cons x xs ih =>
    unfold pos
    by_cases e : x = c
    · rw [if_pos e, e]; rfl
    · rw [if_neg e]
      rcases List.mem_cons.mp h with h | h
      · exact absurd h.symm e
      · simpa using ih h
theorem pos_first {al : List Int} {c : Int} {j : Nat} (h : j < pos al c) : al[j]? ≠ some c := by
  induction al generalizing j with
  | nil => simp [pos] at h
  | cons x xs ih =>
    unfold pos at h
    by_cases e : x = c
    · rw [if_pos e] at h; omega
    · rw [if_neg e] at h
      cases j with
      | zero => simpa using e
      | succ j => simpa using ih (by omega)
theorem pos_inj {al : List Int} {c c' : Int} (h : c ∈ al) (h' : c' ∈ al) (e : pos al c = pos al c') : c = c' := by
  have h1 := pos_get h
  rw [e, pos_get h'] at h1
  exact (Option.some.inj h1).symm
def alv (al : List Int) (k : Int) : Int := al.getD k.toNat 0
theorem alv_pos {al : List Int} {c : Int} (h : c ∈ al) : alv al (pos al c : Nat) = c := by
  unfold alv
  rw [List.getD_eq_getElem?_getD]
  simp [pos_get h]
theorem nums_alv (al : List Int) : (nums al.length).map (alv al) = al := by
  unfold nums
  rw [List.map_map]
  apply ext_idx
  · simp
  · intro i h1 h2
    simp [alv, h2]
theorem mem_nums {n : Nat} {k : Int} : k ∈ nums n ↔ ∃ i : Nat, i < n ∧ k = (i : Int) := by
  unfold nums
  simp only [List.mem_map, List.mem_range]
  constructor
  · rintro ⟨a, h, rfl⟩; exact ⟨a, h, rfl⟩
  · rintro ⟨a, h, rfl⟩; exact ⟨a, h, rfl⟩
theorem alv_inj {al : List Int} (hn : al.Nodup) {j k : Int} (hj : j ∈ nums al.length) (hk : k ∈ nums al.length) (h : alv al j = alv al k) : j = k := by
  obtain ⟨a, ha, rfl⟩ := mem_nums.mp hj
  obtain ⟨b, hb, rfl⟩ := mem_nums.mp hk
  unfold alv at h
  simp only [Int.toNat_natCast, List.getD_eq_getElem?_getD, List.getElem?_eq_getElem ha, List.getElem?_eq_getElem hb, Option.getD_some] at h
  have := (List.getElem_inj hn).mp h
  rw [this]
theorem alv_mem {al : List Int} {j : Int} (hj : j ∈ nums al.length) : alv al j ∈ al := by
  obtain ⟨a, ha, rfl⟩ := mem_nums.mp hj
  unfold alv
  simp only [Int.toNat_natCast, List.getD_eq_getElem?_getD, List.getElem?_eq_getElem ha, Option.getD_some]
  exact List.getElem_mem _
theorem pos_mem {al : List Int} {c : Int} (h : c ∈ al) : ((pos al c : Nat) : Int) ∈ nums al.length := mem_nums.mpr ⟨_, (List.getElem?_eq_some_iff.mp (pos_get h)).1, rfl⟩
/-! ### the same web by numbers -/
section
variable {l : Int} {al : List Int} {m : Wy} {L : Wy} {w : Int × Int}
/-- the web and the colours' numbers of such a list -/
def webOf (l : Int) (L : Wy) : List (Int × Int) := L.map fun e => bx l e.1
def colOf (al : List Int) (L : Wy) : List Int := L.map fun e => ((pos al e.2 : Nat) : Int)
def atL (L : Wy) (i : Nat) : (Int × Int) × Int := L.getD i ((0, 0), 0)
theorem atL_get {i : Nat} (h : i < L.length) : L[i]? = some (atL L i) := by
  unfold atL
  rw [List.getD_eq_getElem?_getD, List.getElem?_eq_getElem h]; rfl
theorem atL_mem {i : Nat} (h : i < L.length) : atL L i ∈ L := List.mem_of_getElem? (atL_get h)
theorem atL_map : (List.range L.length).map (atL L) = L := by
  apply ext_idx
  · simp
  · intro i h1 h2
    have := atL_get h2
    rw [List.getElem?_eq_getElem h2] at this
    simp [Option.some.inj this]
theorem webOf_len : (webOf l L).length = L.length := List.length_map ..
theorem colOf_len : (colOf al L).length = L.length := List.length_map ..
theorem webOf_at {i : Nat} (h : i < L.length) : wE (webOf l L) i = eE l (atL L i) := by
  unfold wE webOf
  rw [List.getD_eq_getElem?_getD, List.getElem?_map, atL_get h]; rfl
theorem colOf_at {i : Nat} (h : i < L.length) : wC (colOf al L) i = ((pos al (atL L i).2 : Nat) : Int) := by
  unfold wC colOf
  rw [List.getD_eq_getElem?_getD, List.getElem?_map, atL_get h]; rfl
theorem atL_inj (hk : LOk l al L) {i j : Nat} (hi : i < L.length) (hj : j < L.length) (h : atL L i = atL L j) : i = j := by
  have h1 := atL_get hi
  have h2 := atL_get hj
  rw [h, ← h2] at h1
  exact (List.getElem?_inj hi hk.pr.nd).mp h1
theorem web_proper (hk : LOk l al L) : WProper (webOf l L) (colOf al L) := by
  refine ⟨List.nodup_range, fun i hi j hj s h1 h2 => ?_⟩
  rw [List.mem_range, webOf_len] at hi hj
  rw [webOf_at hi, webOf_at hj] at h1
  rw [colOf_at hi, colOf_at hj] at h2
  have mi := atL_mem hi
  have mj := atL_mem hj
  have e2 : cC (atL L i) = cC (atL L j) := pos_inj (hk.col _ mi) (hk.col _ mj) (show pos al (atL L i).2 = pos al (atL L j).2 by omega)
  exact atL_inj hk hi hj (hk.pr.uq _ mi _ mj s h1 e2)
theorem col_iff (hk : LOk l al L) (hn : al.Nodup) {i : Nat} (hi : i < L.length) {k : Int} (hkk : k ∈ nums al.length) : cC (atL L i) = alv al k ↔ wC (colOf al L) i = k := by
  rw [colOf_at hi]
  have hm := hk.col _ (atL_mem hi)
  constructor
  · intro h
    exact alv_inj hn (pos_mem hm) hkk (by rw [alv_pos hm]; exact h)
  · rintro rfl
    exact (alv_pos hm).symm
theorem fre_num (hk : LOk l al L) (hn : al.Nodup) {s : Bool} {p k : Int} (hkk : k ∈ nums al.length) : wFre (webOf l L) (colOf al L) s p k = fre (eE l) cC L s p (alv al k) := by
  have := fre_map (e := wE (webOf l L)) (c := wC (colOf al L)) (e' := eE l) (c' := cC) (f := atL L) (L := List.range L.length) (s := s) (p := p) (k := k) (k' := alv al k)
    (fun i hi => (webOf_at (List.mem_range.mp hi)).symm) (fun i hi => col_iff hk hn (List.mem_range.mp hi) hkk)
  rw [atL_map] at this
  unfold wFre
  rw [webOf_len]
  exact this.symm
theorem free_num (hk : LOk l al L) (hn : al.Nodup) (hf : FreeAt l al L w) (s : Bool) : ∃ k ∈ nums al.length, wFre (webOf l L) (colOf al L) s (sd (bx l w) s) k = true := by
  obtain ⟨k, h1, h2⟩ := hf s
  exact ⟨_, pos_mem h1, by rw [fre_num hk hn (pos_mem h1), alv_pos h1]; exact h2⟩
/-- what the numbers' web gives is what the ways' web gives -/
theorem put_num (hk : LOk l al L) (hn : al.Nodup) (hf : FreeAt l al L w) :
    (wPut (webOf l L) (colOf al L) al.length (bx l w)).col ∈ nums al.length ∧ (newR l al L w).col = alv al (wPut (webOf l L) (colOf al L) al.length (bx l w)).col ∧
      (newR l al L w).row.length = (wPut (webOf l L) (colOf al L) al.length (bx l w)).row.length ∧
      ∀ i, i < L.length → recol (wC (colOf al L)) (wPut (webOf l L) (colOf al L) al.length (bx l w)) i ∈ nums al.length ∧ recol cC (newR l al L w) (atL L i) = alv al (recol (wC (colOf al L)) (wPut (webOf l L) (colOf al L) al.length (bx l w)) i) := by
  have hP := web_proper hk
  have z := putG_map (e := wE (webOf l L)) (c := wC (colOf al L)) (e' := eE l) (c' := cC) (f := atL L) (g := alv al) (L := List.range (webOf l L).length) (cols := nums al.length) (p := bx l w) hP
    (fun i hi => (webOf_at (by rw [List.mem_range, webOf_len] at hi; exact hi)).symm) (fun i hi k hk' => col_iff hk hn (by rw [List.mem_range, webOf_len] at hi; exact hi) hk')
    (fun i hi j hj h => atL_inj hk (by rw [List.mem_range, webOf_len] at hi; exact hi) (by rw [List.mem_range, webOf_len] at hj; exact hj) h)
    (fun i hi => by
      rw [List.mem_range, webOf_len] at hi
      rw [colOf_at hi]
      exact pos_mem (hk.col _ (atL_mem hi)))
    (free_num hk hn hf false) (free_num hk hn hf true)
  have e : (List.range (webOf l L).length).map (atL L) = L := by rw [webOf_len]; exact atL_map
  rw [e, nums_alv] at z
  refine ⟨z.1, z.2.1, ?_, fun i hi => z.2.2.2 i (by rw [List.mem_range, webOf_len]; exact hi)⟩
  have := congrArg List.length z.2.2.1
  rw [List.length_map] at this
  exact this
/-- the new planes as the program lists them -/
theorem lay_perm (hk : LOk l al L) (hn : al.Nodup) (hf : FreeAt l al L w) (cs : List Int) (R : PutR Nat) (hR : R = wPut (webOf l L) (colOf al L) al.length (bx l w)) (hcs : cs = swl (colOf al L) R.row R.one R.other) (n : Nat) :
    (((L.map (·.1)).take n ++ [w] ++ (L.map (·.1)).drop n).zip ((cs.take n ++ [R.col] ++ cs.drop n).map (alv al))).Perm (newM l al L w) := by
  obtain ⟨h1, h2, h3, h4⟩ := put_num hk hn hf
  rw [← hR] at h1 h2 h3 h4
  have hl : cs.length = L.length := by rw [hcs, swl_len, colOf_len]
  have hz : (L.map (·.1)).zip (cs.map (alv al)) = L.map fun e => (e.1, recol cC (newR l al L w) e) := by
    apply ext_idx
    · simp [hl]
    · intro i q1 q2
      have hi : i < L.length := by simpa using q2
      have e1 : L[i] = atL L i := by
        have := atL_get hi
        rw [List.getElem?_eq_getElem hi] at this
        exact Option.some.inj this
      have e2 : cs[i]'(by omega) = recol (wC (colOf al L)) R i := by
        have := swl_at (cs := colOf al L) (row := R.row) (one := R.one) (other := R.other) (i := i) (by rw [colOf_len]; exact hi)
        rw [← hcs, List.getElem?_eq_getElem (by omega)] at this
        exact Option.some.inj this
      simp only [List.getElem_zip, List.getElem_map]
      rw [e2, e1, (h4 i hi).2]
  have hlt : ((L.map (·.1)).take n).length = ((cs.map (alv al)).take n).length := by simp [hl]
  unfold newM
  rw [h2, ← hz]
  have e5 : (cs.take n ++ [R.col] ++ cs.drop n).map (alv al) = (cs.map (alv al)).take n ++ [alv al R.col] ++ (cs.map (alv al)).drop n := by simp [List.map_take, List.map_drop]
  rw [e5, List.append_assoc, List.append_assoc, List.zip_append hlt]
  have e6 : (L.map (·.1)).zip (cs.map (alv al)) = ((L.map (·.1)).take n).zip ((cs.map (alv al)).take n) ++ ((L.map (·.1)).drop n).zip ((cs.map (alv al)).drop n) := by
    rw [← List.zip_append hlt, List.take_append_drop, List.take_append_drop]
  rw [e6]
  show (_ ++ ((w, alv al R.col) :: ((L.map (·.1)).drop n).zip ((cs.map (alv al)).drop n))).Perm _
  rw [List.append_assoc]
  refine List.Perm.append_left _ ?_
  exact (List.perm_append_comm (l₁ := [(w, alv al R.col)]))
end
theorem nodup_of_map {α β : Type} {f : α → β} : ∀ {l : List α}, (l.map f).Nodup → l.Nodup
  | [], _ => List.nodup_nil
  | x :: l, h => by
    rw [List.map_cons, List.nodup_cons] at h
    exact List.nodup_cons.mpr ⟨fun hx => h.1 (List.mem_map.mpr ⟨x, hx, rfl⟩), nodup_of_map h.2⟩
/-! ### what stays true -/
theorem newM_keys (l : Int) (al : List Int) (m : Wy) (w : Int × Int) : (newM l al m w).map (·.1) = m.map (·.1) ++ [w] := by
  unfold newM
  rw [List.map_append, List.map_map]
  rfl
theorem newM_ok {l : Int} {al : List Int} {m : Wy} {w : Int × Int} (hk : LOk l al m) (hn : al.Nodup) (hf : FreeAt l al m w) (hw : w ∉ m.map (·.1)) : LOk l al (newM l al m w) := by
  have hkn : ((newM l al m w).map (·.1)).Nodup := by
    rw [newM_keys]
    exact nodup_snoc hk.kn hw
  obtain ⟨h1, h2, h3, h4⟩ := put_num hk hn hf
  obtain ⟨g1, g2⟩ := putG_proper (cols := al) (p := bx l w) hk.pr (hf false) (hf true)
  have hcol : ∀ e ∈ newM l al m w, e.2 ∈ al := by
    intro e he
    unfold newM at he
    rcases List.mem_append.mp he with he | he
    · obtain ⟨e0, he0, rfl⟩ := List.mem_map.mp he
      obtain ⟨i, hi, rfl⟩ := List.getElem_of_mem he0
      have e1 : m[i] = atL m i := by
        have := atL_get hi
        rw [List.getElem?_eq_getElem hi] at this
        exact Option.some.inj this
      show recol cC (newR l al m w) m[i] ∈ al
      rw [e1, (h4 i hi).2]
      exact alv_mem (h4 i hi).1
    · rw [List.mem_singleton] at he
      subst he
      show (newR l al m w).col ∈ al
      rw [h2]; exact alv_mem h1
  refine ⟨hkn, hcol, ?_, ?_⟩
  · exact nodup_of_map hkn
  · intro x hx y hy s hs hc
    unfold newM at hx hy
    rcases List.mem_append.mp hx with hx | hx
    · obtain ⟨a, ha, rfl⟩ := List.mem_map.mp hx
      rcases List.mem_append.mp hy with hy | hy
      · obtain ⟨b, hb, rfl⟩ := List.mem_map.mp hy
        rw [g1 a ha b hb s hs hc]
      · rw [List.mem_singleton] at hy
        subst hy
        exact absurd hc (g2 a ha s hs)
    · rw [List.mem_singleton] at hx
      subst hx
      rcases List.mem_append.mp hy with hy | hy
      · obtain ⟨b, hb, rfl⟩ := List.mem_map.mp hy
        exact absurd hc.symm (g2 b hb s hs.symm)
      · rw [List.mem_singleton] at hy
        exact hy.symm
theorem LOk.drop {l : Int} {al : List Int} {m : Wy} (h : LOk l al m) (q : (Int × Int) × Int → Bool) : LOk l al (m.filter q) :=
  ⟨h.kn.sublist (List.filter_sublist.map _), fun e he => h.col e (List.mem_filter.mp he).1, ⟨h.pr.nd.sublist List.filter_sublist, fun x hx y hy => h.pr.uq x (List.mem_filter.mp hx).1 y (List.mem_filter.mp hy).1⟩⟩
end Kx
set_option maxHeartbeats 4000000
/-! Full boxes, laying again. -/
namespace Kx
theorem cnt_perm {l : Int} {ws ws' : List (Int × Int)} (p : ws.Perm ws') (s : Bool) (k : Int) : cnt l ws s k = cnt l ws' s k := (p.map _).count_eq _
theorem full_perm {l : Int} {b : Nat} {ws ws' : List (Int × Int)} (p : ws.Perm ws') (many : Int) : full l b ws many = full l b ws' many := by
  have e : ∀ s, fullAt l b ws many s = fullAt l b ws' many s := fun s => by
    unfold fullAt
    simp only [cnt_perm p]
  unfold full
  rw [e, e]
theorem fullAt_none {l : Int} {b : Nat} {ws : List (Int × Int)} {many : Int} {s : Bool} (h : fullAt l b ws many s = none) {k : Nat} (hk : k < b) : ((cnt l ws s (k : Int) : Nat) : Int) ≤ many := by
  unfold fullAt at h
  rw [Option.map_eq_none_iff, List.find?_eq_none] at h
  have := h k (List.mem_range.mpr hk)
  simpa using this
theorem full_none {l : Int} {b : Nat} {ws : List (Int × Int)} {many : Int} (h : full l b ws many = none) (s : Bool) {k : Nat} (hk : k < b) : ((cnt l ws s (k : Int) : Nat) : Int) ≤ many := by
  unfold full at h
  cases e : fullAt l b ws many false with
  | some r => rw [e] at h; cases h
  | none =>
    rw [e] at h
    cases s with
    | false => exact fullAt_none e hk
    | true => exact fullAt_none h hk
/-- lines and outputs that there are -/
def InR (l : Int) (b : Nat) (w : Int × Int) : Prop := (0 ≤ w.1 ∧ w.1 < l * b) ∧ (0 ≤ w.2 ∧ w.2 < l * b)
theorem bx_range {l : Int} {b : Nat} {w : Int × Int} (hl : 0 < l) (h : InR l b w) (s : Bool) : ∃ k : Nat, k < b ∧ sd (bx l w) s = (k : Int) := by
  have key : ∀ i : Int, 0 ≤ i → i < l * b → ∃ k : Nat, k < b ∧ i.fdiv l = (k : Int) := fun i h0 h1 => by
    rw [Int.fdiv_eq_ediv_of_nonneg i (by omega)]
    have a := Int.ediv_nonneg h0 (by omega : 0 ≤ l)
    have c : i / l < b := Int.ediv_lt_of_lt_mul hl (by rw [Int.mul_comm]; exact h1)
    exact ⟨(i / l).toNat, by omega, by omega⟩
  cases s with
  | false => exact key w.1 h.1.1 h.1.2
  | true => exact key w.2 h.2.1 h.2.2
theorem cnt_ties (l : Int) (m : Wy) (w : Int × Int) (s : Bool) : cnt l (m.map (·.1) ++ [w]) s (sd (bx l w) s) = (m.filter fun e => decide (sd (eE l e) s = sd (bx l w) s)).length + 1 := by
  unfold cnt
  rw [List.map_append, List.count_append]
  have e1 : List.count (sd (bx l w) s) ([w].map fun w => sd (bx l w) s) = 1 := by simp
  rw [e1]
  congr 1
  rw [List.map_map, List.count, List.countP_map, List.countP_eq_length_filter]
  congr 1
theorem free_of_full {l : Int} {b : Nat} {al : List Int} {m : Wy} {w : Int × Int} (hl : 0 < l) (hw : InR l b w) (hn : al.Nodup) (h : full l b (m.map (·.1) ++ [w]) al.length = none) : FreeAt l al m w := by
  intro s
  obtain ⟨k, hk, e⟩ := bx_range hl hw s
  have h1 := full_none h s hk
  rw [← e, cnt_ties] at h1
  by_cases hall : ∃ c ∈ al, fre (eE l) cC m s (sd (bx l w) s) c = true
  · exact hall
  · exfalso
    have sub : ∀ c ∈ al, c ∈ (m.filter fun e => decide (sd (eE l e) s = sd (bx l w) s)).map cC := fun c hc => by
      have hf : fre (eE l) cC m s (sd (bx l w) s) c = false := by
        cases hq : fre (eE l) cC m s (sd (bx l w) s) c with
        | false => rfl
        | true => exact absurd ⟨c, hc, hq⟩ hall
      unfold fre at hf
      cases hh : hit (eE l) cC m s (sd (bx l w) s) c with
      | none => rw [hh] at hf; cases hf
      | some x =>
        obtain ⟨q1, q2, q3⟩ := hit_some hh
        exact List.mem_map.mpr ⟨x, List.mem_filter.mpr ⟨q1, by simpa using q2⟩, q3⟩
    have := nodup_len hn sub
    rw [List.length_map] at this
    omega
/-- never full where there are planes for every line of a box -/
theorem cnt_le {l : Int} {ws : List (Int × Int)} (hl : 0 < l) (s : Bool) (k : Int) (h1 : (ws.map fun w => sd w s).Nodup) : ((cnt l ws s k : Nat) : Int) ≤ l := by
  have e : cnt l ws s k = ((ws.map fun w => sd w s).filter fun i => decide (i.fdiv l = k)).length := by
    unfold cnt
    rw [List.count, List.countP_map, List.filter_map, List.length_map, List.countP_eq_length_filter]
    congr 1
    refine List.filter_congr fun w _ => ?_
    simp only [Function.comp]
    rw [Bool.eq_iff_iff]
    cases s <;> simp [bx, sd] <;> exact decide_eq_true_iff.symm
  rw [e]
  have sub : ∀ i ∈ (ws.map fun w => sd w s).filter (fun i => decide (i.fdiv l = k)), i ∈ (List.range l.toNat).map fun j : Nat => l * k + (j : Int) := fun i hi => by
    have hi2 := of_decide_eq_true (List.mem_filter.mp hi).2
    rw [Int.fdiv_eq_ediv_of_nonneg i (by omega)] at hi2
    have a := Int.mul_ediv_add_emod i l
    rw [hi2] at a
    have c1 := Int.emod_nonneg i (by omega : l ≠ 0)
    have c2 := Int.emod_lt_of_pos i hl
    exact List.mem_map.mpr ⟨(i % l).toNat, List.mem_range.mpr (by omega), by omega⟩
  have := nodup_len (h1.sublist List.filter_sublist) sub
  rw [List.length_map, List.length_range] at this
  omega
theorem full_never {l : Int} {b : Nat} {ws : List (Int × Int)} {many : Int} (hl : 0 < l) (hm : l ≤ many) (h1 : (ws.map (·.1)).Nodup) (h2 : (ws.map (·.2)).Nodup) : full l b ws many = none := by
  have f : ∀ s, fullAt l b ws many s = none := fun s => by
    unfold fullAt
    rw [Option.map_eq_none_iff, List.find?_eq_none]
    intro k _
    have hn : (ws.map fun w => sd w s).Nodup := by cases s with
      | false => exact h1
      | true => exact h2
    have := cnt_le hl s (k : Int) hn
    simp
    omega
  unfold full
  rw [f, f]
/-- never full again where they were laid -/
theorem full_again {l : Int} {b : Nat} {al : List Int} {m : Wy} (hk : LOk l al m) (hn : al.Nodup) {ws : List (Int × Int)} (hp : ws.Perm (m.map (·.1))) : full l b ws al.length = none := by
  have f : ∀ s, fullAt l b ws al.length s = none := fun s => by
    unfold fullAt
    rw [Option.map_eq_none_iff, List.find?_eq_none]
    intro k _
    rw [cnt_perm hp]
    have e : cnt l (m.map (·.1)) s (k : Int) = ((m.filter fun e => decide (sd (eE l e) s = (k : Int))).map cC).length := by
      unfold cnt
      rw [List.map_map, List.count, List.countP_map, List.length_map, List.countP_eq_length_filter]
      congr 1
    have nd : ((m.filter fun e => decide (sd (eE l e) s = (k : Int))).map cC).Nodup := by
      have hm := (hk.pr.nd.sublist (List.filter_sublist (l := m) (p := fun e => decide (sd (eE l e) s = (k : Int)))))
      unfold List.Nodup at hm ⊢
      rw [List.pairwise_map]
      refine List.Pairwise.imp_of_mem ?_ hm
      intro x y hx hy hne hc
      obtain ⟨x1, x2⟩ := List.mem_filter.mp hx
      obtain ⟨y1, y2⟩ := List.mem_filter.mp hy
      exact hne (hk.pr.uq x x1 y y1 s ((of_decide_eq_true x2).trans (of_decide_eq_true y2).symm) hc)
    have := nodup_len nd fun c hc => by
      obtain ⟨x, hx, rfl⟩ := List.mem_map.mp hc
      exact hk.col x (List.mem_filter.mp hx).1
    rw [← e] at this
    simp
    omega
  unfold full
  rw [f, f]
/-- laid again, one after the other: the ways, what is lost, how many moved -/
def stp (l : Int) (b : Nat) (al : List Int) (st : Wy × List (Int × Int) × Nat) (w : Int × Int) : Wy × List (Int × Int) × Nat := match full l b (st.1.map (·.1) ++ [w]) al.length with
  | none => (newM l al st.1 w, st.2.1, st.2.2 + (newR l al st.1 w).row.length)
  | some _ => (st.1, st.2.1 ++ [w], st.2.2)
def relay (l : Int) (b : Nat) (al : List Int) (m : Wy) (ws : List (Int × Int)) : Wy × List (Int × Int) × Nat := ws.foldl (stp l b al) (m, [], 0)
/-- what holds while these are still to be laid -/
structure SOk (l : Int) (b : Nat) (al : List Int) (m : Wy) (rest : List (Int × Int)) : Prop where
  ok : LOk l al m
  an : al.Nodup
  nd : (m.map (·.1) ++ rest).Nodup
  rg : ∀ w ∈ m.map (·.1) ++ rest, InR l b w
theorem SOk.new {l : Int} {b : Nat} {al : List Int} {m : Wy} {w : Int × Int} {rest : List (Int × Int)} (h : SOk l b al m (w :: rest)) : w ∉ m.map (·.1) := fun hm => by
  have := List.nodup_append.mp h.nd
  exact this.2.2 w hm w (List.mem_cons_self ..) rfl
theorem SOk.skip {l : Int} {b : Nat} {al : List Int} {m : Wy} {w : Int × Int} {rest : List (Int × Int)} (h : SOk l b al m (w :: rest)) : SOk l b al m rest :=
  ⟨h.ok, h.an, h.nd.sublist (List.Sublist.append_left (List.sublist_cons_self ..) _), fun v hv => h.rg v (by
    rcases List.mem_append.mp hv with q | q
    · exact List.mem_append_left _ q
    · exact List.mem_append_right _ (List.mem_cons_of_mem _ q))⟩
theorem SOk.lay {l : Int} {b : Nat} {al : List Int} {m : Wy} {w : Int × Int} {rest : List (Int × Int)} (hl : 0 < l) (h : SOk l b al m (w :: rest)) (hf : full l b (m.map (·.1) ++ [w]) al.length = none) : SOk l b al (newM l al m w) rest := by
  have e : m.map (·.1) ++ w :: rest = (m.map (·.1) ++ [w]) ++ rest := by simp
  refine ⟨newM_ok h.ok h.an (free_of_full hl (h.rg w (by simp)) h.an hf) h.new, h.an, ?_, fun v hv => h.rg v ?_⟩
  · rw [newM_keys, ← e]; exact h.nd
  · rw [newM_keys, ← e] at hv; exact hv
theorem SOk.perm {l : Int} {b : Nat} {al : List Int} {m m' : Wy} {rest : List (Int × Int)} (h : SOk l b al m rest) (p : m'.Perm m) : SOk l b al m' rest :=
  ⟨h.ok.perm p, h.an, ((p.map _).append_right _).nodup_iff.mpr h.nd, fun v hv => h.rg v (((p.map _).append_right _).mem_iff.mp hv)⟩
theorem SOk.step {l : Int} {b : Nat} {al : List Int} {st : Wy × List (Int × Int) × Nat} {w : Int × Int} {rest : List (Int × Int)} (hl : 0 < l) (h : SOk l b al st.1 (w :: rest)) : SOk l b al (stp l b al st w).1 rest := by
  unfold stp
  cases e : full l b (st.1.map (·.1) ++ [w]) al.length with
  | none => exact h.lay hl e
  | some r => exact h.skip
/-- keys kept or lost, none twice -/
theorem stp_keys (l : Int) (b : Nat) (al : List Int) (st : Wy × List (Int × Int) × Nat) (w : Int × Int) : ((stp l b al st w).1.map (·.1) ++ (stp l b al st w).2.1).Perm (st.1.map (·.1) ++ st.2.1 ++ [w]) := by
  unfold stp
  cases e : full l b (st.1.map (·.1) ++ [w]) al.length with
  | none =>
    show ((newM l al st.1 w).map (·.1) ++ st.2.1).Perm _
    rw [newM_keys, List.append_assoc, List.append_assoc]
    exact List.Perm.append_left _ List.perm_append_comm
  | some r =>
    show (st.1.map (·.1) ++ (st.2.1 ++ [w])).Perm _
    rw [List.append_assoc]
theorem relay_keys (l : Int) (b : Nat) (al : List Int) (ws : List (Int × Int)) : ∀ st : Wy × List (Int × Int) × Nat, ((ws.foldl (stp l b al) st).1.map (·.1) ++ (ws.foldl (stp l b al) st).2.1).Perm (st.1.map (·.1) ++ st.2.1 ++ ws) := by
  induction ws with
  | nil => intro st; simp
  | cons w ws ih =>
    intro st
    refine (ih (stp l b al st w)).trans ?_
    have := (stp_keys l b al st w).append_right ws
    rw [List.append_assoc (st.1.map (·.1) ++ st.2.1)] at this
    exact this
theorem relay_ok {l : Int} {b : Nat} {al : List Int} (hl : 0 < l) (ws : List (Int × Int)) : ∀ {st : Wy × List (Int × Int) × Nat} {rest : List (Int × Int)}, SOk l b al st.1 (ws ++ rest) → SOk l b al (ws.foldl (stp l b al) st).1 rest := by
  induction ws with
  | nil => intro st rest h; exact h
  | cons w ws ih => intro st rest h; exact ih (h.step hl)
/-- from permuted ways the same is lost and moved -/
theorem stp_perm {l : Int} {b : Nat} {al : List Int} {m m' : Wy} (hk : LOk l al m) (p : m'.Perm m) (lo : List (Int × Int)) (n : Nat) (w : Int × Int) : (stp l b al (m', lo, n) w).1.Perm (stp l b al (m, lo, n) w).1 ∧ (stp l b al (m', lo, n) w).2 = (stp l b al (m, lo, n) w).2 := by
  unfold stp
  dsimp only
  rw [full_perm ((p.map (·.1)).append_right [w])]
  cases e : full l b (m.map (·.1) ++ [w]) al.length with
  | none => exact ⟨newM_perm hk p w, by show (lo, n + _) = (lo, n + _); rw [newR_perm hk p w]⟩
  | some r => exact ⟨p, rfl⟩
theorem relay_perm {l : Int} {b : Nat} {al : List Int} (hl : 0 < l) (ws : List (Int × Int)) : ∀ {m m' : Wy} {lo : List (Int × Int)} {n : Nat}, SOk l b al m ws → m'.Perm m → (ws.foldl (stp l b al) (m', lo, n)).1.Perm (ws.foldl (stp l b al) (m, lo, n)).1 ∧ (ws.foldl (stp l b al) (m', lo, n)).2 = (ws.foldl (stp l b al) (m, lo, n)).2 := by
  induction ws with
  | nil => intro m m' lo n _ p; exact ⟨p, rfl⟩
  | cons w ws ih =>
    intro m m' lo n h p
    obtain ⟨q1, q2⟩ := stp_perm h.ok p lo n w (b := b)
    have hs : SOk l b al (stp l b al (m, lo, n) w).1 ws := SOk.step (st := (m, lo, n)) hl h
    have e1 : stp l b al (m', lo, n) w = ((stp l b al (m', lo, n) w).1, (stp l b al (m, lo, n) w).2.1, (stp l b al (m, lo, n) w).2.2) := by rw [← q2]
    have e2 : stp l b al (m, lo, n) w = ((stp l b al (m, lo, n) w).1, (stp l b al (m, lo, n) w).2.1, (stp l b al (m, lo, n) w).2.2) := rfl
    show ((w :: ws).foldl (stp l b al) (m', lo, n)).1.Perm _ ∧ _
    rw [List.foldl_cons, List.foldl_cons, e1, e2]
    exact ih hs q1
/-! ### sorted lists -/
theorem leP_antisymm {p q : Int × Int} (h1 : leP p q) (h2 : leP q p) : p = q := by
  unfold leP at h1 h2
  have a := SrtO.lexB_no.mp h1
  have c := SrtO.lexB_no.mp h2
  exact Prod.ext (by omega) (by omega)
theorem leP_uniq : ∀ {a c : List (Int × Int)}, a.Pairwise leP → c.Pairwise leP → a.Perm c → a = c
  | [], c, _, _, p => by rw [List.nil_perm.mp p]
  | x :: a, [], _, _, p => by have := p.length_eq; simp at this
  | x :: a, y :: c, h1, h2, p => by
    obtain ⟨h1a, h1b⟩ := List.pairwise_cons.mp h1
    obtain ⟨h2a, h2b⟩ := List.pairwise_cons.mp h2
    have hxy : x = y := by
      rcases List.mem_cons.mp (p.mem_iff.mp (List.mem_cons_self ..)) with e | hx
      · exact e
      · rcases List.mem_cons.mp (p.mem_iff.mpr (List.mem_cons_self ..)) with e | hy
        · exact e.symm
        · exact leP_antisymm (h1a y hy) (h2a x hx)
    subst hxy
    rw [leP_uniq h1b h2b p.cons_inv]
theorem le_uniq : ∀ {a c : List Int}, a.Pairwise (· ≤ ·) → c.Pairwise (· ≤ ·) → a.Perm c → a = c
  | [], c, _, _, p => by rw [List.nil_perm.mp p]
  | x :: a, [], _, _, p => by have := p.length_eq; simp at this
  | x :: a, y :: c, h1, h2, p => by
    obtain ⟨h1a, h1b⟩ := List.pairwise_cons.mp h1
    obtain ⟨h2a, h2b⟩ := List.pairwise_cons.mp h2
    have hxy : x = y := by
      rcases List.mem_cons.mp (p.mem_iff.mp (List.mem_cons_self ..)) with e | hx
      · exact e
      · rcases List.mem_cons.mp (p.mem_iff.mpr (List.mem_cons_self ..)) with e | hy
        · exact e.symm
        · exact Int.le_antisymm (h1a y hy) (h2a x hx)
    subst hxy
    rw [le_uniq h1b h2b p.cons_inv]
end Kx
set_option maxHeartbeats 4000000
namespace Kx
open PySem PySem.Spec PyProof.Rows L2

local macro_rules | `(tactic| walk_at "ht") => `(tactic| (repeat (first | assumption | exact upd_same | refine upd_old ?_ (by assumption) | refine Same.at_ (by assumption) ?_ | refine Fr.tup (by assumption) ?_)))
local macro_rules | `(tactic| walk_at "go1") => `(tactic| (first
  | ((with_reducible apply g_var); (focus rfl)) | with_reducible refine g_op ?_ | with_reducible refine g_c ?_ | with_reducible refine g_I0 ?_ | with_reducible refine g_eqI ?_ | with_reducible refine g_neI ?_
  | with_reducible refine g_cons ?_ | with_reducible refine g_nil ?_ | with_reducible refine g_tup ?_ | with_reducible refine g_lst ?_ | with_reducible refine g_bl ?_ | with_reducible refine g_test ?_
  | with_reducible refine g_B ?_ | with_reducible refine g_and ?_ | with_reducible refine g_or ?_ | with_reducible refine g_not ?_ | with_reducible refine g_andV ?_ | with_reducible refine g_orV ?_
  | with_reducible refine g_notV ?_ | with_reducible refine g_if ?_ | with_reducible refine g_cb ?_ | with_reducible refine g_call ?_ | with_reducible refine g_chain ?_ | with_reducible refine g_un ?_
  | with_reducible refine g_u ?_ | with_reducible refine g_seq ?_ | with_reducible refine g_next ?_ | with_reducible refine g_ret ?_ | with_reducible refine g_set ?_ | with_reducible refine g_ifS ?_
  | with_reducible refine g_drop ?_ | with_reducible refine g_asg ?_ | with_reducible refine g_name ?_ | with_reducible refine g_tc ?_ | with_reducible refine g_tn ?_ | with_reducible refine g_par ?_
  | with_reducible refine g_par3 ?_ | with_reducible refine g_p2 ?_ | with_reducible refine g_p3 ?_ | with_reducible refine g_fs ?_ | with_reducible refine g_fld ?_ | with_reducible refine g_m ?_
  | with_reducible refine g_mk ?_ | with_reducible refine g_dg ?_ | with_reducible refine g_dp ?_ | with_reducible refine g_din ?_ | with_reducible refine g_dni ?_ | with_reducible refine g_bm ?_
  | with_reducible refine g_mg ?_ | with_reducible refine g_il ?_ | with_reducible refine g_it ?_ | with_reducible refine g_ir ?_ | with_reducible refine g_ik ?_ | with_reducible refine g_for ?_
  | with_reducible refine g_lc ?_ | with_reducible refine g_ie ?_ | with_reducible refine g_iz ?_ | with_reducible refine g_yes ?_ | with_reducible refine g_retN ?_ | with_reducible refine g_gsub ?_ | with_reducible refine g_isN ?_ | with_reducible refine g_ntN ?_
  | with_reducible refine g_isiInt ?_ | with_reducible refine g_isiBool ?_ | with_reducible refine g_sl ?_ | with_reducible refine g_on ?_ | with_reducible refine g_os ?_ | ((with_reducible refine g_dsz ?_ ?_); (focus rfl); intro p hp)
  | ((with_reducible apply g_ixTt); (focus (walk_at "ht"; done)); (focus rfl)) | ((with_reducible apply g_ixLl); (focus (walk_at "ht"; done)); (focus rfl)) | ((with_reducible apply g_isiT); (focus (walk_at "ht"; done))) | ((with_reducible apply g_lnL); (focus (walk_at "ht"; done))) | ((with_reducible apply g_lnT); (focus (walk_at "ht"; done))) | ((with_reducible apply g_tTt); (focus (walk_at "ht"; done)); (focus rfl))
  | ((with_reducible apply g_tyL); (focus (walk_at "ht"; done))) | refine iteT ?_ | refine iteF ?_))
local macro_rules | `(tactic| walk_at "go") => `(tactic| (repeat (walk_at "go1")))
theorem inV_int (k : Int) (ns : List Int) : inV (.int k) (ns.map V.int) = decide (k ∈ ns) := by
  unfold inV
  induction ns with
  | nil => simp
  | cons n ns ih =>
    rw [List.map_cons, List.any_cons, ih]
    by_cases e : n = k
    · subst e; simp [eqV]
    · have : eqV (.int n) (.int k) = false := by simp [eqV, e]
      rw [this]
      simp [Ne.symm e]
theorem flat_ints (ns : List Int) : (ns.map V.int).all flatV = true := by rw [List.all_map]; exact List.all_eq_true.mpr fun _ _ => rfl
theorem g_inT {K : PySem.W.Frag} {H : Hp} {Q : VK} {p : Addr} {k : Int} {ns : List Int} (h : SqT K H p (ns.map V.int)) (q : Q (.bl (decide (k ∈ ns))) H) : rIn K false (.int k) (.ref p) H Q := ⟨p, _, rfl, .inr h, rfl, flat_ints ns, by rw [inV_int]; exact q⟩
theorem g_ninT {K : PySem.W.Frag} {H : Hp} {Q : VK} {p : Addr} {k : Int} {ns : List Int} (h : SqT K H p (ns.map V.int)) (q : Q (.bl (!decide (k ∈ ns))) H) : rIn K true (.int k) (.ref p) H Q := ⟨p, _, rfl, .inr h, rfl, flat_ints ns, by rw [inV_int]; exact q⟩
theorem g_inL {K : PySem.W.Frag} {H : Hp} {Q : VK} {p : Addr} {k : Int} {ns : List Int} (h : H p = some (.lst (ns.map V.int))) (q : Q (.bl (decide (k ∈ ns))) H) : rIn K false (.int k) (.ref p) H Q := ⟨p, _, rfl, .inl (SqL.of h), rfl, flat_ints ns, by rw [inV_int]; exact q⟩
theorem g_ninL {K : PySem.W.Frag} {H : Hp} {Q : VK} {p : Addr} {k : Int} {ns : List Int} (h : H p = some (.lst (ns.map V.int))) (q : Q (.bl (!decide (k ∈ ns))) H) : rIn K true (.int k) (.ref p) H Q := ⟨p, _, rfl, .inl (SqL.of h), rfl, flat_ints ns, by rw [inV_int]; exact q⟩
/-- the planes laid at x, their dict at d -/
structure LaidAt (cl : Addr) (H : Hp) (x d : Addr) (l : Int) (b : Nat) (al : List Int) (m : Wy) (mv : Int) : Prop where
  ob : ∃ dx sz a, H x = some (.ins cl dx [("kept_sizes", .ref sz), ("kept_alive", .ref a), ("kept_planes", .ref d), ("kept_moved", .int mv)]) ∧ Pt H sz (l, (b : Int)) ∧ Ft H a (al.map V.int)
  pl : H d = some (.dT (dm m))
section
variable {cl : Addr} {H H' : Hp} {x d : Addr} {l : Int} {b : Nat} {al : List Int} {m : Wy} {mv : Int} {W : List Addr}
theorem LaidAt.fr (h : LaidAt cl H x d l b al m mv) (f : Fr W H H') (n1 : x ∉ W) (n2 : d ∉ W) : LaidAt cl H' x d l b al m mv :=
  ⟨let ⟨dx, sz, a, h1, h2, h3⟩ := h.ob; ⟨dx, sz, a, f.at_ h1 n1, f.tup h2, f.ft h3⟩, f.at_ h.pl n2⟩
theorem LaidAt.same (h : LaidAt cl H x d l b al m mv) (s : Same H H') : LaidAt cl H' x d l b al m mv := h.fr (W := []) (Fr.of_same s) (by simp) (by simp)
theorem LaidAt.ne (h : LaidAt cl H x d l b al m mv) : x ≠ d := fun z => by
  obtain ⟨_, _, _, h1, _⟩ := h.ob
  rw [z, h.pl] at h1
  cases h1
end
def spLaidInit (cl : Addr) : Sp := fun vs H Q _ => ∃ (x sz a dx : Addr) (l : Int) (b : Nat) (al : List Int), vs = [.ref x, .ref sz, .ref a] ∧ H x = some (.ins cl dx []) ∧ Pt H sz (l, (b : Int)) ∧ Ft H a (al.map V.int) ∧ (1 ≤ l ∧ l ≤ 12) ∧ (1 ≤ b ∧ b ≤ 12) ∧ l * b ≤ 12 ∧ al.Pairwise (· < ·) ∧ (∀ n ∈ al, 0 ≤ n ∧ n < 12) ∧
  ∀ H' d, Fr [x] H H' → H d = none → LaidAt cl H' x d l b al [] 0 → Q .non H'
def spCheckWish (cl : Addr) : Sp := fun vs H Q _ => ∃ (x t d : Addr) (l : Int) (b : Nat) (al : List Int) (m : Wy) (mv : Int) (p : Int × Int), vs = [.ref x, .ref t] ∧ LaidAt cl H x d l b al m mv ∧ Pt H t p ∧ (0 ≤ l ∧ l ≤ 12) ∧ b ≤ 12 ∧ (0 ≤ p.1 ∧ p.1 < l * b) ∧ (0 ≤ p.2 ∧ p.2 < l * b) ∧ m.length ≤ 1000 ∧
  (∀ e ∈ m, p.1 ≠ e.1.1 ∧ p.2 ≠ e.1.2) ∧ ∀ H', Same H H' → Q .non H'
def spCheckPlane (cl : Addr) : Sp := fun vs H Q _ => ∃ (x d : Addr) (l : Int) (b : Nat) (al : List Int) (m : Wy) (mv : Int) (k : Int), vs = [.ref x, .int k] ∧ LaidAt cl H x d l b al m mv ∧ (0 ≤ k ∧ k < 12) ∧ k ∈ al ∧ Q .non H
def spAlive (cl : Addr) : Sp := fun vs H Q _ => ∃ (x d : Addr) (l : Int) (b : Nat) (al : List Int) (m : Wy) (mv : Int), vs = [.ref x] ∧ LaidAt cl H x d l b al m mv ∧ ∀ a, Ft H a (al.map V.int) → Q (.ref a) H
def spMoved (cl : Addr) : Sp := fun vs H Q _ => ∃ (x d : Addr) (l : Int) (b : Nat) (al : List Int) (m : Wy) (mv : Int), vs = [.ref x] ∧ LaidAt cl H x d l b al m mv ∧ Q (.int mv) H
def spBack (cl : Addr) : Sp := fun vs H Q _ => ∃ (x d : Addr) (l : Int) (b : Nat) (al : List Int) (m : Wy) (mv : Int) (k : Int), vs = [.ref x, .int k] ∧ LaidAt cl H x d l b al m mv ∧ (0 ≤ k ∧ k < 12) ∧ k ∉ al ∧ al.length ≤ 1000 ∧
  ∀ H' al', Fr [x] H H' → LaidAt cl H' x d l b al' m mv → al'.Perm (al ++ [k]) → al'.Pairwise (· ≤ ·) → Q .non H'
def spDrop (cl : Addr) : Sp := fun vs H Q _ => ∃ (x t d : Addr) (l : Int) (b : Nat) (al : List Int) (m : Wy) (mv : Int) (p : Int × Int), vs = [.ref x, .ref t] ∧ LaidAt cl H x d l b al m mv ∧ Pt H t p ∧ (0 ≤ l ∧ l ≤ 12) ∧ b ≤ 12 ∧ (0 ≤ p.1 ∧ p.1 < l * b) ∧ (0 ≤ p.2 ∧ p.2 < l * b) ∧ (look m p).isSome = true ∧
  ∀ H', Fr [x, d] H H' → LaidAt cl H' x d l b al (drp m p) mv → Q .non H'
section
variable {P : Program} {w : World} {K : PySem.W.Frag} {mg : Str → Option Value} {base : Heap} (T : Tx K mg)
theorem scAlive : FnScope ["self"] ["self"] (defScope sAlive) := ⟨rfl, rfl, rfl, by decide +kernel, rfl, by decide +kernel, by decide +kernel⟩
include T in
theorem ok_Laid_alive {f : Addr} {fd : FuncData} (F : FnP K "alive" "Laid.alive" sAlive f fd)
      :
    FnOk P w K mg base CX0 1 f fd ["self"] (spAlive (cL K)) := by
  refine F.ok scAlive (fun vs H Q E h => ?_) (fun cdv A outer s H vs Q E hr h => ?_)
  · obtain ⟨x, d, l, b, al, m, mv, rfl, _⟩ := h; rfl
  · obtain ⟨x, d, l, b, al, m, mv, rfl, hl, k⟩ := h
    refine ⟨_, PSs.nox (pss_one (ps_ret (pe_fldK K rfl (pv 0) rfl))), ?_⟩
    obtain ⟨dx, sz, a, hob, hsz, ha⟩ := hl.ob
    walk_at "go"
    exact g_f2 hob T.cl_Laid T.nL2 rfl (k a ha)
theorem scMoved : FnScope ["self"] ["self"] (defScope sMoved) := ⟨rfl, rfl, rfl, by decide +kernel, rfl, by decide +kernel, by decide +kernel⟩
include T in
theorem ok_Laid_moved {f : Addr} {fd : FuncData} (F : FnP K "moved" "Laid.moved" sMoved f fd)
      :
    FnOk P w K mg base CX0 1 f fd ["self"] (spMoved (cL K)) := by
  refine F.ok scMoved (fun vs H Q E h => ?_) (fun cdv A outer s H vs Q E hr h => ?_)
  · obtain ⟨x, d, l, b, al, m, mv, rfl, _⟩ := h; rfl
  · obtain ⟨x, d, l, b, al, m, mv, rfl, hl, k⟩ := h
    refine ⟨_, PSs.nox (pss_one (ps_ret (pe_fldK K rfl (pv 0) rfl))), ?_⟩
    obtain ⟨dx, sz, a, hob, hsz, ha⟩ := hl.ob
    walk_at "go"
    exact g_f2 hob T.cl_Laid T.nL4 rfl k
theorem scLaidInit : FnScope ["self", "sizes", "alive"] ["self", "sizes", "alive"] (defScope sLaidInit) := ⟨rfl, rfl, rfl, by decide +kernel, rfl, by decide +kernel, by decide +kernel⟩
include T in
theorem ok_Laid_init {f : Addr} {fd : FuncData} (F : FnP K "__init__" "Laid.__init__" sLaidInit f fd)
    (c_check_sizes : Cal P w K mg base CX0 3 "check_sizes" ["sizes"] spCheckSizes) (c_check_planes : Cal P w K mg base CX0 4 "check_planes" ["alive"] spCheckPlanes)  :
    FnOk P w K mg base CX0 5 f fd ["self", "sizes", "alive"] (spLaidInit (cL K)) := by
  refine F.ok scLaidInit (fun vs H Q E h => ?_) (fun cdv A outer s H vs Q E hr h => ?_)
  · obtain ⟨x, sz, a, dx, l, b, al, rfl, _⟩ := h; rfl
  · obtain ⟨x, sz, a, dx, l, b, al, rfl, hx, hsz, ha, h1, h2, h3, h4, h5, k⟩ := h
    refine ⟨_, PSs.nox (pss_cons (ps_expr (pe_callF c_check_sizes hr (by decide) (by rfl) (pa_cons (pv 1) pa_nil)))
      (pss_cons (ps_expr (pe_callF c_check_planes hr (by decide) (by rfl) (pa_cons (pv 2) pa_nil)))
      (pss_cons (ps_fld (pv 0) (pv 1) rfl)
      (pss_cons (ps_fld (pv 0) (pv 2) rfl)
      (pss_cons (ps_fld (pv 0) (pe_dnewT) rfl)
      (pss_one (ps_fld (pv 0) pe_int rfl))))))), ?_⟩
    walk_at "go"
    refine ⟨sz, l, b, rfl, hsz, h1, by omega, h3, ?_⟩
    walk_at "go"
    refine ⟨a, al, rfl, ha, h4, h5, ?_⟩
    walk_at "go"
    refine g_fs2 hx T.cl_Laid T.nL1 (Nat.le_of_ble_eq_true rfl) ?_
    walk_at "go"
    refine g_fs2 upd_same T.cl_Laid T.nL2 (Nat.le_of_ble_eq_true rfl) ?_
    walk_at "go"
    intro d hd
    walk_at "go"
    have hdx : (upd (upd (upd (upd H x (.ins (cL K) dx (putF "kept_sizes" (.ref sz) []))) x (.ins (cL K) dx (putF "kept_alive" (.ref a) (putF "kept_sizes" (.ref sz) [])))) d (.dT [])) x (.ins (cL K) dx (putF "kept_planes" (.ref d) (putF "kept_alive" (.ref a) (putF "kept_sizes" (.ref sz) []))))) x = some (.ins (cL K) dx (putF "kept_planes" (.ref d) (putF "kept_alive" (.ref a) (putF "kept_sizes" (.ref sz) [])))) := upd_same
    refine g_fs2 (upd_old upd_same hd) T.cl_Laid T.nL3 (Nat.le_of_ble_eq_true rfl) ?_
    walk_at "go"
    refine g_fs2 upd_same T.cl_Laid T.nL4 (Nat.le_of_ble_eq_true rfl) ?_
    have nI : ¬ Imm (.ins (cL K) dx []) := fun z => z
    have f1 : Fr [x] H (upd H x (.ins (cL K) dx (putF "kept_sizes" (.ref sz) []))) := Fr.refl.mut hx nI (.inl (by simp))
    have f2 : Fr [x] H (upd (upd H x (.ins (cL K) dx (putF "kept_sizes" (.ref sz) []))) x (.ins (cL K) dx (putF "kept_alive" (.ref a) (putF "kept_sizes" (.ref sz) [])))) := f1.mut upd_same (fun z => z) (.inl (by simp))
    have hdH : H d = none := f2.some_ (by
      simp
      rintro rfl
      rw [upd_same] at hd; cases hd) hd
    have nxd : d ≠ x := by rintro rfl; rw [hx] at hdH; cases hdH
    have f3 := (f2.new (u := .dT []) hd).mut (upd_old upd_same hd) (u := .ins (cL K) dx (putF "kept_planes" (.ref d) (putF "kept_alive" (.ref a) (putF "kept_sizes" (.ref sz) [])))) (fun z => z) (.inl (by simp))
    have f4 := f3.mut upd_same (u := .ins (cL K) dx (putF "kept_moved" (.int 0) (putF "kept_planes" (.ref d) (putF "kept_alive" (.ref a) (putF "kept_sizes" (.ref sz) []))))) (fun z => z) (.inl (by simp))
    exact k _ d f4 hdH ⟨⟨dx, sz, a, upd_same, f4.tup hsz, f4.ft ha⟩, by rw [upd_ne nxd, upd_ne nxd]; exact upd_same⟩
theorem scCheckPlane : FnScope ["self", "plane"] ["self", "plane"] (defScope sCheckPlane) := ⟨rfl, rfl, rfl, by decide +kernel, rfl, by decide +kernel, by decide +kernel⟩
include T in
theorem ok_Laid_check_plane {f : Addr} {fd : FuncData} (F : FnP K "check_plane" "Laid.check_plane" sCheckPlane f fd)
    (c_is_within : Cal P w K mg base CX0 2 "is_within" ["thing", "least", "most"] spIsWithin)  :
    FnOk P w K mg base CX0 3 f fd ["self", "plane"] (spCheckPlane (cL K)) := by
  obtain ⟨tk, m13⟩ := T.mp
  refine F.ok scCheckPlane (fun vs H Q E h => ?_) (fun cdv A outer s H vs Q E hr h => ?_)
  · obtain ⟨x, d, l, b, al, m, mv, kk, rfl, _⟩ := h; rfl
  · obtain ⟨x, d, l, b, al, m, mv, kk, rfl, hl, h1, h2, k⟩ := h
    refine ⟨_, PSs.nox (pss_one (ps_if (PW.pt (pw_or (pt_not (pt_val (pe_callF c_is_within hr (by decide) (by rfl) (pa_cons (pv 1) (pa_cons pe_int (pa_cons (pe_op op_sub (pe_glob (v := .int 12) (by rfl) m13 ⟨_, rfl⟩) pe_int) pa_nil)))))) (pw_or1 (pt_cmpR (op_notInK K rfl) (pv 1) (pe_fldK K rfl (pv 0) rfl) (by rfl))))) (pss_one ps_never) pss_nil)), ?_⟩
    obtain ⟨dx, sz, a, hob, hsz, ha⟩ := hl.ob
    walk_at "go"
    refine ⟨kk, 0, 12 - 1, rfl, ?_⟩
    rw [decide_eq_true (show 0 ≤ kk ∧ kk ≤ 12 - 1 by omega)]
    walk_at "go"
    refine g_f2 hob T.cl_Laid T.nL2 rfl ?_
    refine g_ninT ha.sq ?_
    rw [decide_eq_true h2]
    walk_at "go"
    exact k
theorem scBack : FnScope ["self", "plane"] ["self", "plane"] (defScope sBack) := ⟨rfl, rfl, rfl, by decide +kernel, rfl, by decide +kernel, by decide +kernel⟩
include T in
theorem ok_Laid_back {f : Addr} {fd : FuncData} (F : FnP K "back" "Laid.back" sBack f fd)
    (c_is_within : Cal P w K mg base CX0 2 "is_within" ["thing", "least", "most"] spIsWithin)  :
    FnOk P w K mg base CX0 3 f fd ["self", "plane"] (spBack (cL K)) := by
  obtain ⟨tk, m13⟩ := T.mp
  refine F.ok scBack (fun vs H Q E h => ?_) (fun cdv A outer s H vs Q E hr h => ?_)
  · obtain ⟨x, d, l, b, al, m, mv, kk, rfl, _⟩ := h; rfl
  · obtain ⟨x, d, l, b, al, m, mv, kk, rfl, hl, h1, h2, hz, k⟩ := h
    refine ⟨_, PSs.nox (pss_cons (ps_if (PW.pt (pw_or (pt_not (pt_val (pe_callF c_is_within hr (by decide) (by rfl) (pa_cons (pv 1) (pa_cons pe_int (pa_cons (pe_op op_sub (pe_glob (v := .int 12) (by rfl) m13 ⟨_, rfl⟩) pe_int) pa_nil)))))) (pw_or1 (pt_cmpR (op_inK K rfl) (pv 1) (pe_fldK K rfl (pv 0) rfl) (by rfl))))) (pss_one ps_never) pss_nil)
      (pss_one (ps_fld (pv 0) (pe_callTy call_tupF (by rfl) T.z_tuple (by decide +kernel) (pa_cons (pe_callB cr_sortedIT (by rfl) T.z_sorted (by decide +kernel) (pa_cons (pe_op op_catA (pe_fldK K rfl (pv 0) rfl) (pe_tup (pa_cons (pv 1) pa_nil))) pa_nil)) pa_nil)) rfl))), ?_⟩
    have big : 100000 < sizeLine := by rw [sizeLine_eq]; omega
    obtain ⟨dx, sz, a, hob, hsz, ha⟩ := hl.ob
    walk_at "go"
    refine ⟨kk, 0, 12 - 1, rfl, ?_⟩
    rw [decide_eq_true (show 0 ≤ kk ∧ kk ≤ 12 - 1 by omega)]
    walk_at "go"
    refine g_f2 hob T.cl_Laid T.nL2 rfl ?_
    refine g_inT ha.sq ?_
    rw [decide_eq_false h2]
    walk_at "go"
    refine g_f2 hob T.cl_Laid T.nL2 rfl ?_
    walk_at "go"
    rename_i p1 hp1
    refine g_catA (sqt_same ha.sq (same_new hp1)) (SqT.of upd_same) (by rw [List.length_map]; show al.length + 1 ≤ sizeLine; omega) fun c H1 s1 hc => ?_
    have s2 : Same H H1 := (same_new hp1).trans s1
    walk_at "go"
    refine ⟨c, al ++ [kk], rfl, by rw [List.map_append]; exact hc, fun al' q hp hs hq => ?_⟩
    walk_at "go"
    refine ⟨q, _, rfl, SqL.of upd_same, fun a2 o ha2 ho => ?_⟩
    have s3 : Same H (upd (upd H1 q (.lst (al'.map V.int))) a2 (.frz o (.tup (al'.map V.int)))) := same_snoc (same_snoc s2 hq) ha2
    have hft : Ft (upd (upd H1 q (.lst (al'.map V.int))) a2 (.frz o (.tup (al'.map V.int)))) a2 (al'.map V.int) := ⟨o, ho, upd_same⟩
    generalize (upd (upd H1 q (.lst (al'.map V.int))) a2 (.frz o (.tup (al'.map V.int)))) = H2 at s3 hft ⊢
    walk_at "go"
    refine g_fs2 (s3 _ _ hob) T.cl_Laid T.nL2 (Nat.le_of_ble_eq_true rfl) ?_
    walk_at "go"
    have f3 : Fr [x] H2 (upd H2 x (.ins (cL K) dx (putF "kept_alive" (.ref a2) [("kept_sizes", .ref sz), ("kept_alive", .ref a), ("kept_planes", .ref d), ("kept_moved", .int mv)]))) := Fr.refl.mut (s3 _ _ hob) (fun z => z) (.inl (by simp))
    refine k _ al' ((Fr.of_same s3).trans f3) ⟨⟨dx, sz, a2, upd_same, f3.tup (s3 _ _ hsz), f3.ft hft⟩, f3.at_ (s3 _ _ hl.pl) (by simpa using Ne.symm hl.ne)⟩ hp hs
theorem scDrop : FnScope ["self", "wish"] ["self", "wish"] (defScope sDrop) := ⟨rfl, rfl, rfl, by decide +kernel, rfl, by decide +kernel, by decide +kernel⟩
include T in
theorem ok_Laid_drop {f : Addr} {fd : FuncData} (F : FnP K "drop" "Laid.drop" sDrop f fd)
    (c_is_tie : Cal P w K mg base CX0 3 "is_tie" ["thing", "many"] spIsTie)  :
    FnOk P w K mg base CX0 4 f fd ["self", "wish"] (spDrop (cL K)) := by
  refine F.ok scDrop (fun vs H Q E h => ?_) (fun cdv A outer s H vs Q E hr h => ?_)
  · obtain ⟨x, t, d, l, b, al, m, mv, p, rfl, _⟩ := h; rfl
  · obtain ⟨x, t, d, l, b, al, m, mv, p, rfl, hl, ht, h0, hb, h1, h2, hk, k⟩ := h
    refine ⟨_, PSs.nox (pss_cons (ps_if (PW.pt (pw_or (pt_not (pt_val (pe_callF c_is_tie hr (by decide) (by rfl) (pa_cons (pv 1) (pa_cons (pe_op op_mul (pe_ix (ix_tupK K rfl) (pe_fldK K rfl (pv 0) rfl) pe_int (fun _ _ => rfl)) (pe_ix (ix_tupK K rfl) (pe_fldK K rfl (pv 0) rfl) pe_int (fun _ _ => rfl))) pa_nil))))) (pw_or1 (pt_cmp (pc_dnotin (hu_of hr) (pv 1) (pe_fldK K rfl (pv 0) rfl)) rfl)))) (pss_one ps_never) pss_nil)
      (pss_one (ps_expr (pe_bm PySem.F.plainAttrs_dict PySem.F.slot_dict_pop PySem.F.type_dict_pop (mt_popT1 hr) (pe_fldK K rfl (pv 0) rfl) (pa_cons (pv 1) pa_nil))))), ?_⟩
    obtain ⟨dx, sz, a, hob, hsz, ha⟩ := hl.ob
    walk_at "go"
    refine g_f2 hob T.cl_Laid T.nL1 rfl ?_
    walk_at "go"
    refine g_f2 hob T.cl_Laid T.nL1 rfl ?_
    walk_at "go"
    refine g_I (C := CMul) (.inl ⟨by omega, by omega⟩) ?_
    walk_at "go"
    refine ⟨t, p, l * b, rfl, ht, h1, h2, ?_⟩
    walk_at "go"
    refine g_f2 hob T.cl_Laid T.nL3 rfl ?_
    refine g_diT hl.pl ht ?_
    rw [Option.isSome_map, hk]
    walk_at "go"
    refine g_f2 hob T.cl_Laid T.nL3 rfl ?_
    refine g_tyD hl.pl ?_
    walk_at "go"
    obtain ⟨c, hc⟩ := Option.isSome_iff_exists.mp hk
    refine ⟨d, t, _, pk p, .int c, rfl, rfl, hl.pl, ht, by rw [dm_val, hc]; rfl, ?_⟩
    rw [dm_drop]
    have f1 : Fr [x, d] H (upd H d (.dT (dm (drp m p)))) := Fr.refl.mut hl.pl (fun z => z) (.inl (by simp))
    exact k _ f1 ⟨⟨dx, sz, a, by rw [upd_ne hl.ne]; exact hob, f1.tup hsz, f1.ft ha⟩, upd_same⟩
theorem scCheckWish : FnScope ["self", "wish", "one"] ["self", "wish"] (defScope sCheckWish) := ⟨rfl, rfl, rfl, by decide +kernel, rfl, by decide +kernel, by decide +kernel⟩
include T in
theorem ok_Laid_check_wish {f : Addr} {fd : FuncData} (F : FnP K "check_wish" "Laid.check_wish" sCheckWish f fd)
    (c_is_tie : Cal P w K mg base CX0 3 "is_tie" ["thing", "many"] spIsTie)  :
    FnOk P w K mg base CX0 4 f fd ["self", "wish"] (spCheckWish (cL K)) := by
  refine F.ok scCheckWish (fun vs H Q E h => ?_) (fun cdv A outer s H vs Q E hr h => ?_)
  · obtain ⟨x, t, d, l, b, al, m, mv, p, rfl, _⟩ := h; rfl
  · obtain ⟨x, t, d, l, b, al, m, mv, p, rfl, hl, ht, h0, hb, h1, h2, hz, hno, k⟩ := h
    refine ⟨_, PSs.nox (pss_cons (ps_if (pt_not (pt_val (pe_callF c_is_tie hr (by decide) (by rfl) (pa_cons (pv 1) (pa_cons (pe_op op_mul (pe_ix (ix_tupK K rfl) (pe_fldK K rfl (pv 0) rfl) pe_int (fun _ _ => rfl)) (pe_ix (ix_tupK K rfl) (pe_fldK K rfl (pv 0) rfl) pe_int (fun _ _ => rfl))) pa_nil))))) (pss_one ps_never) pss_nil)
      (pss_one (ps_if (pt_val (pe_callB (cr_any rfl) (by rfl) T.z_any (by decide +kernel) (pa_cons (pe_lock (pe_lc (own := [("one", 2)]) (g := gName 2) (tt := tYes) rfl scCheckWish.nd (pi_keys (pe_fldK K rfl (pv 0) rfl)) (blkOk_by (N := ["self", "wish", "one"]) (sc := defScope sCheckWish) (by decide +kernel)) (fun _ _ _ _ _ => (pg_name (i := 2) scCheckWish.nd rfl (Or.inl rfl))) (fun _ _ _ _ _ => pts_nil) (fun _ _ _ _ _ => (pe_or (pe_cmpR op_eq (pe_ix (ix_tupK K rfl) (pv 1) pe_int (fun _ _ => rfl)) (pe_ix (ix_tupK K rfl) (pv 2) pe_int (fun _ _ => rfl)) (nomark _)) (pe_one (pe_cmpR op_eq (pe_ix (ix_tupK K rfl) (pv 1) pe_int (fun _ _ => rfl)) (pe_ix (ix_tupK K rfl) (pv 2) pe_int (fun _ _ => rfl)) (nomark _))))))) pa_nil))) (pss_one ps_never) pss_nil))), ?_⟩
    have big : 100000 < sizeLine := by rw [sizeLine_eq]; omega
    obtain ⟨dx, sz, a, hob, hsz, ha⟩ := hl.ob
    walk_at "go"
    refine g_f2 hob T.cl_Laid T.nL1 rfl ?_
    walk_at "go"
    refine g_f2 hob T.cl_Laid T.nL1 rfl ?_
    walk_at "go"
    refine g_I (C := CMul) (.inl ⟨by omega, by omega⟩) ?_
    walk_at "go"
    refine ⟨t, p, l * b, rfl, ht, h1, h2, ?_⟩
    walk_at "go"
    refine g_lock hl.pl trivial fun od => ?_
    walk_at "go"
    refine g_f2 (by rw [upd_ne hl.ne]; exact hob) T.cl_Laid T.nL3 rfl ?_
    refine g_ik1 upd_same ?_
    intro D hD
    have sL : ∀ b xs, H b = some (.tup xs) → upd H d (.frz od (.dT (dm m))) b = some (.tup xs) := fun b xs e => by
      rw [upd_ne (ne_of e hl.pl (fun z => nomatch z))]; exact e
    refine lc_fm walk_keysT (fun i => m[i]?.map fun _ => V.bl false) hD (by rw [dm_len]; omega) (fun H' s => s _ _ upd_same) (fun i y H1 H2 hi s yy Kt Kf k1 k2 => ?_) (fun H1 s1 hl1 => ?_)
    · obtain ⟨rfl, kk, v, q, hkv, rfl, hq⟩ := yy
      unfold dm at hkv
      rw [List.getElem?_map] at hkv
      obtain ⟨e, he, hkv⟩ := Option.map_eq_some_iff.mp hkv
      cases hkv
      have hqp : Pt H2 q e.1 := hq
      obtain ⟨n1, n2⟩ := hno e (List.mem_of_getElem? he)
      have ht2 := s _ _ (sL _ _ ht)
      walk_at "go"
      refine ⟨rfl, ?_⟩
      walk_at "go"
      rw [decide_eq_false n1]
      walk_at "go"
      rw [decide_eq_false n2]
      exact k1 _ _ (by rw [he]; rfl) (fun _ _ h => h)
    · refine ⟨s1 _ _ upd_same, ?_⟩
      have sU : Same H (upd H1 d (.dT (dm m))) := same_unlock s1 hl.pl
      have nD : D ≠ d := fun z => by rw [z, upd_same] at hD; cases hD
      have e1 : (List.range (dm m).length).filterMap (fun i => m[i]?.map fun _ => V.bl false) = (m.map fun _ => false).map V.bl := by
        rw [fm_map m _ _ (dm_len m), List.map_map]; rfl
      rw [e1] at hl1
      have hl2 : upd H1 d (.dT (dm m)) D = some (.lst ((m.map fun _ => false).map V.bl)) := by rw [upd_ne nD]; exact hl1
      generalize (upd H1 d (.dT (dm m))) = H2 at sU hl2 ⊢
      walk_at "go"
      refine g_any hl2 ?_
      have e2 : (m.map fun _ => false).any id = false := by rw [List.any_map]; simp
      rw [e2]
      walk_at "go"
      exact k H2 sU
end
end Kx
set_option maxHeartbeats 4000000
namespace Kx
open PySem PySem.Spec PyProof.Rows L2

local macro_rules | `(tactic| walk_at "ht") => `(tactic| (repeat (first | assumption | exact upd_same | refine upd_old ?_ (by assumption) | refine Same.at_ (by assumption) ?_ | refine Fr.tup (by assumption) ?_)))
local macro_rules | `(tactic| walk_at "go1") => `(tactic| (first
  | ((with_reducible apply g_var); (focus rfl)) | with_reducible refine g_op ?_ | with_reducible refine g_c ?_ | with_reducible refine g_I0 ?_ | with_reducible refine g_eqI ?_ | with_reducible refine g_neI ?_
  | with_reducible refine g_cons ?_ | with_reducible refine g_nil ?_ | with_reducible refine g_tup ?_ | with_reducible refine g_lst ?_ | with_reducible refine g_bl ?_ | with_reducible refine g_test ?_
  | with_reducible refine g_B ?_ | with_reducible refine g_and ?_ | with_reducible refine g_or ?_ | with_reducible refine g_not ?_ | with_reducible refine g_andV ?_ | with_reducible refine g_orV ?_
  | with_reducible refine g_notV ?_ | with_reducible refine g_if ?_ | with_reducible refine g_cb ?_ | with_reducible refine g_call ?_ | with_reducible refine g_chain ?_ | with_reducible refine g_un ?_
  | with_reducible refine g_u ?_ | with_reducible refine g_seq ?_ | with_reducible refine g_next ?_ | with_reducible refine g_ret ?_ | with_reducible refine g_set ?_ | with_reducible refine g_ifS ?_
  | with_reducible refine g_drop ?_ | with_reducible refine g_asg ?_ | with_reducible refine g_name ?_ | with_reducible refine g_tc ?_ | with_reducible refine g_tn ?_ | with_reducible refine g_par ?_
  | with_reducible refine g_par3 ?_ | with_reducible refine g_p2 ?_ | with_reducible refine g_p3 ?_ | with_reducible refine g_fs ?_ | with_reducible refine g_fld ?_ | with_reducible refine g_m ?_
  | with_reducible refine g_mk ?_ | with_reducible refine g_dg ?_ | with_reducible refine g_dp ?_ | with_reducible refine g_din ?_ | with_reducible refine g_dni ?_ | with_reducible refine g_bm ?_
  | with_reducible refine g_mg ?_ | with_reducible refine g_il ?_ | with_reducible refine g_it ?_ | with_reducible refine g_ir ?_ | with_reducible refine g_ik ?_ | with_reducible refine g_for ?_
  | with_reducible refine g_lc ?_ | with_reducible refine g_ie ?_ | with_reducible refine g_iz ?_ | with_reducible refine g_yes ?_ | with_reducible refine g_retN ?_ | with_reducible refine g_gsub ?_ | with_reducible refine g_isN ?_ | with_reducible refine g_ntN ?_
  | with_reducible refine g_isiInt ?_ | with_reducible refine g_isiBool ?_ | with_reducible refine g_sl ?_ | with_reducible refine g_on ?_ | with_reducible refine g_os ?_ | ((with_reducible refine g_dsz ?_ ?_); (focus rfl); intro p hp)
  | ((with_reducible apply g_ixTt); (focus (walk_at "ht"; done)); (focus rfl)) | ((with_reducible apply g_ixLl); (focus (walk_at "ht"; done)); (focus rfl)) | ((with_reducible apply g_isiT); (focus (walk_at "ht"; done))) | ((with_reducible apply g_lnL); (focus (walk_at "ht"; done))) | ((with_reducible apply g_lnT); (focus (walk_at "ht"; done))) | ((with_reducible apply g_tTt); (focus (walk_at "ht"; done)); (focus rfl))
  | ((with_reducible apply g_tyL); (focus (walk_at "ht"; done))) | refine iteT ?_ | refine iteF ?_))
local macro_rules | `(tactic| walk_at "go") => `(tactic| (repeat (walk_at "go1")))
def spLaid (cl : Addr) : Sp := fun vs H Q _ => ∃ (x d : Addr) (l : Int) (b : Nat) (al : List Int) (m : Wy) (mv : Int), vs = [.ref x] ∧ LaidAt cl H x d l b al m mv ∧ m.length ≤ 1000 ∧
  ∀ H' r bs ws, Same H H' → H' r = some (.tup (bs.map V.ref)) → Pd EntA H' bs (ents m ws) → ws.Perm (m.map (·.1)) → ws.Pairwise leP → Q (.ref r) H'
theorem look_mem {m : Wy} {p : Int × Int} (h : p ∈ m.map (·.1)) : ∃ c, look m p = some c := by
  obtain ⟨e, he, rfl⟩ := List.mem_map.mp h
  unfold look
  cases h : m.find? fun e' => decide (e'.1 = e.1) with
  | some q => exact ⟨_, rfl⟩
  | none =>
    have := List.find?_eq_none.mp h e he
    simp at this
theorem ents_get (m : Wy) (ws : List (Int × Int)) (n : Nat) (h : n = ws.length) : (List.range n).filterMap (fun i => ws[i]?.map fun w => (w, (look m w).getD 0)) = ents m ws := fm_map ws _ n h
section
variable {P : Program} {w : World} {K : PySem.W.Frag} {mg : Str → Option Value} {base : Heap} (T : Tx K mg)
theorem scLaid : FnScope ["self", "wish"] ["self"] (defScope sLaid) := ⟨rfl, rfl, rfl, by decide +kernel, rfl, by decide +kernel, by decide +kernel⟩
include T in
theorem ok_Laid_laid {f : Addr} {fd : FuncData} (F : FnP K "laid" "Laid.laid" sLaid f fd)
      :
    FnOk P w K mg base CX0 1 f fd ["self"] (spLaid (cL K)) := by
  refine F.ok scLaid (fun vs H Q E h => ?_) (fun cdv A outer s H vs Q E hr h => ?_)
  · obtain ⟨x, d, l, b, al, m, mv, rfl, _⟩ := h; rfl
  · obtain ⟨x, d, l, b, al, m, mv, rfl, hl, hz, k⟩ := h
    refine ⟨_, PSs.nox (pss_one (ps_ret (pe_callTy call_tuple_of (by rfl) T.z_tuple (by decide +kernel) (pa_cons (pe_lc (own := [("wish", 1)]) (g := gName 1) (tt := tYes) rfl scLaid.nd (pi_list (pe_callB (cr_sortedDT rfl) (by rfl) T.z_sorted (by decide +kernel) (pa_cons (pe_fldK K rfl (pv 0) rfl) pa_nil))) (blkOk_by (N := ["self", "wish"]) (sc := defScope sLaid) (by decide +kernel)) (fun _ _ _ _ _ => (pg_name (i := 1) scLaid.nd rfl (Or.inl rfl))) (fun _ _ _ _ _ => pts_nil) (fun _ _ _ _ _ => (pe_tup (pa_cons (pv 1) (pa_cons (pe_dget (hu_of hr) (pe_fldK K rfl (pv 0) rfl) (pv 1) (fun _ _ => rfl)) pa_nil))))) pa_nil)))), ?_⟩
    have big : 100000 < sizeLine := by rw [sizeLine_eq]; omega
    obtain ⟨dx, sz, a, hob, hsz, ha⟩ := hl.ob
    walk_at "go"
    refine g_f2 hob T.cl_Laid T.nL3 rfl ?_
    walk_at "go"
    refine ⟨d, _, m.map (·.1), rfl, hl.pl, dm_keys m, fun bs ws q hbs hp hs hq => ?_⟩
    have s1 : Same H (upd H q (.lst (bs.map V.ref))) := same_new hq
    have hq1 : (upd H q (.lst (bs.map V.ref))) q = some (.lst (bs.map V.ref)) := upd_same
    have hbs1 := hbs.keep fun b xs e => s1 b _ e
    generalize (upd H q (.lst (bs.map V.ref))) = H1 at s1 hq1 hbs1 ⊢
    have hlw : ws.length = m.length := by rw [hp.length_eq, List.length_map]
    refine g_iL hq1 ?_
    intro D hD
    refine lc_st stEnt walk_list (fun i => ws[i]?.map fun w => (w, (look m w).getD 0)) hD (by rw [List.length_map, hbs.len]; omega) (fun H' s => SqL.of (s _ _ hq1)) (fun i y H2 H3 hi s yy Kt Kf k1 k2 => ?_) (fun H2 cs s2 hD2 hcs => ?_)
    · obtain ⟨rfl, hy⟩ := yy
      obtain ⟨c, rfl, hc⟩ := refs_at hy
      obtain ⟨p, hp1, hpt⟩ := hbs1.at_ hc
      obtain ⟨v, hv⟩ := look_mem (hp.mem_iff.mp (List.mem_of_getElem? hp1))
      walk_at "go"
      refine ⟨rfl, ?_⟩
      have s3 := s1.trans s
      walk_at "go"
      refine g_f2 (s3 _ _ hob) T.cl_Laid T.nL3 rfl ?_
      walk_at "go"
      refine g_dgT (s3 _ _ hl.pl) (s _ _ hpt) hv ?_
      walk_at "go"
      rename_i p9 hp9
      exact k1 p9 (p, (look m p).getD 0) _ (by rw [hp1]; rfl) ⟨c, by rw [hv]; exact upd_same, upd_old (s _ _ hpt) hp9⟩ (same_new hp9)
    · rw [ents_get m ws _ (by rw [List.length_map, hbs.len])] at hcs
      walk_at "go"
      refine ⟨D, _, rfl, .inl ⟨SqL.of hD2, fun r hr => ?_⟩⟩
      exact k _ r cs ws (same_snoc (s1.trans s2) hr) upd_same (hcs.same stEnt (same_new hr)) hp hs
end
end Kx
set_option maxHeartbeats 4000000
namespace Kx
open PySem PySem.Spec PyProof.Rows L2

local macro_rules | `(tactic| walk_at "ht") => `(tactic| (repeat (first | assumption | exact upd_same | refine upd_old ?_ (by assumption) | refine Same.at_ (by assumption) ?_ | refine Fr.tup (by assumption) ?_)))
local macro_rules | `(tactic| walk_at "go1") => `(tactic| (first
  | ((with_reducible apply g_var); (focus rfl)) | with_reducible refine g_op ?_ | with_reducible refine g_c ?_ | with_reducible refine g_I0 ?_ | with_reducible refine g_eqI ?_ | with_reducible refine g_neI ?_
  | with_reducible refine g_cons ?_ | with_reducible refine g_nil ?_ | with_reducible refine g_tup ?_ | with_reducible refine g_lst ?_ | with_reducible refine g_bl ?_ | with_reducible refine g_test ?_
  | with_reducible refine g_B ?_ | with_reducible refine g_and ?_ | with_reducible refine g_or ?_ | with_reducible refine g_not ?_ | with_reducible refine g_andV ?_ | with_reducible refine g_orV ?_
  | with_reducible refine g_notV ?_ | with_reducible refine g_if ?_ | with_reducible refine g_cb ?_ | with_reducible refine g_call ?_ | with_reducible refine g_chain ?_ | with_reducible refine g_un ?_
  | with_reducible refine g_u ?_ | with_reducible refine g_seq ?_ | with_reducible refine g_next ?_ | with_reducible refine g_ret ?_ | with_reducible refine g_set ?_ | with_reducible refine g_ifS ?_
  | with_reducible refine g_drop ?_ | with_reducible refine g_asg ?_ | with_reducible refine g_name ?_ | with_reducible refine g_tc ?_ | with_reducible refine g_tn ?_ | with_reducible refine g_par ?_
  | with_reducible refine g_par3 ?_ | with_reducible refine g_p2 ?_ | with_reducible refine g_p3 ?_ | with_reducible refine g_fs ?_ | with_reducible refine g_fld ?_ | with_reducible refine g_m ?_
  | with_reducible refine g_mk ?_ | with_reducible refine g_dg ?_ | with_reducible refine g_dp ?_ | with_reducible refine g_din ?_ | with_reducible refine g_dni ?_ | with_reducible refine g_bm ?_
  | with_reducible refine g_mg ?_ | with_reducible refine g_il ?_ | with_reducible refine g_it ?_ | with_reducible refine g_ir ?_ | with_reducible refine g_ik ?_ | with_reducible refine g_for ?_
  | with_reducible refine g_lc ?_ | with_reducible refine g_ie ?_ | with_reducible refine g_iz ?_ | with_reducible refine g_yes ?_ | with_reducible refine g_retN ?_ | with_reducible refine g_gsub ?_ | with_reducible refine g_isN ?_ | with_reducible refine g_ntN ?_
  | with_reducible refine g_isiInt ?_ | with_reducible refine g_isiBool ?_ | with_reducible refine g_sl ?_ | with_reducible refine g_on ?_ | with_reducible refine g_os ?_ | ((with_reducible refine g_dsz ?_ ?_); (focus rfl); intro p hp)
  | ((with_reducible apply g_ixTt); (focus (walk_at "ht"; done)); (focus rfl)) | ((with_reducible apply g_ixLl); (focus (walk_at "ht"; done)); (focus rfl)) | ((with_reducible apply g_isiT); (focus (walk_at "ht"; done))) | ((with_reducible apply g_lnL); (focus (walk_at "ht"; done))) | ((with_reducible apply g_lnT); (focus (walk_at "ht"; done))) | ((with_reducible apply g_tTt); (focus (walk_at "ht"; done)); (focus rfl))
  | ((with_reducible apply g_tyL); (focus (walk_at "ht"; done))) | refine iteT ?_ | refine iteF ?_))
local macro_rules | `(tactic| walk_at "go") => `(tactic| (repeat (walk_at "go1")))
def spLay (cl : Addr) : Sp := fun vs H Q _ => ∃ (x t d : Addr) (l : Int) (b : Nat) (al : List Int) (m : Wy) (mv : Int) (w : Int × Int), vs = [.ref x, .ref t] ∧ LaidAt cl H x d l b al m mv ∧ Pt H t w ∧ 0 < l ∧ l ≤ 12 ∧ al.Nodup ∧ al.length ≤ 1000 ∧ m.length ≤ 300 ∧ LOk l al m ∧ FreeAt l al m w ∧ w ∉ m.map (·.1) ∧
  ∀ H' d' m', Fr [x] H H' → H d' = none → LaidAt cl H' x d' l b al m' (mv + ((newR l al m w).row.length : Nat)) → m'.Perm (newM l al m w) → Q (.int ((newR l al m w).row.length : Nat)) H'
def wOfR (H : Hp) : V → Int × Int
  | .ref b => match H b with
    | some (.tup [.ref _, .ref q]) => prOf H q
    | _ => (0, 0)
  | _ => (0, 0)
theorem wOfR_of {l : Int} {H : Hp} {b : Addr} {w : Int × Int} (h : RowA l H b w) : wOfR H (.ref b) = w := by
  obtain ⟨p, q, h1, h2, h3⟩ := h
  unfold wOfR
  simp only [h1]
  exact prOf_of h3
theorem ents_fst (m : Wy) (ws : List (Int × Int)) : (ents m ws).map (·.1) = ws := by
  unfold ents
  rw [List.map_map]
  conv => rhs; rw [← List.map_id ws]
  rfl
theorem g_cut6 {s1 s2 s3 s4 s5 s6 s7 : TS} {D : Ends} {σ : L2.St} {H : Hp} (J : L2.St → Hp → Prop) (tail : ∀ σ' H', J σ' H' → s7 D σ' H') (first : ∀ N : L2.St → Hp → Prop, (∀ σ' H', J σ' H' → N σ' H') → tSeq s1 (tSeq s2 (tSeq s3 (tSeq s4 (tSeq s5 s6)))) { D with nx := N } σ H) :
    tSeq s1 (tSeq s2 (tSeq s3 (tSeq s4 (tSeq s5 (tSeq s6 s7))))) D σ H := first (s7 D) tail
theorem g_fa {K : PySem.W.Frag} {ta tv : TE} {rd : V → V → Hp → VK → Prop} {f : Str} {D : Ends} {σ : L2.St} {H : Hp} (q : ta σ H fun x H1 => ∃ a C dx fs v, x = .ref a ∧ H1 a = some (.ins C dx fs) ∧ Cls K C ∧ NoAttr K C f ∧ fs.lookup f = some v ∧
  tv σ H1 fun y H2 => rd v y H2 fun z H3 => ∃ dx' fs', H3 a = some (.ins C dx' fs') ∧ fs'.length < 1000 ∧ D.nx σ (upd H3 a (.ins C dx' (putF f z fs')))) : sFldAug K ta tv rd f D σ H := q
theorem g_cut1 {s1 s2 : TS} {D : Ends} {σ : L2.St} {H : Hp} (J : L2.St → Hp → Prop) (tail : ∀ σ' H', J σ' H' → s2 D σ' H') (first : ∀ N : L2.St → Hp → Prop, (∀ σ' H', J σ' H' → N σ' H') → s1 { D with nx := N } σ H) : tSeq s1 s2 D σ H := first (s2 D) tail
theorem g_cut2 {s1 s2 s3 : TS} {D : Ends} {σ : L2.St} {H : Hp} (J : L2.St → Hp → Prop) (tail : ∀ σ' H', J σ' H' → s3 D σ' H') (first : ∀ N : L2.St → Hp → Prop, (∀ σ' H', J σ' H' → N σ' H') → tSeq s1 s2 { D with nx := N } σ H) : tSeq s1 (tSeq s2 s3) D σ H := first (s3 D) tail
theorem g_mg1 {tt : V → Hp → Prop} {x : V} {H : Hp} {R : Prop} (h : tt x H) (q : R) : tt x H ∧ R := ⟨h, q⟩
section
variable {J : It} {n : Nat} {G : Hp → Prop} {Y : Nat → Hp → V → Hp → Prop} {g : TG} {tk tv : TE} {vs : List Nat} {σ : L2.St} {H1 : Hp} {D : Addr} {Qd : Hp → Prop}
theorem dct_it (w : Walk J n G Y) (Pv : Nat → Hp → Prop) (h0 : Pv 0 (upd H1 D (.dT []))) (hG : ∀ i H, i ≤ n → Pv i H → G H)
    (hs : ∀ i x H H', i < n → Pv i H → Y i H x H' → g x (wipe σ vs) H' fun σ2 H2 => wipe σ2 vs = wipe σ vs ∧ tk σ2 H2 fun y H4 => tv σ2 H4 fun z H5 => ∃ b kvs k, y = .ref b ∧ H5 b = some (.tup (List.map kV k)) ∧ H5 D = some (.dT kvs) ∧ kvs.length < sizeLine ∧ Pv (i + 1) (upd H5 D (.dT (putK kvs k z))))
    (hd : ∀ H, Pv n H → Qd H) :
    ∃ W : Nat → Nat → Hp → Prop, (∃ m, W 0 m (upd H1 D (.dT []))) ∧ ∀ i m H, W i m H →
      (J.stop i H ∧ Qd H) ∨ (J.go i H ∧ ∃ Nx : Hp → Prop, (∀ H', Nx H' → ∃ m', m' < m ∧ W (i + 1) m' H') ∧ ∀ x H', J.yld i H x H' → g x (wipe σ vs) H' fun σ2 H2 => wipe σ2 vs = wipe σ vs ∧
        tk σ2 H2 fun y H4 => tv σ2 H4 fun z H5 => ∃ b kvs k, y = .ref b ∧ H5 b = some (.tup (List.map kV k)) ∧ H5 D = some (.dT kvs) ∧ kvs.length < sizeLine ∧ Nx (upd H5 D (.dT (putK kvs k z)))) := by
  refine ⟨fun i m H => m = n - i ∧ i ≤ n ∧ Pv i H, ⟨n, by simp, Nat.zero_le _, h0⟩, ?_⟩
  rintro i m H ⟨rfl, hi, p⟩
  have q := hG i H hi p
  by_cases hlt : i < n
  · exact .inr ⟨w.goes i H hlt q, Pv (i + 1), fun H' p' => ⟨n - (i + 1), by omega, rfl, hlt, p'⟩, fun x H' y => hs i x H H' hlt p (w.yields i H x H' hlt q y)⟩
  · have e : i = n := by omega
    subst e
    exact .inl ⟨w.stops H q, hd H p⟩
theorem g_dct {wi : TI} {σ : L2.St} {H : Hp} {Q : VK} (q : wi σ H fun J H1 => ∀ D, H1 D = none → ∃ W : Nat → Nat → Hp → Prop, (∃ m, W 0 m (upd H1 D (.dT []))) ∧ ∀ i m H, W i m H →
    (J.stop i H ∧ Q (.ref D) H) ∨ (J.go i H ∧ ∃ Nx : Hp → Prop, (∀ H', Nx H' → ∃ m', m' < m ∧ W (i + 1) m' H') ∧ ∀ x H', J.yld i H x H' → g x (wipe σ vs) H' fun σ2 H2 => wipe σ2 vs = wipe σ vs ∧
      tk σ2 H2 fun y H4 => tv σ2 H4 fun z H5 => ∃ b kvs k, y = .ref b ∧ H5 b = some (.tup (List.map kV k)) ∧ H5 D = some (.dT kvs) ∧ kvs.length < sizeLine ∧ Nx (upd H5 D (.dT (putK kvs k z))))) : tDcT wi g tk tv vs σ H Q := q
end
theorem put_new {m : Wy} {p : Int × Int} {k : Int} (h : p ∉ m.map (·.1)) : put m p k = m ++ [(p, k)] := by
  unfold put
  rw [look_none h]
  rfl
theorem alv_at {al : List Int} {k : Int} (h : k ∈ nums al.length) : atI (al.map V.int) k = some (.int (alv al k)) := by
  obtain ⟨i, hi, rfl⟩ := mem_nums.mp h
  refine atI_nat ?_
  unfold alv
  rw [List.getElem?_map, List.getElem?_eq_getElem hi]
  simp [hi]
section
variable {P : Program} {w : World} {K : PySem.W.Frag} {mg : Str → Option Value} {base : Heap} (T : Tx K mg)
theorem scLay : FnScope ["self", "wish", "sizes", "alive", "rows", "colouring", "web", "found", "moved", "place", "order", "one", "colour", "boxes"] ["self", "wish"] (defScope sLay) := ⟨rfl, rfl, rfl, by decide +kernel, rfl, by decide +kernel, by decide +kernel⟩
include T in
theorem ok_Laid_lay {f : Addr} {fd : FuncData} (F : FnP K "lay" "Laid.lay" sLay f fd)
    (c_boxes_of : Cal P w K mg base CX0 1 "boxes_of" ["sizes", "wish"] spBoxesOf) (c_added : Cal P w K mg base CX0 4 "added" ["web", "colours", "colouring", "pair"] (spAdded K))  :
    FnOk P w K mg base CX0 5 f fd ["self", "wish"] (spLay (cL K)) := by
  refine F.ok scLay (fun vs H Q E h => ?_) (fun cdv A outer s H vs Q E hr h => ?_)
  · obtain ⟨x, t, d, l, b, al, m, mv, w', rfl, _⟩ := h; rfl
  · obtain ⟨x, t, d, l, b, al, m, mv, wi, rfl, hl, ht, l0, l1, hn, hal, hm, hk, hf, hw, k⟩ := h
    refine ⟨_, PSs.nox (pss_cons (ps_asg (pe_tup (pa_cons (pe_fldK K rfl (pv 0) rfl) (pa_cons (pe_fldK K rfl (pv 0) rfl) pa_nil))) (pg_tupK K rfl (n := 2) (by rfl) (pgs_cons (pg_name (i := 2) scLay.nd rfl (Or.inr rfl)) (pgs_cons (pg_name (i := 3) scLay.nd rfl (Or.inr rfl)) pgs_nil))))
      (pss_cons (ps_set (i := 4) scLay.nd rfl (Or.inl rfl) (pe_callB (cr_sortedPP hr) (by rfl) T.z_sorted (by decide +kernel) (pa_cons (pe_lock (pe_lc (own := [("one", 11)]) (g := gName 11) (tt := tYes) rfl scLay.nd (pi_keys (pe_fldK K rfl (pv 0) rfl)) (blkOk_by (N := ["self", "wish", "sizes", "alive", "rows", "colouring", "web", "found", "moved", "place", "order", "one", "colour", "boxes"]) (sc := defScope sLay) (by decide +kernel)) (fun _ _ _ _ _ => (pg_name (i := 11) scLay.nd rfl (Or.inl rfl))) (fun _ _ _ _ _ => pts_nil) (fun _ _ _ _ _ => (pe_tup (pa_cons (pe_callF c_boxes_of hr (by decide) (by rfl) (pa_cons (pv 2) (pa_cons (pv 11) pa_nil))) (pa_cons (pv 11) pa_nil)))))) pa_nil)))
      (pss_cons (ps_set (i := 5) scLay.nd rfl (Or.inl rfl) (pe_callTy call_tuple_of (by rfl) T.z_tuple (by decide +kernel) (pa_cons (pe_lc (own := [("boxes", 13), ("one", 11)]) (tt := tYes) rfl scLay.nd (pi_list (pv 4)) (blkOk_by (N := ["self", "wish", "sizes", "alive", "rows", "colouring", "web", "found", "moved", "place", "order", "one", "colour", "boxes"]) (sc := defScope sLay) (by decide +kernel)) (fun _ _ _ _ _ => (pg_tupK K rfl (n := 2) (by rfl) (pgs_cons (pg_name (i := 13) scLay.nd rfl (Or.inl rfl)) (pgs_cons (pg_name (i := 11) scLay.nd rfl (Or.inl rfl)) pgs_nil)))) (fun _ _ _ _ _ => pts_nil) (fun _ _ _ _ _ => (pe_mG ty_ft PySem.F.plainAttrs_tuple PySem.F.slot_tuple_index PySem.F.type_tuple_index (mt_tindexK K rfl) (pv 3) (pa_cons (pe_dget (hu_of hr) (pe_fldK K rfl (pv 0) rfl) (pv 11) (fun _ _ => rfl)) pa_nil)))) pa_nil)))
      (pss_cons (ps_set (i := 6) scLay.nd rfl (Or.inl rfl) (pe_callTy call_tuple_of (by rfl) T.z_tuple (by decide +kernel) (pa_cons (pe_lc (own := [("boxes", 13), ("one", 11)]) (tt := tYes) rfl scLay.nd (pi_list (pv 4)) (blkOk_by (N := ["self", "wish", "sizes", "alive", "rows", "colouring", "web", "found", "moved", "place", "order", "one", "colour", "boxes"]) (sc := defScope sLay) (by decide +kernel)) (fun _ _ _ _ _ => (pg_tupK K rfl (n := 2) (by rfl) (pgs_cons (pg_name (i := 13) scLay.nd rfl (Or.inl rfl)) (pgs_cons (pg_name (i := 11) scLay.nd rfl (Or.inl rfl)) pgs_nil)))) (fun _ _ _ _ _ => pts_nil) (fun _ _ _ _ _ => (pv 13))) pa_nil)))
      (pss_cons (ps_asg (pe_callF c_added hr (by decide) (by rfl) (pa_cons (pv 6) (pa_cons (pe_callB (call_lenK K rfl) (by rfl) T.z_len (by decide +kernel) (pa_cons (pv 3) pa_nil)) (pa_cons (pv 5) (pa_cons (pe_callF c_boxes_of hr (by decide) (by rfl) (pa_cons (pv 2) (pa_cons (pv 1) pa_nil))) pa_nil))))) (pg_tupK K rfl (n := 3) (by rfl) (pgs_cons (pg_name (i := 7) scLay.nd rfl (Or.inl rfl)) (pgs_cons (pg_name (i := 8) scLay.nd rfl (Or.inl rfl)) (pgs_cons (pg_name (i := 9) scLay.nd rfl (Or.inl rfl)) pgs_nil)))))
      (pss_cons (ps_set (i := 10) scLay.nd rfl (Or.inl rfl) (pe_op op_cat (pe_op op_cat (pe_lc (own := [("boxes", 13), ("one", 11)]) (tt := tYes) rfl scLay.nd (pi_list (pe_slice sl_list (pv 4) po_none (po_some (pv 9)))) (blkOk_by (N := ["self", "wish", "sizes", "alive", "rows", "colouring", "web", "found", "moved", "place", "order", "one", "colour", "boxes"]) (sc := defScope sLay) (by decide +kernel)) (fun _ _ _ _ _ => (pg_tupK K rfl (n := 2) (by rfl) (pgs_cons (pg_name (i := 13) scLay.nd rfl (Or.inl rfl)) (pgs_cons (pg_name (i := 11) scLay.nd rfl (Or.inl rfl)) pgs_nil)))) (fun _ _ _ _ _ => pts_nil) (fun _ _ _ _ _ => (pv 11))) (pe_lst (pa_cons (pv 1) pa_nil))) (pe_lc (own := [("boxes", 13), ("one", 11)]) (tt := tYes) rfl scLay.nd (pi_list (pe_slice sl_list (pv 4) (po_some (pv 9)) po_none)) (blkOk_by (N := ["self", "wish", "sizes", "alive", "rows", "colouring", "web", "found", "moved", "place", "order", "one", "colour", "boxes"]) (sc := defScope sLay) (by decide +kernel)) (fun _ _ _ _ _ => (pg_tupK K rfl (n := 2) (by rfl) (pgs_cons (pg_name (i := 13) scLay.nd rfl (Or.inl rfl)) (pgs_cons (pg_name (i := 11) scLay.nd rfl (Or.inl rfl)) pgs_nil)))) (fun _ _ _ _ _ => pts_nil) (fun _ _ _ _ _ => (pv 11)))))
      (pss_cons (ps_fld (pv 0) (pe_dcT (hu_of hr) (own := [("one", 11), ("colour", 12)]) rfl scLay.nd (pi_zipLT (by rfl) T.z_zip (pa_cons (pv 10) (pa_cons (pv 7) pa_nil))) (blkOk_by (N := ["self", "wish", "sizes", "alive", "rows", "colouring", "web", "found", "moved", "place", "order", "one", "colour", "boxes"]) (sc := defScope sLay) (by decide +kernel)) (fun _ _ _ _ _ => (pg_tupK K rfl (n := 2) (by rfl) (pgs_cons (pg_name (i := 11) scLay.nd rfl (Or.inl rfl)) (pgs_cons (pg_name (i := 12) scLay.nd rfl (Or.inl rfl)) pgs_nil)))) (fun _ _ _ _ _ => (pv 11)) (fun _ _ _ _ _ => (pe_ix (ix_tupK K rfl) (pv 3) (pv 12) (fun _ _ => rfl)))) rfl)
      (pss_cons (ps_fldaug (pv 0) (pe_callB (call_lenK K rfl) (by rfl) T.z_len (by decide +kernel) (pa_cons (pv 8) pa_nil)) in_add)
      (pss_one (ps_ret (pe_callB (call_lenK K rfl) (by rfl) T.z_len (by decide +kernel) (pa_cons (pv 8) pa_nil)))))))))))), ?_⟩
    have big : 100000 < sizeLine := by rw [sizeLine_eq]; omega
    obtain ⟨dx, sz, a, hob, hsz, ha⟩ := hl.ob
    refine g_cut2 (fun σ' H' => Same H H' ∧ ∃ (p1 : Addr) (cs : List Addr) (ws : List (Int × Int)), H' p1 = some (.lst (cs.map V.ref)) ∧ Pd (RowA l) H' cs ws ∧ ws.Perm (m.map (·.1)) ∧
      σ' = [some (.ref x), some (.ref t), some (.ref sz), some (.ref a), some (.ref p1), none, none, none, none, none, none, none, none, none]) ?_ (fun NX tail => ?_)
    · rintro σ' H4 ⟨sA, p1, cs, ws, hr4, hrow4, hws, rfl⟩
      have hLp : (ents m ws).Perm m := ents_perm hk.kn hws
      have hLk := hk.perm hLp
      have hLws : (ents m ws).map (·.1) = ws := ents_fst m ws
      have hlen : cs.length = (ents m ws).length := by rw [hrow4.len]; unfold ents; rw [List.length_map]
      have hwl : ws.length = (ents m ws).length := by unfold ents; rw [List.length_map]
      have hLm : (ents m ws).length ≤ 300 := by rw [hLp.length_eq]; exact hm
      have hLat : ∀ i, (ents m ws)[i]? = ws[i]?.map fun w => (w, (look m w).getD 0) := fun i => List.getElem?_map ..
      generalize hLdef : ents m ws = L at hLp hLk hLws hlen hwl hLm hLat
      have hfL : FreeAt l al L wi := fun s => by
        obtain ⟨kk, h1, h2⟩ := hf s
        exact ⟨kk, h1, by unfold fre at *; rw [hit_perm hk.pr hLp]; exact h2⟩
      have hnp : newR l al L wi = newR l al m wi := newR_perm hk hLp wi
      have hnm : (newM l al L wi).Perm (newM l al m wi) := newM_perm hk hLp wi
      have hcl : (cs.map V.ref).length = L.length := by rw [List.length_map, hlen]
      have hl4 := hl.same sA
      have ha4 := (Fr.of_same (W := []) sA).ft ha
      refine g_cut2 (fun σ' H' => Same H4 H' ∧ ∃ (tc tw : Addr), H' tc = some (.tup ((colOf al L).map V.int)) ∧ Tp H' tw (webOf l L) ∧
        σ' = [some (.ref x), some (.ref t), some (.ref sz), some (.ref a), some (.ref p1), some (.ref tc), some (.ref tw), none, none, none, none, none, none, none]) ?_ (fun NX tail => ?_)
      · rintro σ' H8 ⟨s48, tc, tw, htc8, htw8, rfl⟩
        have sB := sA.trans s48
        have hpl := put_num hLk hn hfL
        refine g_cut1 (fun σ' H' => Same H8 H' ∧ ∃ (f mv' : Addr) (place : Nat) (mo : List Int), place ≤ L.length ∧ H' f = some (.tup ((((swl (colOf al L) (wPut (webOf l L) (colOf al L) al.length (bx l wi)).row (wPut (webOf l L) (colOf al L) al.length (bx l wi)).one (wPut (webOf l L) (colOf al L) al.length (bx l wi)).other).take place ++ [(wPut (webOf l L) (colOf al L) al.length (bx l wi)).col]) ++ (swl (colOf al L) (wPut (webOf l L) (colOf al L) al.length (bx l wi)).row (wPut (webOf l L) (colOf al L) al.length (bx l wi)).one (wPut (webOf l L) (colOf al L) al.length (bx l wi)).other).drop place).map V.int)) ∧
            H' mv' = some (.lst (mo.map V.int)) ∧ mo.length = (wPut (webOf l L) (colOf al L) al.length (bx l wi)).row.length ∧
            σ' = [some (.ref x), some (.ref t), some (.ref sz), some (.ref a), some (.ref p1), some (.ref tc), some (.ref tw), some (.ref f), some (.ref mv'), some (.int place), none, none, none, none]) ?_ (fun NX tail => ?_)
        · rintro σ' H9 ⟨s89, f, mv', place, mo, hpl9, hf9, hmv9, hmo9, rfl⟩
          have sD := sB.trans s89
          have s49 := s48.trans s89
          have hr99 := s49 _ _ hr4
          have hrow9 := hrow4.same (stRow l) s49
          generalize hR : wPut (webOf l L) (colOf al L) al.length (bx l wi) = R at hpl hf9 hmo9
          generalize hcs2 : swl (colOf al L) R.row R.one R.other = cs2 at hf9
          have hcs2l : cs2.length = L.length := by rw [← hcs2, swl_len, colOf_len]
          refine g_cut1 (fun σ' H' => Same H H' ∧ ∃ (pO f mv' : Addr) (bO : List Addr) (ord : List (Int × Int)) (fnd mo : List Int) (x4 x5 x6 x9 : Option V), H' pO = some (.lst (bO.map V.ref)) ∧ Prs H' bO ord ∧ H' f = some (.tup (fnd.map V.int)) ∧ H' mv' = some (.lst (mo.map V.int)) ∧ mo.length = (newR l al m wi).row.length ∧
      ord.length = fnd.length ∧ ord.length ≤ 400 ∧ (∀ k ∈ fnd, k ∈ nums al.length) ∧ (ord.zip (fnd.map (alv al))).Perm (newM l al m wi) ∧
      σ' = [some (.ref x), some (.ref t), some (.ref sz), some (.ref a), x4, x5, x6, some (.ref f), some (.ref mv'), x9, some (.ref pO), none, none, none]) ?_ (fun NX tail => ?_)
          · rintro σ' H1 ⟨sE, pO, f, mv', bO, ord, fnd, mo, x4, x5, x6, x9, hO, hbO, hf1, hmv1, hmo, hlo, hl400, hfn, hperm, rfl⟩
            have ha1 := (Fr.of_same (W := []) sE).ft ha
            have hlz : (ord.zip (fnd.map (alv al))).map (·.1) = ord := by
              rw [List.map_fst_zip]
              rw [List.length_map]; omega
            have hnd : ord.Nodup := by
              rw [← hlz]
              exact (hperm.map _).nodup_iff.mpr (newM_ok hk hn hf hw).kn
            have hzl : (ord.zip (fnd.map (alv al))).length = ord.length := by rw [List.length_zip, List.length_map, ← hlo, Nat.min_self]
            have hbl : bO.length = ord.length := hbO.len
            walk_at "go"
            refine g_dct ?_
            walk_at "go"
            refine g_iz1 hO hf1 ?_
            intro D hD
            refine dct_it (walk_zip2 (by rw [List.length_map, List.length_map, hbl, hlo])) (fun i H' => Same H1 H' ∧ H' D = some (.dT (dm ((ord.zip (fnd.map (alv al))).take i)))) ⟨same_new hD, upd_same⟩ (fun i H' _ h => ⟨h.1 _ _ hO, h.1 _ _ hf1⟩) (fun i y H2 H3 hi h yy => ?_) (fun H2 h => ?_)
            · obtain ⟨s2, hD2⟩ := h
              obtain ⟨T', u, v, rfl, hT, rfl, hu, hv⟩ := yy
              have hio : i < ord.length := by rw [List.length_map, hbl] at hi; exact hi
              obtain ⟨bu, rfl, hbu⟩ := refs_at hu
              obtain ⟨kk, rfl, hkk⟩ := ints_at hv
              obtain ⟨po, hpo, hpt⟩ := hbO.at_ hbu
              have hkm := hfn kk (List.mem_of_getElem? hkk)
              have hzi : (ord.zip (fnd.map (alv al)))[i]? = some (po, alv al kk) := by
                rw [List.getElem?_zip_eq_some]
                exact ⟨hpo, by rw [List.getElem?_map, hkk]; rfl⟩
              have htk : (ord.zip (fnd.map (alv al))).take (i + 1) = (ord.zip (fnd.map (alv al))).take i ++ [(po, alv al kk)] := by rw [List.take_succ, hzi]; rfl
              have hnew : po ∉ ((ord.zip (fnd.map (alv al))).take i).map (·.1) := by
                rw [List.map_take, hlz]
                intro hm'
                have q := hnd.sublist (List.take_sublist (i + 1) ord)
                rw [List.take_succ, hpo] at q
                exact (List.nodup_append.mp q).2.2 po hm' po (by simp) rfl
              have s3 : Same H2 (upd H2 T' (.tup [.ref bu, .int kk])) := same_new hT
              have hT1 : (upd H2 T' (.tup [.ref bu, .int kk])) T' = some (.tup [.ref bu, .int kk]) := upd_same
              generalize (upd H2 T' (.tup [.ref bu, .int kk])) = H3 at s3 hT1 ⊢
              have s13 := s2.trans s3
              walk_at "go"
              refine ⟨rfl, ?_⟩
              walk_at "go"
              refine g_ixT ((Fr.of_same (W := []) s13).ft ha1).sq (alv_at hkm) ?_
              refine ⟨bu, _, pk po, rfl, pt_key (s13 _ _ hpt), s3 _ _ hD2, by rw [dm_len, List.length_take]; omega, ?_⟩
              refine ⟨fun b o e => ?_, ?_⟩
              · have nb : b ≠ D := fun z => by rw [z, hD] at e; cases e
                rw [upd_ne nb]; exact s13 _ _ e
              · rw [dm_put, put_new hnew, htk]; exact upd_same
            · obtain ⟨s2, hD2⟩ := h
              rw [List.length_map, hbl, List.take_of_length_le (by rw [hzl]; exact Nat.le_refl _)] at hD2
              have hob2 := s2 _ _ (sE _ _ hob)
              walk_at "go"
              refine g_fs2 hob2 T.cl_Laid T.nL3 (Nat.le_of_ble_eq_true rfl) ?_
              have hDx : D ≠ x := fun z => by rw [z, sE _ _ hob] at hD; cases hD
              have f1 : Fr [x] H2 (upd H2 x (.ins (cL K) dx (putF "kept_planes" (.ref D) [("kept_sizes", .ref sz), ("kept_alive", .ref a), ("kept_planes", .ref d), ("kept_moved", .int mv)]))) := Fr.refl.mut hob2 (fun z => z) (.inl (by simp))
              have hob3 : (upd H2 x (.ins (cL K) dx (putF "kept_planes" (.ref D) [("kept_sizes", .ref sz), ("kept_alive", .ref a), ("kept_planes", .ref d), ("kept_moved", .int mv)]))) x = some (.ins (cL K) dx [("kept_sizes", .ref sz), ("kept_alive", .ref a), ("kept_planes", .ref D), ("kept_moved", .int mv)]) := upd_same
              have hmx : mv' ≠ x := fun z => by rw [z, sE _ _ hob] at hmv1; cases hmv1
              have hmv3 := f1.at_ (s2 _ _ hmv1) (by simpa using hmx)
              have hD3 := f1.at_ hD2 (by simpa using hDx)
              generalize (upd H2 x (.ins (cL K) dx (putF "kept_planes" (.ref D) [("kept_sizes", .ref sz), ("kept_alive", .ref a), ("kept_planes", .ref d), ("kept_moved", .int mv)]))) = H3 at f1 hob3 hmv3 hD3 ⊢
              dsimp only
              refine g_seq ?_
              refine g_fa ?_
              walk_at "go"
              refine ⟨x, cL K, dx, _, .int mv, rfl, hob3, T.cl_Laid, T.nL4, rfl, ?_⟩
              walk_at "go"
              refine ⟨mv, _, rfl, rfl, ?_⟩
              refine ⟨dx, _, hob3, Nat.le_of_ble_eq_true rfl, ?_⟩
              rw [List.length_map]
              have f2 : Fr [x] H2 (upd H3 x (.ins (cL K) dx (putF "kept_moved" (.int (mv + (mo.length : Nat))) [("kept_sizes", .ref sz), ("kept_alive", .ref a), ("kept_planes", .ref D), ("kept_moved", .int mv)]))) := f1.mut hob3 (fun z => z) (.inl (by simp))
              have hob4 : (upd H3 x (.ins (cL K) dx (putF "kept_moved" (.int (mv + (mo.length : Nat))) [("kept_sizes", .ref sz), ("kept_alive", .ref a), ("kept_planes", .ref D), ("kept_moved", .int mv)]))) x = some (.ins (cL K) dx [("kept_sizes", .ref sz), ("kept_alive", .ref a), ("kept_planes", .ref D), ("kept_moved", .int (mv + (mo.length : Nat)))]) := upd_same
              have hmv4 : (upd H3 x (.ins (cL K) dx (putF "kept_moved" (.int (mv + (mo.length : Nat))) [("kept_sizes", .ref sz), ("kept_alive", .ref a), ("kept_planes", .ref D), ("kept_moved", .int mv)]))) mv' = some (.lst (mo.map V.int)) := f2.at_ (s2 _ _ hmv1) (by simpa using hmx)
              have hD4 := f2.at_ hD2 (by simpa using hDx)
              generalize (upd H3 x (.ins (cL K) dx (putF "kept_moved" (.int (mv + (mo.length : Nat))) [("kept_sizes", .ref sz), ("kept_alive", .ref a), ("kept_planes", .ref D), ("kept_moved", .int mv)]))) = H4 at f2 hob4 hmv4 hD4 ⊢
              walk_at "go"
              rw [List.length_map, hmo]
              rw [hmo] at hob4
              have sE2 := sE.trans s2
              exact k H4 D _ ((Fr.of_same sE2).trans f2) (same_none sE hD) ⟨⟨dx, sz, a, hob4, f2.tup (sE2 _ _ hsz), f2.ft ((Fr.of_same (W := []) sE2).ft ha)⟩, hD4⟩ hperm
          · walk_at "go"
            refine g_no ?_
            refine g_pt ?_
            walk_at "go"
            refine g_pi ?_
            refine ⟨p1, _, rfl, SqL.of hr99, fun pS hpS => ?_⟩
            rw [cut_take, ← List.map_take]
            have s10 : Same H9 (upd H9 pS (.lst ((cs.take place).map V.ref))) := same_new hpS
            have hS : (upd H9 pS (.lst ((cs.take place).map V.ref))) pS = some (.lst ((cs.take place).map V.ref)) := upd_same
            generalize (upd H9 pS (.lst ((cs.take place).map V.ref))) = H10 at s10 hS ⊢
            have hrowT := (hrow9.same (stRow l) s10).take place
            refine g_iL hS ?_
            intro D4 hD4n
            have hctl : ((cs.take place).map V.ref).length = (ws.take place).length := by rw [List.length_map, hrowT.len]
            refine lc_prs walk_list (fun i => (ws.take place)[i]?.map id) hD4n (by rw [hctl, List.length_take]; omega) (fun H' s => SqL.of (s _ _ hS)) (fun i y H11 H12 hi s yy Kt Kf k1 k2 => ?_) (fun H11 s11 hl11 => ?_)
            · obtain ⟨rfl, hy⟩ := yy
              obtain ⟨c, rfl, hc⟩ := refs_at hy
              obtain ⟨wv, hwv, p, q, hr1, hr2, hr3⟩ := hrowT.at_ hc
              have hrc := s _ _ hr1
              walk_at "go"
              refine ⟨rfl, ?_⟩
              walk_at "go"
              exact k1 q wv _ (by rw [hwv]; rfl) (s _ _ hr3) (fun _ _ h => h)
            rw [fm_map (ws.take place) id _ hctl, List.map_id] at hl11
            obtain ⟨b1, hD4, hb1⟩ := hl11
            walk_at "go"
            rename_i pw hpw
            have s12 : Same H11 (upd H11 pw (.lst [.ref t])) := same_new hpw
            refine ⟨D4, pw, b1.map V.ref, [.ref t], rfl, rfl, s12 _ _ hD4, upd_same, by rw [List.length_map, hb1.len, List.length_take]; show min place ws.length + 1 ≤ sizeLine; omega, fun pC hpC => ?_⟩
            have s13 := same_snoc s12 hpC (o := .lst (b1.map V.ref ++ [.ref t]))
            have hpC1 : (upd (upd H11 pw (.lst [.ref t])) pC (.lst (b1.map V.ref ++ [.ref t]))) pC = some (.lst (b1.map V.ref ++ [.ref t])) := upd_same
            generalize (upd (upd H11 pw (.lst [.ref t])) pC (.lst (b1.map V.ref ++ [.ref t]))) = H13 at s13 hpC1 ⊢
            have s913 : Same H9 H13 := s10.trans (s11.trans s13)
            have hr13 := s913 _ _ hr99
            walk_at "go"
            refine g_pt ?_
            walk_at "go"
            refine g_pi ?_
            refine g_no ?_
            refine ⟨p1, _, rfl, SqL.of hr13, fun pU hpU => ?_⟩
            rw [cut_drop, ← List.map_drop]
            have s14 : Same H13 (upd H13 pU (.lst ((cs.drop place).map V.ref))) := same_new hpU
            have hU : (upd H13 pU (.lst ((cs.drop place).map V.ref))) pU = some (.lst ((cs.drop place).map V.ref)) := upd_same
            generalize (upd H13 pU (.lst ((cs.drop place).map V.ref))) = H14 at s14 hU ⊢
            have hrowD := (hrow9.same (stRow l) (s913.trans s14)).drop place
            refine g_iL hU ?_
            intro D5 hD5n
            have hcdl : ((cs.drop place).map V.ref).length = (ws.drop place).length := by rw [List.length_map, hrowD.len]
            refine lc_prs walk_list (fun i => (ws.drop place)[i]?.map id) hD5n (by rw [hcdl, List.length_drop]; omega) (fun H' s => SqL.of (s _ _ hU)) (fun i y H15 H16 hi s yy Kt Kf k1 k2 => ?_) (fun H15 s15 hl15 => ?_)
            · obtain ⟨rfl, hy⟩ := yy
              obtain ⟨c, rfl, hc⟩ := refs_at hy
              obtain ⟨wv, hwv, p, q, hr1, hr2, hr3⟩ := hrowD.at_ hc
              have hrc := s _ _ hr1
              walk_at "go"
              refine ⟨rfl, ?_⟩
              walk_at "go"
              exact k1 q wv _ (by rw [hwv]; rfl) (s _ _ hr3) (fun _ _ h => h)
            rw [fm_map (ws.drop place) id _ hcdl, List.map_id] at hl15
            obtain ⟨b2, hD5, hb2⟩ := hl15
            have s1315 := s14.trans s15
            refine ⟨pC, D5, b1.map V.ref ++ [.ref t], b2.map V.ref, rfl, rfl, s1315 _ _ hpC1, hD5, by rw [List.length_append, List.length_map, List.length_map, hb1.len, hb2.len, List.length_take, List.length_drop]; show min place ws.length + 1 + (ws.length - place) ≤ sizeLine; omega, fun pO hpO => ?_⟩
            have eO : b1.map V.ref ++ [V.ref t] ++ b2.map V.ref = (b1 ++ [t] ++ b2).map V.ref := by simp
            rw [eO]
            have s16 := same_snoc (s1315) hpO (o := .lst ((b1 ++ [t] ++ b2).map V.ref))
            have hO : (upd H15 pO (.lst ((b1 ++ [t] ++ b2).map V.ref))) pO = some (.lst ((b1 ++ [t] ++ b2).map V.ref)) := upd_same
            have hb2' : Prs (upd H15 pO (.lst ((b1 ++ [t] ++ b2).map V.ref))) b2 (ws.drop place) := hb2.keep fun b xs e => upd_old e hpO
            generalize (upd H15 pO (.lst ((b1 ++ [t] ++ b2).map V.ref))) = H17 at s16 hO hb2' ⊢
            have s1117 := s13.trans s16
            have s917 := s913.trans s16
            have sE := sD.trans s917
            have hob17 : Prs H17 (b1 ++ [t] ++ b2) (ws.take place ++ [wi] ++ ws.drop place) := ((hb1.keep fun b xs e => s1117 b _ e).snoc (sE _ _ ht)).app hb2'
            have hf17 := s917 _ _ hf9
            have hmv17 := s917 _ _ hmv9
            have hl17 := hl.same sE
            have ha17 := (Fr.of_same (W := []) sE).ft ha
            walk_at "go"
            refine tail _ _ ⟨sE, pO, f, mv', b1 ++ [t] ++ b2, ws.take place ++ [wi] ++ ws.drop place, cs2.take place ++ [R.col] ++ cs2.drop place, mo, _, _, _, _, hO, hob17, hf17, hmv17, by rw [hmo9, ← hpl.2.2.1, hnp], ?_, ?_, ?_, ?_, rfl⟩
            · simp only [List.length_append, List.length_take, List.length_drop, hcs2l, hwl]; rfl
            · simp only [List.length_append, List.length_take, List.length_drop, hwl]; show min place L.length + 1 + (L.length - place) ≤ 400; omega
            · intro kk hkk
              have hin : ∀ kk ∈ cs2, kk ∈ nums al.length := by
                intro kk hkk
                rw [← hcs2] at hkk
                unfold swl at hkk
                obtain ⟨i, hi, rfl⟩ := List.mem_map.mp hkk
                rw [List.mem_range, colOf_len] at hi
                exact (hpl.2.2.2 i hi).1
              rcases List.mem_append.mp hkk with h | h
              · rcases List.mem_append.mp h with h | h
                · exact hin _ (List.mem_of_mem_take h)
                · rw [List.mem_singleton] at h; rw [h]; exact hpl.1
              · exact hin _ (List.mem_of_mem_drop h)
            · have z := lay_perm hLk hn hfL cs2 R hR.symm hcs2.symm place
              rw [hLws] at z
              exact z.trans hnm
        · walk_at "go"
          refine g_lnS ((Fr.of_same (W := []) sB).ft ha).sq ?_
          walk_at "go"
          refine ⟨sz, t, l, b, wi.1, wi.2, rfl, sB _ _ hsz, sB _ _ ht, l0, l1, fun tb htb => ?_⟩
          walk_at "go"
          have sC : Same H (upd H8 tb (.tup [.int (wi.1.fdiv l), .int (wi.2.fdiv l)])) := same_snoc sB htb
          have s89 : Same H8 (upd H8 tb (.tup [.int (wi.1.fdiv l), .int (wi.2.fdiv l)])) := same_new htb
          refine ⟨tw, tc, tb, al.length, webOf l L, colOf al L, bx l wi, by rw [List.length_map]; rfl, htw8.fr (Fr.of_same (W := []) s89), s89 _ _ htc8, by rw [colOf_len, webOf_len], web_proper hLk, upd_same, hal, by rw [webOf_len]; omega, free_num hLk hn hfL false, free_num hLk hn hfL true, fun H9 r f mv' place mo s9 hr9 hpl9 hf9 hmv9 hmo9 => ?_⟩
          walk_at "go"
          rw [webOf_len] at hpl9
          exact tail _ _ ⟨(s89).trans s9, f, mv', place, mo, hpl9, hf9, hmv9, hmo9, rfl⟩
      · have hLi : ∀ (i : Nat) (wv : Int × Int), ws[i]? = some wv → ∃ c, look m wv = some c ∧ c ∈ al ∧ L[i]? = some (wv, c) := fun i wv h => by
          obtain ⟨c, hc⟩ := look_mem (hws.mem_iff.mp (List.mem_of_getElem? h))
          refine ⟨c, hc, hk.col _ (look_some hc), ?_⟩
          rw [hLat, h]
          simp [hc]
        walk_at "go"
        refine g_iL hr4 ?_
        intro D2 hD2n
        refine lc_fm walk_list (fun i => L[i]?.map fun e => V.int ((pos al e.2 : Nat) : Int)) hD2n (by rw [hcl]; omega) (fun H' s => SqL.of (s _ _ hr4)) (fun i y H5 H6 hi s yy Kt Kf k1 k2 => ?_) (fun H5 s5 hl5 => ?_)
        · obtain ⟨rfl, hy⟩ := yy
          obtain ⟨c, rfl, hc⟩ := refs_at hy
          obtain ⟨wv, hwv, p, q, hr1, hr2, hr3⟩ := hrow4.at_ hc
          obtain ⟨cc, hcc, hca, hLc⟩ := hLi i wv hwv
          have hrc := s _ _ hr1
          walk_at "go"
          refine ⟨rfl, ?_⟩
          walk_at "go"
          refine g_mg1 ⟨a, _, rfl, (Fr.of_same (W := []) s).ft ha4⟩ ?_
          walk_at "go"
          obtain ⟨_, _, _, hob5, _, _⟩ := (hl4.same s).ob
          refine g_f2 hob5 T.cl_Laid T.nL3 rfl ?_
          walk_at "go"
          refine g_dgT (s _ _ hl4.pl) (s _ _ hr3) hcc ?_
          walk_at "go"
          refine ⟨a, al, cc, pos al cc, rfl, rfl, ((Fr.of_same (W := []) s).ft ha4).sq, pos_get hca, fun j hj => pos_first hj, ?_⟩
          exact k1 _ _ (by rw [hLc]; rfl) (fun _ _ h => h)
        have e5 : (List.range (cs.map V.ref).length).filterMap (fun i => L[i]?.map fun e => V.int ((pos al e.2 : Nat) : Int)) = (colOf al L).map V.int := by
          rw [fm_map L _ _ hcl]
          unfold colOf
          rw [List.map_map]; rfl
        rw [e5] at hl5
        walk_at "go"
        refine ⟨D2, _, rfl, .inl ⟨SqL.of hl5, fun tc htc => ?_⟩⟩
        have s6 : Same H4 (upd H5 tc (.tup ((colOf al L).map V.int))) := same_snoc s5 htc
        have htc6 : (upd H5 tc (.tup ((colOf al L).map V.int))) tc = some (.tup ((colOf al L).map V.int)) := upd_same
        generalize (upd H5 tc (.tup ((colOf al L).map V.int))) = H6 at s6 htc6 ⊢
        have hr6 := s6 _ _ hr4
        have hrow6 := hrow4.same (stRow l) s6
        walk_at "go"
        refine g_iL hr6 ?_
        intro D3 hD3n
        refine lc_prs walk_list (fun i => L[i]?.map fun e => bx l e.1) hD3n (by rw [hcl]; omega) (fun H' s => SqL.of (s _ _ hr6)) (fun i y H7 H8 hi s yy Kt Kf k1 k2 => ?_) (fun H7 s7 hl7 => ?_)
        · obtain ⟨rfl, hy⟩ := yy
          obtain ⟨c, rfl, hc⟩ := refs_at hy
          obtain ⟨wv, hwv, p, q, hr1, hr2, hr3⟩ := hrow6.at_ hc
          obtain ⟨cc, hcc, hca, hLc⟩ := hLi i wv hwv
          have hrc := s _ _ hr1
          walk_at "go"
          refine ⟨rfl, ?_⟩
          walk_at "go"
          exact k1 p (bx l wv) _ (by rw [hLc]; rfl) (s _ _ hr2) (fun _ _ h => h)
        have e7 : (List.range (cs.map V.ref).length).filterMap (fun i => L[i]?.map fun e => bx l e.1) = webOf l L := fm_map L _ _ hcl
        rw [e7] at hl7
        obtain ⟨wb, hD37, hwb⟩ := hl7
        walk_at "go"
        refine ⟨D3, _, rfl, .inl ⟨SqL.of hD37, fun tw htw => ?_⟩⟩
        have s8 : Same H6 (upd H7 tw (.tup (wb.map V.ref))) := same_snoc s7 htw
        have htw8 : Tp (upd H7 tw (.tup (wb.map V.ref))) tw (webOf l L) := ⟨wb, upd_same, hwb.keep fun b xs e => upd_old e htw⟩
        generalize (upd H7 tw (.tup (wb.map V.ref))) = H8 at s8 htw8 ⊢
        walk_at "go"
        exact tail _ _ ⟨s6.trans s8, tc, tw, s8 _ _ htc6, htw8, rfl⟩
    · walk_at "go"
      refine g_f2 hob T.cl_Laid T.nL1 rfl ?_
      walk_at "go"
      refine g_f2 hob T.cl_Laid T.nL2 rfl ?_
      walk_at "go"
      rename_i p0 hp0
      have s1 : Same H (upd H p0 (.tup [.ref sz, .ref a])) := same_new hp0
      have hl1 := hl.same s1
      have hob1 := s1 _ _ hob
      generalize (upd H p0 (.tup [.ref sz, .ref a])) = H1 at s1 hl1 hob1 ⊢
      have ht1 : Pt H1 t wi := s1 _ _ ht
      have hsz1 : Pt H1 sz (l, (b : Int)) := s1 _ _ hsz
      have ha1 : Ft H1 a (al.map V.int) := (Fr.of_same (W := []) s1).ft ha
      refine g_lock hl1.pl trivial fun od => ?_
      walk_at "go"
      refine g_f2 (by rw [upd_ne hl1.ne]; exact hob1) T.cl_Laid T.nL3 rfl ?_
      refine g_ik1 upd_same ?_
      intro D hD
      have sL : ∀ b xs, H1 b = some (.tup xs) → upd H1 d (.frz od (.dT (dm m))) b = some (.tup xs) := fun b xs e => by
        rw [upd_ne (ne_of e hl1.pl (fun z => nomatch z))]; exact e
      refine lc_st (stRow l) walk_keysT (fun i => m[i]?.map (·.1)) hD (by rw [dm_len]; omega) (fun H' s => s _ _ upd_same) (fun i y H2 H3 hi s yy Kt Kf k1 k2 => ?_) (fun H2 bs s2 hD2 hbs => ?_)
      · obtain ⟨rfl, kk, v, q, hkv, rfl, hq⟩ := yy
        unfold dm at hkv
        rw [List.getElem?_map] at hkv
        obtain ⟨e, he, hkv⟩ := Option.map_eq_some_iff.mp hkv
        cases hkv
        have hqp : Pt H3 q e.1 := hq
        walk_at "go"
        refine ⟨rfl, ?_⟩
        walk_at "go"
        refine ⟨sz, q, l, b, e.1.1, e.1.2, rfl, s _ _ (sL _ _ hsz1), hqp, l0, l1, fun p1 hp1 => ?_⟩
        walk_at "go"
        rename_i p2 hp2
        exact k1 p2 e.1 _ (by rw [he]; rfl) ⟨p1, q, upd_same, upd_old upd_same hp2, upd_old (upd_old hqp hp1) hp2⟩ (same_snoc (same_new hp1) hp2)
      refine ⟨s2 _ _ upd_same, ?_⟩
      have sU : Same H1 (upd H2 d (.dT (dm m))) := same_unlock s2 hl1.pl
      have nD : D ≠ d := fun z => by rw [z, upd_same] at hD; cases hD
      have e1 : (List.range (dm m).length).filterMap (fun i => m[i]?.map (·.1)) = m.map (·.1) := fm_map m _ _ (dm_len m)
      rw [e1] at hbs
      have hD3 : upd H2 d (.dT (dm m)) D = some (.lst (bs.map V.ref)) := by rw [upd_ne nD]; exact hD2
      have hbs3 : Pd (RowA l) (upd H2 d (.dT (dm m))) bs (m.map (·.1)) := hbs.keep (stRow l) fun b xs e => by
        rw [upd_ne]
        · exact e
        · rintro rfl
          have := s2 _ _ (upd_same (H := H1) (a := b) (o := .frz od (.dT (dm m))))
          rw [e] at this; cases this
      have hl3 := hl1.same sU
      generalize (upd H2 d (.dT (dm m))) = H3 at sU hD3 hbs3 hl3 ⊢
      walk_at "go"
      refine ⟨D, _, fun v => (bx l (wOfR H3 v), wOfR H3 v), rfl, SqL.of hD3, fun v hv => ?_, fun ys p1 hys hp1 => ?_⟩
      · obtain ⟨c, hc, rfl⟩ := List.mem_map.mp hv
        obtain ⟨i, hi, rfl⟩ := List.getElem_of_mem hc
        obtain ⟨e, _, hrow⟩ := hbs3.at_ (List.getElem?_eq_getElem hi)
        have e2 := wOfR_of hrow
        obtain ⟨p, q, h1, h2, h3⟩ := hrow
        refine ⟨_, p, q, rfl, h1, ?_, ?_⟩
        · show H3 p = some (.tup [.int (bx l (wOfR H3 (.ref bs[i]))).1, .int (bx l (wOfR H3 (.ref bs[i]))).2])
          rw [e2]; exact h2
        · show H3 q = some (.tup [.int (wOfR H3 (.ref bs[i])).1, .int (wOfR H3 (.ref bs[i])).2])
          rw [e2]; exact h3
      obtain ⟨cs, rfl, hcs⟩ := refs_perm hys
      obtain ⟨ws, hws, hrow⟩ := hbs3.perm hcs
      have s4 : Same H3 (upd H3 p1 (.lst (cs.map V.ref))) := same_new hp1
      walk_at "go"
      exact tail _ _ ⟨(s1.trans sU).trans s4, p1, cs, ws, upd_same, hrow.same (stRow l) s4, hws, rfl⟩
end
end Kx
set_option maxHeartbeats 4000000
namespace Kx
open PySem PySem.Spec PyProof.Rows L2

local macro_rules | `(tactic| walk_at "ht") => `(tactic| (repeat (first | assumption | exact upd_same | refine upd_old ?_ (by assumption) | refine Same.at_ (by assumption) ?_ | refine Fr.tup (by assumption) ?_)))
local macro_rules | `(tactic| walk_at "go1") => `(tactic| (first
  | ((with_reducible apply g_var); (focus rfl)) | with_reducible refine g_op ?_ | with_reducible refine g_c ?_ | with_reducible refine g_I0 ?_ | with_reducible refine g_eqI ?_ | with_reducible refine g_neI ?_
  | with_reducible refine g_cons ?_ | with_reducible refine g_nil ?_ | with_reducible refine g_tup ?_ | with_reducible refine g_lst ?_ | with_reducible refine g_bl ?_ | with_reducible refine g_test ?_
  | with_reducible refine g_B ?_ | with_reducible refine g_and ?_ | with_reducible refine g_or ?_ | with_reducible refine g_not ?_ | with_reducible refine g_andV ?_ | with_reducible refine g_orV ?_
  | with_reducible refine g_notV ?_ | with_reducible refine g_if ?_ | with_reducible refine g_cb ?_ | with_reducible refine g_call ?_ | with_reducible refine g_chain ?_ | with_reducible refine g_un ?_
  | with_reducible refine g_u ?_ | with_reducible refine g_seq ?_ | with_reducible refine g_next ?_ | with_reducible refine g_ret ?_ | with_reducible refine g_set ?_ | with_reducible refine g_ifS ?_
  | with_reducible refine g_drop ?_ | with_reducible refine g_asg ?_ | with_reducible refine g_name ?_ | with_reducible refine g_tc ?_ | with_reducible refine g_tn ?_ | with_reducible refine g_par ?_
  | with_reducible refine g_par3 ?_ | with_reducible refine g_p2 ?_ | with_reducible refine g_p3 ?_ | with_reducible refine g_fs ?_ | with_reducible refine g_fld ?_ | with_reducible refine g_m ?_
  | with_reducible refine g_mk ?_ | with_reducible refine g_dg ?_ | with_reducible refine g_dp ?_ | with_reducible refine g_din ?_ | with_reducible refine g_dni ?_ | with_reducible refine g_bm ?_
  | with_reducible refine g_mg ?_ | with_reducible refine g_il ?_ | with_reducible refine g_it ?_ | with_reducible refine g_ir ?_ | with_reducible refine g_ik ?_ | with_reducible refine g_for ?_
  | with_reducible refine g_lc ?_ | with_reducible refine g_ie ?_ | with_reducible refine g_iz ?_ | with_reducible refine g_yes ?_ | with_reducible refine g_retN ?_ | with_reducible refine g_gsub ?_ | with_reducible refine g_isN ?_ | with_reducible refine g_ntN ?_
  | with_reducible refine g_isiInt ?_ | with_reducible refine g_isiBool ?_ | with_reducible refine g_sl ?_ | with_reducible refine g_on ?_ | with_reducible refine g_os ?_ | ((with_reducible refine g_dsz ?_ ?_); (focus rfl); intro p hp)
  | ((with_reducible apply g_ixTt); (focus (walk_at "ht"; done)); (focus rfl)) | ((with_reducible apply g_ixLl); (focus (walk_at "ht"; done)); (focus rfl)) | ((with_reducible apply g_isiT); (focus (walk_at "ht"; done))) | ((with_reducible apply g_lnL); (focus (walk_at "ht"; done))) | ((with_reducible apply g_lnT); (focus (walk_at "ht"; done))) | ((with_reducible apply g_tTt); (focus (walk_at "ht"; done)); (focus rfl))
  | ((with_reducible apply g_tyL); (focus (walk_at "ht"; done))) | refine iteT ?_ | refine iteF ?_))
local macro_rules | `(tactic| walk_at "go") => `(tactic| (repeat (walk_at "go1")))
def spPut (cl cn : Addr) : Sp := fun vs H Q E => ∃ (x t d : Addr) (l : Int) (b : Nat) (al : List Int) (m : Wy) (mv : Int) (w : Int × Int), vs = [.ref x, .ref t] ∧ LaidAt cl H x d l b al m mv ∧ Pt H t w ∧ 0 < l ∧ l ≤ 12 ∧ b ≤ 12 ∧ al.Nodup ∧ al.length ≤ 1000 ∧ m.length ≤ 300 ∧ LOk l al m ∧
  (0 ≤ w.1 ∧ w.1 < l * b) ∧ (0 ≤ w.2 ∧ w.2 < l * b) ∧ (∀ e ∈ m, w.1 ≠ e.1.1 ∧ w.2 ≠ e.1.2) ∧ (full l b (m.map (·.1) ++ [w]) al.length = none → FreeAt l al m w) ∧
  (match full l b (m.map (·.1) ++ [w]) al.length with
    | none => ∀ H' d' m', Fr [x] H H' → H d' = none → LaidAt cl H' x d' l b al m' (mv + ((newR l al m w).row.length : Nat)) → m'.Perm (newM l al m w) → Q (.int ((newR l al m w).row.length : Nat)) H'
    | some (s, k) => NoW cn E H s k)
theorem lp_app {H : Hp} {bs : List Addr} {ps : List (Int × Int)} {t p : Addr} {q : Int × Int} (h : H p = some (.lst (bs.map V.ref ++ [.ref t]))) (hb : Prs H bs ps) (ht : Pt H t q) : Lp H p (ps ++ [q]) := ⟨bs ++ [t], by rw [h]; simp, hb.snoc ht⟩
theorem NoW.step {cn : Addr} {E : XK} {H H' : Hp} {s : Bool} {k : Int} (h : NoW cn E H s k) (st : Same H H') : NoW cn E H' s k := fun d H2 s2 e => h d H2 (st.trans s2) e
section
variable {P : Program} {w : World} {K : PySem.W.Frag} {mg : Str → Option Value} {base : Heap} (T : Tx K mg)
theorem scPut : FnScope ["self", "wish"] ["self", "wish"] (defScope sPut) := ⟨rfl, rfl, rfl, by decide +kernel, rfl, by decide +kernel, by decide +kernel⟩
include T in
theorem ok_Laid_put {f : Addr} {fd : FuncData} (F : FnP K "put" "Laid.put" sPut f fd)
    (c_Laid_check_wish : CalM P w K mg base CX0 4 (cL K) "check_wish" ["self", "wish"] (spCheckWish (cL K))) (c_check_room : Cal P w K mg base (L2.CX P w) 4 "check_room" ["sizes", "wishes", "many"] (spCheckRoom (cN K))) (c_Laid_lay : CalM P w K mg base CX0 5 (cL K) "lay" ["self", "wish"] (spLay (cL K)))  :
    FnOk P w K mg base (L2.CX P w) 6 f fd ["self", "wish"] (spPut (cL K) (cN K)) := by
  refine F.ok scPut (fun vs H Q E h => ?_) (fun cdv A outer s H vs Q E hr h => ?_)
  · obtain ⟨x, t, d, l, b, al, m, mv, wi, rfl, _⟩ := h; rfl
  · obtain ⟨x, t, d, l, b, al, m, mv, wi, rfl, hl, ht, l0, l1, hb, hn, hal, hm, hk, hw1, hw2, hno, hfr, k⟩ := h
    refine ⟨_, (pss_cons (ps_expr (pe_methF T.cl_Laid c_Laid_check_wish hr (by decide) (pv 0) (pa_cons (pv 1) pa_nil)))
      (pss_cons (ps_expr (pe_callX c_check_room hr (by decide) (passes_call (takes_of rfl rfl rfl rfl) (fun _ _ _ _ h => h)) (by rfl) (pa_cons (pe_fldK K rfl (pv 0) rfl) (pa_cons (pe_op op_cat (pe_callTy (call_list_dT rfl) (by rfl) T.z_list (by decide +kernel) (pa_cons (pe_fldK K rfl (pv 0) rfl) pa_nil)) (pe_lst (pa_cons (pv 1) pa_nil))) (pa_cons (pe_callB (call_lenK K rfl) (by rfl) T.z_len (by decide +kernel) (pa_cons (pe_fldK K rfl (pv 0) rfl) pa_nil)) pa_nil)))))
      (pss_one (ps_ret (pe_methF T.cl_Laid c_Laid_lay hr (by decide) (pv 0) (pa_cons (pv 1) pa_nil)))))), ?_⟩
    have big : 100000 < sizeLine := by rw [sizeLine_eq]; omega
    have hwk : wi ∉ m.map (·.1) := fun h => by
      obtain ⟨e, he, rfl⟩ := List.mem_map.mp h
      exact (hno e he).1 rfl
    obtain ⟨dx, sz, a, hob, hsz, ha⟩ := hl.ob
    walk_at "go"
    refine g_m2 hob rfl ?_
    walk_at "go"
    refine ⟨x, t, d, l, b, al, m, mv, wi, rfl, hl, ht, by omega, hb, hw1, hw2, by omega, hno, fun H1 s1 => ?_⟩
    have hl1 := hl.same s1
    have hob1 := s1 _ _ hob
    walk_at "go"
    refine g_f2 hob1 T.cl_Laid T.nL1 rfl ?_
    walk_at "go"
    refine g_f2 hob1 T.cl_Laid T.nL3 rfl ?_
    walk_at "go"
    refine ⟨d, _, rfl, .inl hl1.pl, fun p bs hp hbs => ?_⟩
    have hps : Prs H1 bs (m.map (·.1)) := prs_of_keys hbs (dm_keys m)
    have s2 := same_snoc s1 hp (o := .lst (bs.map V.ref))
    walk_at "go"
    rename_i p2 hp2
    refine ⟨p, p2, _, [.ref t], rfl, rfl, upd_old upd_same hp2, upd_same, by rw [List.length_map, hps.len, List.length_map]; show m.length + 1 ≤ sizeLine; omega, fun p3 hp3 => ?_⟩
    have s3 : Same H1 (upd (upd (upd H1 p (.lst (bs.map V.ref))) p2 (.lst [.ref t])) p3 (.lst (bs.map V.ref ++ [.ref t]))) := same_snoc (same_snoc (same_new hp) hp2) hp3
    have hlp : Lp (upd (upd (upd H1 p (.lst (bs.map V.ref))) p2 (.lst [.ref t])) p3 (.lst (bs.map V.ref ++ [.ref t]))) p3 (m.map (·.1) ++ [wi]) := lp_app upd_same (hps.keep fun b xs e => s3 b _ e) (s3 _ _ (s1 _ _ ht))
    generalize (upd (upd (upd H1 p (.lst (bs.map V.ref))) p2 (.lst [.ref t])) p3 (.lst (bs.map V.ref ++ [.ref t]))) = H3 at s3 hlp ⊢
    have s13 := s1.trans s3
    have hl3 := hl.same s13
    have hob3 := s13 _ _ hob
    walk_at "go"
    refine g_f2 hob3 T.cl_Laid T.nL2 rfl ?_
    walk_at "go"
    refine g_lnS ((Fr.of_same (W := []) s13).ft ha).sq ?_
    walk_at "go"
    rw [List.length_map]
    refine ⟨sz, p3, l, b, m.map (·.1) ++ [wi], al.length, rfl, s13 _ _ hsz, l0, l1, hb, hlp, by rw [List.length_append, List.length_map]; show m.length + 1 < sizeLine; omega, ?_⟩
    cases e : full l b (m.map (·.1) ++ [wi]) al.length with
    | some r =>
      obtain ⟨sd, kk⟩ := r
      rw [e] at k
      exact k.step s13
    | none =>
      rw [e] at k
      intro H4 s4
      have sD := s13.trans s4
      have hl4 := hl.same sD
      obtain ⟨_, _, _, hob4, _, _⟩ := hl4.ob
      walk_at "go"
      refine g_m2 hob4 rfl ?_
      walk_at "go"
      exact ⟨x, t, d, l, b, al, m, mv, wi, rfl, hl4, sD _ _ ht, l0, l1, hn, hal, hm, hk, hfr e, hwk, fun H' d' m' f hd' hl' hp' => k H' d' m' ((Fr.of_same sD).trans f) (same_none sD hd') hl' hp'⟩
end
end Kx
set_option maxHeartbeats 4000000
namespace Kx
open PySem PySem.Spec PyProof.Rows L2

local macro_rules | `(tactic| walk_at "ht") => `(tactic| (repeat (first | assumption | exact upd_same | refine upd_old ?_ (by assumption) | refine Same.at_ (by assumption) ?_ | refine Fr.tup (by assumption) ?_)))
local macro_rules | `(tactic| walk_at "go1") => `(tactic| (first
  | ((with_reducible apply g_var); (focus rfl)) | with_reducible refine g_op ?_ | with_reducible refine g_c ?_ | with_reducible refine g_I0 ?_ | with_reducible refine g_eqI ?_ | with_reducible refine g_neI ?_
  | with_reducible refine g_cons ?_ | with_reducible refine g_nil ?_ | with_reducible refine g_tup ?_ | with_reducible refine g_lst ?_ | with_reducible refine g_bl ?_ | with_reducible refine g_test ?_
  | with_reducible refine g_B ?_ | with_reducible refine g_and ?_ | with_reducible refine g_or ?_ | with_reducible refine g_not ?_ | with_reducible refine g_andV ?_ | with_reducible refine g_orV ?_
  | with_reducible refine g_notV ?_ | with_reducible refine g_if ?_ | with_reducible refine g_cb ?_ | with_reducible refine g_call ?_ | with_reducible refine g_chain ?_ | with_reducible refine g_un ?_
  | with_reducible refine g_u ?_ | with_reducible refine g_seq ?_ | with_reducible refine g_next ?_ | with_reducible refine g_ret ?_ | with_reducible refine g_set ?_ | with_reducible refine g_ifS ?_
  | with_reducible refine g_drop ?_ | with_reducible refine g_asg ?_ | with_reducible refine g_name ?_ | with_reducible refine g_tc ?_ | with_reducible refine g_tn ?_ | with_reducible refine g_par ?_
  | with_reducible refine g_par3 ?_ | with_reducible refine g_p2 ?_ | with_reducible refine g_p3 ?_ | with_reducible refine g_fs ?_ | with_reducible refine g_fld ?_ | with_reducible refine g_m ?_
  | with_reducible refine g_mk ?_ | with_reducible refine g_dg ?_ | with_reducible refine g_dp ?_ | with_reducible refine g_din ?_ | with_reducible refine g_dni ?_ | with_reducible refine g_bm ?_
  | with_reducible refine g_mg ?_ | with_reducible refine g_il ?_ | with_reducible refine g_it ?_ | with_reducible refine g_ir ?_ | with_reducible refine g_ik ?_ | with_reducible refine g_for ?_
  | with_reducible refine g_lc ?_ | with_reducible refine g_ie ?_ | with_reducible refine g_iz ?_ | with_reducible refine g_yes ?_ | with_reducible refine g_retN ?_ | with_reducible refine g_gsub ?_ | with_reducible refine g_isN ?_ | with_reducible refine g_ntN ?_
  | with_reducible refine g_isiInt ?_ | with_reducible refine g_isiBool ?_ | with_reducible refine g_sl ?_ | with_reducible refine g_on ?_ | with_reducible refine g_os ?_ | ((with_reducible refine g_dsz ?_ ?_); (focus rfl); intro p hp)
  | ((with_reducible apply g_ixTt); (focus (walk_at "ht"; done)); (focus rfl)) | ((with_reducible apply g_ixLl); (focus (walk_at "ht"; done)); (focus rfl)) | ((with_reducible apply g_isiT); (focus (walk_at "ht"; done))) | ((with_reducible apply g_lnL); (focus (walk_at "ht"; done))) | ((with_reducible apply g_lnT); (focus (walk_at "ht"; done))) | ((with_reducible apply g_tTt); (focus (walk_at "ht"; done)); (focus rfl))
  | ((with_reducible apply g_tyL); (focus (walk_at "ht"; done))) | refine iteT ?_ | refine iteF ?_))
local macro_rules | `(tactic| walk_at "go") => `(tactic| (repeat (walk_at "go1")))
/-- the wishes of a plane -/
def ofPl (m : Wy) (pl : Int) : Wy := m.filter fun e => decide (e.2 = pl)
def noPl (m : Wy) (pl : Int) : Wy := m.filter fun e => decide (e.2 ≠ pl)
def spLose (cl : Addr) : Sp := fun vs H Q _ => ∃ (x d : Addr) (l : Int) (b : Nat) (al : List Int) (m : Wy) (mv pl : Int), vs = [.ref x, .int pl] ∧ LaidAt cl H x d l b al m mv ∧ (0 ≤ pl ∧ pl < 12) ∧ pl ∈ al ∧ 0 < l ∧ l ≤ 12 ∧ b ≤ 12 ∧ al.length ≤ 1000 ∧ m.length ≤ 300 ∧ SOk l b al m [] ∧
  ∀ H' r d' bs ws m', Fr [x, d] H H' → (d' = d ∨ H d' = none) → ws.Perm ((ofPl m pl).map (·.1)) → ws.Pairwise leP →
    H' r = some (.tup (bs.map V.ref)) → Prs H' bs (relay l b (al.filter fun k => decide (k ≠ pl)) (noPl m pl) ws).2.1 →
    LaidAt cl H' x d' l b (al.filter fun k => decide (k ≠ pl)) m' (mv + ((relay l b (al.filter fun k => decide (k ≠ pl)) (noPl m pl) ws).2.2 : Nat)) → m'.Perm (relay l b (al.filter fun k => decide (k ≠ pl)) (noPl m pl) ws).1 → Q (.ref r) H'
/-- behind the popping of these -/
def popd (m : Wy) (ws : List (Int × Int)) : Wy := m.filter fun e => decide (e.1 ∉ ws)
theorem popd_nil (m : Wy) : popd m [] = m := by unfold popd; simp
theorem popd_snoc (m : Wy) (ws : List (Int × Int)) (w : Int × Int) : drp (popd m ws) w = popd m (ws ++ [w]) := by
  unfold drp popd
  rw [List.filter_filter]
  refine List.filter_congr fun e _ => ?_
  rw [Bool.eq_iff_iff]
  simp
  exact And.comm
theorem popd_look {m : Wy} {ws : List (Int × Int)} {w : Int × Int} (hn : w ∉ ws) (hk : (m.map (·.1)).Nodup) {c : Int} (h : look m w = some c) : look (popd m ws) w = some c := by
  have hm := look_some h
  have hp : (w, c) ∈ popd m ws := List.mem_filter.mpr ⟨hm, by simpa using hn⟩
  exact look_of (m := popd m ws) (hk.sublist (List.filter_sublist.map _)) hp
theorem popd_all {m : Wy} {pl : Int} {ws : List (Int × Int)} (hk : (m.map (·.1)).Nodup) (h : ws.Perm ((ofPl m pl).map (·.1))) : popd m ws = noPl m pl := by
  unfold popd noPl
  refine List.filter_congr fun e he => ?_
  refine decide_eq_decide.mpr (not_congr ?_)
  rw [h.mem_iff]
  constructor
  · intro hm
    obtain ⟨e', he', e2⟩ := List.mem_map.mp hm
    obtain ⟨q1, q2⟩ := List.mem_filter.mp he'
    rw [← kn_inj hk q1 he e2]
    exact of_decide_eq_true q2
  · intro hp
    exact List.mem_map.mpr ⟨e, List.mem_filter.mpr ⟨he, by simpa using hp⟩, rfl⟩
/-- the wishes of a plane as the filter of the sorted keys gives them -/
theorem again_perm {m : Wy} {pl : Int} (hk : (m.map (·.1)).Nodup) {ws : List (Int × Int)} (p : ws.Perm (m.map (·.1))) : (ws.filter fun w => decide (look m w = some pl)).Perm ((ofPl m pl).map (·.1)) := by
  refine (p.filter _).trans (List.Perm.of_eq ?_)
  unfold ofPl
  rw [List.filter_map]
  congr 1
  refine List.filter_congr fun e he => ?_
  simp only [Function.comp]
  rw [look_of hk he]
  simp
theorem fm_if {α : Type} (q : α → Prop) [DecidablePred q] (ws : List α) : (ws.filterMap fun w => if q w then some w else none) = ws.filter fun w => decide (q w) := by
  induction ws with
  | nil => rfl
  | cons w ws ih =>
    rw [List.filterMap_cons, List.filter_cons]
    by_cases e : q w
    · simp [e, ih]
    · simp [e, ih]
theorem fm_ne (pl : Int) (al : List Int) : (al.filterMap fun k => if k ≠ pl then some (V.int k) else none) = (al.filter fun k => decide (k ≠ pl)).map V.int := by
  induction al with
  | nil => rfl
  | cons n al ih =>
    rw [List.filterMap_cons, List.filter_cons]
    by_cases e : n = pl
    · simp [e] at ih ⊢; exact ih
    · simp [e] at ih ⊢; exact ih
theorem filter_sum (m : Wy) (pl : Int) : (ofPl m pl).length + (noPl m pl).length = m.length := by
  unfold ofPl noPl
  induction m with
  | nil => rfl
  | cons e m ih =>
    by_cases h : e.2 = pl
    · simp [h] at ih ⊢
      omega
    · simp [h] at ih ⊢
      omega
theorem relay_len (l : Int) (b : Nat) (al : List Int) (m : Wy) (ws : List (Int × Int)) : (ws.foldl (stp l b al) (m, [], 0)).1.length + (ws.foldl (stp l b al) (m, [], 0)).2.1.length = m.length + ws.length := by
  have := (relay_keys l b al ws (m, [], 0)).length_eq
  simpa using this
section
variable {P : Program} {w : World} {K : PySem.W.Frag} {mg : Str → Option Value} {base : Heap} (T : Tx K mg)
theorem scLose : FnScope ["self", "plane", "wish", "again", "lost", "one"] ["self", "plane"] (defScope sLose) := ⟨rfl, rfl, rfl, by decide +kernel, rfl, by decide +kernel, by decide +kernel⟩
include T in
theorem ok_Laid_lose {f : Addr} {fd : FuncData} (F : FnP K "lose" "Laid.lose" sLose f fd)
    (c_Laid_check_plane : CalM P w K mg base CX0 3 (cL K) "check_plane" ["self", "plane"] (spCheckPlane (cL K))) (c_full_box : Cal P w K mg base CX0 2 "full_box" ["sizes", "wishes", "many"] spFullBox) (c_Laid_lay : CalM P w K mg base CX0 5 (cL K) "lay" ["self", "wish"] (spLay (cL K)))  :
    FnOk P w K mg base CX0 6 f fd ["self", "plane"] (spLose (cL K)) := by
  refine F.ok scLose (fun vs H Q E h => ?_) (fun cdv A outer s H vs Q E hr h => ?_)
  · obtain ⟨x, d, l, b, al, m, mv, pl, rfl, _⟩ := h; rfl
  · obtain ⟨x, d, l, b, al, m, mv, pl, rfl, hl, hpl, hpa, l0, l1, hb, hal, hm, hS, k⟩ := h
    refine ⟨_, PSs.nox (pss_cons (ps_expr (pe_methF T.cl_Laid c_Laid_check_plane hr (by decide) (pv 0) (pa_cons (pv 1) pa_nil)))
      (pss_cons (ps_setLc (i := 3) (own := [("wish", 2)]) (g := gName 2) rfl scLose.nd rfl rfl (sw_true rfl rfl rfl (by decide +kernel)) (pi_list (pe_callB (cr_sortedDT rfl) (by rfl) T.z_sorted (by decide +kernel) (pa_cons (pe_fldK K rfl (pv 0) rfl) pa_nil))) (blkOk_by (N := ["self", "plane", "wish", "again", "lost", "one"]) (sc := defScope sLose) (by decide +kernel)) (fun _ _ _ _ _ => (pg_name (i := 2) scLose.nd rfl (Or.inl rfl))) (fun _ _ _ _ _ => (pts_one (pt_cmpR op_eq (pe_dget (hu_of hr) (pe_fldK K rfl (pv 0) rfl) (pv 2) (fun _ _ => rfl)) (pv 1) (nomark _)))) (fun _ _ _ _ _ => (pv 2)))
      (pss_cons (ps_fld (pv 0) (pe_callTy call_tupF (by rfl) T.z_tuple (by decide +kernel) (pa_cons (pe_lc (own := [("one", 5)]) (g := gName 5) rfl scLose.nd (pi_tup (pe_fldK K rfl (pv 0) rfl)) (blkOk_by (N := ["self", "plane", "wish", "again", "lost", "one"]) (sc := defScope sLose) (by decide +kernel)) (fun _ _ _ _ _ => (pg_name (i := 5) scLose.nd rfl (Or.inl rfl))) (fun _ _ _ _ _ => (pts_one (pt_cmpR op_ne (pv 5) (pv 1) (nomark _)))) (fun _ _ _ _ _ => (pv 5))) pa_nil)) rfl)
      (pss_cons (ps_for PassesOwn.never rfl (pi_list (pv 3)) (pg_name (i := 2) scLose.nd rfl (Or.inl rfl))
      (pss_one (ps_expr (pe_bm PySem.F.plainAttrs_dict PySem.F.slot_dict_pop PySem.F.type_dict_pop (mt_popT1 hr) (pe_fldK K rfl (pv 0) rfl) (pa_cons (pv 2) pa_nil)))))
      (pss_cons (ps_set (i := 4) scLose.nd rfl (Or.inl rfl) (pe_lst pa_nil))
      (pss_cons (ps_for PassesOwn.never rfl (pi_list (pv 3)) (pg_name (i := 2) scLose.nd rfl (Or.inl rfl))
      (pss_one (ps_if (pt_cmpR op_isN (pe_callF c_full_box hr (by decide) (by rfl) (pa_cons (pe_fldK K rfl (pv 0) rfl) (pa_cons (pe_op op_cat (pe_callTy (call_list_dT rfl) (by rfl) T.z_list (by decide +kernel) (pa_cons (pe_fldK K rfl (pv 0) rfl) pa_nil)) (pe_lst (pa_cons (pv 2) pa_nil))) (pa_cons (pe_callB (call_lenK K rfl) (by rfl) T.z_len (by decide +kernel) (pa_cons (pe_fldK K rfl (pv 0) rfl) pa_nil)) pa_nil)))) pe_non (nomark _)) (pss_one (ps_expr (pe_methF T.cl_Laid c_Laid_lay hr (by decide) (pv 0) (pa_cons (pv 2) pa_nil)))) (pss_one (ps_expr (pe_bm PySem.F.plainAttrs_list PySem.F.slot_list_append PySem.F.type_list_append mt_append (pv 4) (pa_cons (pv 2) pa_nil)))))))
      (pss_one (ps_ret (pe_callTy call_tuple_of (by rfl) T.z_tuple (by decide +kernel) (pa_cons (pv 4) pa_nil)))))))))), ?_⟩
    have big : 100000 < sizeLine := by rw [sizeLine_eq]; omega
    obtain ⟨dx, sz, a, hob, hsz, ha⟩ := hl.ob
    generalize hal' : (al.filter fun k => decide (k ≠ pl)) = al' at k
    refine g_cut3 (fun σ' H' => Fr [x] H H' ∧ ∃ (g : Addr) (bs : List Addr) (ws : List (Int × Int)), H g = none ∧ H' g = some (.lst (bs.map V.ref)) ∧ Prs H' bs ws ∧ ws.Perm ((ofPl m pl).map (·.1)) ∧ ws.Pairwise leP ∧ LaidAt (cL K) H' x d l b al' m mv ∧
      σ' = [some (.ref x), some (.int pl), none, some (.ref g), none, none]) ?_ (fun NX tail => ?_)
    · rintro σ' H1 ⟨f1, g, bs, ws, hg, hg1, hbs, hwp, hws, hl1, rfl⟩
      have hwl : bs.length = ws.length := hbs.len
      have hwn : ws.Nodup := hwp.nodup_iff.mpr ((hS.ok.kn).sublist (List.filter_sublist.map _))
      have hwm : ws.length ≤ 300 := by
        rw [hwp.length_eq, List.length_map]
        exact Nat.le_trans (List.length_filter_le _ _) hm
      have hgx : g ≠ x := fun z => by rw [z, hob] at hg; cases hg
      have hgd : g ≠ d := fun z => by rw [z, hl.pl] at hg; cases hg
      refine g_cut1 (fun σ' H' => Fr [d] H1 H' ∧ LaidAt (cL K) H' x d l b al' (noPl m pl) mv ∧ ∃ x2, σ' = [some (.ref x), some (.int pl), x2, some (.ref g), none, none]) ?_ (fun NX tail => ?_)
      · rintro σ' H2 ⟨f2, hl2, x2, rfl⟩
        have f12 : Fr [x, d] H H2 := (f1.mono (by simp)).trans (f2.mono (by simp))
        have hg2 := f2.at_ hg1 (by simpa using hgd)
        have hbs2 := hbs.fr f2
        have hS0 : SOk l b al' (noPl m pl) ws := by
          refine ⟨⟨hS.ok.kn.sublist (List.filter_sublist.map _), fun e he => ?_, (hS.ok.drop _).pr⟩, ?_, ?_, fun v hv => hS.rg v ?_⟩
          · obtain ⟨q1, q2⟩ := List.mem_filter.mp he
            rw [← hal']
            exact List.mem_filter.mpr ⟨hS.ok.col e q1, q2⟩
          · rw [← hal']; exact hS.an.sublist List.filter_sublist
          · refine List.nodup_append.mpr ⟨hS.ok.kn.sublist (List.filter_sublist.map _), hwn, fun u hu v hv e => ?_⟩
            subst e
            obtain ⟨e1, he1, q1⟩ := List.mem_map.mp hu
            obtain ⟨e2, he2, q2⟩ := List.mem_map.mp (hwp.mem_iff.mp hv)
            obtain ⟨a1, a2⟩ := List.mem_filter.mp he1
            obtain ⟨b1, b2⟩ := List.mem_filter.mp he2
            have := kn_inj hS.ok.kn a1 b1 (q1.trans q2.symm)
            rw [this] at a2
            exact of_decide_eq_true a2 (of_decide_eq_true b2)
          · rw [List.append_nil]
            rcases List.mem_append.mp hv with h | h
            · exact (List.filter_sublist.map _).mem h
            · exact (List.filter_sublist.map _).mem (hwp.mem_iff.mp h)
        have hal2 : al'.length ≤ 1000 := by rw [← hal']; exact Nat.le_trans (List.length_filter_le _ _) hal
        have hnm : (noPl m pl).length + ws.length ≤ 300 := by
          have e : (ofPl m pl).length + (noPl m pl).length = m.length := by
            exact filter_sum m pl
          rw [hwp.length_eq, List.length_map]
          omega
        walk_at "go"
        rename_i lo hlo
        have f3 : Fr [x, d] H (upd H2 lo (.lst [])) := f12.new hlo
        have hl3 := hl2.same (same_new (o := .lst []) hlo)
        have hg3 := upd_old (o := .lst []) hg2 hlo
        have hbs3 : Prs (upd H2 lo (.lst [])) bs ws := hbs2.keep fun b xs e => upd_old e hlo
        have hlo3 : (upd H2 lo (.lst [])) lo = some (.lst (([] : List Addr).map V.ref)) := upd_same
        have hglo : g ≠ lo := fun z => by rw [← z, hg2] at hlo; cases hlo
        have hlox : lo ≠ x := fun z => by
          obtain ⟨_, _, _, q, _⟩ := hl2.ob
          rw [z, q] at hlo; cases hlo
        have hlod : lo ≠ d := fun z => by rw [z, hl2.pl] at hlo; cases hlo
        have hloH : H lo = none := f12.some_ (by simpa using ⟨hlox, hlod⟩) hlo
        generalize (upd H2 lo (.lst [])) = H3 at f3 hl3 hg3 hbs3 hlo3 ⊢
        refine g_iL hg3 ?_
        refine for_it walk_list (fun i σ H' => Fr [x, d] H H' ∧ (∃ d' m', (d' = d ∨ H d' = none) ∧ LaidAt (cL K) H' x d' l b al' m' (mv + (((ws.take i).foldl (stp l b al') (noPl m pl, [], 0)).2.2 : Nat)) ∧ m'.Perm ((ws.take i).foldl (stp l b al') (noPl m pl, [], 0)).1) ∧
            H' g = some (.lst (bs.map V.ref)) ∧ Prs H' bs ws ∧ (∃ cs, H' lo = some (.lst (cs.map V.ref)) ∧ Prs H' cs ((ws.take i).foldl (stp l b al') (noPl m pl, [], 0)).2.1) ∧
            ∃ x2, σ = [some (.ref x), some (.int pl), x2, some (.ref g), some (.ref lo), none])
          ⟨f3, ⟨d, noPl m pl, .inl rfl, by rw [List.take_zero]; simpa using hl3, by rw [List.take_zero]; exact .refl _⟩, hg3, hbs3, ⟨[], hlo3, by rw [List.take_zero]; exact Prs.nil⟩, x2, rfl⟩ (fun i σ H' _ h => SqL.of h.2.2.1) (fun i y σ H4 H5 hi h yy => ?_) (fun σ H' h => ?_)
        · obtain ⟨f4, ⟨d', m', hd', hl4, hp4⟩, hg4, hbs4, ⟨cs, hlo4, hcs⟩, x2', rfl⟩ := h
          obtain ⟨rfl, hy⟩ := yy
          obtain ⟨wb, rfl, hwb⟩ := refs_at hy
          obtain ⟨wv, hwv, hwt⟩ := hbs4.at_ hwb
          have hiw : i < ws.length := (List.getElem?_eq_some_iff.mp hwv).1
          have hdrop : ws.drop i = wv :: ws.drop (i + 1) := by rw [List.drop_eq_getElem_cons hiw, (List.getElem?_eq_some_iff.mp hwv).2]
          have htake : (ws.take (i + 1)).foldl (stp l b al') (noPl m pl, [], 0) = stp l b al' ((ws.take i).foldl (stp l b al') (noPl m pl, [], 0)) wv := by
            rw [List.take_succ, hwv, List.foldl_append]; rfl
          have hSi : SOk l b al' ((ws.take i).foldl (stp l b al') (noPl m pl, [], 0)).1 (ws.drop i) := relay_ok l0 (ws.take i) (rest := ws.drop i) (by rw [List.take_append_drop]; exact hS0)
          have hlen := relay_len l b al' (noPl m pl) (ws.take i)
          rw [List.length_take] at hlen
          rw [htake]
          generalize hst : (ws.take i).foldl (stp l b al') (noPl m pl, [], 0) = st at hl4 hp4 hcs hSi hlen ⊢
          have hSm := hSi.perm hp4
          rw [hdrop] at hSm
          have hml : m'.length ≤ 300 := by rw [hp4.length_eq]; omega
          have hcl : cs.length ≤ 300 := by rw [hcs.len]; omega
          have efull : full l b (m'.map (·.1) ++ [wv]) al'.length = full l b (st.1.map (·.1) ++ [wv]) al'.length := full_perm ((hp4.map (·.1)).append_right _) _
          obtain ⟨dx4, sz4, a4, hob4, hsz4, ha4⟩ := hl4.ob
          have hgx' : g ≠ x := hgx
          walk_at "go"
          refine g_f2 hob4 T.cl_Laid T.nL1 rfl ?_
          walk_at "go"
          refine g_f2 hob4 T.cl_Laid T.nL3 rfl ?_
          walk_at "go"
          refine ⟨d', _, rfl, .inl hl4.pl, fun p bs5 hp hbs5 => ?_⟩
          have hps : Prs H5 bs5 (m'.map (·.1)) := prs_of_keys hbs5 (dm_keys m')
          walk_at "go"
          rename_i p2 hp2
          refine ⟨p, p2, _, [.ref wb], rfl, rfl, upd_old upd_same hp2, upd_same, by rw [List.length_map, hps.len, List.length_map]; show m'.length + 1 ≤ sizeLine; omega, fun p3 hp3 => ?_⟩
          have s3 : Same H5 (upd (upd (upd H5 p (.lst (bs5.map V.ref))) p2 (.lst [.ref wb])) p3 (.lst (bs5.map V.ref ++ [.ref wb]))) := same_snoc (same_snoc (same_new hp) hp2) hp3
          have hlp : Lp (upd (upd (upd H5 p (.lst (bs5.map V.ref))) p2 (.lst [.ref wb])) p3 (.lst (bs5.map V.ref ++ [.ref wb]))) p3 (m'.map (·.1) ++ [wv]) := lp_app upd_same (hps.keep fun b xs e => s3 b _ e) (s3 _ _ hwt)
          generalize (upd (upd (upd H5 p (.lst (bs5.map V.ref))) p2 (.lst [.ref wb])) p3 (.lst (bs5.map V.ref ++ [.ref wb]))) = H6 at s3 hlp ⊢
          have hl6 := hl4.same s3
          walk_at "go"
          refine g_f2 (s3 _ _ hob4) T.cl_Laid T.nL2 rfl ?_
          walk_at "go"
          refine g_lnS ((Fr.of_same (W := []) s3).ft ha4).sq ?_
          walk_at "go"
          rw [List.length_map]
          refine ⟨sz4, p3, l, b, m'.map (·.1) ++ [wv], al'.length, rfl, s3 _ _ hsz4, l0, l1, hb, hlp, by rw [List.length_append, List.length_map]; show m'.length + 1 < sizeLine; omega, fun H7 s7 => ?_⟩
          have s57 := s3.trans s7
          have hl7 := hl4.same s57
          have hob7 := s57 _ _ hob4
          have f7 := f4.trans (Fr.of_same (W := [x, d]) s57)
          cases e : full l b (m'.map (·.1) ++ [wv]) al'.length with
          | none =>
            have estp : stp l b al' st wv = (newM l al' st.1 wv, st.2.1, st.2.2 + (newR l al' st.1 wv).row.length) := by unfold stp; rw [← efull, e]
            walk_at "go"
            refine ⟨rfl, ?_⟩
            walk_at "go"
            refine g_m2 hob7 rfl ?_
            walk_at "go"
            refine ⟨x, wb, d', l, b, al', m', _, wv, rfl, hl7, s57 _ _ hwt, l0, l1, hSm.an, hal2, hml, hSm.ok, free_of_full l0 (hSm.rg wv (by simp)) hSm.an e, hSm.new, fun H8 d8 m8 f8 hd8 hl8 hp8 => ?_⟩
            walk_at "go"
            rw [estp]
            have hRe : newR l al' m' wv = newR l al' st.1 wv := newR_perm hSi.ok hp4 wv
            refine ⟨f7.trans (f8.mono (by simp)), ⟨d8, m8, ?_, ?_, hp8.trans (newM_perm hSi.ok hp4 wv)⟩, f8.at_ (s57 _ _ hg4) (by simpa using hgx), (hbs4.fr (Fr.of_same (W := []) s57)).fr f8, ⟨cs, f8.at_ (s57 _ _ hlo4) (by simpa using hlox), (hcs.fr (Fr.of_same (W := []) s57)).fr f8⟩, _, rfl⟩
            · by_cases q : d8 = d
              · exact .inl q
              · refine .inr (f7.some_ ?_ hd8)
                have : d8 ≠ x := fun z => by rw [z, hob7] at hd8; cases hd8
                simpa using ⟨this, q⟩
            · rw [hRe] at hl8
              have e9 : mv + (st.2.2 : Nat) + ((newR l al' st.1 wv).row.length : Nat) = mv + ((st.2.2 + (newR l al' st.1 wv).row.length : Nat) : Int) := by omega
              rw [e9] at hl8
              exact hl8
          | some r =>
            obtain ⟨sd, kk⟩ := r
            have estp : stp l b al' st wv = (st.1, st.2.1 ++ [wv], st.2.2) := by unfold stp; rw [← efull, e]
            intro p9 hp9
            walk_at "go"
            refine ⟨rfl, ?_⟩
            walk_at "go"
            have hlo7 := s57 _ _ hlo4
            refine g_app hlo7 (by rw [List.length_map]; omega) ?_
            have e9 : cs.map V.ref ++ [V.ref wb] = (cs ++ [wb]).map V.ref := by simp
            rw [e9, estp]
            have f8 : Fr [lo] H7 (upd H7 lo (.lst ((cs ++ [wb]).map V.ref))) := Fr.refl.mut hlo7 (fun z => z) (.inl (by simp))
            have hlod' : d' ≠ lo := fun z => by have q := hl4.pl; rw [z, hlo4] at q; cases q
            refine ⟨f7.step f8 (by simp [hloH]), ⟨d', m', hd', hl7.fr f8 (by simpa using Ne.symm hlox) (by simpa using hlod'), hp4⟩, f8.at_ (s57 _ _ hg4) (by simpa using hglo), (hbs4.fr (Fr.of_same (W := []) s57)).fr f8, ⟨cs ++ [wb], upd_same, ((hcs.fr (Fr.of_same (W := []) s57)).fr f8).snoc (f8.tup (s57 _ _ hwt))⟩, _, rfl⟩
        · obtain ⟨f4, ⟨d', m', hd', hl4, hp4⟩, hg4, hbs4, ⟨cs, hlo4, hcs⟩, x2', rfl⟩ := h
          rw [List.length_map, hwl, List.take_length] at hl4 hp4 hcs
          walk_at "go"
          refine ⟨lo, _, rfl, .inl ⟨SqL.of hlo4, fun r hr => ?_⟩⟩
          exact k _ r d' cs ws m' (f4.new hr) hd' hwp hws upd_same (hcs.keep fun b xs e => upd_old e hr) (hl4.same (same_new hr)) hp4
      · walk_at "go"
        refine g_iL hg1 ?_
        refine for_it walk_list (fun i σ H' => Fr [d] H1 H' ∧ LaidAt (cL K) H' x d l b al' (popd m (ws.take i)) mv ∧ ∃ x2, σ = [some (.ref x), some (.int pl), x2, some (.ref g), none, none])
          ⟨Fr.refl, by rw [List.take_zero, popd_nil]; exact hl1, _, rfl⟩ (fun i σ H' _ h => SqL.of (h.1.at_ hg1 (by simpa using hgd))) (fun i y σ H4 H5 hi h yy => ?_) (fun σ H' h => ?_)
        · obtain ⟨f4, hl4, x2, rfl⟩ := h
          obtain ⟨rfl, hy⟩ := yy
          obtain ⟨wb, rfl, hwb⟩ := refs_at hy
          obtain ⟨wv, hwv, hwt⟩ := hbs.at_ hwb
          obtain ⟨dx4, sz4, a4, hob4, hsz4, ha4⟩ := hl4.ob
          have htk : ws.take (i + 1) = ws.take i ++ [wv] := by rw [List.take_succ, hwv]; rfl
          have hnt : wv ∉ ws.take i := by
            have q := hwn.sublist (List.take_sublist (i + 1) ws)
            rw [htk] at q
            intro hm'
            exact (List.nodup_append.mp q).2.2 wv hm' wv (by simp) rfl
          obtain ⟨e, he, hee⟩ := List.mem_map.mp (hwp.mem_iff.mp (List.mem_of_getElem? hwv))
          have hlk := look_of hS.ok.kn (List.mem_filter.mp he).1
          rw [hee] at hlk
          have hlk2 := popd_look hnt hS.ok.kn hlk
          walk_at "go"
          refine g_f2 hob4 T.cl_Laid T.nL3 rfl ?_
          refine g_tyD hl4.pl ?_
          walk_at "go"
          refine ⟨d, wb, _, pk wv, .int e.2, rfl, rfl, hl4.pl, f4.tup hwt, by rw [dm_val, hlk2]; rfl, ?_⟩
          rw [dm_drop, popd_snoc, ← htk]
          have f5 : Fr [d] H5 (upd H5 d (.dT (dm (popd m (ws.take (i + 1)))))) := Fr.refl.mut hl4.pl (fun z => z) (.inl (by simp))
          exact ⟨f4.trans f5, ⟨⟨dx4, sz4, a4, f5.at_ hob4 (by simpa using hl4.ne), f5.tup hsz4, f5.ft ha4⟩, upd_same⟩, _, rfl⟩
        · obtain ⟨f4, hl4, x2, rfl⟩ := h
          rw [List.length_map, hwl, List.take_length, popd_all hS.ok.kn hwp] at hl4
          exact tail _ _ ⟨f4, hl4, _, rfl⟩
    · walk_at "go"
      refine g_m2 hob rfl ?_
      walk_at "go"
      refine ⟨x, d, l, b, al, m, mv, pl, rfl, hl, hpl, hpa, ?_⟩
      walk_at "go"
      refine g_f2 hob T.cl_Laid T.nL3 rfl ?_
      walk_at "go"
      refine ⟨d, _, m.map (·.1), rfl, hl.pl, dm_keys m, fun bs ws q hbs hp hs hq => ?_⟩
      have s1 : Same H (upd H q (.lst (bs.map V.ref))) := same_new hq
      have hq1 : (upd H q (.lst (bs.map V.ref))) q = some (.lst (bs.map V.ref)) := upd_same
      have hbs1 := hbs.keep fun b xs e => s1 b _ e
      generalize (upd H q (.lst (bs.map V.ref))) = H1 at s1 hq1 hbs1 ⊢
      have hwl : ws.length = m.length := by rw [hp.length_eq, List.length_map]
      refine g_iL hq1 ?_
      intro D hD
      refine lc_prs walk_list (fun i => ws[i]?.bind fun w => if look m w = some pl then some w else none) hD (by rw [List.length_map, hbs.len]; omega) (fun H' s => SqL.of (s _ _ hq1)) (fun i y H2 H3 hi s yy Kt Kf k1 k2 => ?_) (fun H2 s2 hD2 => ?_)
      · obtain ⟨rfl, hy⟩ := yy
        obtain ⟨c, rfl, hc⟩ := refs_at hy
        obtain ⟨p, hp1, hpt⟩ := hbs1.at_ hc
        obtain ⟨v, hv⟩ := look_mem (hp.mem_iff.mp (List.mem_of_getElem? hp1))
        walk_at "go"
        refine ⟨rfl, ?_⟩
        have s3 := s1.trans s
        walk_at "go"
        refine g_f2 (s3 _ _ hob) T.cl_Laid T.nL3 rfl ?_
        walk_at "go"
        refine g_dgT (s3 _ _ hl.pl) (s _ _ hpt) hv ?_
        walk_at "go"
        by_cases e : v = pl
        · rw [decide_eq_true e]
          walk_at "go"
          exact k1 c p _ (by rw [hp1]; simp [hv, e]) (s _ _ hpt) (fun _ _ h => h)
        · rw [decide_eq_false e]
          exact k2 _ (by rw [hp1]; simp [hv, e]) (fun _ _ h => h)
      · have e5 : (List.range (bs.map V.ref).length).filterMap (fun i => ws[i]?.bind fun w => if look m w = some pl then some w else none) = ws.filter fun w => decide (look m w = some pl) := by
          rw [fm_some ws _ _ (by rw [List.length_map, hbs.len])]
          exact fm_if (fun w => look m w = some pl) ws
        rw [e5] at hD2
        obtain ⟨cs, hD3, hcs⟩ := hD2
        have s12 := s1.trans s2
        walk_at "go"
        refine g_f2 (s12 _ _ hob) T.cl_Laid T.nL2 rfl ?_
        have ha2 := (Fr.of_same (W := []) s12).ft ha
        refine g_iT ha2.sq ?_
        intro D2 hD2n
        refine lc_fm walk_tup (fun i => al[i]?.bind fun k => if k ≠ pl then some (V.int k) else none) hD2n (by rw [List.length_map]; omega) (fun H' s => ((Fr.of_same (W := []) s).ft ha2).sq) (fun i y H4 H5 hi s yy Kt Kf k1 k2 => ?_) (fun H4 s4 hD4 => ?_)
        · obtain ⟨rfl, hy⟩ := yy
          obtain ⟨n, rfl, hn⟩ := ints_at hy
          walk_at "go"
          refine ⟨rfl, ?_⟩
          walk_at "go"
          by_cases e : n = pl
          · rw [decide_eq_true e]
            exact k2 _ (by rw [hn]; simp [e]) (fun _ _ h => h)
          · rw [decide_eq_false e]
            walk_at "go"
            exact k1 _ _ (by rw [hn]; simp [e]) (fun _ _ h => h)
        · have e6 : (List.range (al.map V.int).length).filterMap (fun i => al[i]?.bind fun k => if k ≠ pl then some (V.int k) else none) = al'.map V.int := by
            rw [fm_some al _ _ (by rw [List.length_map]), ← hal']
            exact fm_ne pl al
          rw [e6] at hD4
          walk_at "go"
          refine ⟨D2, _, rfl, SqL.of hD4, fun a2 o ha2n ho => ?_⟩
          have s5 : Same H (upd H4 a2 (.frz o (.tup (al'.map V.int)))) := same_snoc (s12.trans s4) ha2n
          have s45 : Same H2 (upd H4 a2 (.frz o (.tup (al'.map V.int)))) := same_snoc s4 ha2n
          have hft : Ft (upd H4 a2 (.frz o (.tup (al'.map V.int)))) a2 (al'.map V.int) := ⟨o, ho, upd_same⟩
          generalize (upd H4 a2 (.frz o (.tup (al'.map V.int)))) = H6 at s5 s45 hft ⊢
          walk_at "go"
          refine g_fs2 (s5 _ _ hob) T.cl_Laid T.nL2 (Nat.le_of_ble_eq_true rfl) ?_
          have f6 : Fr [x] H6 (upd H6 x (.ins (cL K) dx (putF "kept_alive" (.ref a2) [("kept_sizes", .ref sz), ("kept_alive", .ref a), ("kept_planes", .ref d), ("kept_moved", .int mv)]))) := Fr.refl.mut (s5 _ _ hob) (fun z => z) (.inl (by simp))
          have hDx : D ≠ x := fun z => by rw [z, s1 _ _ hob] at hD; cases hD
          refine tail _ _ ⟨(Fr.of_same s5).trans f6, D, cs, _, same_none s1 hD, f6.at_ (s45 _ _ hD3) (by simpa using hDx), (hcs.fr (Fr.of_same (W := []) s45)).fr f6, again_perm hS.ok.kn hp, hs.sublist List.filter_sublist, ⟨⟨dx, sz, a2, upd_same, f6.tup (s5 _ _ hsz), f6.ft hft⟩, f6.at_ (s5 _ _ hl.pl) (by simpa using Ne.symm hl.ne)⟩, rfl⟩
end
end Kx
set_option maxHeartbeats 4000000
namespace Kx
open PySem PySem.Spec PyProof.Rows L2

local macro_rules | `(tactic| walk_at "ht") => `(tactic| (repeat (first | assumption | exact upd_same | refine upd_old ?_ (by assumption) | refine Same.at_ (by assumption) ?_ | refine Fr.tup (by assumption) ?_)))
local macro_rules | `(tactic| walk_at "go1") => `(tactic| (first
  | ((with_reducible apply g_var); (focus rfl)) | with_reducible refine g_op ?_ | with_reducible refine g_c ?_ | with_reducible refine g_I0 ?_ | with_reducible refine g_eqI ?_ | with_reducible refine g_neI ?_
  | with_reducible refine g_cons ?_ | with_reducible refine g_nil ?_ | with_reducible refine g_tup ?_ | with_reducible refine g_lst ?_ | with_reducible refine g_bl ?_ | with_reducible refine g_test ?_
  | with_reducible refine g_B ?_ | with_reducible refine g_and ?_ | with_reducible refine g_or ?_ | with_reducible refine g_not ?_ | with_reducible refine g_andV ?_ | with_reducible refine g_orV ?_
  | with_reducible refine g_notV ?_ | with_reducible refine g_if ?_ | with_reducible refine g_cb ?_ | with_reducible refine g_call ?_ | with_reducible refine g_chain ?_ | with_reducible refine g_un ?_
  | with_reducible refine g_u ?_ | with_reducible refine g_seq ?_ | with_reducible refine g_next ?_ | with_reducible refine g_ret ?_ | with_reducible refine g_set ?_ | with_reducible refine g_ifS ?_
  | with_reducible refine g_drop ?_ | with_reducible refine g_asg ?_ | with_reducible refine g_name ?_ | with_reducible refine g_tc ?_ | with_reducible refine g_tn ?_ | with_reducible refine g_par ?_
  | with_reducible refine g_par3 ?_ | with_reducible refine g_p2 ?_ | with_reducible refine g_p3 ?_ | with_reducible refine g_fs ?_ | with_reducible refine g_fld ?_ | with_reducible refine g_m ?_
  | with_reducible refine g_mk ?_ | with_reducible refine g_dg ?_ | with_reducible refine g_dp ?_ | with_reducible refine g_din ?_ | with_reducible refine g_dni ?_ | with_reducible refine g_bm ?_
  | with_reducible refine g_mg ?_ | with_reducible refine g_il ?_ | with_reducible refine g_it ?_ | with_reducible refine g_ir ?_ | with_reducible refine g_ik ?_ | with_reducible refine g_for ?_
  | with_reducible refine g_lc ?_ | with_reducible refine g_ie ?_ | with_reducible refine g_iz ?_ | with_reducible refine g_yes ?_ | with_reducible refine g_retN ?_ | with_reducible refine g_gsub ?_ | with_reducible refine g_isN ?_ | with_reducible refine g_ntN ?_
  | with_reducible refine g_isiInt ?_ | with_reducible refine g_isiBool ?_ | with_reducible refine g_sl ?_ | with_reducible refine g_on ?_ | with_reducible refine g_os ?_ | ((with_reducible refine g_dsz ?_ ?_); (focus rfl); intro p hp)
  | ((with_reducible apply g_ixTt); (focus (walk_at "ht"; done)); (focus rfl)) | ((with_reducible apply g_ixLl); (focus (walk_at "ht"; done)); (focus rfl)) | ((with_reducible apply g_isiT); (focus (walk_at "ht"; done))) | ((with_reducible apply g_lnL); (focus (walk_at "ht"; done))) | ((with_reducible apply g_lnT); (focus (walk_at "ht"; done))) | ((with_reducible apply g_tTt); (focus (walk_at "ht"; done)); (focus rfl))
  | ((with_reducible apply g_tyL); (focus (walk_at "ht"; done))) | refine iteT ?_ | refine iteF ?_))
local macro_rules | `(tactic| walk_at "go") => `(tactic| (repeat (walk_at "go1")))
section
variable {P : Program} {w : World} {K : PySem.W.Frag} {mg : Str → Option Value} {base : Heap} (T : Tx K mg)
theorem scBoxes : FnScope ["_law_sizes_here", "_law_wish"] ["_law_sizes_here", "_law_wish"] (defScope sBoxes) := ⟨rfl, rfl, rfl, by decide +kernel, rfl, by decide +kernel, by decide +kernel⟩
theorem ok__law_boxes {f : Addr} {fd : FuncData} (F : FnP K "_law_boxes" "_law_boxes" sBoxes f fd)
      :
    FnOk P w K mg base CX0 1 f fd ["_law_sizes_here", "_law_wish"] spBoxesOf := by
  refine F.ok scBoxes (fun vs H Q E h => ?_) (fun cdv A outer s H vs Q E hr h => ?_)
  · obtain ⟨s, t, l, b, i, j, rfl, _⟩ := h; rfl
  · obtain ⟨s, t, l, b, i, j, rfl, hs, ht, l0, l1, k⟩ := h
    refine ⟨_, PSs.nox (pss_one (ps_ret (pe_tup (pa_cons (pe_op op_fdivN (pe_ix (ix_tupK K rfl) (pv 1) pe_int (fun _ _ => rfl)) (pe_ix (ix_tupK K rfl) (pv 0) pe_int (fun _ _ => rfl))) (pa_cons (pe_op op_fdivN (pe_ix (ix_tupK K rfl) (pv 1) pe_int (fun _ _ => rfl)) (pe_ix (ix_tupK K rfl) (pv 0) pe_int (fun _ _ => rfl))) pa_nil))))), ?_⟩
    walk_at "go"
    refine g_I (C := CDivN) ⟨by omega, by omega⟩ ?_
    walk_at "go"
    refine g_I (C := CDivN) ⟨by omega, by omega⟩ ?_
    walk_at "go"
    exact k _ (by assumption)
theorem scFull : FnScope ["_law_sizes_here", "_law_wishes_here", "_law_planes", "_law_side", "_law_boxes_here", "_law_box", "_law_wish"] ["_law_sizes_here", "_law_wishes_here", "_law_planes"] (defScope sFull) := ⟨rfl, rfl, rfl, by decide +kernel, rfl, by decide +kernel, by decide +kernel⟩
include T in
theorem ok__law_full {f : Addr} {fd : FuncData} (F : FnP K "_law_full" "_law_full" sFull f fd)
    (c__law_boxes : Cal P w K mg base CX0 1 "_law_boxes" ["_law_sizes_here", "_law_wish"] spBoxesOf)  :
    FnOk P w K mg base CX0 2 f fd ["_law_sizes_here", "_law_wishes_here", "_law_planes"] spFullBox := by
  refine F.ok scFull (fun vs H Q E h => ?_) (fun cdv A outer s H vs Q E hr h => ?_)
  · obtain ⟨t, a, l, b, ws, many, rfl, _⟩ := h; rfl
  · obtain ⟨t, a, l, b, ws, many, rfl, ht, l0, l1, hb, ⟨bs, ha, hws⟩, hz, k⟩ := h
    refine ⟨_, PSs.nox (pss_cons (ps_for PassesOwn.never rfl (pi_range1 (by rfl) T.z_range (pa_cons pe_int pa_nil)) (pg_name (i := 3) scFull.nd rfl (Or.inr rfl))
      (pss_cons (ps_setLc (i := 4) (own := [("_law_wish", 6)]) (g := gName 6) (tt := tYes) rfl scFull.nd rfl rfl (sw_true rfl rfl rfl (by decide +kernel)) (pi_list (pv 1)) (blkOk_by (N := ["_law_sizes_here", "_law_wishes_here", "_law_planes", "_law_side", "_law_boxes_here", "_law_box", "_law_wish"]) (sc := defScope sFull) (by decide +kernel)) (fun _ _ _ _ _ => (pg_name (i := 6) scFull.nd rfl (Or.inl rfl))) (fun _ _ _ _ _ => pts_nil) (fun _ _ _ _ _ => (pe_ix (ix_tupK K rfl) (pe_callF c__law_boxes hr (by decide) (by rfl) (pa_cons (pv 0) (pa_cons (pv 6) pa_nil))) (pv 3) (fun _ _ => rfl))))
      (pss_one (ps_for PassesOwn.never rfl (pi_range1 (by rfl) T.z_range (pa_cons (pe_ix (ix_tupK K rfl) (pv 0) pe_int (fun _ _ => rfl)) pa_nil)) (pg_name (i := 5) scFull.nd rfl (Or.inl rfl))
      (pss_one (ps_if (pt_cmpR op_gt (pe_bm PySem.F.plainAttrs_list PySem.F.slot_list_count PySem.F.type_list_count mt_lcount (pv 4) (pa_cons (pv 5) pa_nil)) (pv 2) (nomark _)) (pss_one (ps_ret (pe_tup (pa_cons (pe_ix (ix_listK K rfl) (pe_lst (pa_cons pe_str (pa_cons pe_str pa_nil))) (pv 3) (fun _ _ => rfl)) (pa_cons (pv 5) pa_nil))))) pss_nil))))))
      (pss_one (ps_ret pe_non))), ?_⟩
    walk_at "go"
    refine g_ir1 (by omega) (by omega) ?_
    refine for_it walk_range (fun i σ H' => Same H H' ∧ (1 ≤ i → fullAt l b ws many false = none) ∧ (2 ≤ i → fullAt l b ws many true = none) ∧ ∃ x3 x4 x5, σ = [some (.ref t), some (.ref a), some (.int many), x3, x4, x5, none])
      ⟨fun _ _ h => h, fun h => absurd h (by omega), fun h => absurd h (by omega), _, _, _, rfl⟩ (fun i σ H' _ h => trivial) (fun i x σ H3 H4 hi h y => ?_) (fun σ H' h => ?_)
    · obtain ⟨sB, f1, f2, x3, x4, x5, rfl⟩ := h
      obtain ⟨rfl, ey⟩ := y
      obtain ⟨sd', f0⟩ : ∃ sd : Bool, i = (if sd then 1 else 0) := by
        have hi' : i < 2 := hi
        match i, hi' with
        | 0, _ => exact ⟨false, rfl⟩
        | 1, _ => exact ⟨true, rfl⟩
      have ei : (0 : Int) + (i : Int) = (if sd' then 1 else 0) := by rw [f0]; cases sd' <;> rfl
      have ey2 : x = V.int (if sd' then 1 else 0) := by rw [ey]; show V.int (0 + (i : Int)) = _; rw [ei]
      subst ey2
      walk_at "go"
      refine g_iL (sB _ _ ha) ?_
      intro D hD
      refine lc_fm walk_list (fun i => ws[i]?.map fun w => V.int (sd (bx l w) sd')) hD (by rw [List.length_map, hws.len]; exact hz) (fun H' s => SqL.of (s _ _ (sB _ _ ha))) (fun i y H1 H2 hi s yy Kt Kf k1 k2 => ?_) (fun H1 s1 hl1 => ?_)
      · obtain ⟨rfl, hx⟩ := yy
        obtain ⟨c, rfl, hc⟩ := refs_at hx
        obtain ⟨p, hp, hpt⟩ := hws.at_ hc
        walk_at "go"
        refine ⟨rfl, ?_⟩
        walk_at "go"
        have sC := sB.trans s
        refine ⟨t, c, l, b, p.1, p.2, rfl, sC _ _ ht, sC _ _ hpt, l0, l1, fun q hq => ?_⟩
        walk_at "go"
        refine g_ixTt (p := q) upd_same (at_sd (bx l p) sd') ?_
        exact k1 _ _ (by rw [hp]; rfl) (same_new hq)
      have hbx : (List.range (bs.map V.ref).length).filterMap (fun i => ws[i]?.map fun w => V.int (sd (bx l w) sd')) = (ws.map fun w => sd (bx l w) sd').map V.int := by
        rw [fm_map ws _ _ (by rw [List.length_map, hws.len]), List.map_map]; rfl
      rw [hbx] at hl1
      have sC := sB.trans s1
      walk_at "go"
      refine g_ir1 (by omega) (by omega) ?_
      refine for_it walk_range (fun j σ H' => Same H1 H' ∧ (∀ k : Nat, k < j → ¬ many < (cnt l ws sd' k : Nat)) ∧ ∃ x5, σ = [some (.ref t), some (.ref a), some (.int many), some (.int (if sd' then 1 else 0)), some (.ref D), x5, none])
        ⟨fun _ _ h => h, fun _ h => absurd h (by omega), _, rfl⟩ (fun _ _ _ _ _ => trivial) (fun j x σ H5 H6 hj h y => ?_) (fun σ H' h => ?_)
      · obtain ⟨sD, g1, x5', rfl⟩ := h
        obtain ⟨rfl, rfl⟩ := y
        have hD6 := sD _ _ hl1
        walk_at "go"
        refine ⟨D, _, (0 + (j : Int)), rfl, rfl, SqL.of hD6, ?_⟩
        walk_at "go"
        rw [Int.zero_add]
        have hcc : List.count (j : Int) (ws.map fun w => sd (bx l w) sd') = cnt l ws sd' (j : Int) := rfl
        rw [hcc]
        have sE := sC.trans sD
        by_cases e : many < ((cnt l ws sd' (j : Int) : Nat) : Int)
        · rw [decide_eq_true e]
          walk_at "go"
          refine g_ixLl (v := sideV sd') upd_same (by cases sd' <;> rfl) ?_
          walk_at "go"
          have hj' : j < b := by simpa using hj
          have fa : fullAt l b ws many sd' = some (sd', (j : Int)) := by
            unfold fullAt
            rw [find_first (i := j) hj' (by simpa using e) fun k hk => by simpa using g1 k hk]
            rfl
          have ef : full l b ws many = some (sd', (j : Int)) := by
            unfold full
            cases sd' with
            | false => rw [fa]
            | true => rw [f1 (by rw [f0]; decide), fa]
          rename_i p8 hp8 p9 hp9
          have z := k _ (same_snoc (same_snoc sE hp8) hp9 (o := .tup [sideV sd', .int (0 + (j : Int))]))
          rw [ef] at z
          exact z p9 (by rw [Int.zero_add]; exact upd_same)
        · rw [decide_eq_false e]
          walk_at "go"
          refine ⟨sD, fun k hk => ?_, _, rfl⟩
          by_cases ek : k = j
          · rw [ek]; exact e
          · exact g1 k (by omega)
      · obtain ⟨sD, g1, x5', rfl⟩ := h
        have fa : fullAt l b ws many sd' = none := by
          unfold fullAt
          rw [Option.map_eq_none_iff, List.find?_eq_none]
          intro k hk
          have := g1 k (by have := List.mem_range.mp hk; omega)
          simpa using this
        refine ⟨sC.trans sD, fun h1 => ?_, fun h2 => ?_, _, _, _, rfl⟩
        · cases sd' with
          | false => exact fa
          | true => exact f1 (by rw [f0]; decide)
        · cases sd' with
          | false => rw [f0] at h2; exact absurd h2 (by decide)
          | true => exact fa
    · obtain ⟨sB, f1, f2, x4, x5, x6, rfl⟩ := h
      walk_at "go"
      have e : full l b ws many = none := by unfold full; rw [f1 (by decide), f2 (by decide)]
      have z := k H' sB
      rw [e] at z
      exact z
end
end Kx
set_option maxHeartbeats 4000000
namespace Kx
open PySem PySem.Spec PyProof.Rows L2

local macro_rules | `(tactic| walk_at "ht") => `(tactic| (repeat (first | assumption | exact upd_same | refine upd_old ?_ (by assumption) | refine Same.at_ (by assumption) ?_ | refine Fr.tup (by assumption) ?_)))
local macro_rules | `(tactic| walk_at "go1") => `(tactic| (first
  | ((with_reducible apply g_var); (focus rfl)) | with_reducible refine g_op ?_ | with_reducible refine g_c ?_ | with_reducible refine g_I0 ?_ | with_reducible refine g_eqI ?_ | with_reducible refine g_neI ?_
  | with_reducible refine g_cons ?_ | with_reducible refine g_nil ?_ | with_reducible refine g_tup ?_ | with_reducible refine g_lst ?_ | with_reducible refine g_bl ?_ | with_reducible refine g_test ?_
  | with_reducible refine g_B ?_ | with_reducible refine g_and ?_ | with_reducible refine g_or ?_ | with_reducible refine g_not ?_ | with_reducible refine g_andV ?_ | with_reducible refine g_orV ?_
  | with_reducible refine g_notV ?_ | with_reducible refine g_if ?_ | with_reducible refine g_cb ?_ | with_reducible refine g_call ?_ | with_reducible refine g_chain ?_ | with_reducible refine g_un ?_
  | with_reducible refine g_u ?_ | with_reducible refine g_seq ?_ | with_reducible refine g_next ?_ | with_reducible refine g_ret ?_ | with_reducible refine g_set ?_ | with_reducible refine g_ifS ?_
  | with_reducible refine g_drop ?_ | with_reducible refine g_asg ?_ | with_reducible refine g_name ?_ | with_reducible refine g_tc ?_ | with_reducible refine g_tn ?_ | with_reducible refine g_par ?_
  | with_reducible refine g_par3 ?_ | with_reducible refine g_p2 ?_ | with_reducible refine g_p3 ?_ | with_reducible refine g_fs ?_ | with_reducible refine g_fld ?_ | with_reducible refine g_m ?_
  | with_reducible refine g_mk ?_ | with_reducible refine g_dg ?_ | with_reducible refine g_dp ?_ | with_reducible refine g_din ?_ | with_reducible refine g_dni ?_ | with_reducible refine g_bm ?_
  | with_reducible refine g_mg ?_ | with_reducible refine g_il ?_ | with_reducible refine g_it ?_ | with_reducible refine g_ir ?_ | with_reducible refine g_ik ?_ | with_reducible refine g_for ?_
  | with_reducible refine g_lc ?_ | with_reducible refine g_ie ?_ | with_reducible refine g_iz ?_ | with_reducible refine g_yes ?_ | with_reducible refine g_retN ?_ | with_reducible refine g_gsub ?_ | with_reducible refine g_isN ?_ | with_reducible refine g_ntN ?_
  | with_reducible refine g_isiInt ?_ | with_reducible refine g_isiBool ?_ | with_reducible refine g_sl ?_ | with_reducible refine g_on ?_ | with_reducible refine g_os ?_ | ((with_reducible refine g_dsz ?_ ?_); (focus rfl); intro p hp)
  | ((with_reducible apply g_ixTt); (focus (walk_at "ht"; done)); (focus rfl)) | ((with_reducible apply g_ixLl); (focus (walk_at "ht"; done)); (focus rfl)) | ((with_reducible apply g_isiT); (focus (walk_at "ht"; done))) | ((with_reducible apply g_lnL); (focus (walk_at "ht"; done))) | ((with_reducible apply g_lnT); (focus (walk_at "ht"; done))) | ((with_reducible apply g_tTt); (focus (walk_at "ht"; done)); (focus rfl))
  | ((with_reducible apply g_tyL); (focus (walk_at "ht"; done))) | refine iteT ?_ | refine iteF ?_))
local macro_rules | `(tactic| walk_at "go") => `(tactic| (repeat (walk_at "go1")))
/-- the hand: cells, place, rest, mix, count -/
def HandAt (H : Hp) (h : Addr) : Prop := ∃ (c : Addr) (cells : List Int) (i1 : Nat) (i2 i3 i4 : Int), H h = some (.lst [.ref c, .int i1, .int i2, .int i3, .int i4]) ∧ H c = some (.lst (cells.map V.int)) ∧ h ≠ c
def handCells (H : Hp) (h : Addr) : Addr := match H h with
  | some (.lst (.ref c :: _)) => c
  | _ => 0
theorem HandAt.fr {W : List Addr} {H H' : Hp} {h : Addr} (x : HandAt H h) (f : Fr W H H') (n : h ∉ W) (nc : handCells H h ∉ W) : HandAt H' h ∧ handCells H' h = handCells H h := by
  obtain ⟨c, cells, i1, i2, i3, i4, h1, h2, h3⟩ := x
  have e : handCells H h = c := by unfold handCells; rw [h1]
  rw [e] at nc ⊢
  have q := f.at_ h1 n
  exact ⟨⟨c, cells, i1, i2, i3, i4, q, f.at_ h2 nc, h3⟩, by unfold handCells; rw [q]⟩
def spHand (K : PySem.W.Frag) : Sp := fun vs H Q _ => ∃ (a : Addr) (ns : List Int), vs = [.ref a] ∧ True ∧ SqL K H a (ns.map V.int) ∧ ∀ H' h, Same H H' → H h = none → H (handCells H' h) = none → HandAt H' h → Q (.ref h) H'
def spDraw : Sp := fun vs H Q _ => ∃ (h : Addr) (many : Int), vs = [.ref h, .int many] ∧ HandAt H h ∧ 0 < many ∧ many < 1000 ∧ ∀ H' (r : Int), Fr [h] H H' → HandAt H' h → handCells H' h = handCells H h → 0 ≤ r → r < many → Q (.int r) H'
section
variable {P : Program} {w : World} {K : PySem.W.Frag} {mg : Str → Option Value} {base : Heap} (T : Tx K mg)
theorem scDraw : FnScope ["_law_hand_here", "_law_many", "_law_cell", "_law_digit", "_law_number"] ["_law_hand_here", "_law_many"] (defScope sDraw) := ⟨rfl, rfl, rfl, by decide +kernel, rfl, by decide +kernel, by decide +kernel⟩
include T in
theorem ok__law_draw {f : Addr} {fd : FuncData} (F : FnP K "_law_draw" "_law_draw" sDraw f fd)
      :
    FnOk P w K mg base CX0 1 f fd ["_law_hand_here", "_law_many"] spDraw := by
  refine F.ok scDraw (fun vs H Q E h => ?_) (fun cdv A outer s H vs Q E hr h => ?_)
  · obtain ⟨h, many, rfl, _⟩ := h; rfl
  · obtain ⟨h, many, rfl, ⟨c, cells, i1, i2, i3, i4, hh, hc, hne⟩, m0, m1, k⟩ := h
    refine ⟨_, PSs.nox (pss_cons (ps_if (PW.pt (pw_and (pt_cmpR op_eq (pe_ix (ix_listK K rfl) (pv 0) pe_int (fun _ _ => rfl)) pe_int (nomark _)) (pw_and1 (pt_cmpR op_lt (pe_ix (ix_listK K rfl) (pv 0) pe_int (fun _ _ => rfl)) (pe_callB (call_lenK K rfl) (by rfl) T.z_len (by decide +kernel) (pa_cons (pe_ix (ix_listK K rfl) (pv 0) pe_int (fun _ _ => rfl)) pa_nil)) (nomark _))))) (pss_cons (ps_set (i := 2) scDraw.nd rfl (Or.inl rfl) (pe_ix (ix_listK K rfl) (pe_ix (ix_listK K rfl) (pv 0) pe_int (fun _ _ => rfl)) (pe_ix (ix_listK K rfl) (pv 0) pe_int (fun _ _ => rfl)) (fun _ _ => rfl)))
      (pss_cons (ps_asg (pe_op op_add (pe_ix (ix_listK K rfl) (pv 0) pe_int (fun _ _ => rfl)) pe_int) (pg_sub (pv 0) pe_int set_list))
      (pss_cons (ps_asg (pe_op op_modN (pe_callTy call_int1 (by rfl) T.z_int (by decide +kernel) (pa_cons (pe_op op_add (pe_op op_add (pe_op op_mul (pe_ix (ix_listK K rfl) (pv 0) pe_int (fun _ _ => rfl)) pe_int) (pv 2)) pe_int) pa_nil)) pe_int) (pg_sub (pv 0) pe_int set_list))
      (pss_one (ps_if (pt_cmpR op_ge (pv 2) (pe_op op_pow pe_int pe_int) (nomark _)) (pss_one (ps_asg (pv 2) (pg_sub (pv 0) pe_int set_list))) pss_nil))))) pss_nil)
      (pss_cons (ps_if (pt_cmpR op_gt (pe_ix (ix_listK K rfl) (pv 0) pe_int (fun _ _ => rfl)) pe_int (nomark _)) (pss_cons (ps_set (i := 3) scDraw.nd rfl (Or.inl rfl) (pe_op op_modN (pe_callTy call_int1 (by rfl) T.z_int (by decide +kernel) (pa_cons (pe_ix (ix_listK K rfl) (pv 0) pe_int (fun _ _ => rfl)) pa_nil)) (pv 1)))
      (pss_cons (ps_asg (pe_op op_fdivN (pe_ix (ix_listK K rfl) (pv 0) pe_int (fun _ _ => rfl)) (pv 1)) (pg_sub (pv 0) pe_int set_list))
      (pss_one (ps_ret (pv 3))))) pss_nil)
      (pss_cons (ps_asg (pe_op op_add (pe_ix (ix_listK K rfl) (pv 0) pe_int (fun _ _ => rfl)) pe_int) (pg_sub (pv 0) pe_int set_list))
      (pss_cons (ps_set (i := 4) scDraw.nd rfl (Or.inl rfl) (pe_op op_modN (pe_callTy call_int1 (by rfl) T.z_int (by decide +kernel) (pa_cons (pe_op op_mul (pe_callTy call_int1 (by rfl) T.z_int (by decide +kernel) (pa_cons (pe_op op_add (pe_ix (ix_listK K rfl) (pv 0) pe_int (fun _ _ => rfl)) (pe_op op_mul pe_int (pe_ix (ix_listK K rfl) (pv 0) pe_int (fun _ _ => rfl)))) pa_nil)) pe_int) pa_nil)) pe_int))
      (pss_cons (ps_set (i := 4) scDraw.nd rfl (Or.inl rfl) (pe_op op_modN (pe_callTy call_int1 (by rfl) T.z_int (by decide +kernel) (pa_cons (pe_op op_mul (pv 4) (pe_op op_add (pe_op op_fdivN (pv 4) pe_int) pe_int)) pa_nil)) pe_int))
      (pss_cons (ps_set (i := 4) scDraw.nd rfl (Or.inl rfl) (pe_op op_modN (pe_callTy call_int1 (by rfl) T.z_int (by decide +kernel) (pa_cons (pe_op op_mul (pv 4) (pe_op op_add (pe_op op_fdivN (pv 4) pe_int) pe_int)) pa_nil)) pe_int))
      (pss_one (ps_ret (pe_op op_modN (pe_callTy call_int1 (by rfl) T.z_int (by decide +kernel) (pa_cons (pe_op op_fdivN (pv 4) pe_int) pa_nil)) (pv 1)))))))))), ?_⟩
    have ehc : handCells H h = c := by unfold handCells; rw [hh]
    rw [ehc] at k
    have kk : ∀ H' (j1 : Nat) (j2 j3 j4 r : Int), Fr [h] H H' → H' h = some (.lst [.ref c, .int j1, .int j2, .int j3, .int j4]) → 0 ≤ r → r < many → Q (.int r) H' := fun H' j1 j2 j3 j4 r f e r0 r1 =>
      k H' r f ⟨c, cells, j1, j2, j3, j4, e, f.at_ hc (by simpa using Ne.symm hne), hne⟩ (by unfold handCells; rw [e]) r0 r1
    refine g_cut1 (fun σ' H' => Fr [h] H H' ∧ ∃ (j1 : Nat) (j2 j3 : Int) (x2 : Option V), H' h = some (.lst [.ref c, .int j1, .int j2, .int j3, .int i4]) ∧ σ' = [some (.ref h), some (.int many), x2, none, none]) ?_ (fun NX tail => ?_)
    · rintro σ' H1 ⟨f1, j1, j2, j3, x2, hh1, rfl⟩
      walk_at "go"
      by_cases c2 : j2 > 0
      · rw [decide_eq_true c2]
        walk_at "go"
        refine .inl ⟨j2, rfl, ?_⟩
        walk_at "go"
        refine g_I (C := fun _ j => j ≠ 0) (by omega) ?_
        walk_at "go"
        refine g_I (C := CDivN) ⟨by omega, by omega⟩ ?_
        walk_at "go"
        refine ⟨h, _, 2, 2, rfl, rfl, hh1, rfl, ?_⟩
        have f2 := f1.mut hh1 (u := .lst ([V.ref c, .int j1, .int j2, .int j3, .int i4].set 2 (.int (j2.fdiv many)))) (fun z => z) (.inl (by simp))
        walk_at "go"
        rw [Int.fmod_eq_emod_of_nonneg _ (by omega)]
        exact kk _ j1 (j2.fdiv many) j3 i4 _ f2 upd_same (Int.emod_nonneg _ (by omega)) (Int.emod_lt_of_pos _ (by omega))
      · rw [decide_eq_false c2]
        walk_at "go"
        refine ⟨h, _, 4, 4, rfl, rfl, hh1, rfl, ?_⟩
        have f2 := f1.mut hh1 (u := .lst ([V.ref c, .int j1, .int j2, .int j3, .int i4].set 4 (.int (i4 + 1)))) (fun z => z) (.inl (by simp))
        have hh2 : (upd H1 h (.lst ([V.ref c, .int j1, .int j2, .int j3, .int i4].set 4 (.int (i4 + 1))))) h = some (.lst [V.ref c, .int j1, .int j2, .int j3, .int (i4 + 1)]) := upd_same
        generalize (upd H1 h (.lst ([V.ref c, .int j1, .int j2, .int j3, .int i4].set 4 (.int (i4 + 1))))) = H2 at f2 hh2 ⊢
        walk_at "go"
        refine g_I (C := CMul) (.inl ⟨by omega, by omega⟩) ?_
        walk_at "go"
        refine .inl ⟨_, rfl, ?_⟩
        walk_at "go"
        refine g_I (C := CMul) (.inr ⟨by omega, by omega⟩) ?_
        walk_at "go"
        refine .inl ⟨_, rfl, ?_⟩
        walk_at "go"
        refine g_I (C := fun _ j => j ≠ 0) (by omega) ?_
        rw [Int.fmod_eq_emod_of_nonneg _ (by omega)]
        have b1 := Int.emod_nonneg ((j3 + 7919 * (i4 + 1)) * 48271) (show (2147483647 : Int) ≠ 0 by decide)
        have b2 := Int.emod_lt_of_pos ((j3 + 7919 * (i4 + 1)) * 48271) (show (0 : Int) < 2147483647 by decide)
        generalize ((j3 + 7919 * (i4 + 1)) * 48271) % 2147483647 = n1 at b1 b2 ⊢
        walk_at "go"
        refine g_I (C := CDivN) ⟨by omega, by omega⟩ ?_
        walk_at "go"
        refine g_I (C := CMul) (.inl ⟨by omega, by omega⟩) ?_
        walk_at "go"
        refine .inl ⟨_, rfl, ?_⟩
        walk_at "go"
        refine g_I (C := fun _ j => j ≠ 0) (by omega) ?_
        rw [Int.fmod_eq_emod_of_nonneg _ (by omega)]
        have b3 := Int.emod_nonneg (n1 * (n1.fdiv 1009 + 69621)) (show (2147483647 : Int) ≠ 0 by decide)
        have b4 := Int.emod_lt_of_pos (n1 * (n1.fdiv 1009 + 69621)) (show (0 : Int) < 2147483647 by decide)
        generalize (n1 * (n1.fdiv 1009 + 69621)) % 2147483647 = n2 at b3 b4 ⊢
        walk_at "go"
        refine g_I (C := CDivN) ⟨by omega, by omega⟩ ?_
        walk_at "go"
        refine g_I (C := CMul) (.inl ⟨by omega, by omega⟩) ?_
        walk_at "go"
        refine .inl ⟨_, rfl, ?_⟩
        walk_at "go"
        refine g_I (C := fun _ j => j ≠ 0) (by omega) ?_
        walk_at "go"
        refine g_I (C := CDivN) ⟨by omega, by omega⟩ ?_
        walk_at "go"
        refine .inl ⟨_, rfl, ?_⟩
        walk_at "go"
        refine g_I (C := fun _ j => j ≠ 0) (by omega) ?_
        rw [Int.fmod_eq_emod_of_nonneg _ (by omega : 0 ≤ many)]
        exact kk _ j1 j2 j3 (i4 + 1) _ f2 hh2 (Int.emod_nonneg _ (by omega)) (Int.emod_lt_of_pos _ (by omega))
    · walk_at "go"
      by_cases c2 : i2 = 0
      · rw [decide_eq_true c2]
        walk_at "go"
        rw [List.length_map]
        by_cases c3 : (i1 : Int) < (cells.length : Nat)
        · rw [decide_eq_true c3]
          have hcell : cells[i1]? = some cells[i1] := List.getElem?_eq_getElem (by omega)
          generalize cells[i1] = cell at hcell
          walk_at "go"
          refine g_ixLl hc (atI_nat (by rw [List.getElem?_map, hcell]; rfl)) ?_
          walk_at "go"
          refine ⟨h, _, 1, 1, rfl, rfl, hh, rfl, ?_⟩
          have f1 := Fr.refl.mut hh (u := .lst ([V.ref c, .int i1, .int i2, .int i3, .int i4].set 1 (.int ((i1 : Int) + 1)))) (fun z => z) (W := [h]) (.inl (by simp))
          have hh1 : (upd H h (.lst ([V.ref c, .int i1, .int i2, .int i3, .int i4].set 1 (.int ((i1 : Int) + 1))))) h = some (.lst [V.ref c, .int ((i1 + 1 : Nat) : Int), .int i2, .int i3, .int i4]) := by rw [upd_same]; rfl
          generalize (upd H h (.lst ([V.ref c, .int i1, .int i2, .int i3, .int i4].set 1 (.int ((i1 : Int) + 1))))) = H1 at f1 hh1 ⊢
          walk_at "go"
          refine g_I (C := CMul) (.inr ⟨by omega, by omega⟩) ?_
          walk_at "go"
          refine .inl ⟨_, rfl, ?_⟩
          walk_at "go"
          refine g_I (C := fun _ j => j ≠ 0) (by omega) ?_
          walk_at "go"
          refine ⟨h, _, 3, 3, rfl, rfl, hh1, rfl, ?_⟩
          generalize ((i3 * 69621 + cell + 11).fmod 2147483629) = mix
          have f2 := f1.mut hh1 (u := .lst ([V.ref c, .int ((i1 + 1 : Nat) : Int), .int i2, .int i3, .int i4].set 3 (.int mix))) (fun z => z) (.inl (by simp))
          have hh2 : (upd H1 h (.lst ([V.ref c, .int ((i1 + 1 : Nat) : Int), .int i2, .int i3, .int i4].set 3 (.int mix)))) h = some (.lst [V.ref c, .int ((i1 + 1 : Nat) : Int), .int i2, .int mix, .int i4]) := by rw [upd_same]; rfl
          generalize (upd H1 h (.lst ([V.ref c, .int ((i1 + 1 : Nat) : Int), .int i2, .int i3, .int i4].set 3 (.int mix)))) = H2 at f2 hh2 ⊢
          walk_at "go"
          refine g_I (C := CPow) ⟨by omega, by omega, by decide⟩ ?_
          walk_at "go"
          by_cases c4 : cell ≥ 10 ^ (Int.toNat 18)
          · rw [decide_eq_true c4]
            walk_at "go"
            refine ⟨h, _, 2, 2, rfl, rfl, hh2, rfl, ?_⟩
            have f3 := f2.mut hh2 (u := .lst ([V.ref c, .int ((i1 + 1 : Nat) : Int), .int i2, .int mix, .int i4].set 2 (.int cell))) (fun z => z) (.inl (by simp))
            exact tail _ _ ⟨f3, i1 + 1, cell, mix, _, upd_same, rfl⟩
          · rw [decide_eq_false c4]
            exact tail _ _ ⟨f2, i1 + 1, i2, mix, _, hh2, rfl⟩
        · rw [decide_eq_false c3]
          exact tail _ _ ⟨Fr.refl, i1, i2, i3, _, hh, rfl⟩
      · rw [decide_eq_false c2]
        exact tail _ _ ⟨Fr.refl, i1, i2, i3, _, hh, rfl⟩
theorem scHand : FnScope ["_law_script", "_law_cells", "_law_cell"] ["_law_script"] (defScope sHand) := ⟨rfl, rfl, rfl, by decide +kernel, rfl, by decide +kernel, by decide +kernel⟩
include T in
theorem ok__law_hand {f : Addr} {fd : FuncData} (F : FnP K "_law_hand" "_law_hand" sHand f fd)
      :
    FnOk P w K mg base CX0 1 f fd ["_law_script"] (spHand K) := by
  refine F.ok scHand (fun vs H Q E h => ?_) (fun cdv A outer s H vs Q E hr h => ?_)
  · obtain ⟨a, ns, rfl, _⟩ := h; rfl
  · obtain ⟨a, ns, rfl, _, ha, k⟩ := h
    refine ⟨_, PSs.nox (pss_cons (ps_setLc (i := 1) (own := [("_law_cell", 2)]) (g := gName 2) (tt := tYes) rfl scHand.nd rfl rfl (sw_true rfl rfl rfl (by decide +kernel)) (pi_list (pe_slice sl_list (pv 0) po_none (po_some pe_int))) (blkOk_by (N := ["_law_script", "_law_cells", "_law_cell"]) (sc := defScope sHand) (by decide +kernel)) (fun _ _ _ _ _ => (pg_name (i := 2) scHand.nd rfl (Or.inl rfl))) (fun _ _ _ _ _ => pts_nil) (fun _ _ _ _ _ => (pe_callB call_abs (by rfl) T.z_abs (by decide +kernel) (pa_cons (pe_callTy call_int1 (by rfl) T.z_int (by decide +kernel) (pa_cons (pv 2) pa_nil)) pa_nil))))
      (pss_one (ps_ret (pe_lst (pa_cons (pv 1) (pa_cons pe_int (pa_cons pe_int (pa_cons (pe_op op_add pe_int (pe_callB (call_lenK K rfl) (by rfl) T.z_len (by decide +kernel) (pa_cons (pv 1) pa_nil))) (pa_cons pe_int pa_nil))))))))), ?_⟩
    have big : 100000 < sizeLine := by rw [sizeLine_eq]; omega
    walk_at "go"
    refine g_no ?_
    refine g_pt ?_
    walk_at "go"
    refine g_pi ?_
    refine ⟨a, _, rfl, ha, fun p hp => ?_⟩
    have e1 : cutV (ns.map V.int) none (some ((63 : Nat) : Int)) = (ns.take 63).map V.int := by rw [cut_take, List.map_take]
    have e2 : cutV (ns.map V.int) none (some 63) = (ns.take 63).map V.int := e1
    rw [e2]
    have s1 : Same H (upd H p (.lst ((ns.take 63).map V.int))) := same_new hp
    have hp1 : (upd H p (.lst ((ns.take 63).map V.int))) p = some (.lst ((ns.take 63).map V.int)) := upd_same
    generalize (upd H p (.lst ((ns.take 63).map V.int))) = H1 at s1 hp1 ⊢
    refine g_iL hp1 ?_
    intro D hD
    refine lc_fm walk_list (fun i => (ns.take 63)[i]?.map fun n => V.int (if n < 0 then -n else n)) hD (by rw [List.length_map, List.length_take]; omega) (fun H' s => SqL.of (s _ _ hp1)) (fun i y H2 H3 hi s yy Kt Kf k1 k2 => ?_) (fun H2 s2 hl2 => ?_)
    · obtain ⟨rfl, hy⟩ := yy
      obtain ⟨n, rfl, hn⟩ := ints_at hy
      walk_at "go"
      refine ⟨rfl, ?_⟩
      walk_at "go"
      refine .inl ⟨n, rfl, ?_⟩
      walk_at "go"
      refine ⟨n, rfl, ?_⟩
      exact k1 _ _ (by rw [hn]; rfl) (fun _ _ h => h)
    · rw [fm_map (ns.take 63) _ _ (by rw [List.length_map])] at hl2
      have e3 : ((ns.take 63).map fun n => V.int (if n < 0 then -n else n)) = ((ns.take 63).map fun n => if n < 0 then -n else n).map V.int := by rw [List.map_map]; rfl
      rw [e3] at hl2
      walk_at "go"
      rename_i h hh
      have hDh : h ≠ D := fun z => by rw [z, hl2] at hh; cases hh
      have hDH : H D = none := same_none s1 hD
      refine k _ h (same_snoc (s1.trans s2) hh) (same_none (s1.trans s2) hh) ?_ ⟨D, _, 0, 0, _, 0, upd_same, upd_old hl2 hh, hDh⟩
      unfold handCells
      rw [upd_same]
      exact hDH
end
end Kx
set_option maxHeartbeats 4000000
namespace Kx
open PySem PySem.Spec PyProof.Rows L2

local macro_rules | `(tactic| walk_at "ht") => `(tactic| (repeat (first | assumption | exact upd_same | refine upd_old ?_ (by assumption) | refine Same.at_ (by assumption) ?_ | refine Fr.tup (by assumption) ?_)))
local macro_rules | `(tactic| walk_at "go1") => `(tactic| (first
  | ((with_reducible apply g_var); (focus rfl)) | with_reducible refine g_op ?_ | with_reducible refine g_c ?_ | with_reducible refine g_I0 ?_ | with_reducible refine g_eqI ?_ | with_reducible refine g_neI ?_
  | with_reducible refine g_cons ?_ | with_reducible refine g_nil ?_ | with_reducible refine g_tup ?_ | with_reducible refine g_lst ?_ | with_reducible refine g_bl ?_ | with_reducible refine g_test ?_
  | with_reducible refine g_B ?_ | with_reducible refine g_and ?_ | with_reducible refine g_or ?_ | with_reducible refine g_not ?_ | with_reducible refine g_andV ?_ | with_reducible refine g_orV ?_
  | with_reducible refine g_notV ?_ | with_reducible refine g_if ?_ | with_reducible refine g_cb ?_ | with_reducible refine g_call ?_ | with_reducible refine g_chain ?_ | with_reducible refine g_un ?_
  | with_reducible refine g_u ?_ | with_reducible refine g_seq ?_ | with_reducible refine g_next ?_ | with_reducible refine g_ret ?_ | with_reducible refine g_set ?_ | with_reducible refine g_ifS ?_
  | with_reducible refine g_drop ?_ | with_reducible refine g_asg ?_ | with_reducible refine g_name ?_ | with_reducible refine g_tc ?_ | with_reducible refine g_tn ?_ | with_reducible refine g_par ?_
  | with_reducible refine g_par3 ?_ | with_reducible refine g_p2 ?_ | with_reducible refine g_p3 ?_ | with_reducible refine g_fs ?_ | with_reducible refine g_fld ?_ | with_reducible refine g_m ?_
  | with_reducible refine g_mk ?_ | with_reducible refine g_dg ?_ | with_reducible refine g_dp ?_ | with_reducible refine g_din ?_ | with_reducible refine g_dni ?_ | with_reducible refine g_bm ?_
  | with_reducible refine g_mg ?_ | with_reducible refine g_il ?_ | with_reducible refine g_it ?_ | with_reducible refine g_ir ?_ | with_reducible refine g_ik ?_ | with_reducible refine g_for ?_
  | with_reducible refine g_lc ?_ | with_reducible refine g_ie ?_ | with_reducible refine g_iz ?_ | with_reducible refine g_yes ?_ | with_reducible refine g_retN ?_ | with_reducible refine g_gsub ?_ | with_reducible refine g_isN ?_ | with_reducible refine g_ntN ?_
  | with_reducible refine g_isiInt ?_ | with_reducible refine g_isiBool ?_ | with_reducible refine g_sl ?_ | with_reducible refine g_on ?_ | with_reducible refine g_os ?_ | ((with_reducible refine g_dsz ?_ ?_); (focus rfl); intro p hp)
  | ((with_reducible apply g_ixTt); (focus (walk_at "ht"; done)); (focus rfl)) | ((with_reducible apply g_ixLl); (focus (walk_at "ht"; done)); (focus rfl)) | ((with_reducible apply g_isiT); (focus (walk_at "ht"; done))) | ((with_reducible apply g_lnL); (focus (walk_at "ht"; done))) | ((with_reducible apply g_lnT); (focus (walk_at "ht"; done))) | ((with_reducible apply g_tTt); (focus (walk_at "ht"; done)); (focus rfl))
  | ((with_reducible apply g_tyL); (focus (walk_at "ht"; done))) | refine iteT ?_ | refine iteF ?_))
local macro_rules | `(tactic| walk_at "go") => `(tactic| (repeat (walk_at "go1")))
def spSizes : Sp := fun vs H Q _ => ∃ (h : Addr), vs = [.ref h] ∧ HandAt H h ∧ ∀ H' (s : Addr) (l : Int) (b : Nat), Fr [h] H H' → HandAt H' h → handCells H' h = handCells H h → Pt H' s (l, (b : Int)) → 1 ≤ l → l ≤ 12 → 1 ≤ b → l * b ≤ 12 → Q (.ref s) H'
def spWishes : Sp := fun vs H Q _ => ∃ (h : Addr) (n : Nat), vs = [.ref h, .int n, .int n] ∧ HandAt H h ∧ n ≤ 100 ∧ ∀ H' (t : Addr) (ws : List (Int × Int)), Fr [h] H H' → HandAt H' h → handCells H' h = handCells H h → Tp H' t ws → ws.length = n → (ws.map (·.1)).Nodup → (ws.map (·.2)).Nodup →
  (∀ w ∈ ws, (0 ≤ w.1 ∧ w.1 < n) ∧ (0 ≤ w.2 ∧ w.2 < n)) → Q (.ref t) H'
/-- the law's own record -/
structure LawAt (H : Hp) (o la wy : Addr) (l : Int) (b : Nat) (al : List Int) (m : Wy) (mv : Int) : Prop where
  ob : ∃ sz, H o = some (.dK [((Sum.inr "sizes" : L2.Key), .ref sz), (Sum.inr "alive", .ref la), (Sum.inr "ways", .ref wy), (Sum.inr "moved", .int mv)]) ∧ Pt H sz (l, (b : Int))
  al_ : H la = some (.lst (al.map V.int))
  wy_ : H wy = some (.dT (dm m))
theorem LawAt.fr {W : List Addr} {H H' : Hp} {o la wy : Addr} {l : Int} {b : Nat} {al : List Int} {m : Wy} {mv : Int} (h : LawAt H o la wy l b al m mv) (f : Fr W H H') (n1 : o ∉ W) (n2 : la ∉ W) (n3 : wy ∉ W) : LawAt H' o la wy l b al m mv :=
  ⟨let ⟨sz, h1, h2⟩ := h.ob; ⟨sz, f.at_ h1 n1, f.tup h2⟩, f.at_ h.al_ n2, f.at_ h.wy_ n3⟩
theorem LawAt.same {H H' : Hp} {o la wy : Addr} {l : Int} {b : Nat} {al : List Int} {m : Wy} {mv : Int} (h : LawAt H o la wy l b al m mv) (s : Same H H') : LawAt H' o la wy l b al m mv := h.fr (W := []) (Fr.of_same s) (by simp) (by simp) (by simp)
def spLLaid : Sp := fun vs H Q _ => ∃ (s a : Addr) (l : Int) (b : Nat) (al : List Int), vs = [.ref s, .ref a] ∧ Pt H s (l, (b : Int)) ∧ H a = some (.lst (al.map V.int)) ∧
  ∀ H' o la wy, Same H H' → H o = none → H la = none → H wy = none → LawAt H' o la wy l b al [] 0 → Q (.ref o) H'
theorem g_rgL {te : L2.St → Hp → (Int → Int → Hp → Prop) → Prop} {σ : L2.St} {H : Hp} {Q : VK} (q : te σ H fun a b H1 => RgOk a b ∧ ∀ q, H1 q = none → Q (.ref q) (upd H1 q (.lst (rgV a b)))) : tLstRg te σ H Q := q
theorem g_rg1 {ta : TE} {σ : L2.St} {H : Hp} {Q : Int → Int → Hp → Prop} (q : ta σ H fun x H1 => ∃ n, x = .int n ∧ Q 0 n H1) : tRg1 ta σ H Q := q
theorem rg_nums (n : Nat) : rgV 0 (n : Int) = (nums n).map V.int := by
  unfold rgV nums
  rw [List.map_map]
  have e : ((n : Int) - 0).toNat = n := by omega
  rw [e]
  refine List.map_congr_left fun i _ => ?_
  simp
theorem nums_nodup (n : Nat) : (nums n).Nodup := by
  unfold nums
  have h : (List.range n).Nodup := List.nodup_range
  unfold List.Nodup at *
  rw [List.pairwise_map]
  exact h.imp fun {a b} h e => h (Int.ofNat.inj e)
theorem erase_perm {l : List Int} {k : Nat} {y : Int} (h : l[k]? = some y) : (y :: l.eraseIdx k).Perm l := by
  induction l generalizing k with
  | nil => cases h
  | cons a l ih => cases k with
    | zero => cases h; exact List.Perm.refl _
    | succ k =>
      rw [List.eraseIdx_cons_succ]
      exact (List.Perm.swap a y _).trans ((ih (by simpa using h)).cons a)
/-- what is left and what is drawn: each one once -/
structure Drw (n : Nat) (ls fs : List Int) : Prop where
  nd : (ls ++ fs).Nodup
  rg : ∀ x ∈ ls ++ fs, 0 ≤ x ∧ x < n
theorem Drw.step {n : Nat} {ls fs : List Int} {k : Nat} {y : Int} (h : Drw n ls fs) (hk : ls[k]? = some y) : Drw n (ls.eraseIdx k) (fs ++ [y]) := by
  have p : (ls.eraseIdx k ++ (fs ++ [y])).Perm (ls ++ fs) := by
    have q := (erase_perm hk).append_right fs
    refine List.Perm.trans ?_ q
    rw [← List.append_assoc]
    exact List.perm_append_comm (l₁ := ls.eraseIdx k ++ fs) (l₂ := [y])
  exact ⟨p.nodup_iff.mpr h.nd, fun x hx => h.rg x (p.mem_iff.mp hx)⟩
theorem seq_nat {r : Int} {n : Nat} (h0 : 0 ≤ r) (h1 : r < n) : seqIndex? r n = some r.toNat := by
  unfold seqIndex?
  simp
  rw [if_neg (by omega)]
  simp [h0, h1]
section
variable {P : Program} {w : World} {K : PySem.W.Frag} {mg : Str → Option Value} {base : Heap} (T : Tx K mg)
theorem scSizes : FnScope ["_law_hand_here", "_law_lines"] ["_law_hand_here"] (defScope sSizes) := ⟨rfl, rfl, rfl, by decide +kernel, rfl, by decide +kernel, by decide +kernel⟩
theorem ok__law_sizes {f : Addr} {fd : FuncData} (F : FnP K "_law_sizes" "_law_sizes" sSizes f fd)
    (c__law_draw : Cal P w K mg base CX0 1 "_law_draw" ["_law_hand_here", "_law_many"] spDraw)  :
    FnOk P w K mg base CX0 2 f fd ["_law_hand_here"] spSizes := by
  refine F.ok scSizes (fun vs H Q E h => ?_) (fun cdv A outer s H vs Q E hr h => ?_)
  · obtain ⟨h, rfl, _⟩ := h; rfl
  · obtain ⟨h, rfl, hh, k⟩ := h
    refine ⟨_, PSs.nox (pss_cons (ps_set (i := 1) scSizes.nd rfl (Or.inl rfl) (pe_op op_add pe_int (pe_callF c__law_draw hr (by decide) (by rfl) (pa_cons (pv 0) (pa_cons pe_int pa_nil)))))
      (pss_one (ps_ret (pe_tup (pa_cons (pv 1) (pa_cons (pe_op op_add pe_int (pe_callF c__law_draw hr (by decide) (by rfl) (pa_cons (pv 0) (pa_cons (pe_op op_fdivN pe_int (pv 1)) pa_nil)))) pa_nil)))))), ?_⟩
    walk_at "go"
    refine ⟨h, 12, rfl, hh, by omega, by omega, fun H1 r f1 hh1 hc1 r0 r1 => ?_⟩
    walk_at "go"
    refine g_I (C := CDivN) ⟨by omega, by omega⟩ ?_
    rw [Int.fdiv_eq_ediv_of_nonneg _ (by omega)]
    have d1 : 1 ≤ 12 / (1 + r) := by
      rw [Int.le_ediv_iff_mul_le (by omega)]; omega
    have d2 : 12 / (1 + r) * (1 + r) ≤ 12 := Int.ediv_mul_le _ (by omega)
    have d3 : 12 / (1 + r) ≤ 12 := by
      have : 12 / (1 + r) ≤ 12 / (1 + r) * (1 + r) := by
        have := Int.mul_le_mul_of_nonneg_left (show (1 : Int) ≤ 1 + r by omega) (show 0 ≤ 12 / (1 + r) by omega)
        omega
      omega
    generalize 12 / (1 + r) = dv at d1 d2 d3
    walk_at "go"
    refine ⟨h, dv, rfl, hh1, by omega, by omega, fun H2 r2 f2 hh2 hc2 q0 q1 => ?_⟩
    walk_at "go"
    rename_i p hp
    have s3 : Same H2 (upd H2 p (.tup [.int (1 + r), .int (1 + r2)])) := same_new hp
    have f3 := (f1.trans f2).trans (Fr.of_same (W := [h]) s3)
    have hm : (1 + r) * (1 + r2) ≤ 12 := by
      have := Int.mul_le_mul_of_nonneg_left (show 1 + r2 ≤ dv by omega) (show 0 ≤ 1 + r by omega)
      rw [Int.mul_comm (1 + r) dv] at this
      omega
    have hf := hh2.fr (Fr.of_same (W := []) s3) (by simp) (by simp)
    refine k _ p (1 + r) (1 + r2).toNat f3 hf.1 (hf.2.trans (hc2.trans hc1)) ?_ (by omega) (by omega) (by omega) ?_
    · have e : (((1 + r2).toNat : Nat) : Int) = 1 + r2 := by omega
      rw [e]; exact upd_same
    · have e : (((1 + r2).toNat : Nat) : Int) = 1 + r2 := by omega
      rw [e]; exact hm
theorem scLLaid : FnScope ["_law_sizes_here", "_law_alive"] ["_law_sizes_here", "_law_alive"] (defScope sLLaid) := ⟨rfl, rfl, rfl, by decide +kernel, rfl, by decide +kernel, by decide +kernel⟩
theorem ok__law_laid {f : Addr} {fd : FuncData} (F : FnP K "_law_laid" "_law_laid" sLLaid f fd)
     (T : Tx K mg) :
    FnOk P w K mg base CX0 1 f fd ["_law_sizes_here", "_law_alive"] spLLaid := by
  refine F.ok scLLaid (fun vs H Q E h => ?_) (fun cdv A outer s H vs Q E hr h => ?_)
  · obtain ⟨s, a, l, b, al, rfl, _⟩ := h; rfl
  · obtain ⟨s, a, l, b, al, rfl, hs, ha, k⟩ := h
    refine ⟨_, PSs.nox (pss_one (ps_ret (pe_disp (pps_cons pe_str (pv 0) (pps_cons pe_str (pe_callTy call_list_of (by rfl) T.z_list (by decide +kernel) (pa_cons (pv 1) pa_nil)) (pps_cons pe_str (pe_dnewT) (pps_cons pe_str pe_int pps_nil)))) (by rfl) (by rfl) (fun z => by cases z) (by decide)))), ?_⟩
    walk_at "go"
    intro o ho
    simp only [tPairs]
    have ha1 := upd_old (o := .dK []) ha ho
    walk_at "go"
    refine ⟨a, _, rfl, .inl (SqL.of ha1), fun la hla => ?_⟩
    walk_at "go"
    intro wy hwy
    walk_at "go"
    have hola : o ≠ la := fun z => by rw [← z, upd_same] at hla; cases hla
    have howy : o ≠ wy := fun z => by rw [← z, upd_ne hola, upd_same] at hwy; cases hwy
    have hlawy : la ≠ wy := fun z => by rw [← z, upd_same] at hwy; cases hwy
    have hlaH : H la = none := (upd_none hla).1
    have hwyH : H wy = none := (upd_none (upd_none hwy).1).1
    refine ⟨by rw [upd_ne howy, upd_ne hola]; exact upd_same, [((Sum.inr "sizes" : L2.Key), V.ref s), (Sum.inr "alive", V.ref la), (Sum.inr "ways", V.ref wy), (Sum.inr "moved", V.int 0)], rfl, Nat.le_of_ble_eq_true rfl, ?_⟩
    have e : mergeK [] [((Sum.inr "sizes" : L2.Key), V.ref s), (Sum.inr "alive", V.ref la), (Sum.inr "ways", V.ref wy), (Sum.inr "moved", V.int 0)] = [((Sum.inr "sizes" : L2.Key), V.ref s), (Sum.inr "alive", V.ref la), (Sum.inr "ways", V.ref wy), (Sum.inr "moved", V.int 0)] := by rfl
    rw [e]
    have s1 : Same H (upd (upd (upd (upd H o (.dK [])) la (.lst (al.map V.int))) wy (.dT [])) o (.dK [((Sum.inr "sizes" : L2.Key), .ref s), (Sum.inr "alive", .ref la), (Sum.inr "ways", .ref wy), (Sum.inr "moved", .int 0)])) := fun b u q => by
      have n1 : b ≠ o := fun z => by rw [z, ho] at q; cases q
      have n2 : b ≠ la := fun z => by rw [z, hlaH] at q; cases q
      have n3 : b ≠ wy := fun z => by rw [z, hwyH] at q; cases q
      rw [upd_ne n1, upd_ne n3, upd_ne n2, upd_ne n1]; exact q
    exact k _ o la wy s1 ho hlaH hwyH ⟨⟨s, upd_same, s1 _ _ hs⟩, by rw [upd_ne (Ne.symm hola), upd_ne hlawy]; exact upd_same, by rw [upd_ne (Ne.symm howy)]; exact upd_same⟩
theorem scWishes : FnScope ["_law_hand_here", "_law_many", "_law_most", "_law_lines", "_law_outputs", "_law_found", "_law_turn", "_law_one", "_law_other"] ["_law_hand_here", "_law_many", "_law_most"] (defScope sWishes) := ⟨rfl, rfl, rfl, by decide +kernel, rfl, by decide +kernel, by decide +kernel⟩
include T in
theorem ok__law_wishes {f : Addr} {fd : FuncData} (F : FnP K "_law_wishes" "_law_wishes" sWishes f fd)
    (c__law_draw : Cal P w K mg base CX0 1 "_law_draw" ["_law_hand_here", "_law_many"] spDraw)  :
    FnOk P w K mg base CX0 2 f fd ["_law_hand_here", "_law_many", "_law_most"] spWishes := by
  refine F.ok scWishes (fun vs H Q E h => ?_) (fun cdv A outer s H vs Q E hr h => ?_)
  · obtain ⟨h, n, rfl, _⟩ := h; rfl
  · obtain ⟨h, n, rfl, hh, hn, k⟩ := h
    refine ⟨_, PSs.nox (pss_cons (ps_par3 (i := 3) (j := 4) (k := 5) rfl scWishes.nd rfl rfl rfl rfl rfl rfl (pa_cons (pe_listRg rfl (by rfl) T.z_list (prg_1 (by rfl) T.z_range (pv 1))) (pa_cons (pe_listRg rfl (by rfl) T.z_list (prg_1 (by rfl) T.z_range (pv 1))) (pa_cons (pe_lst pa_nil) pa_nil))) (by rfl))
      (pss_cons (ps_for PassesOwn.never rfl (pi_range1 (by rfl) T.z_range (pa_cons (pe_callB (call_min2 rfl) (by rfl) T.z_min (by decide +kernel) (pa_cons (pv 2) (pa_cons (pv 1) pa_nil))) pa_nil)) (pg_name (i := 6) scWishes.nd rfl (Or.inl rfl))
      (pss_cons (ps_par (i := 7) (j := 8) rfl scWishes.nd rfl rfl (by decide) rfl rfl (pa_cons (pe_bm PySem.F.plainAttrs_list PySem.F.slot_list_pop PySem.F.type_list_pop mt_popAt (pv 3) (pa_cons (pe_callF c__law_draw hr (by decide) (by rfl) (pa_cons (pv 0) (pa_cons (pe_callB (call_lenK K rfl) (by rfl) T.z_len (by decide +kernel) (pa_cons (pv 3) pa_nil)) pa_nil))) pa_nil)) (pa_cons (pe_bm PySem.F.plainAttrs_list PySem.F.slot_list_pop PySem.F.type_list_pop mt_popAt (pv 4) (pa_cons (pe_callF c__law_draw hr (by decide) (by rfl) (pa_cons (pv 0) (pa_cons (pe_callB (call_lenK K rfl) (by rfl) T.z_len (by decide +kernel) (pa_cons (pv 4) pa_nil)) pa_nil))) pa_nil)) pa_nil)) (by rfl))
      (pss_one (ps_expr (pe_bm PySem.F.plainAttrs_list PySem.F.slot_list_append PySem.F.type_list_append mt_append (pv 5) (pa_cons (pe_tup (pa_cons (pv 7) (pa_cons (pv 8) pa_nil))) pa_nil))))))
      (pss_one (ps_ret (pe_callTy call_tuple_of (by rfl) T.z_tuple (by decide +kernel) (pa_cons (pe_callB cr_sortedPO (by rfl) T.z_sorted (by decide +kernel) (pa_cons (pv 5) pa_nil)) pa_nil)))))), ?_⟩
    have big : 100000 < sizeLine := by rw [sizeLine_eq]; omega
    walk_at "go"
    refine g_rgL ?_
    refine g_rg1 ?_
    walk_at "go"
    refine ⟨_, rfl, RgOk.of_le (by omega) (by omega) (by omega) (by omega), fun a1 ha1 => ?_⟩
    walk_at "go"
    refine g_rgL ?_
    refine g_rg1 ?_
    walk_at "go"
    refine ⟨_, rfl, RgOk.of_le (by omega) (by omega) (by omega) (by omega), fun a2 ha2 => ?_⟩
    walk_at "go"
    rename_i a3 ha3
    rw [rg_nums] at ha2 ha3 ⊢
    have n12 : a1 ≠ a2 := fun z => by rw [← z, upd_same] at ha2; cases ha2
    have n13 : a1 ≠ a3 := fun z => by rw [← z] at ha3; rw [upd_ne n12, upd_same] at ha3; cases ha3
    have n23 : a2 ≠ a3 := fun z => by rw [← z, upd_same] at ha3; cases ha3
    have h2H : H a2 = none := (upd_none ha2).1
    have h3H : H a3 = none := (upd_none (upd_none ha3).1).1
    have s1 : Same H (upd (upd (upd H a1 (.lst ((nums n).map V.int))) a2 (.lst ((nums n).map V.int))) a3 (.lst [])) := same_snoc (same_snoc (same_new ha1) ha2) ha3
    have q1 : (upd (upd (upd H a1 (.lst ((nums n).map V.int))) a2 (.lst ((nums n).map V.int))) a3 (.lst [])) a1 = some (.lst ((nums n).map V.int)) := by rw [upd_ne n13, upd_ne n12]; exact upd_same
    have q2 : (upd (upd (upd H a1 (.lst ((nums n).map V.int))) a2 (.lst ((nums n).map V.int))) a3 (.lst [])) a2 = some (.lst ((nums n).map V.int)) := by rw [upd_ne n23]; exact upd_same
    have q3 : (upd (upd (upd H a1 (.lst ((nums n).map V.int))) a2 (.lst ((nums n).map V.int))) a3 (.lst [])) a3 = some (.lst (([] : List Addr).map V.ref)) := upd_same
    generalize (upd (upd (upd H a1 (.lst ((nums n).map V.int))) a2 (.lst ((nums n).map V.int))) a3 (.lst [])) = H1 at s1 q1 q2 q3 ⊢
    obtain ⟨c0, cells0, _, _, _, _, hh0, hc0, hne0⟩ := id hh
    have ehc : handCells H h = c0 := by unfold handCells; rw [hh0]
    have hnh : ∀ a, H a = none → a ≠ h := fun a ha z => by rw [z, hh0] at ha; cases ha
    have hnc : ∀ a, H a = none → a ≠ c0 := fun a ha z => by rw [z, hc0] at ha; cases ha
    obtain ⟨hh1, hcc1⟩ := hh.fr (Fr.of_same (W := []) s1) (by simp) (by simp)
    walk_at "go"
    refine ⟨(n : Int), (n : Int), rfl, ?_⟩
    rw [if_neg (show ¬ (n : Int) < n by omega)]
    refine g_ir1 (by omega) (by omega) ?_
    rw [Int.toNat_natCast]
    refine for_it walk_range (fun i σ H' => Fr [h] H H' ∧ HandAt H' h ∧ handCells H' h = c0 ∧ (∃ ls os : List Int, ∃ bs : List Addr, ∃ fs : List (Int × Int), H' a1 = some (.lst (ls.map V.int)) ∧ H' a2 = some (.lst (os.map V.int)) ∧ H' a3 = some (.lst (bs.map V.ref)) ∧ Prs H' bs fs ∧
        ls.length + i = n ∧ os.length + i = n ∧ fs.length = i ∧ Drw n ls (fs.map (·.1)) ∧ Drw n os (fs.map (·.2))) ∧ ∃ x6 x7 x8, σ = [some (.ref h), some (.int n), some (.int n), some (.ref a1), some (.ref a2), some (.ref a3), x6, x7, x8])
      ⟨Fr.of_same s1, hh1, hcc1.trans ehc, ⟨nums n, nums n, [], [], q1, q2, q3, Prs.nil, by simp [nums], by simp [nums], rfl, ⟨by simpa using nums_nodup n, fun x hx => ?_⟩, ⟨by simpa using nums_nodup n, fun x hx => ?_⟩⟩, none, none, none, rfl⟩ (fun _ _ _ _ _ => trivial) (fun i y σ H2 H3 hi hv yy => ?_) (fun σ H' hv => ?_)
    · simp at hx; obtain ⟨j, hj, rfl⟩ := mem_nums.mp hx; omega
    · simp at hx; obtain ⟨j, hj, rfl⟩ := mem_nums.mp hx; omega
    · obtain ⟨fA, hA, hcA, ⟨ls, os, bs, fs, e1, e2, e3, hbs, l1, l2, l3, d1, d2⟩, x6, x7, x8, rfl⟩ := hv
      obtain ⟨rfl, rfl⟩ := yy
      walk_at "go"
      rw [List.length_map]
      refine ⟨h, (ls.length : Int), rfl, hA, by omega, by omega, fun H4 r f4 hh4 hc4 r0 r1 => ?_⟩
      have e14 := f4.at_ e1 (by simpa using hnh a1 ha1)
      have e24 := f4.at_ e2 (by simpa using hnh a2 h2H)
      have e34 := f4.at_ e3 (by simpa using hnh a3 h3H)
      have hbs4 := hbs.fr f4
      have hlk : ls[r.toNat]? = some (ls[r.toNat]'(by omega)) := List.getElem?_eq_getElem (by omega)
      generalize ls[r.toNat]'(by omega) = y1 at hlk
      walk_at "go"
      refine ⟨a1, _, r, r.toNat, .int y1, rfl, rfl, e14, by omega, by omega, by rw [List.length_map]; exact seq_nat r0 r1, by rw [List.getElem?_map, hlk]; rfl, ?_⟩
      rw [erase_map]
      have f5 : Fr [h] H (upd H4 a1 (.lst ((ls.eraseIdx r.toNat).map V.int))) := (fA.trans f4).mut e14 (fun z => z) (.inr ha1)
      have e15 : (upd H4 a1 (.lst ((ls.eraseIdx r.toNat).map V.int))) a1 = some (.lst ((ls.eraseIdx r.toNat).map V.int)) := upd_same
      have g5 : Fr [a1] H4 (upd H4 a1 (.lst ((ls.eraseIdx r.toNat).map V.int))) := Fr.refl.mut e14 (fun z => z) (.inl (by simp))
      generalize (upd H4 a1 (.lst ((ls.eraseIdx r.toNat).map V.int))) = H5 at f5 e15 g5 ⊢
      have e25 := g5.at_ e24 (by simpa using Ne.symm n12)
      have e35 := g5.at_ e34 (by simpa using Ne.symm n13)
      obtain ⟨hh5, hc5⟩ := hh4.fr g5 (by simpa using Ne.symm (hnh a1 ha1)) (by rw [hc4, hcA]; simpa using Ne.symm (hnc a1 ha1))
      walk_at "go"
      rw [List.length_map]
      refine ⟨h, (os.length : Int), rfl, hh5, by omega, by omega, fun H6 r' f6 hh6 hc6 r0' r1' => ?_⟩
      have e16 := f6.at_ e15 (by simpa using hnh a1 ha1)
      have e26 := f6.at_ e25 (by simpa using hnh a2 h2H)
      have e36 := f6.at_ e35 (by simpa using hnh a3 h3H)
      have hok : os[r'.toNat]? = some (os[r'.toNat]'(by omega)) := List.getElem?_eq_getElem (by omega)
      generalize os[r'.toNat]'(by omega) = y2 at hok
      walk_at "go"
      refine ⟨a2, _, r', r'.toNat, .int y2, rfl, rfl, e26, by omega, by omega, by rw [List.length_map]; exact seq_nat r0' r1', by rw [List.getElem?_map, hok]; rfl, ?_⟩
      rw [erase_map]
      have f7 : Fr [h] H (upd H6 a2 (.lst ((os.eraseIdx r'.toNat).map V.int))) := (f5.trans f6).mut e26 (fun z => z) (.inr h2H)
      have e27 : (upd H6 a2 (.lst ((os.eraseIdx r'.toNat).map V.int))) a2 = some (.lst ((os.eraseIdx r'.toNat).map V.int)) := upd_same
      have g7 : Fr [a2] H6 (upd H6 a2 (.lst ((os.eraseIdx r'.toNat).map V.int))) := Fr.refl.mut e26 (fun z => z) (.inl (by simp))
      generalize (upd H6 a2 (.lst ((os.eraseIdx r'.toNat).map V.int))) = H7 at f7 e27 g7 ⊢
      have e17 := g7.at_ e16 (by simpa using n12)
      have e37 := g7.at_ e36 (by simpa using Ne.symm n23)
      obtain ⟨hh7, hc7⟩ := hh6.fr g7 (by simpa using Ne.symm (hnh a2 h2H)) (by rw [hc6, hc5, hc4, hcA]; simpa using Ne.symm (hnc a2 h2H))
      have hbs7 := ((hbs4.fr g5).fr f6).fr g7
      walk_at "go"
      rename_i pt hpt
      have e38 := upd_old (o := .tup [.int y1, .int y2]) e37 hpt
      refine g_app e38 (by rw [List.length_map, hbs.len]; omega) ?_
      have e9 : bs.map V.ref ++ [V.ref pt] = (bs ++ [pt]).map V.ref := by simp
      rw [e9]
      have g8 : Fr [a3] H7 (upd (upd H7 pt (.tup [.int y1, .int y2])) a3 (.lst ((bs ++ [pt]).map V.ref))) := (Fr.refl.new hpt).mut e38 (fun z => z) (.inl (by simp))
      have hp3 : pt ≠ a3 := fun z => by rw [z, e37] at hpt; cases hpt
      have hptv : Pt (upd (upd H7 pt (.tup [.int y1, .int y2])) a3 (.lst ((bs ++ [pt]).map V.ref))) pt (y1, y2) := by
        show upd _ _ _ _ = _
        rw [upd_ne hp3]; exact upd_same
      have e39 : (upd (upd H7 pt (.tup [.int y1, .int y2])) a3 (.lst ((bs ++ [pt]).map V.ref))) a3 = some (.lst ((bs ++ [pt]).map V.ref)) := upd_same
      obtain ⟨hh8, hc8⟩ := hh7.fr g8 (by simpa using Ne.symm (hnh a3 h3H)) (by rw [hc7, hc6, hc5, hc4, hcA]; simpa using Ne.symm (hnc a3 h3H))
      refine ⟨f7.step g8 (by simp [h3H]), hh8, by rw [hc8, hc7, hc6, hc5, hc4, hcA], ⟨_, _, bs ++ [pt], fs ++ [(y1, y2)], g8.at_ e17 (by simpa using n13), g8.at_ e27 (by simpa using n23), e39, (hbs7.fr g8).snoc hptv, ?_, ?_, by rw [List.length_append, l3]; rfl, ?_, ?_⟩, _, _, _, rfl⟩
      · rw [List.length_eraseIdx, if_pos (by omega)]; omega
      · rw [List.length_eraseIdx, if_pos (by omega)]; omega
      · rw [List.map_append]; exact d1.step hlk
      · rw [List.map_append]; exact d2.step hok
    · obtain ⟨fA, hA, hcA, ⟨ls, os, bs, fs, e1, e2, e3, hbs, l1, l2, l3, d1, d2⟩, x6, x7, x8, rfl⟩ := hv
      have el : ls = [] := List.eq_nil_of_length_eq_zero (by omega)
      have eo : os = [] := List.eq_nil_of_length_eq_zero (by omega)
      subst el eo
      walk_at "go"
      refine ⟨a3, _, fun v => prOf H' (adV v), rfl, SqL.of e3, fun v hv => ?_, fun ys p hs hb hp => ?_⟩
      · obtain ⟨b, hb, rfl⟩ := List.mem_map.mp hv
        exact ⟨b, rfl, (hbs.mem b hb).1⟩
      · obtain ⟨cs, rfl, hcs⟩ := refs_perm hb.perm
        have hcp : Prs H' cs (cs.map (prOf H')) := Prs.map_ fun b hb => (hbs.mem b (hcs.mem_iff.mp hb)).1
        have hfp : (cs.map (prOf H')).Perm fs := by rw [hbs.eq]; exact hcs.map _
        walk_at "go"
        refine ⟨p, _, rfl, .inl ⟨SqL.of upd_same, fun t ht => ?_⟩⟩
        have s9 : Same H' (upd (upd H' p (.lst (cs.map V.ref))) t (.tup (cs.map V.ref))) := same_snoc (same_new hp) ht
        obtain ⟨hh9, hc9⟩ := hA.fr (Fr.of_same (W := []) s9) (by simp) (by simp)
        refine k _ t (cs.map (prOf H')) (fA.trans (Fr.of_same s9)) hh9 (by rw [hc9, hcA, ehc]) ⟨cs, upd_same, hcp.keep fun b xs e => s9 b _ e⟩ (by rw [hfp.length_eq]; omega) ((hfp.map _).nodup_iff.mpr (by simpa using d1.nd)) ((hfp.map _).nodup_iff.mpr (by simpa using d2.nd)) fun w hw => ?_
        have hw' := hfp.mem_iff.mp hw
        exact ⟨d1.rg w.1 (by simpa using ⟨w.2, hw'⟩), d2.rg w.2 (by simpa using ⟨w.1, hw'⟩)⟩
end
end Kx
set_option maxHeartbeats 4000000
namespace Kx
open PySem PySem.Spec PyProof.Rows L2

local macro_rules | `(tactic| walk_at "ht") => `(tactic| (repeat (first | assumption | exact upd_same | refine upd_old ?_ (by assumption) | refine Same.at_ (by assumption) ?_ | refine Fr.tup (by assumption) ?_)))
local macro_rules | `(tactic| walk_at "go1") => `(tactic| (first
  | ((with_reducible apply g_var); (focus rfl)) | with_reducible refine g_op ?_ | with_reducible refine g_c ?_ | with_reducible refine g_I0 ?_ | with_reducible refine g_eqI ?_ | with_reducible refine g_neI ?_
  | with_reducible refine g_cons ?_ | with_reducible refine g_nil ?_ | with_reducible refine g_tup ?_ | with_reducible refine g_lst ?_ | with_reducible refine g_bl ?_ | with_reducible refine g_test ?_
  | with_reducible refine g_B ?_ | with_reducible refine g_and ?_ | with_reducible refine g_or ?_ | with_reducible refine g_not ?_ | with_reducible refine g_andV ?_ | with_reducible refine g_orV ?_
  | with_reducible refine g_notV ?_ | with_reducible refine g_if ?_ | with_reducible refine g_cb ?_ | with_reducible refine g_call ?_ | with_reducible refine g_chain ?_ | with_reducible refine g_un ?_
  | with_reducible refine g_u ?_ | with_reducible refine g_seq ?_ | with_reducible refine g_next ?_ | with_reducible refine g_ret ?_ | with_reducible refine g_set ?_ | with_reducible refine g_ifS ?_
  | with_reducible refine g_drop ?_ | with_reducible refine g_asg ?_ | with_reducible refine g_name ?_ | with_reducible refine g_tc ?_ | with_reducible refine g_tn ?_ | with_reducible refine g_par ?_
  | with_reducible refine g_par3 ?_ | with_reducible refine g_p2 ?_ | with_reducible refine g_p3 ?_ | with_reducible refine g_fs ?_ | with_reducible refine g_fld ?_ | with_reducible refine g_m ?_
  | with_reducible refine g_mk ?_ | with_reducible refine g_dg ?_ | with_reducible refine g_dp ?_ | with_reducible refine g_din ?_ | with_reducible refine g_dni ?_ | with_reducible refine g_bm ?_
  | with_reducible refine g_mg ?_ | with_reducible refine g_il ?_ | with_reducible refine g_it ?_ | with_reducible refine g_ir ?_ | with_reducible refine g_ik ?_ | with_reducible refine g_for ?_
  | with_reducible refine g_lc ?_ | with_reducible refine g_ie ?_ | with_reducible refine g_iz ?_ | with_reducible refine g_yes ?_ | with_reducible refine g_retN ?_ | with_reducible refine g_gsub ?_ | with_reducible refine g_isN ?_ | with_reducible refine g_ntN ?_
  | with_reducible refine g_isiInt ?_ | with_reducible refine g_isiBool ?_ | with_reducible refine g_sl ?_ | with_reducible refine g_on ?_ | with_reducible refine g_os ?_ | ((with_reducible refine g_dsz ?_ ?_); (focus rfl); intro p hp)
  | ((with_reducible apply g_ixTt); (focus (walk_at "ht"; done)); (focus rfl)) | ((with_reducible apply g_ixLl); (focus (walk_at "ht"; done)); (focus rfl)) | ((with_reducible apply g_isiT); (focus (walk_at "ht"; done))) | ((with_reducible apply g_lnL); (focus (walk_at "ht"; done))) | ((with_reducible apply g_lnT); (focus (walk_at "ht"; done))) | ((with_reducible apply g_tTt); (focus (walk_at "ht"; done)); (focus rfl))
  | ((with_reducible apply g_tyL); (focus (walk_at "ht"; done))) | refine iteT ?_ | refine iteF ?_))
local macro_rules | `(tactic| walk_at "go") => `(tactic| (repeat (walk_at "go1")))
/-- (boxes, plane, wish) at b -/
def TieA (l : Int) (H : Hp) (b : Addr) (e : (Int × Int) × Int) : Prop := ∃ p q, H b = some (.tup [.ref p, .int e.2, .ref q]) ∧ Pt H p (eE l e) ∧ Pt H q e.1
theorem stTie (l : Int) : Stab (TieA l) := fun _ _ _ _ k ⟨p, q, h1, h2, h3⟩ => ⟨p, q, k _ _ h1, k _ _ h2, k _ _ h3⟩
/-- a list of such -/
def Lies (l : Int) (H : Hp) (a : Addr) (es : Wy) : Prop := ∃ bs : List Addr, H a = some (.lst (bs.map V.ref)) ∧ Pd (TieA l) H bs es
theorem Lies.same {l : Int} {H H' : Hp} {a : Addr} {es : Wy} (h : Lies l H a es) (s : Same H H') : Lies l H' a es := let ⟨bs, h1, h2⟩ := h; ⟨bs, s _ _ h1, h2.same (stTie l) s⟩
abbrev tPath (l : Int) (es : Wy) (s : Bool) (p one other : Int) : Wy := path (eE l) cC es es.length s p one other
def spRow : Sp := fun vs H Q _ => ∃ (a : Addr) (l : Int) (s : Bool) (p one other : Int) (es : Wy), vs = [.ref a, .int (sN s), .int p, .int one, .int other] ∧ Lies l H a es ∧ Proper (eE l) cC es ∧ one ≠ other ∧ (∀ x ∈ es, sd (eE l x) s = p → cC x ≠ other) ∧ es.length ≤ 1000 ∧
  ∀ H' r, Same H H' → H r = none → Lies l H' r (tPath l es s p one other) → Q (.ref r) H'
theorem fm_bool {α : Type} (q : α → Bool) (ws : List α) : (ws.filterMap fun w => if q w = true then some w else none) = ws.filter q := by
  induction ws with
  | nil => rfl
  | cons w ws ih =>
    rw [List.filterMap_cons, List.filter_cons, ih]
    cases q w <;> rfl
theorem sN_not (s : Bool) : 1 - sN s = sN (!s) := by cases s <;> rfl
theorem atI_sd (p : Int × Int) (s : Bool) : atI [V.int p.1, V.int p.2] (sN s) = some (V.int (sd p s)) := by cases s <;> rfl
theorem head_hit {l : Int} {es : Wy} {s : Bool} {p k : Int} : (es.filter (isAt (eE l) cC s p k)).head? = hit (eE l) cC es s p k := List.head?_filter ..
section
variable {P : Program} {w : World} {K : PySem.W.Frag} {mg : Str → Option Value} {base : Heap} (T : Tx K mg)
theorem scRow : FnScope ["_law_lies", "_law_side", "_law_place", "_law_first", "_law_second", "_law_found", "_law_colour", "_law_here", "_law_is_longer", "_law_step", "_law_tie"] ["_law_lies", "_law_side", "_law_place", "_law_first", "_law_second"] (defScope sRow) := ⟨rfl, rfl, rfl, by decide +kernel, rfl, by decide +kernel, by decide +kernel⟩
include T in
theorem ok__law_row {f : Addr} {fd : FuncData} (F : FnP K "_law_row" "_law_row" sRow f fd)
      :
    FnOk P w K mg base CX0 1 f fd ["_law_lies", "_law_side", "_law_place", "_law_first", "_law_second"] spRow := by
  refine F.ok scRow (fun vs H Q E h => ?_) (fun cdv A outer s H vs Q E hr h => ?_)
  · obtain ⟨a, l, s, p, one, other, es, rfl, _⟩ := h; rfl
  · obtain ⟨a, l, s0, p, one, other, es, rfl, hls, hP, hne, h0, hn, k⟩ := h
    refine ⟨_, PSs.nox (pss_cons (ps_asg (pe_tup (pa_cons (pe_lst pa_nil) (pa_cons (pv 3) (pa_cons (pe_tup (pa_cons (pv 1) (pa_cons (pv 2) pa_nil))) pa_nil)))) (pg_tupK K rfl (n := 3) (by rfl) (pgs_cons (pg_name (i := 5) scRow.nd rfl (Or.inl rfl)) (pgs_cons (pg_name (i := 6) scRow.nd rfl (Or.inr rfl)) (pgs_cons (pg_name (i := 7) scRow.nd rfl (Or.inr rfl)) pgs_nil)))))
      (pss_cons (ps_set (i := 8) scRow.nd rfl (Or.inl rfl) pe_bl)
      (pss_cons (ps_while PassesOwn.never (pt_val (pv 8))
      (pss_cons (ps_setLc (i := 9) (own := [("_law_tie", 10)]) (g := gName 10) rfl scRow.nd rfl rfl (sw_true rfl rfl rfl (by decide +kernel)) (pi_list (pv 0)) (blkOk_by (N := ["_law_lies", "_law_side", "_law_place", "_law_first", "_law_second", "_law_found", "_law_colour", "_law_here", "_law_is_longer", "_law_step", "_law_tie"]) (sc := defScope sRow) (by decide +kernel)) (fun _ _ _ _ _ => (pg_name (i := 10) scRow.nd rfl (Or.inl rfl))) (fun _ _ _ _ _ => (pts_one (PW.pt (pw_and (pt_cmpR op_eq (pe_ix (ix_tupK K rfl) (pe_ix (ix_tupK K rfl) (pv 10) pe_int (fun _ _ => rfl)) (pe_ix (ix_tupK K rfl) (pv 7) pe_int (fun _ _ => rfl)) (fun _ _ => rfl)) (pe_ix (ix_tupK K rfl) (pv 7) pe_int (fun _ _ => rfl)) (nomark _)) (pw_and1 (pt_cmpR op_eq (pe_ix (ix_tupK K rfl) (pv 10) pe_int (fun _ _ => rfl)) (pv 6) (nomark _))))))) (fun _ _ _ _ _ => (pv 10)))
      (pss_cons (ps_set (i := 8) scRow.nd rfl (Or.inl rfl) (pe_cmpR op_gt (pe_callB (call_lenK K rfl) (by rfl) T.z_len (by decide +kernel) (pa_cons (pv 9) pa_nil)) pe_int (nomark _)))
      (pss_one (ps_if (pt_val (pv 8)) (pss_cons (ps_expr (pe_bm PySem.F.plainAttrs_list PySem.F.slot_list_append PySem.F.type_list_append mt_append (pv 5) (pa_cons (pe_ix (ix_listK K rfl) (pv 9) pe_int (fun _ _ => rfl)) pa_nil)))
      (pss_cons (ps_set (i := 7) scRow.nd rfl (Or.inr rfl) (pe_tup (pa_cons (pe_op op_sub pe_int (pe_ix (ix_tupK K rfl) (pv 7) pe_int (fun _ _ => rfl))) (pa_cons (pe_ix (ix_tupK K rfl) (pe_ix (ix_tupK K rfl) (pe_ix (ix_listK K rfl) (pv 9) pe_int (fun _ _ => rfl)) pe_int (fun _ _ => rfl)) (pe_op op_sub pe_int (pe_ix (ix_tupK K rfl) (pv 7) pe_int (fun _ _ => rfl))) (fun _ _ => rfl)) pa_nil))))
      (pss_one (ps_set (i := 6) scRow.nd rfl (Or.inr rfl) (pe_op op_sub (pe_op op_add (pv 3) (pv 4)) (pv 6)))))) pss_nil)))))
      (pss_one (ps_ret (pv 5)))))), ?_⟩
    have big : 100000 < sizeLine := by rw [sizeLine_eq]; omega
    walk_at "go"
    rename_i r hr0 t ht0 u hu0
    have sA : Same H (upd (upd (upd H r (.lst [])) t (.tup [.int (sN s0), .int p])) u (.tup [.ref r, .int one, .ref t])) := same_snoc (same_snoc (same_new hr0) ht0) hu0
    have hr1 : (upd (upd (upd H r (.lst [])) t (.tup [.int (sN s0), .int p])) u (.tup [.ref r, .int one, .ref t])) r = some (.lst (([] : List Addr).map V.ref)) := upd_old (upd_old upd_same ht0) hu0
    have ht1 : Pt (upd (upd (upd H r (.lst [])) t (.tup [.int (sN s0), .int p])) u (.tup [.ref r, .int one, .ref t])) t (sN s0, p) := upd_old upd_same hu0
    generalize (upd (upd (upd H r (.lst [])) t (.tup [.int (sN s0), .int p])) u (.tup [.ref r, .int one, .ref t])) = H1 at sA hr1 ht1 ⊢
    refine g_while ?_
    refine ⟨fun m σ H' => ∃ vs s' p' a' b' te fl x9 cs, Wk (eE l) cC es s0 p one other vs s' p' a' b' ∧ ((fl = true ∧ m = es.length - vs.length + 1) ∨ (fl = false ∧ m = 0 ∧ hit (eE l) cC es s' p' a' = none)) ∧ Same H H' ∧ H' r = some (.lst ((cs : List Addr).map V.ref)) ∧ Pd (TieA l) H' cs vs ∧ Pt H' te (sN s', p') ∧
      σ = [some (.ref a), some (.int (sN s0)), some (.int p), some (.int one), some (.int other), some (.ref r), some (.int a'), some (.ref te), some (.bl fl), x9, none],
      ⟨_, [], s0, p, one, other, t, true, none, [], .start, .inl ⟨rfl, rfl⟩, sA, hr1, .nil, ht1, rfl⟩, ?_⟩
    rintro m σ H1 ⟨vs, s', p', a', b', te, fl, x9, cs, hw, hfl, sA, hr1, hcs, hte, rfl⟩
    walk_at "go"
    cases fl with
    | false =>
      walk_at "go"
      rcases hfl with ⟨z, _⟩ | ⟨_, _, hx⟩
      · cases z
      · refine k H1 r sA hr0 ⟨cs, hr1, ?_⟩
        rw [show tPath l es s0 p one other = vs from (wk_end hP hne h0 hw hx (Nat.le_refl _)).symm]
        exact hcs
    | true =>
      rcases hfl with ⟨_, rfl⟩ | ⟨z, _⟩
      case inr => cases z
      obtain ⟨bs, hl1, hbs⟩ := hls.same sA
      walk_at "go"
      refine ⟨_, fun _ _ h => h, ?_⟩
      walk_at "go"
      refine g_iL hl1 ?_
      intro D hD
      refine lc_st (stTie l) walk_list (fun i => es[i]?.bind fun e => if isAt (eE l) cC s' p' a' e = true then some e else none) hD (by rw [List.length_map, hbs.len]; omega) (fun H' s => SqL.of (s _ _ hl1)) (fun i y H2 H3 hi s yy Kt Kf k1 k2 => ?_) (fun H2 ds s2 hD2 hds => ?_)
      · obtain ⟨rfl, hy⟩ := yy
        obtain ⟨c, rfl, hc⟩ := refs_at hy
        obtain ⟨e, he, pe, qe, ha1, ha2, ha3⟩ := hbs.at_ hc
        have ha1' := s _ _ ha1
        have ha2' := s _ _ ha2
        have hte2 := s _ _ hte
        walk_at "go"
        refine ⟨rfl, ?_⟩
        walk_at "go"
        refine g_ixTt (p := pe) ha2' (atI_sd (eE l e) s') ?_
        walk_at "go"
        by_cases c1 : sd (eE l e) s' = p'
        · rw [decide_eq_true c1]
          walk_at "go"
          by_cases c2 : e.2 = a'
          · rw [decide_eq_true c2]
            walk_at "go"
            refine k1 _ e _ (by rw [he]; show (if _ then _ else _) = _; rw [if_pos (show isAt (eE l) cC s' p' a' e = true from isAt_iff.mpr ⟨c1, c2⟩)]) ⟨pe, qe, ha1', ha2', s _ _ ha3⟩ (fun _ _ h => h)
          · rw [decide_eq_false c2]
            walk_at "go"
            refine k2 _ (by rw [he]; show (if _ then _ else _) = _; rw [if_neg (show ¬ isAt (eE l) cC s' p' a' e = true from fun z => c2 (isAt_iff.mp z).2)]) (fun _ _ h => h)
        · rw [decide_eq_false c1]
          walk_at "go"
          refine k2 _ (by rw [he]; show (if _ then _ else _) = _; rw [if_neg (show ¬ isAt (eE l) cC s' p' a' e = true from fun z => c1 (isAt_iff.mp z).1)]) (fun _ _ h => h)
      · rw [fm_some es _ _ (by rw [List.length_map, hbs.len])] at hds
        have ef : es.filterMap (fun e => if isAt (eE l) cC s' p' a' e = true then some e else none) = es.filter (isAt (eE l) cC s' p' a') := fm_bool _ es
        rw [ef] at hds
        have hhd := head_hit (l := l) (es := es) (s := s') (p := p') (k := a')
        walk_at "go"
        rw [List.length_map]
        have sB := sA.trans s2
        have hr2 := s2 _ _ hr1
        have hte2 := s2 _ _ hte
        have hcs2 := hcs.same (stTie l) s2
        cases hx : hit (eE l) cC es s' p' a' with
        | none =>
          have e0 : es.filter (isAt (eE l) cC s' p' a') = [] := List.head?_eq_none_iff.mp (hhd.trans hx)
          rw [e0] at hds
          have e1 : ds = [] := List.eq_nil_of_length_eq_zero hds.len
          subst e1
          rw [decide_eq_false (show ¬ ((([] : List Addr).length : Nat) : Int) > 0 by decide)]
          walk_at "go"
          exact ⟨0, by omega, vs, s', p', a', b', te, false, _, cs, hw, .inr ⟨rfl, rfl, hx⟩, sB, hr2, hcs2, hte2, rfl⟩
        | some x =>
          have h0d : (es.filter (isAt (eE l) cC s' p' a'))[0]? = some x := by rw [← List.head?_eq_getElem?]; exact hhd.trans hx
          obtain ⟨d0, hd0, px, qx, hx1, hx2, hx3⟩ := hds.get h0d
          have hw2 := hw.step hx
          have hlen2 := wk_len hP hne h0 hw2
          rw [List.length_append, List.length_singleton] at hlen2
          have hcol := (wk_ok hP hne h0 hw).cols
          have hdl : 0 < ds.length := (List.getElem?_eq_some_iff.mp hd0).1
          rw [decide_eq_true (show ((ds.length : Nat) : Int) > 0 by omega)]
          have ix0 : atI (ds.map V.ref) 0 = some (V.ref d0) := atI_nat (j := 0) (by rw [List.getElem?_map, hd0]; rfl)
          walk_at "go"
          refine g_ixLl hD2 ix0 ?_
          walk_at "go"
          refine g_app hr2 (by rw [List.length_map, hcs2.len]; omega) ?_
          have e5 : cs.map V.ref ++ [V.ref d0] = (cs ++ [d0]).map V.ref := by simp
          rw [e5]
          have up : ∀ b xs, H2 b = some (.tup xs) → upd H2 r (.lst ((cs ++ [d0]).map V.ref)) b = some (.tup xs) := fun b xs h => by rw [upd_ne (ne_of h hr2 (fun z => nomatch z))]; exact h
          have sC : Same H (upd H2 r (.lst ((cs ++ [d0]).map V.ref))) := same_mut sB hr0
          have hr3 : upd H2 r (.lst ((cs ++ [d0]).map V.ref)) r = some (.lst ((cs ++ [d0]).map V.ref)) := upd_same
          have hrD : D ≠ r := fun z => by rw [z, hr1] at hD; cases hD
          have hD3 : upd H2 r (.lst ((cs ++ [d0]).map V.ref)) D = some (.lst (ds.map V.ref)) := by rw [upd_ne hrD]; exact hD2
          have hcs3 := (hcs2.keep (stTie l) up)
          have hx1' := up _ _ hx1
          have hx2' := up _ _ hx2
          have hx3' := up _ _ hx3
          have hte3 := up _ _ hte2
          generalize upd H2 r (.lst ((cs ++ [d0]).map V.ref)) = H3 at sC hr3 hD3 hcs3 hx1' hx2' hx3' hte3 ⊢
          walk_at "go"
          refine g_ixLl hD3 ix0 ?_
          walk_at "go"
          rw [sN_not]
          refine g_ixTt hx2' (atI_sd (eE l x) (!s')) ?_
          walk_at "go"
          rename_i t2 ht2
          have sD : Same H3 (upd H3 t2 (.tup [.int (sN (!s')), .int (sd (eE l x) (!s'))])) := same_new ht2
          have ec : one + other - a' = b' := by rcases hcol with ⟨_, h1, h2⟩ | ⟨_, h1, h2⟩ <;> omega
          rw [ec]
          refine ⟨es.length - (vs ++ [x]).length + 1, by rw [List.length_append, List.length_singleton]; omega, vs ++ [x], !s', _, b', a', t2, true, _, cs ++ [d0], hw2, .inl ⟨rfl, rfl⟩, sC.trans sD, sD _ _ hr3, ?_, upd_same, rfl⟩
          exact Pd.same (stTie l) (Paired.snoc hcs3 ⟨px, qx, hx1', hx2', hx3'⟩) sD
end
end Kx
set_option maxHeartbeats 4000000
namespace Kx
open PySem PySem.Spec PyProof.Rows L2

local macro_rules | `(tactic| walk_at "ht") => `(tactic| (repeat (first | assumption | exact upd_same | refine upd_old ?_ (by assumption) | refine Same.at_ (by assumption) ?_ | refine Fr.tup (by assumption) ?_)))
local macro_rules | `(tactic| walk_at "go1") => `(tactic| (first
  | ((with_reducible apply g_var); (focus rfl)) | with_reducible refine g_op ?_ | with_reducible refine g_c ?_ | with_reducible refine g_I0 ?_ | with_reducible refine g_eqI ?_ | with_reducible refine g_neI ?_
  | with_reducible refine g_cons ?_ | with_reducible refine g_nil ?_ | with_reducible refine g_tup ?_ | with_reducible refine g_lst ?_ | with_reducible refine g_bl ?_ | with_reducible refine g_test ?_
  | with_reducible refine g_B ?_ | with_reducible refine g_and ?_ | with_reducible refine g_or ?_ | with_reducible refine g_not ?_ | with_reducible refine g_andV ?_ | with_reducible refine g_orV ?_
  | with_reducible refine g_notV ?_ | with_reducible refine g_if ?_ | with_reducible refine g_cb ?_ | with_reducible refine g_call ?_ | with_reducible refine g_chain ?_ | with_reducible refine g_un ?_
  | with_reducible refine g_u ?_ | with_reducible refine g_seq ?_ | with_reducible refine g_next ?_ | with_reducible refine g_ret ?_ | with_reducible refine g_set ?_ | with_reducible refine g_ifS ?_
  | with_reducible refine g_drop ?_ | with_reducible refine g_asg ?_ | with_reducible refine g_name ?_ | with_reducible refine g_tc ?_ | with_reducible refine g_tn ?_ | with_reducible refine g_par ?_
  | with_reducible refine g_par3 ?_ | with_reducible refine g_p2 ?_ | with_reducible refine g_p3 ?_ | with_reducible refine g_fs ?_ | with_reducible refine g_fld ?_ | with_reducible refine g_m ?_
  | with_reducible refine g_mk ?_ | with_reducible refine g_dg ?_ | with_reducible refine g_dp ?_ | with_reducible refine g_din ?_ | with_reducible refine g_dni ?_ | with_reducible refine g_bm ?_
  | with_reducible refine g_mg ?_ | with_reducible refine g_il ?_ | with_reducible refine g_it ?_ | with_reducible refine g_ir ?_ | with_reducible refine g_ik ?_ | with_reducible refine g_for ?_
  | with_reducible refine g_lc ?_ | with_reducible refine g_ie ?_ | with_reducible refine g_iz ?_ | with_reducible refine g_yes ?_ | with_reducible refine g_retN ?_ | with_reducible refine g_gsub ?_ | with_reducible refine g_isN ?_ | with_reducible refine g_ntN ?_
  | with_reducible refine g_isiInt ?_ | with_reducible refine g_isiBool ?_ | with_reducible refine g_sl ?_ | with_reducible refine g_on ?_ | with_reducible refine g_os ?_ | ((with_reducible refine g_dsz ?_ ?_); (focus rfl); intro p hp)
  | ((with_reducible apply g_ixTt); (focus (walk_at "ht"; done)); (focus rfl)) | ((with_reducible apply g_ixLl); (focus (walk_at "ht"; done)); (focus rfl)) | ((with_reducible apply g_isiT); (focus (walk_at "ht"; done))) | ((with_reducible apply g_lnL); (focus (walk_at "ht"; done))) | ((with_reducible apply g_lnT); (focus (walk_at "ht"; done))) | ((with_reducible apply g_tTt); (focus (walk_at "ht"; done)); (focus rfl))
  | ((with_reducible apply g_tyL); (focus (walk_at "ht"; done))) | refine iteT ?_ | refine iteF ?_))
local macro_rules | `(tactic| walk_at "go") => `(tactic| (repeat (walk_at "go1")))
/-- the colours at a place -/
def atC (l : Int) (es : Wy) (s : Bool) (p : Int) : List Int := es.filterMap fun e => if sd (eE l e) s = p then some e.2 else none
theorem atC_fre {l : Int} {es : Wy} {s : Bool} {p k : Int} : (!decide (k ∈ atC l es s p)) = fre (eE l) cC es s p k := by
  have h : (k ∈ atC l es s p) ↔ ¬ fre (eE l) cC es s p k = true := by
    rw [fre_iff]
    unfold atC
    rw [List.mem_filterMap]
    constructor
    · rintro ⟨e, he, h⟩ z
      by_cases c : sd (eE l e) s = p
      · rw [if_pos c] at h
        exact z e he c (Option.some.inj h)
      · rw [if_neg c] at h; cases h
    · intro h
      refine Classical.byContradiction fun z => h fun x hx h1 h2 => z ⟨x, hx, ?_⟩
      rw [if_pos h1]; exact congrArg some h2
  by_cases c : k ∈ atC l es s p
  · rw [decide_eq_true c]
    have := h.mp c
    cases e : fre (eE l) cC es s p k with
    | false => rfl
    | true => exact absurd e this
  · rw [decide_eq_false c]
    cases e : fre (eE l) cC es s p k with
    | false => exact absurd (h.mpr (by rw [e]; decide)) c
    | true => rfl
theorem atC_len (l : Int) (es : Wy) (s : Bool) (p : Int) : (atC l es s p).length ≤ es.length := List.length_filterMap_le ..
theorem atC_map (l : Int) (es : Wy) (s : Bool) (p : Int) : (es.filterMap fun e => if sd (eE l e) s = p then some (V.int e.2) else none) = (atC l es s p).map V.int := by
  unfold atC
  rw [List.map_filterMap]
  congr 1
  funext e
  by_cases c : sd (eE l e) s = p
  · rw [if_pos c, if_pos c]; rfl
  · rw [if_neg c, if_neg c]; rfl
theorem fmI_bool (q : Int → Bool) (ws : List Int) : (ws.filterMap fun w => if q w = true then some (V.int w) else none) = (ws.filter q).map V.int := by
  induction ws with
  | nil => rfl
  | cons w ws ih =>
    rw [List.filterMap_cons, List.filter_cons, ih]
    cases q w <;> rfl
theorem filt0 {q : Int → Bool} {ws : List Int} {k : Int} (h : ws.find? q = some k) : 0 < (ws.filter q).length ∧ atI ((ws.filter q).map V.int) 0 = some (V.int k) := by
  have h0 : (ws.filter q)[0]? = some k := by rw [← List.head?_eq_getElem?, List.head?_filter]; exact h
  exact ⟨(List.getElem?_eq_some_iff.mp h0).1, atI_nat (j := 0) (by rw [List.getElem?_map, h0]; rfl)⟩
theorem filtN {q : Int → Bool} {ws : List Int} (h : ws.find? q = none) : ws.filter q = [] := by
  rw [← List.head?_eq_none_iff, List.head?_filter]; exact h
def spPutIn : Sp := fun vs H Q _ => ∃ (a t g : Addr) (l : Int) (p : Int × Int) (es : Wy) (cols : List Int), vs = [.ref a, .ref t, .ref g] ∧ Lies l H a es ∧ Pt H t p ∧ H g = some (.lst (cols.map V.int)) ∧ Proper (eE l) cC es ∧ (∃ k ∈ cols, fre (eE l) cC es false p.1 k = true) ∧ (∃ k ∈ cols, fre (eE l) cC es true p.2 k = true) ∧
  es.length ≤ 1000 ∧ cols.length ≤ 1000 ∧
  ∀ H' q r tw, Same H H' → H' q = some (.tup [.int (putG (eE l) cC es cols p).col, .ref r, .ref tw]) → Lies l H' r (putG (eE l) cC es cols p).row → Pt H' tw ((putG (eE l) cC es cols p).one, (putG (eE l) cC es cols p).other) → Q (.ref q) H'
section
variable {P : Program} {w : World} {K : PySem.W.Frag} {mg : Str → Option Value} {base : Heap} (T : Tx K mg)
theorem scPutIn : FnScope ["_law_lies", "_law_pair", "_law_colours", "_law_at_line", "_law_at_output", "_law_both", "_law_one", "_law_other", "_law_first", "_law_second", "_law_tie", "_law_colour"] ["_law_lies", "_law_pair", "_law_colours"] (defScope sPutIn) := ⟨rfl, rfl, rfl, by decide +kernel, rfl, by decide +kernel, by decide +kernel⟩
include T in
theorem ok__law_put_in {f : Addr} {fd : FuncData} (F : FnP K "_law_put_in" "_law_put_in" sPutIn f fd)
    (c__law_row : Cal P w K mg base CX0 1 "_law_row" ["_law_lies", "_law_side", "_law_place", "_law_first", "_law_second"] spRow)  :
    FnOk P w K mg base CX0 2 f fd ["_law_lies", "_law_pair", "_law_colours"] spPutIn := by
  refine F.ok scPutIn (fun vs H Q E h => ?_) (fun cdv A outer s H vs Q E hr h => ?_)
  · obtain ⟨a, t, g, l, p, es, cols, rfl, _⟩ := h; rfl
  · obtain ⟨a, t, g, l, p, es, cols, rfl, hls, ht, hg, hP, hf0, hf1, hn, hcn, k⟩ := h
    refine ⟨_, PSs.nox (pss_cons (ps_set (i := 3) scPutIn.nd rfl (Or.inr rfl) (pe_lc (own := [("_law_tie", 10)]) (g := gName 10) rfl scPutIn.nd (pi_list (pv 0)) (blkOk_by (N := ["_law_lies", "_law_pair", "_law_colours", "_law_at_line", "_law_at_output", "_law_both", "_law_one", "_law_other", "_law_first", "_law_second", "_law_tie", "_law_colour"]) (sc := defScope sPutIn) (by decide +kernel)) (fun _ _ _ _ _ => (pg_name (i := 10) scPutIn.nd rfl (Or.inl rfl))) (fun _ _ _ _ _ => (pts_one (pt_cmpR op_eq (pe_ix (ix_tupK K rfl) (pe_ix (ix_tupK K rfl) (pv 10) pe_int (fun _ _ => rfl)) pe_int (fun _ _ => rfl)) (pe_ix (ix_tupK K rfl) (pv 1) pe_int (fun _ _ => rfl)) (nomark _)))) (fun _ _ _ _ _ => (pe_ix (ix_tupK K rfl) (pv 10) pe_int (fun _ _ => rfl)))))
      (pss_cons (ps_set (i := 4) scPutIn.nd rfl (Or.inr rfl) (pe_lc (own := [("_law_tie", 10)]) (g := gName 10) rfl scPutIn.nd (pi_list (pv 0)) (blkOk_by (N := ["_law_lies", "_law_pair", "_law_colours", "_law_at_line", "_law_at_output", "_law_both", "_law_one", "_law_other", "_law_first", "_law_second", "_law_tie", "_law_colour"]) (sc := defScope sPutIn) (by decide +kernel)) (fun _ _ _ _ _ => (pg_name (i := 10) scPutIn.nd rfl (Or.inl rfl))) (fun _ _ _ _ _ => (pts_one (pt_cmpR op_eq (pe_ix (ix_tupK K rfl) (pe_ix (ix_tupK K rfl) (pv 10) pe_int (fun _ _ => rfl)) pe_int (fun _ _ => rfl)) (pe_ix (ix_tupK K rfl) (pv 1) pe_int (fun _ _ => rfl)) (nomark _)))) (fun _ _ _ _ _ => (pe_ix (ix_tupK K rfl) (pv 10) pe_int (fun _ _ => rfl)))))
      (pss_cons (ps_setLc (i := 5) (own := [("_law_colour", 11)]) (g := gName 11) rfl scPutIn.nd rfl rfl (sw_true rfl rfl rfl (by decide +kernel)) (pi_list (pv 2)) (blkOk_by (N := ["_law_lies", "_law_pair", "_law_colours", "_law_at_line", "_law_at_output", "_law_both", "_law_one", "_law_other", "_law_first", "_law_second", "_law_tie", "_law_colour"]) (sc := defScope sPutIn) (by decide +kernel)) (fun _ _ _ _ _ => (pg_name (i := 11) scPutIn.nd rfl (Or.inl rfl))) (fun _ _ _ _ _ => (pts_one (PW.pt (pw_and (pt_cmpR (op_notInK K rfl) (pv 11) (pv 3) (by rfl)) (pw_and1 (pt_cmpR (op_notInK K rfl) (pv 11) (pv 4) (by rfl))))))) (fun _ _ _ _ _ => (pv 11)))
      (pss_cons (ps_if (pt_cmpR op_gt (pe_callB (call_lenK K rfl) (by rfl) T.z_len (by decide +kernel) (pa_cons (pv 5) pa_nil)) pe_int (nomark _)) (pss_one (ps_ret (pe_tup (pa_cons (pe_ix (ix_listK K rfl) (pv 5) pe_int (fun _ _ => rfl)) (pa_cons (pe_lst pa_nil) (pa_cons (pe_tup (pa_cons pe_int (pa_cons pe_int pa_nil))) pa_nil)))))) pss_nil)
      (pss_cons (ps_set (i := 6) scPutIn.nd rfl (Or.inl rfl) (pe_ix (ix_listK K rfl) (pe_lc (own := [("_law_colour", 11)]) (g := gName 11) rfl scPutIn.nd (pi_list (pv 2)) (blkOk_by (N := ["_law_lies", "_law_pair", "_law_colours", "_law_at_line", "_law_at_output", "_law_both", "_law_one", "_law_other", "_law_first", "_law_second", "_law_tie", "_law_colour"]) (sc := defScope sPutIn) (by decide +kernel)) (fun _ _ _ _ _ => (pg_name (i := 11) scPutIn.nd rfl (Or.inl rfl))) (fun _ _ _ _ _ => (pts_one (pt_cmpR (op_notInK K rfl) (pv 11) (pv 3) (by rfl)))) (fun _ _ _ _ _ => (pv 11))) pe_int (fun _ _ => rfl)))
      (pss_cons (ps_set (i := 7) scPutIn.nd rfl (Or.inl rfl) (pe_ix (ix_listK K rfl) (pe_lc (own := [("_law_colour", 11)]) (g := gName 11) rfl scPutIn.nd (pi_list (pv 2)) (blkOk_by (N := ["_law_lies", "_law_pair", "_law_colours", "_law_at_line", "_law_at_output", "_law_both", "_law_one", "_law_other", "_law_first", "_law_second", "_law_tie", "_law_colour"]) (sc := defScope sPutIn) (by decide +kernel)) (fun _ _ _ _ _ => (pg_name (i := 11) scPutIn.nd rfl (Or.inl rfl))) (fun _ _ _ _ _ => (pts_one (pt_cmpR (op_notInK K rfl) (pv 11) (pv 4) (by rfl)))) (fun _ _ _ _ _ => (pv 11))) pe_int (fun _ _ => rfl)))
      (pss_cons (ps_par (i := 8) (j := 9) rfl scPutIn.nd rfl rfl (by decide) rfl rfl (pa_cons (pe_callF c__law_row hr (by decide) (by rfl) (pa_cons (pv 0) (pa_cons pe_int (pa_cons (pe_ix (ix_tupK K rfl) (pv 1) pe_int (fun _ _ => rfl)) (pa_cons (pv 6) (pa_cons (pv 7) pa_nil)))))) (pa_cons (pe_callF c__law_row hr (by decide) (by rfl) (pa_cons (pv 0) (pa_cons pe_int (pa_cons (pe_ix (ix_tupK K rfl) (pv 1) pe_int (fun _ _ => rfl)) (pa_cons (pv 7) (pa_cons (pv 6) pa_nil)))))) pa_nil)) (by rfl))
      (pss_cons (ps_if (pt_cmpR op_le (pe_callB (call_lenK K rfl) (by rfl) T.z_len (by decide +kernel) (pa_cons (pv 8) pa_nil)) (pe_callB (call_lenK K rfl) (by rfl) T.z_len (by decide +kernel) (pa_cons (pv 9) pa_nil)) (nomark _)) (pss_one (ps_ret (pe_tup (pa_cons (pv 6) (pa_cons (pv 8) (pa_cons (pe_tup (pa_cons (pv 6) (pa_cons (pv 7) pa_nil))) pa_nil)))))) pss_nil)
      (pss_one (ps_ret (pe_tup (pa_cons (pv 7) (pa_cons (pv 9) (pa_cons (pe_tup (pa_cons (pv 6) (pa_cons (pv 7) pa_nil))) pa_nil)))))))))))))), ?_⟩
    have big : 100000 < sizeLine := by rw [sizeLine_eq]; omega
    have big2 : 1000 < sizeLine := by omega
    walk_at "go"
    obtain ⟨bs, hl1, hbs⟩ := id hls
    refine g_iL hl1 ?_
    intro D1 hD1
    refine lc_fm walk_list (fun i => es[i]?.bind fun e => if sd (eE l e) false = p.1 then some (V.int e.2) else none) hD1 (by rw [List.length_map, hbs.len]; omega) (fun H' s => SqL.of (s _ _ hl1)) (fun i y H2 H3 hi s yy Kt Kf k1 k2 => ?_) (fun H2 s2 hD2 => ?_)
    · obtain ⟨rfl, hy⟩ := yy
      obtain ⟨c, rfl, hc⟩ := refs_at hy
      obtain ⟨e, he, pe, qe, ha1, ha2, ha3⟩ := hbs.at_ hc
      have ha1' := s _ _ ha1
      have ha2' := s _ _ ha2
      have ht2 := s _ _ ht
      walk_at "go"
      refine ⟨rfl, ?_⟩
      walk_at "go"
      by_cases c1 : (eE l e).1 = p.1
      · rw [decide_eq_true c1]
        walk_at "go"
        refine k1 _ _ (by rw [he]; show (if _ then _ else _) = _; rw [if_pos (show sd (eE l e) false = p.1 from c1)]) (fun _ _ h => h)
      · rw [decide_eq_false c1]
        walk_at "go"
        refine k2 _ (by rw [he]; show (if _ then _ else _) = _; rw [if_neg (show ¬ sd (eE l e) false = p.1 from c1)]) (fun _ _ h => h)
    rw [fm_some es _ _ (by rw [List.length_map, hbs.len]), atC_map] at hD2
    have hl2 := s2 _ _ hl1
    have hbs2 := hbs.same (stTie l) s2
    have ht2 := s2 _ _ ht
    walk_at "go"
    refine g_iL hl2 ?_
    intro D3 hD3
    refine lc_fm walk_list (fun i => es[i]?.bind fun e => if sd (eE l e) true = p.2 then some (V.int e.2) else none) hD3 (by rw [List.length_map, hbs.len]; omega) (fun H' s => SqL.of (s _ _ hl2)) (fun i y H4 H5 hi s yy Kt Kf k1 k2 => ?_) (fun H3 s3 hD4 => ?_)
    · obtain ⟨rfl, hy⟩ := yy
      obtain ⟨c, rfl, hc⟩ := refs_at hy
      obtain ⟨e, he, pe, qe, ha1, ha2, ha3⟩ := hbs2.at_ hc
      have ha1' := s _ _ ha1
      have ha2' := s _ _ ha2
      have ht3 := s _ _ ht2
      walk_at "go"
      refine ⟨rfl, ?_⟩
      walk_at "go"
      by_cases c1 : (eE l e).2 = p.2
      · rw [decide_eq_true c1]
        walk_at "go"
        refine k1 _ _ (by rw [he]; show (if _ then _ else _) = _; rw [if_pos (show sd (eE l e) true = p.2 from c1)]) (fun _ _ h => h)
      · rw [decide_eq_false c1]
        walk_at "go"
        refine k2 _ (by rw [he]; show (if _ then _ else _) = _; rw [if_neg (show ¬ sd (eE l e) true = p.2 from c1)]) (fun _ _ h => h)
    rw [fm_some es _ _ (by rw [List.length_map, hbs2.len]), atC_map] at hD4
    have sA := s2.trans s3
    have hA1 := s3 _ _ hD2
    have ht3 := s3 _ _ ht2
    have hg3 := sA _ _ hg
    have hls3 := hls.same sA
    have hD1H : H D1 = none := hD1
    clear hl2 hbs2 ht2 hl1 hbs
    walk_at "go"
    refine g_iL hg3 ?_
    intro D5 hD5
    refine lc_fm walk_list (fun i => cols[i]?.bind fun k => if (fre (eE l) cC es false p.1 k && fre (eE l) cC es true p.2 k) = true then some (V.int k) else none) hD5 (by rw [List.length_map]; omega) (fun H' s => SqL.of (s _ _ hg3)) (fun i y H4 H5 hi s yy Kt Kf k1 k2 => ?_) (fun H4 s4 hD6 => ?_)
    · obtain ⟨rfl, hy⟩ := yy
      obtain ⟨c, rfl, hc⟩ := ints_at hy
      have hA1' := s _ _ hA1
      have hA2' := s _ _ hD4
      walk_at "go"
      refine ⟨rfl, ?_⟩
      walk_at "go"
      refine g_ninL hA1' ?_
      rw [atC_fre]
      cases c1 : fre (eE l) cC es false p.1 c with
      | false =>
        walk_at "go"
        refine k2 _ (by rw [hc]; show (if _ then _ else _) = _; rw [c1]; rfl) (fun _ _ h => h)
      | true =>
        walk_at "go"
        refine g_ninL hA2' ?_
        rw [atC_fre]
        cases c2 : fre (eE l) cC es true p.2 c with
        | false =>
          walk_at "go"
          refine k2 _ (by rw [hc]; show (if _ then _ else _) = _; rw [c1, c2]; rfl) (fun _ _ h => h)
        | true =>
          walk_at "go"
          refine k1 _ _ (by rw [hc]; show (if _ then _ else _) = _; rw [c1, c2]; rfl) (fun _ _ h => h)
    rw [fm_some cols _ _ (by rw [List.length_map]), fmI_bool] at hD6
    have sB := sA.trans s4
    walk_at "go"
    rw [List.length_map]
    cases hb : cols.find? (fun k => fre (eE l) cC es false p.1 k && fre (eE l) cC es true p.2 k) with
    | some kc =>
      obtain ⟨f1, f2⟩ := filt0 hb
      have eP : putG (eE l) cC es cols p = ⟨kc, [], 0, 0⟩ := by unfold putG; rw [hb]
      rw [decide_eq_true (show (((cols.filter _).length : Nat) : Int) > 0 by omega)]
      walk_at "go"
      refine g_ixLl hD6 f2 ?_
      walk_at "go"
      rename_i r hr1 tw htw q hq
      rw [eP] at k
      exact k _ q r tw (((sB.trans (same_new hr1)).trans (same_new htw)).trans (same_new hq)) upd_same ⟨[], upd_old (upd_old upd_same htw) hq, .nil⟩ (upd_old upd_same hq)
    | none =>
      rw [filtN hb, decide_eq_false (show ¬ ((([] : List Int).length : Nat) : Int) > 0 by decide)]
      rcases putG_cases hP hf0 hf1 with ⟨kc, _, _, _, _, z⟩ | ⟨one, m1, other, m2, hne, f1, f2, _, ho, hr2, hrow⟩
      · rw [hb] at z; cases z
      have hA1' := s4 _ _ hA1
      have hA2' := s4 _ _ hD4
      have hg4 := s4 _ _ hg3
      have ht4 := s4 _ _ ht3
      have hls4 := hls3.same s4
      clear hA1 hD4 hg3 ht3 hls3 hD2 hD6
      walk_at "go"
      refine g_iL hg4 ?_
      intro D7 hD7
      refine lc_fm walk_list (fun i => cols[i]?.bind fun k => if (fre (eE l) cC es false p.1 k) = true then some (V.int k) else none) hD7 (by rw [List.length_map]; omega) (fun H' s => SqL.of (s _ _ hg4)) (fun i y H4 H5 hi s yy Kt Kf k1 k2 => ?_) (fun H5 s5 hD8 => ?_)
      · obtain ⟨rfl, hy⟩ := yy
        obtain ⟨c, rfl, hc⟩ := ints_at hy
        have hA1'' := s _ _ hA1'
        walk_at "go"
        refine ⟨rfl, ?_⟩
        walk_at "go"
        refine g_ninL hA1'' ?_
        rw [atC_fre]
        cases c1 : fre (eE l) cC es false p.1 c with
        | false =>
          walk_at "go"
          refine k2 _ (by rw [hc]; show (if _ then _ else _) = _; rw [c1]; rfl) (fun _ _ h => h)
        | true =>
          walk_at "go"
          refine k1 _ _ (by rw [hc]; show (if _ then _ else _) = _; rw [c1]; rfl) (fun _ _ h => h)
      rw [fm_some cols _ _ (by rw [List.length_map]), fmI_bool] at hD8
      walk_at "go"
      refine g_ixLl hD8 (filt0 ho).2 ?_
      have hA2'' := s5 _ _ hA2'
      have hg5 := s5 _ _ hg4
      have ht5 := s5 _ _ ht4
      have hls5 := hls4.same s5
      have sC := sB.trans s5
      clear hA1' hA2' hg4 ht4 hls4 hD8
      walk_at "go"
      refine g_iL hg5 ?_
      intro D9 hD9
      refine lc_fm walk_list (fun i => cols[i]?.bind fun k => if (fre (eE l) cC es true p.2 k) = true then some (V.int k) else none) hD9 (by rw [List.length_map]; omega) (fun H' s => SqL.of (s _ _ hg5)) (fun i y H4 H5 hi s yy Kt Kf k1 k2 => ?_) (fun H6 s6 hDa => ?_)
      · obtain ⟨rfl, hy⟩ := yy
        obtain ⟨c, rfl, hc⟩ := ints_at hy
        have hA2''' := s _ _ hA2''
        walk_at "go"
        refine ⟨rfl, ?_⟩
        walk_at "go"
        refine g_ninL hA2''' ?_
        rw [atC_fre]
        cases c1 : fre (eE l) cC es true p.2 c with
        | false =>
          walk_at "go"
          refine k2 _ (by rw [hc]; show (if _ then _ else _) = _; rw [c1]; rfl) (fun _ _ h => h)
        | true =>
          walk_at "go"
          refine k1 _ _ (by rw [hc]; show (if _ then _ else _) = _; rw [c1]; rfl) (fun _ _ h => h)
      rw [fm_some cols _ _ (by rw [List.length_map]), fmI_bool] at hDa
      walk_at "go"
      refine g_ixLl hDa (filt0 hr2).2 ?_
      have ht6 := s6 _ _ ht5
      have hls6 := hls5.same s6
      have sD := sC.trans s6
      clear hA2'' hg5 ht5 hls5 hDa
      have F1 := fre_iff.mp f1
      have F2 := fre_iff.mp f2
      walk_at "go"
      refine ⟨a, l, true, p.2, one, other, es, rfl, hls6, hP, hne, F2, hn, fun H7 r1 s7 hr1 hl1 => ?_⟩
      have ht7 := s7 _ _ ht6
      walk_at "go"
      refine ⟨a, l, false, p.1, other, one, es, rfl, hls6.same s7, hP, Ne.symm hne, F1, hn, fun H8 r3 s8 hr3 hl3 => ?_⟩
      have hl1' := hl1.same s8
      obtain ⟨b1, hb1, hp1⟩ := id hl1'
      obtain ⟨b3, hb3, hp3⟩ := id hl3
      have sE := (sD.trans s7).trans s8
      walk_at "go"
      rw [List.length_map, List.length_map, hp1.len, hp3.len]
      dsimp only [tPath]
      rcases hrow with ⟨row, rfl, hle, eP, _⟩ | ⟨row, rfl, hle, eP, _⟩
      · rw [decide_eq_true (by omega)]
        walk_at "go"
        rename_i tw htw q hq
        rw [eP] at k
        exact k _ q r1 tw ((sE.trans (same_new htw)).trans (same_new hq)) upd_same (hl1'.same ((same_new htw).trans (same_new hq))) (upd_old upd_same hq)
      · rw [decide_eq_false (by omega)]
        walk_at "go"
        rename_i tw htw q hq
        rw [eP] at k
        exact k _ q r3 tw ((sE.trans (same_new htw)).trans (same_new hq)) upd_same (hl3.same ((same_new htw).trans (same_new hq))) (upd_old upd_same hq)
end
end Kx
set_option maxHeartbeats 4000000
namespace Kx
open PySem PySem.Spec PyProof.Rows L2

local macro_rules | `(tactic| walk_at "ht") => `(tactic| (repeat (first | assumption | exact upd_same | refine upd_old ?_ (by assumption) | refine Same.at_ (by assumption) ?_ | refine Fr.tup (by assumption) ?_)))
local macro_rules | `(tactic| walk_at "go1") => `(tactic| (first
  | ((with_reducible apply g_var); (focus rfl)) | with_reducible refine g_op ?_ | with_reducible refine g_c ?_ | with_reducible refine g_I0 ?_ | with_reducible refine g_eqI ?_ | with_reducible refine g_neI ?_
  | with_reducible refine g_cons ?_ | with_reducible refine g_nil ?_ | with_reducible refine g_tup ?_ | with_reducible refine g_lst ?_ | with_reducible refine g_bl ?_ | with_reducible refine g_test ?_
  | with_reducible refine g_B ?_ | with_reducible refine g_and ?_ | with_reducible refine g_or ?_ | with_reducible refine g_not ?_ | with_reducible refine g_andV ?_ | with_reducible refine g_orV ?_
  | with_reducible refine g_notV ?_ | with_reducible refine g_if ?_ | with_reducible refine g_cb ?_ | with_reducible refine g_call ?_ | with_reducible refine g_chain ?_ | with_reducible refine g_un ?_
  | with_reducible refine g_u ?_ | with_reducible refine g_seq ?_ | with_reducible refine g_next ?_ | with_reducible refine g_ret ?_ | with_reducible refine g_set ?_ | with_reducible refine g_ifS ?_
  | with_reducible refine g_drop ?_ | with_reducible refine g_asg ?_ | with_reducible refine g_name ?_ | with_reducible refine g_tc ?_ | with_reducible refine g_tn ?_ | with_reducible refine g_par ?_
  | with_reducible refine g_par3 ?_ | with_reducible refine g_p2 ?_ | with_reducible refine g_p3 ?_ | with_reducible refine g_fs ?_ | with_reducible refine g_fld ?_ | with_reducible refine g_m ?_
  | with_reducible refine g_mk ?_ | with_reducible refine g_dg ?_ | with_reducible refine g_dp ?_ | with_reducible refine g_din ?_ | with_reducible refine g_dni ?_ | with_reducible refine g_bm ?_
  | with_reducible refine g_mg ?_ | with_reducible refine g_il ?_ | with_reducible refine g_it ?_ | with_reducible refine g_ir ?_ | with_reducible refine g_ik ?_ | with_reducible refine g_for ?_
  | with_reducible refine g_lc ?_ | with_reducible refine g_ie ?_ | with_reducible refine g_iz ?_ | with_reducible refine g_yes ?_ | with_reducible refine g_retN ?_ | with_reducible refine g_gsub ?_ | with_reducible refine g_isN ?_ | with_reducible refine g_ntN ?_
  | with_reducible refine g_isiInt ?_ | with_reducible refine g_isiBool ?_ | with_reducible refine g_sl ?_ | with_reducible refine g_on ?_ | with_reducible refine g_os ?_ | ((with_reducible refine g_dsz ?_ ?_); (focus rfl); intro p hp)
  | ((with_reducible apply g_ixTt); (focus (walk_at "ht"; done)); (focus rfl)) | ((with_reducible apply g_ixLl); (focus (walk_at "ht"; done)); (focus rfl)) | ((with_reducible apply g_isiT); (focus (walk_at "ht"; done))) | ((with_reducible apply g_lnL); (focus (walk_at "ht"; done))) | ((with_reducible apply g_lnT); (focus (walk_at "ht"; done))) | ((with_reducible apply g_tTt); (focus (walk_at "ht"; done)); (focus rfl))
  | ((with_reducible apply g_tyL); (focus (walk_at "ht"; done))) | refine iteT ?_ | refine iteF ?_))
local macro_rules | `(tactic| walk_at "go") => `(tactic| (repeat (walk_at "go1")))
section
variable {W : List Addr} {H H' : Hp} {o la wy : Addr} {l : Int} {b : Nat} {al : List Int} {m m' : Wy} {mv mv' : Int} {F : V → Prop} {FH : Hp → Prop}
theorem LawAt.now (h : LawAt H o la wy l b al m mv) : o ≠ wy ∧ la ≠ wy ∧ o ≠ la := by
  obtain ⟨sz, h1, _⟩ := h.ob
  exact ⟨ne_of h1 h.wy_ (fun z => nomatch z), ne_of h.al_ h.wy_ (fun z => nomatch z), ne_of h1 h.al_ (fun z => nomatch z)⟩
theorem LawAt.g1 (h : LawAt H o la wy l b al m mv) (q : ∀ sz, Pt H sz (l, (b : Int)) → F (.ref sz)) : ∃ a' v', V.ref o = .ref a' ∧ DGet H a' (.str "sizes") (some v') ∧ F v' := let ⟨sz, h1, h2⟩ := h.ob; g_dgS h1 (by rfl) (q sz h2)
theorem LawAt.g2 (h : LawAt H o la wy l b al m mv) (q : F (.ref la)) : ∃ a' v', V.ref o = .ref a' ∧ DGet H a' (.str "alive") (some v') ∧ F v' := let ⟨sz, h1, h2⟩ := h.ob; g_dgS h1 (by rfl) q
theorem LawAt.g3 (h : LawAt H o la wy l b al m mv) (q : F (.ref wy)) : ∃ a' v', V.ref o = .ref a' ∧ DGet H a' (.str "ways") (some v') ∧ F v' := let ⟨sz, h1, h2⟩ := h.ob; g_dgS h1 (by rfl) q
theorem LawAt.g4 (h : LawAt H o la wy l b al m mv) (q : F (.int mv)) : ∃ a' v', V.ref o = .ref a' ∧ DGet H a' (.str "moved") (some v') ∧ F v' := let ⟨sz, h1, h2⟩ := h.ob; g_dgS h1 (by rfl) q
theorem LawAt.setw (h : LawAt H o la wy l b al m mv) : Fr [wy] H (upd H wy (.dT (dm m'))) ∧ LawAt (upd H wy (.dT (dm m'))) o la wy l b al m' mv := by
  obtain ⟨n1, n2, n3⟩ := h.now
  have f : Fr [wy] H (upd H wy (.dT (dm m'))) := Fr.refl.mut h.wy_ (fun z => z) (.inl (by simp))
  obtain ⟨sz, h1, h2⟩ := h.ob
  exact ⟨f, ⟨sz, f.at_ h1 (by simpa using n1), f.tup h2⟩, f.at_ h.al_ (by simpa using n2), upd_same⟩
theorem LawAt.seta (h : LawAt H o la wy l b al m mv) {al' : List Int} : Fr [la] H (upd H la (.lst (al'.map V.int))) ∧ LawAt (upd H la (.lst (al'.map V.int))) o la wy l b al' m mv := by
  obtain ⟨n1, n2, n3⟩ := h.now
  have f : Fr [la] H (upd H la (.lst (al'.map V.int))) := Fr.refl.mut h.al_ (fun z => z) (.inl (by simp))
  obtain ⟨sz, h1, h2⟩ := h.ob
  exact ⟨f, ⟨sz, f.at_ h1 (by simpa using n3), f.tup h2⟩, upd_same, f.at_ h.wy_ (by simpa using Ne.symm n2)⟩
theorem LawAt.putw (h : LawAt H o la wy l b al m mv) {t : Addr} {p : Int × Int} {c : Int} (ht : Pt H t p) (hl : m.length < sizeLine) (q : ∀ H4, Fr [wy] H H4 → LawAt H4 o la wy l b al (put m p c) mv → FH H4) :
    ∃ a' H4, V.ref wy = .ref a' ∧ DPut H a' (.ref t) (.int c) H4 ∧ FH H4 := g_dpT h.wy_ ht hl (q _ h.setw.1 h.setw.2)
theorem LawAt.putm (h : LawAt H o la wy l b al m mv) (q : ∀ H4, Fr [o] H H4 → LawAt H4 o la wy l b al m mv' → FH H4) : ∃ a' H4, V.ref o = .ref a' ∧ DPut H a' (.str "moved") (.int mv') H4 ∧ FH H4 := by
  obtain ⟨n1, n2, n3⟩ := h.now
  obtain ⟨sz, h1, h2⟩ := h.ob
  refine g_dpS h1 (Nat.lt_of_lt_of_le (show 4 < 100 by decide) (by rw [sizeLine_eq]; omega)) (q _ (Fr.refl.mut h1 (fun z => z) (.inl (by simp))) ⟨⟨sz, ?_, ?_⟩, ?_, ?_⟩)
  · rw [upd_same]; rfl
  · exact (Fr.refl.mut (W := [o]) h1 (fun z => z) (.inl (by simp))).tup h2
  · rw [upd_ne (Ne.symm n3)]; exact h.al_
  · rw [upd_ne (Ne.symm n1)]; exact h.wy_
end
/-- the ways with these of the row exchanged -/
def mid (m : Wy) (row : Wy) (one other : Int) : Wy := m.map fun e => (e.1, recol cC ⟨0, row, one, other⟩ e)
theorem mid_keys (m row : Wy) (one other : Int) : (mid m row one other).map (·.1) = m.map (·.1) := by unfold mid; rw [List.map_map]; rfl
theorem mid_nil (m : Wy) (one other : Int) : mid m [] one other = m := by
  unfold mid
  conv => rhs; rw [← List.map_id m]
  refine List.map_congr_left fun e _ => ?_
  simp [recol, cC]
theorem look_isSome {m : Wy} {p : Int × Int} (h : p ∈ m.map (·.1)) : (look m p).isSome = true := by obtain ⟨c, hc⟩ := look_mem h; rw [hc]; rfl
theorem mid_put {m row : Wy} {one other : Int} (hn : (m.map (·.1)).Nodup) {x : (Int × Int) × Int} (hx : x ∈ m) : put (mid m row one other) x.1 (one + other - x.2) = mid m (row ++ [x]) one other := by
  unfold put
  rw [if_pos (look_isSome (by rw [mid_keys]; exact List.mem_map.mpr ⟨x, hx, rfl⟩))]
  unfold mid
  rw [List.map_map]
  refine List.map_congr_left fun e he => ?_
  show (if e.1 = x.1 then (e.1, one + other - x.2) else (e.1, recol cC (⟨0, row, one, other⟩ : PutR ((Int × Int) × Int)) e)) = (e.1, recol cC (⟨0, row ++ [x], one, other⟩ : PutR ((Int × Int) × Int)) e)
  unfold recol
  by_cases c : e.1 = x.1
  · have := kn_inj hn he hx c
    subst this
    rw [if_pos rfl, if_pos (List.mem_append_right _ (List.mem_singleton.mpr rfl))]
    rfl
  · have n : e ≠ x := fun z => c (by rw [z])
    rw [if_neg c]
    by_cases h : e ∈ row
    · rw [if_pos h, if_pos (List.mem_append_left _ h)]
    · rw [if_neg h, if_neg (fun z => by rcases List.mem_append.mp z with z | z; exact h z; exact n (List.mem_singleton.mp z))]
theorem free_perm {l : Int} {al : List Int} {m m' : Wy} {w : Int × Int} (h : FreeAt l al m w) (p : m'.Perm m) : FreeAt l al m' w := fun s => by
  obtain ⟨k, h1, h2⟩ := h s
  exact ⟨k, h1, fre_iff.mpr fun x hx => fre_iff.mp h2 x (p.mem_iff.mp hx)⟩
theorem ents_len (m : Wy) (ws : List (Int × Int)) : (ents m ws).length = ws.length := List.length_map ..
theorem newM_mid (l : Int) (al : List Int) (m : Wy) (w : Int × Int) : newM l al m w = mid m (newR l al m w).row (newR l al m w).one (newR l al m w).other ++ [(w, (newR l al m w).col)] := rfl
def spLPut : Sp := fun vs H Q _ => ∃ (o t la wy : Addr) (l : Int) (b : Nat) (al sal : List Int) (m : Wy) (mv : Int) (w : Int × Int), vs = [.ref o, .ref t] ∧ LawAt H o la wy l b al m mv ∧ Pt H t w ∧ 0 < l ∧ l ≤ 12 ∧ b ≤ 12 ∧ sal.Perm al ∧ sal.Pairwise (· ≤ ·) ∧ LOk l sal m ∧ al.length ≤ 1000 ∧ m.length ≤ 300 ∧
  w ∉ m.map (·.1) ∧ (full l b (m.map (·.1) ++ [w]) al.length = none → FreeAt l sal m w) ∧
  (match full l b (m.map (·.1) ++ [w]) al.length with
    | none => ∀ H' r, Fr [o, wy] H H' → LawAt H' o la wy l b al (newM l sal m w) (mv + ((newR l sal m w).row.length : Nat)) → H' r = some (.tup [.str "told", .int ((newR l sal m w).row.length : Nat)]) → Q (.ref r) H'
    | some (s, k) => ∀ H' r, Same H H' → H' r = some (.tup [.str "no", sideV s, .int k]) → Q (.ref r) H')
section
variable {P : Program} {w : World} {K : PySem.W.Frag} {mg : Str → Option Value} {base : Heap} (T : Tx K mg)
theorem scLPut : FnScope ["_law_own", "_law_wish", "_law_full_here", "_law_lies", "_law_plane", "_law_row_here", "_law_two", "_law_tie", "_law_one"] ["_law_own", "_law_wish"] (defScope sLPut) := ⟨rfl, rfl, rfl, by decide +kernel, rfl, by decide +kernel, by decide +kernel⟩
include T in
theorem ok__law_put {f : Addr} {fd : FuncData} (F : FnP K "_law_put" "_law_put" sLPut f fd)
    (c__law_full : Cal P w K mg base CX0 2 "_law_full" ["_law_sizes_here", "_law_wishes_here", "_law_planes"] spFullBox) (c__law_boxes : Cal P w K mg base CX0 1 "_law_boxes" ["_law_sizes_here", "_law_wish"] spBoxesOf) (c__law_put_in : Cal P w K mg base CX0 2 "_law_put_in" ["_law_lies", "_law_pair", "_law_colours"] spPutIn)  :
    FnOk P w K mg base CX0 3 f fd ["_law_own", "_law_wish"] spLPut := by
  refine F.ok scLPut (fun vs H Q E h => ?_) (fun cdv A outer s H vs Q E hr h => ?_)
  · obtain ⟨o, t, la, wy, l, b, al, sal, m, mv, wi, rfl, _⟩ := h; rfl
  · obtain ⟨o, t, la, wy, l, b, al, sal, m, mv, wi, rfl, hl, ht, l0, l1, hb, hsp, hso, hk, hal, hm, hwk, hfr, k⟩ := h
    refine ⟨_, PSs.nox (pss_cons (ps_set (i := 2) scLPut.nd rfl (Or.inl rfl) (pe_callF c__law_full hr (by decide) (by rfl) (pa_cons (pe_dget (hu_of hr) (pv 0) pe_str (fun _ _ => rfl)) (pa_cons (pe_callB cr_sortedPO (by rfl) T.z_sorted (by decide +kernel) (pa_cons (pe_op op_cat (pe_callTy (call_list_dT rfl) (by rfl) T.z_list (by decide +kernel) (pa_cons (pe_dget (hu_of hr) (pv 0) pe_str (fun _ _ => rfl)) pa_nil)) (pe_lst (pa_cons (pv 1) pa_nil))) pa_nil)) (pa_cons (pe_callB (call_lenK K rfl) (by rfl) T.z_len (by decide +kernel) (pa_cons (pe_dget (hu_of hr) (pv 0) pe_str (fun _ _ => rfl)) pa_nil)) pa_nil)))))
      (pss_cons (ps_if (pt_cmpR op_notN (pv 2) pe_non (nomark _)) (pss_one (ps_ret (pe_tup (pa_cons pe_str (pa_cons (pe_ix (ix_tupK K rfl) (pv 2) pe_int (fun _ _ => rfl)) (pa_cons (pe_ix (ix_tupK K rfl) (pv 2) pe_int (fun _ _ => rfl)) pa_nil)))))) pss_nil)
      (pss_cons (ps_setLc (i := 3) (own := [("_law_one", 8)]) (g := gName 8) (tt := tYes) rfl scLPut.nd rfl rfl (sw_true rfl rfl rfl (by decide +kernel)) (pi_list (pe_callB (cr_sortedDT rfl) (by rfl) T.z_sorted (by decide +kernel) (pa_cons (pe_dget (hu_of hr) (pv 0) pe_str (fun _ _ => rfl)) pa_nil))) (blkOk_by (N := ["_law_own", "_law_wish", "_law_full_here", "_law_lies", "_law_plane", "_law_row_here", "_law_two", "_law_tie", "_law_one"]) (sc := defScope sLPut) (by decide +kernel)) (fun _ _ _ _ _ => (pg_name (i := 8) scLPut.nd rfl (Or.inl rfl))) (fun _ _ _ _ _ => pts_nil) (fun _ _ _ _ _ => (pe_tup (pa_cons (pe_callF c__law_boxes hr (by decide) (by rfl) (pa_cons (pe_dget (hu_of hr) (pv 0) pe_str (fun _ _ => rfl)) (pa_cons (pv 8) pa_nil))) (pa_cons (pe_dget (hu_of hr) (pe_dget (hu_of hr) (pv 0) pe_str (fun _ _ => rfl)) (pv 8) (fun _ _ => rfl)) (pa_cons (pv 8) pa_nil))))))
      (pss_cons (ps_asg (pe_callF c__law_put_in hr (by decide) (by rfl) (pa_cons (pv 3) (pa_cons (pe_callF c__law_boxes hr (by decide) (by rfl) (pa_cons (pe_dget (hu_of hr) (pv 0) pe_str (fun _ _ => rfl)) (pa_cons (pv 1) pa_nil))) (pa_cons (pe_callB cr_sortedI (by rfl) T.z_sorted (by decide +kernel) (pa_cons (pe_dget (hu_of hr) (pv 0) pe_str (fun _ _ => rfl)) pa_nil)) pa_nil)))) (pg_tupK K rfl (n := 3) (by rfl) (pgs_cons (pg_name (i := 4) scLPut.nd rfl (Or.inl rfl)) (pgs_cons (pg_name (i := 5) scLPut.nd rfl (Or.inl rfl)) (pgs_cons (pg_name (i := 6) scLPut.nd rfl (Or.inl rfl)) pgs_nil)))))
      (pss_cons (ps_for PassesOwn.never rfl (pi_list (pv 5)) (pg_name (i := 7) scLPut.nd rfl (Or.inl rfl))
      (pss_one (ps_dput (hu_of hr) (pe_dget (hu_of hr) (pv 0) pe_str (fun _ _ => rfl)) (pe_ix (ix_tupK K rfl) (pv 7) pe_int (fun _ _ => rfl)) (pe_op op_sub (pe_op op_add (pe_ix (ix_tupK K rfl) (pv 6) pe_int (fun _ _ => rfl)) (pe_ix (ix_tupK K rfl) (pv 6) pe_int (fun _ _ => rfl))) (pe_ix (ix_tupK K rfl) (pv 7) pe_int (fun _ _ => rfl))) rfl)))
      (pss_cons (ps_dput (hu_of hr) (pe_dget (hu_of hr) (pv 0) pe_str (fun _ _ => rfl)) (pv 1) (pv 4) rfl)
      (pss_cons (ps_dput (hu_of hr) (pv 0) pe_str (pe_op op_add (pe_dget (hu_of hr) (pv 0) pe_str (fun _ _ => rfl)) (pe_callB (call_lenK K rfl) (by rfl) T.z_len (by decide +kernel) (pa_cons (pv 5) pa_nil))) rfl)
      (pss_one (ps_ret (pe_tup (pa_cons pe_str (pa_cons (pe_callB (call_lenK K rfl) (by rfl) T.z_len (by decide +kernel) (pa_cons (pv 5) pa_nil)) pa_nil)))))))))))), ?_⟩
    have big : 100000 < sizeLine := by rw [sizeLine_eq]; omega
    walk_at "go"
    refine hl.g1 fun sz hsz => ?_
    walk_at "go"
    refine hl.g3 ?_
    walk_at "go"
    refine ⟨wy, _, rfl, .inl hl.wy_, fun p bs hp hbs => ?_⟩
    have hps : Prs H bs (m.map (·.1)) := prs_of_keys hbs (dm_keys m)
    walk_at "go"
    rename_i p2 hp2
    refine ⟨p, p2, _, [.ref t], rfl, rfl, upd_old upd_same hp2, upd_same, by rw [List.length_map, hps.len, List.length_map]; show m.length + 1 ≤ sizeLine; omega, fun p3 hp3 => ?_⟩
    have s3 : Same H (upd (upd (upd H p (.lst (bs.map V.ref))) p2 (.lst [.ref t])) p3 (.lst (bs.map V.ref ++ [.ref t]))) := same_snoc (same_snoc (same_new hp) hp2) hp3
    have hlp : Lp (upd (upd (upd H p (.lst (bs.map V.ref))) p2 (.lst [.ref t])) p3 (.lst (bs.map V.ref ++ [.ref t]))) p3 (m.map (·.1) ++ [wi]) := lp_app upd_same (hps.keep fun b xs e => s3 b _ e) (s3 _ _ ht)
    generalize (upd (upd (upd H p (.lst (bs.map V.ref))) p2 (.lst [.ref t])) p3 (.lst (bs.map V.ref ++ [.ref t]))) = H1 at s3 hlp ⊢
    walk_at "go"
    obtain ⟨cs, hl1, hcs⟩ := hlp
    refine ⟨p3, _, fun v => prOf H1 (adV v), rfl, SqL.of hl1, fun v hv => ?_, fun ys p4 hs hb4 hp4 => ?_⟩
    · obtain ⟨b, hb, rfl⟩ := List.mem_map.mp hv
      exact ⟨b, rfl, (hcs.mem b hb).1⟩
    obtain ⟨ds, rfl, hds⟩ := refs_perm hb4.perm
    have hdp : Prs H1 ds (ds.map (prOf H1)) := Prs.map_ fun b hb => (hcs.mem b (hds.mem_iff.mp hb)).1
    have hdq : (ds.map (prOf H1)).Perm (m.map (·.1) ++ [wi]) := by rw [hcs.eq]; exact hds.map _
    have s4 : Same H (upd H1 p4 (.lst (ds.map V.ref))) := same_snoc s3 hp4
    have hlp2 : Lp (upd H1 p4 (.lst (ds.map V.ref))) p4 (ds.map (prOf H1)) := ⟨ds, upd_same, hdp.keep fun b xs e => upd_old e hp4⟩
    generalize (upd H1 p4 (.lst (ds.map V.ref))) = H2 at s4 hlp2 ⊢
    have hl2 := hl.same s4
    walk_at "go"
    refine hl2.g2 ?_
    walk_at "go"
    refine g_lnL hl2.al_ ?_
    walk_at "go"
    rw [List.length_map]
    refine ⟨sz, p4, l, b, ds.map (prOf H1), al.length, rfl, s4 _ _ hsz, l0, l1, hb, hlp2, by rw [hdq.length_eq, List.length_append, List.length_map]; show m.length + 1 < sizeLine; omega, ?_⟩
    rw [full_perm hdq]
    intro H3 s5
    have s6 := s4.trans s5
    cases e : full l b (m.map (·.1) ++ [wi]) al.length with
    | some r =>
      obtain ⟨sd, kk⟩ := r
      rw [e] at k
      intro pf hpf
      walk_at "go"
      refine ⟨rfl, ?_⟩
      walk_at "go"
      rename_i pr hpr
      exact k _ pr (s6.trans (same_new hpr)) upd_same
    | none =>
      rw [e] at k
      walk_at "go"
      refine ⟨rfl, ?_⟩
      have hl3 := hl.same s6
      have ht3 := s6 _ _ ht
      have hsz3 := s6 _ _ hsz
      clear hlp2 hl2 hcs hps hbs hdp hdq hl1
      walk_at "go"
      refine hl3.g3 ?_
      walk_at "go"
      refine ⟨wy, _, m.map (·.1), rfl, hl3.wy_, dm_keys m, fun bs ws q hbs hp hs hq => ?_⟩
      have s7 : Same H3 (upd H3 q (.lst (bs.map V.ref))) := same_new hq
      have hq1 : (upd H3 q (.lst (bs.map V.ref))) q = some (.lst (bs.map V.ref)) := upd_same
      have hbs1 := hbs.keep fun b xs e => s7 b _ e
      generalize (upd H3 q (.lst (bs.map V.ref))) = H4 at s7 hq1 hbs1 ⊢
      have hlw : ws.length = m.length := by rw [hp.length_eq, List.length_map]
      refine g_iL hq1 ?_
      intro D hD
      refine lc_st (stTie l) walk_list (fun i => ws[i]?.map fun w => (w, (look m w).getD 0)) hD (by rw [List.length_map, hbs.len]; omega) (fun H' s => SqL.of (s _ _ hq1)) (fun i y H5 H6 hi s yy Kt Kf k1 k2 => ?_) (fun H5 cs s8 hD2 hcs => ?_)
      · obtain ⟨rfl, hy⟩ := yy
        obtain ⟨c, rfl, hc⟩ := refs_at hy
        obtain ⟨p, hp1, hpt⟩ := hbs1.at_ hc
        obtain ⟨v, hv⟩ := look_mem (hp.mem_iff.mp (List.mem_of_getElem? hp1))
        have s9 := s7.trans s
        have hl6 := hl3.same s9
        walk_at "go"
        refine ⟨rfl, ?_⟩
        walk_at "go"
        refine hl6.g1 fun sz6 hsz6 => ?_
        walk_at "go"
        refine ⟨sz6, c, l, b, p.1, p.2, rfl, hsz6, s _ _ hpt, l0, l1, fun pb hpb => ?_⟩
        have hl7 := hl6.same (same_new (o := .tup [.int (bx l p).1, .int (bx l p).2]) hpb)
        have hpt7 := upd_old (o := .tup [.int (bx l p).1, .int (bx l p).2]) (s _ _ hpt) hpb
        walk_at "go"
        refine hl7.g3 ?_
        walk_at "go"
        refine g_dgT hl7.wy_ hpt7 hv ?_
        walk_at "go"
        rename_i p9 hp9
        exact k1 p9 (p, (look m p).getD 0) _ (by rw [hp1]; rfl) ⟨pb, c, by rw [hv]; exact upd_same, upd_old upd_same hp9, upd_old hpt7 hp9⟩ ((same_new hpb).trans (same_new hp9))
      rw [ents_get m ws _ (by rw [List.length_map, hbs.len])] at hcs
      have hes : (ents m ws).Perm m := ents_perm hk.kn hp
      have hke := hk.perm hes
      have hli : Lies l H5 D (ents m ws) := ⟨cs, hD2, hcs⟩
      have sA := s7.trans s8
      have hl5 := hl3.same sA
      have ht5 := sA _ _ ht3
      have sB := s6.trans sA
      clear hbs1 hcs hD2 hq1 hl3 ht3
      walk_at "go"
      refine hl5.g1 fun sz5 hsz5 => ?_
      walk_at "go"
      refine ⟨sz5, t, l, b, wi.1, wi.2, rfl, hsz5, ht5, l0, l1, fun pb hpb => ?_⟩
      have sC : Same H5 (upd H5 pb (.tup [.int (wi.1.fdiv l), .int (wi.2.fdiv l)])) := same_new hpb
      have hpbx : Pt (upd H5 pb (.tup [.int (wi.1.fdiv l), .int (wi.2.fdiv l)])) pb (bx l wi) := upd_same
      have hl6 := hl5.same sC
      have hli6 := hli.same sC
      generalize (upd H5 pb (.tup [.int (wi.1.fdiv l), .int (wi.2.fdiv l)])) = H6 at sC hpbx hl6 hli6 ⊢
      walk_at "go"
      refine hl6.g2 ?_
      walk_at "go"
      refine ⟨la, al, rfl, SqL.of hl6.al_, fun ns g hnp hns hg => ?_⟩
      have ens : ns = sal := le_uniq hns hso (hnp.trans hsp.symm)
      subst ens
      walk_at "go"
      refine ⟨D, pb, g, l, bx l wi, ents m ws, ns, rfl, hli6.same (same_new hg), upd_old hpbx hg, upd_same, hke.pr, free_perm (hfr e) hes false, free_perm (hfr e) hes true, by rw [ents_len]; omega, by rw [hsp.length_eq]; exact hal, fun H7 q r tw s9 hq7 hr7 htw => ?_⟩
      have eR : putG (eE l) cC (ents m ws) ns (bx l wi) = newR l ns m wi := newR_perm hk hes wi
      rw [eR] at hq7 hr7 htw
      have sD := (sB.trans sC).trans ((same_new hg).trans s9)
      have hl7 := hl.same sD
      have ht7 := sD _ _ ht
      have hsub : ∀ e ∈ (newR l ns m wi).row, e ∈ m := by
        rcases putG_cases hk.pr (hfr e false) (hfr e true) with ⟨kc, _, eP, _⟩ | ⟨one, _, other, _, _, _, _, _, _, _, ⟨row, _, _, eP, R⟩ | ⟨row, _, _, eP, R⟩⟩
        · intro x hx
          rw [show newR l ns m wi = _ from eP] at hx
          cases hx
        · intro x hx
          rw [show newR l ns m wi = _ from eP] at hx
          exact (R.sub x hx).1
        · intro x hx
          rw [show newR l ns m wi = _ from eP] at hx
          exact (R.sub x hx).1
      clear hl5 hl6 hli hli6 hpbx hsz5 ht5
      obtain ⟨rb, hrb, hrp⟩ := hr7
      have emm := newM_mid l ns m wi
      generalize newR l ns m wi = R at hq7 hrp htw hsub emm k
      walk_at "go"
      refine g_iL hrb ?_
      refine for_it walk_list (fun i σ H' => Fr [wy] H7 H' ∧ LawAt H' o la wy l b al (mid m (R.row.take i) R.one R.other) mv ∧ ∃ x7, σ = [some (.ref o), some (.ref t), some .non, some (.ref D), some (.int R.col), some (.ref r), some (.ref tw), x7, none])
        ⟨Fr.refl, by rw [List.take_zero, mid_nil]; exact hl7, none, rfl⟩ (fun i σ H' hi h => SqL.of (h.1.at_ hrb (by simpa using ne_of hrb hl7.wy_ (fun z => nomatch z)))) (fun i y σ H8 H9 hi hv yy => ?_) (fun σ H' hv => ?_)
      · obtain ⟨f8, hl8, x7, rfl⟩ := hv
        obtain ⟨rfl, hy⟩ := yy
        obtain ⟨c, rfl, hc⟩ := refs_at hy
        obtain ⟨x, hx, px, qx, ha1, ha2, ha3⟩ := hrp.at_ hc
        have ha1' := f8.tup ha1
        have ha3' := f8.tup ha3
        have htw' := f8.tup htw
        walk_at "go"
        refine hl8.g3 ?_
        walk_at "go"
        refine hl8.putw ha3' (by unfold mid; rw [List.length_map]; omega) fun H10 f9 hl9 => ?_
        refine ⟨f8.trans f9, ?_, _, rfl⟩
        rw [mid_put hk.kn (hsub x (List.mem_of_getElem? hx))] at hl9
        rw [List.take_add_one, hx]
        exact hl9
      · obtain ⟨f8, hl8, x7, rfl⟩ := hv
        rw [List.length_map, hrp.len, List.take_length] at hl8
        have ht8 := f8.tup ht7
        have hrb8 := f8.at_ hrb (by simpa using ne_of hrb hl7.wy_ (fun z => nomatch z))
        walk_at "go"
        refine hl8.g3 ?_
        walk_at "go"
        refine hl8.putw ht8 (by unfold mid; rw [List.length_map]; omega) fun H10 f9 hl9 => ?_
        rw [put_new (by rw [mid_keys]; exact hwk), ← emm] at hl9
        have hrb9 := f9.at_ hrb8 (by simpa using ne_of hrb hl7.wy_ (fun z => nomatch z))
        walk_at "go"
        refine hl9.g4 ?_
        walk_at "go"
        refine hl9.putm fun H11 f10 hl11 => ?_
        have hrb10 := f10.at_ hrb9 (by
          obtain ⟨_, h1, _⟩ := hl9.ob
          simpa using ne_of hrb9 h1 (fun z => nomatch z))
        walk_at "go"
        rename_i pz hpz
        rw [List.length_map, hrp.len] at hl11
        refine k _ pz ?_ (hl11.same (same_new hpz)) (by rw [upd_same, List.length_map, hrp.len])
        exact ((((Fr.of_same sD).trans (f8.mono fun b hb => .inl (by simp at hb; simp [hb]))).trans (f9.mono fun b hb => .inl (by simp at hb; simp [hb]))).trans (f10.mono fun b hb => .inl (by simp at hb; simp [hb]))).new hpz
end
end Kx
set_option maxHeartbeats 4000000
namespace Kx
open PySem PySem.Spec PyProof.Rows L2

local macro_rules | `(tactic| walk_at "ht") => `(tactic| (repeat (first | assumption | exact upd_same | refine upd_old ?_ (by assumption) | refine Same.at_ (by assumption) ?_ | refine Fr.tup (by assumption) ?_)))
local macro_rules | `(tactic| walk_at "go1") => `(tactic| (first
  | ((with_reducible apply g_var); (focus rfl)) | with_reducible refine g_op ?_ | with_reducible refine g_c ?_ | with_reducible refine g_I0 ?_ | with_reducible refine g_eqI ?_ | with_reducible refine g_neI ?_
  | with_reducible refine g_cons ?_ | with_reducible refine g_nil ?_ | with_reducible refine g_tup ?_ | with_reducible refine g_lst ?_ | with_reducible refine g_bl ?_ | with_reducible refine g_test ?_
  | with_reducible refine g_B ?_ | with_reducible refine g_and ?_ | with_reducible refine g_or ?_ | with_reducible refine g_not ?_ | with_reducible refine g_andV ?_ | with_reducible refine g_orV ?_
  | with_reducible refine g_notV ?_ | with_reducible refine g_if ?_ | with_reducible refine g_cb ?_ | with_reducible refine g_call ?_ | with_reducible refine g_chain ?_ | with_reducible refine g_un ?_
  | with_reducible refine g_u ?_ | with_reducible refine g_seq ?_ | with_reducible refine g_next ?_ | with_reducible refine g_ret ?_ | with_reducible refine g_set ?_ | with_reducible refine g_ifS ?_
  | with_reducible refine g_drop ?_ | with_reducible refine g_asg ?_ | with_reducible refine g_name ?_ | with_reducible refine g_tc ?_ | with_reducible refine g_tn ?_ | with_reducible refine g_par ?_
  | with_reducible refine g_par3 ?_ | with_reducible refine g_p2 ?_ | with_reducible refine g_p3 ?_ | with_reducible refine g_fs ?_ | with_reducible refine g_fld ?_ | with_reducible refine g_m ?_
  | with_reducible refine g_mk ?_ | with_reducible refine g_dg ?_ | with_reducible refine g_dp ?_ | with_reducible refine g_din ?_ | with_reducible refine g_dni ?_ | with_reducible refine g_bm ?_
  | with_reducible refine g_mg ?_ | with_reducible refine g_il ?_ | with_reducible refine g_it ?_ | with_reducible refine g_ir ?_ | with_reducible refine g_ik ?_ | with_reducible refine g_for ?_
  | with_reducible refine g_lc ?_ | with_reducible refine g_ie ?_ | with_reducible refine g_iz ?_ | with_reducible refine g_yes ?_ | with_reducible refine g_retN ?_ | with_reducible refine g_gsub ?_ | with_reducible refine g_isN ?_ | with_reducible refine g_ntN ?_
  | with_reducible refine g_isiInt ?_ | with_reducible refine g_isiBool ?_ | with_reducible refine g_sl ?_ | with_reducible refine g_on ?_ | with_reducible refine g_os ?_ | ((with_reducible refine g_dsz ?_ ?_); (focus rfl); intro p hp)
  | ((with_reducible apply g_ixTt); (focus (walk_at "ht"; done)); (focus rfl)) | ((with_reducible apply g_ixLl); (focus (walk_at "ht"; done)); (focus rfl)) | ((with_reducible apply g_isiT); (focus (walk_at "ht"; done))) | ((with_reducible apply g_lnL); (focus (walk_at "ht"; done))) | ((with_reducible apply g_lnT); (focus (walk_at "ht"; done))) | ((with_reducible apply g_tTt); (focus (walk_at "ht"; done)); (focus rfl))
  | ((with_reducible apply g_tyL); (focus (walk_at "ht"; done))) | refine iteT ?_ | refine iteF ?_))
local macro_rules | `(tactic| walk_at "go") => `(tactic| (repeat (walk_at "go1")))
theorem eraseIdx_pos {al : List Int} (hn : al.Nodup) {c : Int} (h : c ∈ al) : al.eraseIdx (pos al c) = al.filter fun k => decide (k ≠ c) := by
  induction al with
  | nil => cases h
  | cons x xs ih =>
    obtain ⟨h1, h2⟩ := List.nodup_cons.mp hn
    unfold pos
    by_cases e : x = c
    · subst e
      rw [if_pos rfl, List.filter_cons, if_neg (by simp)]
      symm
      refine List.filter_eq_self.mpr fun k hk => decide_eq_true ?_
      rintro rfl
      exact h1 hk
    · rw [if_neg e, List.filter_cons, if_pos (by simpa using e)]
      show x :: xs.eraseIdx (pos xs c) = _
      rw [ih h2 (by rcases List.mem_cons.mp h with z | z; exact absurd z.symm e; exact z)]
theorem sok_pl {l : Int} {b : Nat} {al al' : List Int} {m : Wy} {pl : Int} {ws : List (Int × Int)} (hS : SOk l b al m []) (hal' : (al.filter fun k => decide (k ≠ pl)) = al') (hwp : ws.Perm ((ofPl m pl).map (·.1))) : SOk l b al' (noPl m pl) ws := by
  have hwn : ws.Nodup := hwp.nodup_iff.mpr ((hS.ok.kn).sublist (List.filter_sublist.map _))
  refine ⟨⟨hS.ok.kn.sublist (List.filter_sublist.map _), fun e he => ?_, (hS.ok.drop _).pr⟩, ?_, ?_, fun v hv => hS.rg v ?_⟩
  · obtain ⟨q1, q2⟩ := List.mem_filter.mp he
    rw [← hal']
    exact List.mem_filter.mpr ⟨hS.ok.col e q1, q2⟩
  · rw [← hal']; exact hS.an.sublist List.filter_sublist
  · refine List.nodup_append.mpr ⟨hS.ok.kn.sublist (List.filter_sublist.map _), hwn, fun u hu v hv e => ?_⟩
    subst e
    obtain ⟨e1, he1, q1⟩ := List.mem_map.mp hu
    obtain ⟨e2, he2, q2⟩ := List.mem_map.mp (hwp.mem_iff.mp hv)
    obtain ⟨a1, a2⟩ := List.mem_filter.mp he1
    obtain ⟨b1, b2⟩ := List.mem_filter.mp he2
    have := kn_inj hS.ok.kn a1 b1 (q1.trans q2.symm)
    rw [this] at a2
    exact of_decide_eq_true a2 (of_decide_eq_true b2)
  · rw [List.append_nil]
    rcases List.mem_append.mp hv with h | h
    · exact (List.filter_sublist.map _).mem h
    · exact (List.filter_sublist.map _).mem (hwp.mem_iff.mp h)
theorem g_eqTN {H : Hp} {Q : VK} (q : Q (.bl false) H) : rEq (.str "told") (.str "no") H Q := ⟨rfl, by rw [decide_eq_false (by decide)]; exact q⟩
theorem g_eqNN {H : Hp} {Q : VK} (q : Q (.bl true) H) : rEq (.str "no") (.str "no") H Q := ⟨rfl, by rw [decide_eq_true rfl]; exact q⟩
def spLost : Sp := fun vs H Q _ => ∃ (o la wy : Addr) (l : Int) (b : Nat) (al sal : List Int) (m : Wy) (mv pl : Int), vs = [.ref o, .int pl] ∧ LawAt H o la wy l b al m mv ∧ pl ∈ al ∧ 0 < l ∧ l ≤ 12 ∧ b ≤ 12 ∧ sal.Perm al ∧ sal.Pairwise (· ≤ ·) ∧ al.length ≤ 1000 ∧ m.length ≤ 300 ∧ SOk l b sal m [] ∧
  ∀ H' r bs ws, Fr [o, la, wy] H H' → ws.Perm ((ofPl m pl).map (·.1)) → ws.Pairwise leP → H' r = some (.tup (bs.map V.ref)) → Prs H' bs (relay l b (sal.filter fun k => decide (k ≠ pl)) (noPl m pl) ws).2.1 →
    LawAt H' o la wy l b (al.filter fun k => decide (k ≠ pl)) (relay l b (sal.filter fun k => decide (k ≠ pl)) (noPl m pl) ws).1 (mv + ((relay l b (sal.filter fun k => decide (k ≠ pl)) (noPl m pl) ws).2.2 : Nat)) → Q (.ref r) H'
section
variable {P : Program} {w : World} {K : PySem.W.Frag} {mg : Str → Option Value} {base : Heap} (T : Tx K mg)
theorem scLost : FnScope ["_law_own", "_law_plane", "_law_wish", "_law_gone"] ["_law_own", "_law_plane"] (defScope sLost) := ⟨rfl, rfl, rfl, by decide +kernel, rfl, by decide +kernel, by decide +kernel⟩
include T in
theorem ok__law_lost {f : Addr} {fd : FuncData} (F : FnP K "_law_lost" "_law_lost" sLost f fd)
    (c__law_put : Cal P w K mg base CX0 3 "_law_put" ["_law_own", "_law_wish"] spLPut)  :
    FnOk P w K mg base CX0 4 f fd ["_law_own", "_law_plane"] spLost := by
  refine F.ok scLost (fun vs H Q E h => ?_) (fun cdv A outer s H vs Q E hr h => ?_)
  · obtain ⟨o, la, wy, l, b, al, sal, m, mv, pl, rfl, _⟩ := h; rfl
  · obtain ⟨o, la, wy, l, b, al, sal, m, mv, pl, rfl, hl, hpa, l0, l1, hb, hsp, hso, hal, hm, hS, k⟩ := h
    refine ⟨_, PSs.nox (pss_cons (ps_expr (pe_bm PySem.F.plainAttrs_list PySem.F.slot_list_remove PySem.F.type_list_remove mt_remove (pe_dget (hu_of hr) (pv 0) pe_str (fun _ _ => rfl)) (pa_cons (pv 1) pa_nil)))
      (pss_cons (ps_setLc (i := 3) (own := [("_law_wish", 2)]) (g := gName 2) rfl scLost.nd rfl rfl (sw_true rfl rfl rfl (by decide +kernel)) (pi_list (pe_callB (cr_sortedDT rfl) (by rfl) T.z_sorted (by decide +kernel) (pa_cons (pe_dget (hu_of hr) (pv 0) pe_str (fun _ _ => rfl)) pa_nil))) (blkOk_by (N := ["_law_own", "_law_plane", "_law_wish", "_law_gone"]) (sc := defScope sLost) (by decide +kernel)) (fun _ _ _ _ _ => (pg_name (i := 2) scLost.nd rfl (Or.inl rfl))) (fun _ _ _ _ _ => (pts_one (pt_cmpR op_eq (pe_dget (hu_of hr) (pe_dget (hu_of hr) (pv 0) pe_str (fun _ _ => rfl)) (pv 2) (fun _ _ => rfl)) (pv 1) (nomark _)))) (fun _ _ _ _ _ => (pv 2)))
      (pss_cons (ps_for PassesOwn.never rfl (pi_list (pv 3)) (pg_name (i := 2) scLost.nd rfl (Or.inl rfl))
      (pss_one (ps_expr (pe_bm PySem.F.plainAttrs_dict PySem.F.slot_dict_pop PySem.F.type_dict_pop (mt_popT1 hr) (pe_dget (hu_of hr) (pv 0) pe_str (fun _ _ => rfl)) (pa_cons (pv 2) pa_nil)))))
      (pss_one (ps_ret (pe_callTy call_tuple_of (by rfl) T.z_tuple (by decide +kernel) (pa_cons (pe_lc (own := [("_law_wish", 2)]) (g := gName 2) rfl scLost.nd (pi_list (pv 3)) (blkOk_by (N := ["_law_own", "_law_plane", "_law_wish", "_law_gone"]) (sc := defScope sLost) (by decide +kernel)) (fun _ _ _ _ _ => (pg_name (i := 2) scLost.nd rfl (Or.inl rfl))) (fun _ _ _ _ _ => (pts_one (pt_cmpR op_eq (pe_ix (ix_tupK K rfl) (pe_callF c__law_put hr (by decide) (by rfl) (pa_cons (pv 0) (pa_cons (pv 2) pa_nil))) pe_int (fun _ _ => rfl)) pe_str (nomark _)))) (fun _ _ _ _ _ => (pv 2))) pa_nil))))))), ?_⟩
    have big : 100000 < sizeLine := by rw [sizeLine_eq]; omega
    have han : al.Nodup := hsp.nodup_iff.mp hS.an
    generalize hal' : (al.filter fun k => decide (k ≠ pl)) = al' at k
    generalize hsal' : (sal.filter fun k => decide (k ≠ pl)) = sal' at k
    have hsp' : sal'.Perm al' := by rw [← hal', ← hsal']; exact hsp.filter _
    have hso' : sal'.Pairwise (· ≤ ·) := by rw [← hsal']; exact hso.sublist List.filter_sublist
    have hal2 : al'.length ≤ 1000 := by rw [← hal']; exact Nat.le_trans (List.length_filter_le _ _) hal
    walk_at "go"
    refine hl.g2 ?_
    refine g_tyL hl.al_ ?_
    walk_at "go"
    refine ⟨la, al, pl, pos al pl, rfl, rfl, hl.al_, pos_get hpa, fun m hm => pos_first hm, ?_⟩
    rw [eraseIdx_pos han hpa, hal']
    obtain ⟨f1, hl1⟩ := hl.seta (al' := al')
    generalize (upd H la (.lst (al'.map V.int))) = H1 at f1 hl1 ⊢
    walk_at "go"
    refine hl1.g3 ?_
    walk_at "go"
    refine ⟨wy, _, m.map (·.1), rfl, hl1.wy_, dm_keys m, fun bs ws q hbs hp hs hq => ?_⟩
    have s1 : Same H1 (upd H1 q (.lst (bs.map V.ref))) := same_new hq
    have hq1 : (upd H1 q (.lst (bs.map V.ref))) q = some (.lst (bs.map V.ref)) := upd_same
    have hbs1 := hbs.keep fun b xs e => s1 b _ e
    generalize (upd H1 q (.lst (bs.map V.ref))) = H2 at s1 hq1 hbs1 ⊢
    have hwl : ws.length = m.length := by rw [hp.length_eq, List.length_map]
    refine g_iL hq1 ?_
    intro D hD
    refine lc_prs walk_list (fun i => ws[i]?.bind fun w => if look m w = some pl then some w else none) hD (by rw [List.length_map, hbs.len]; omega) (fun H' s => SqL.of (s _ _ hq1)) (fun i y H4 H3 hi s yy Kt Kf k1 k2 => ?_) (fun H3 s2 hD2 => ?_)
    · obtain ⟨rfl, hy⟩ := yy
      obtain ⟨c, rfl, hc⟩ := refs_at hy
      obtain ⟨p, hp1, hpt⟩ := hbs1.at_ hc
      obtain ⟨v, hv⟩ := look_mem (hp.mem_iff.mp (List.mem_of_getElem? hp1))
      have hl3 := hl1.same (s1.trans s)
      walk_at "go"
      refine ⟨rfl, ?_⟩
      walk_at "go"
      refine hl3.g3 ?_
      walk_at "go"
      refine g_dgT hl3.wy_ (s _ _ hpt) hv ?_
      walk_at "go"
      by_cases e : v = pl
      · rw [decide_eq_true e]
        walk_at "go"
        exact k1 c p _ (by rw [hp1]; simp [hv, e]) (s _ _ hpt) (fun _ _ h => h)
      · rw [decide_eq_false e]
        exact k2 _ (by rw [hp1]; simp [hv, e]) (fun _ _ h => h)
    have e5 : (List.range (bs.map V.ref).length).filterMap (fun i => ws[i]?.bind fun w => if look m w = some pl then some w else none) = ws.filter fun w => decide (look m w = some pl) := by
      rw [fm_some ws _ _ (by rw [List.length_map, hbs.len])]
      exact fm_if (fun w => look m w = some pl) ws
    rw [e5] at hD2
    have hwp := again_perm (pl := pl) hS.ok.kn hp
    have hws : (ws.filter fun w => decide (look m w = some pl)).Pairwise leP := hs.sublist List.filter_sublist
    obtain ⟨cs, hD3, hcs⟩ := hD2
    have s12 := s1.trans s2
    have f3 := f1.trans (Fr.of_same (W := [la]) s12)
    have hl3 := hl1.same s12
    have hDH1 : H1 D = none := same_none s1 hD
    clear hbs1 hq1 hbs hp hs
    generalize (ws.filter fun w => decide (look m w = some pl)) = gn at hwp hws hcs
    have hgl : cs.length = gn.length := hcs.len
    have hgn : gn.Nodup := hwp.nodup_iff.mpr ((hS.ok.kn).sublist (List.filter_sublist.map _))
    have hS0 := sok_pl hS hsal' hwp
    have hnm : (noPl m pl).length + gn.length ≤ 300 := by
      have e : (ofPl m pl).length + (noPl m pl).length = m.length := filter_sum m pl
      rw [hwp.length_eq, List.length_map]
      omega
    have hDwy : D ≠ wy := ne_of hD3 hl3.wy_ (fun z => nomatch z)
    have hDo : D ≠ o := by
      obtain ⟨_, h1, _⟩ := hl3.ob
      exact ne_of hD3 h1 (fun z => nomatch z)
    walk_at "go"
    refine g_iL hD3 ?_
    refine for_it walk_list (fun i σ H' => Fr [wy] H3 H' ∧ LawAt H' o la wy l b al' (popd m (gn.take i)) mv ∧ ∃ x2, σ = [some (.ref o), some (.int pl), x2, some (.ref D)])
      ⟨Fr.refl, by rw [List.take_zero, popd_nil]; exact hl3, _, rfl⟩ (fun i σ H' _ h => SqL.of (h.1.at_ hD3 (by simpa using hDwy))) (fun i y σ H4 H5 hi h yy => ?_) (fun σ H' h => ?_)
    · obtain ⟨f4, hl4, x2, rfl⟩ := h
      obtain ⟨rfl, hy⟩ := yy
      obtain ⟨wb, rfl, hwb⟩ := refs_at hy
      obtain ⟨wv, hwv, hwt⟩ := hcs.at_ hwb
      have htk : gn.take (i + 1) = gn.take i ++ [wv] := by rw [List.take_succ, hwv]; rfl
      have hnt : wv ∉ gn.take i := by
        have q := hgn.sublist (List.take_sublist (i + 1) gn)
        rw [htk] at q
        intro hm'
        exact (List.nodup_append.mp q).2.2 wv hm' wv (by simp) rfl
      obtain ⟨e, he, hee⟩ := List.mem_map.mp (hwp.mem_iff.mp (List.mem_of_getElem? hwv))
      have hlk := look_of hS.ok.kn (List.mem_filter.mp he).1
      rw [hee] at hlk
      have hlk2 := popd_look hnt hS.ok.kn hlk
      walk_at "go"
      refine hl4.g3 ?_
      refine g_tyD hl4.wy_ ?_
      walk_at "go"
      refine ⟨wy, wb, _, pk wv, .int e.2, rfl, rfl, hl4.wy_, f4.tup hwt, by rw [dm_val, hlk2]; rfl, ?_⟩
      rw [dm_drop, popd_snoc, ← htk]
      obtain ⟨f5, hl5⟩ := hl4.setw (m' := popd m (gn.take (i + 1)))
      exact ⟨f4.trans f5, hl5, _, rfl⟩
    · obtain ⟨f4, hl4, x2, rfl⟩ := h
      rw [List.length_map, hgl, List.take_length, popd_all hS.ok.kn hwp] at hl4
      have hD4 := f4.at_ hD3 (by simpa using hDwy)
      have hcs4 := hcs.fr f4
      have f5 : Fr [o, la, wy] H H' := (f3.mono fun b hb => .inl (by simp at hb; simp [hb])).trans (f4.mono fun b hb => .inl (by simp at hb; simp [hb]))
      have nL : o ∉ [la, wy] := by
        obtain ⟨n1, n2, n3⟩ := hl4.now
        simpa using ⟨n3, n1⟩
      clear hl3 hcs f3 hD3 hl1
      walk_at "go"
      refine g_iL hD4 ?_
      intro E2 hE2
      refine lc_acc walk_list (fun i acc H4 => Fr [o, wy] H' H4 ∧ LawAt H4 o la wy l b al' ((gn.take i).foldl (stp l b sal') (noPl m pl, [], 0)).1 (mv + (((gn.take i).foldl (stp l b sal') (noPl m pl, [], 0)).2.2 : Nat)) ∧ ∃ ds : List Addr, acc = ds.map V.ref ∧ Prs H4 ds ((gn.take i).foldl (stp l b sal') (noPl m pl, [], 0)).2.1)
        ⟨Fr.refl.new hE2, by rw [List.take_zero]; simpa using hl4.same (same_new hE2), [], rfl, by rw [List.take_zero]; exact Prs.nil⟩ (fun i acc H4 hi h _ => SqL.of (h.1.at_ hD4 (by simpa using ⟨hDo, hDwy⟩))) (fun i acc y H4 H5 hi h hacc yy Kt Kf k1 k2 => ?_) (fun acc H4 h hacc => ?_)
      · obtain ⟨f6, hl6, ds, rfl, hds⟩ := h
        obtain ⟨rfl, hy⟩ := yy
        obtain ⟨wb, rfl, hwb⟩ := refs_at hy
        obtain ⟨wv, hwv, hwt⟩ := hcs4.at_ hwb
        have hiw : i < gn.length := (List.getElem?_eq_some_iff.mp hwv).1
        have hdrop : gn.drop i = wv :: gn.drop (i + 1) := by rw [List.drop_eq_getElem_cons hiw, (List.getElem?_eq_some_iff.mp hwv).2]
        have htake : (gn.take (i + 1)).foldl (stp l b sal') (noPl m pl, [], 0) = stp l b sal' ((gn.take i).foldl (stp l b sal') (noPl m pl, [], 0)) wv := by
          rw [List.take_succ, hwv, List.foldl_append]; rfl
        have hSi : SOk l b sal' ((gn.take i).foldl (stp l b sal') (noPl m pl, [], 0)).1 (gn.drop i) := relay_ok l0 (gn.take i) (rest := gn.drop i) (by rw [List.take_append_drop]; exact hS0)
        have hlen := relay_len l b sal' (noPl m pl) (gn.take i)
        rw [List.length_take] at hlen
        rw [htake] at k1 k2
        generalize (gn.take i).foldl (stp l b sal') (noPl m pl, [], 0) = st at hl6 hds hSi hlen k1 k2
        rw [hdrop] at hSi
        have hwt6 := f6.tup hwt
        have hE2o : E2 ≠ o := by
          obtain ⟨_, h1, _⟩ := hl6.ob
          exact ne_of hacc h1 (fun z => nomatch z)
        have hE2w : E2 ≠ wy := ne_of hacc hl6.wy_ (fun z => nomatch z)
        have hE2a : E2 ≠ la := fun z => by rw [z, hl4.al_] at hE2; cases hE2
        walk_at "go"
        refine ⟨rfl, ?_⟩
        walk_at "go"
        refine ⟨o, wb, la, wy, l, b, al', sal', st.1, _, wv, rfl, hl6, hwt6, l0, l1, hb, hsp', hso', hSi.ok, hal2, by omega, hSi.new, fun z => free_of_full l0 (hSi.rg wv (by simp)) hSi.an (by rw [hsp'.length_eq]; exact z), ?_⟩
        cases e : full l b (st.1.map (·.1) ++ [wv]) al'.length with
        | none =>
          have e' : full l b (st.1.map (·.1) ++ [wv]) sal'.length = none := by rw [hsp'.length_eq]; exact e
          have estp : stp l b sal' st wv = (newM l sal' st.1 wv, st.2.1, st.2.2 + (newR l sal' st.1 wv).row.length) := by unfold stp; rw [e']
          intro H7 r f7 hl7 hr7
          walk_at "go"
          refine g_eqTN ?_
          walk_at "go"
          rw [estp] at k2
          have e9 : mv + (st.2.2 : Nat) + ((newR l sal' st.1 wv).row.length : Nat) = mv + ((st.2.2 + (newR l sal' st.1 wv).row.length : Nat) : Int) := by omega
          rw [e9] at hl7
          exact k2 H7 (f7.at_ hacc (by simpa using ⟨hE2o, hE2w⟩)) ⟨f6.trans f7, hl7, ds, rfl, hds.fr f7⟩
        | some r =>
          obtain ⟨sd, kk⟩ := r
          have e' : full l b (st.1.map (·.1) ++ [wv]) sal'.length = some (sd, kk) := by rw [hsp'.length_eq]; exact e
          have estp : stp l b sal' st wv = (st.1, st.2.1 ++ [wv], st.2.2) := by unfold stp; rw [e']
          intro H7 r s7 hr7
          walk_at "go"
          refine g_eqNN ?_
          walk_at "go"
          rw [estp] at k1
          have hacc7 := s7 _ _ hacc
          have f8 : Fr [E2] H7 (upd H7 E2 (.lst (ds.map V.ref ++ [V.ref wb]))) := Fr.refl.mut hacc7 (fun z => z) (.inl (by simp))
          refine k1 (.ref wb) H7 hacc7 (by rw [List.length_map, hds.len]; omega) ⟨(f6.trans (Fr.of_same s7)).step f8 (by simp [hE2]), (hl6.same s7).fr f8 (by simpa using Ne.symm hE2o) (by simpa using Ne.symm hE2a) (by simpa using Ne.symm hE2w), ds ++ [wb], by simp, ((hds.fr (Fr.of_same (W := []) s7)).fr f8).snoc (f8.tup (s7 _ _ hwt6))⟩
      · obtain ⟨f6, hl6, ds, rfl, hds⟩ := h
        rw [List.length_map, hgl, List.take_length] at hl6 hds
        walk_at "go"
        refine ⟨E2, _, rfl, .inl ⟨SqL.of hacc, fun r hr => ?_⟩⟩
        exact k _ r ds gn ((f5.trans (f6.mono fun b hb => .inl (by simp at hb; rcases hb with rfl | rfl <;> simp))).new hr) hwp hws upd_same (hds.keep fun b xs e => upd_old e hr) (hl6.same (same_new hr))
end
end Kx
set_option maxHeartbeats 4000000
namespace Kx
open PySem PySem.Spec PyProof.Rows L2

local macro_rules | `(tactic| walk_at "ht") => `(tactic| (repeat (first | assumption | exact upd_same | refine upd_old ?_ (by assumption) | refine Same.at_ (by assumption) ?_ | refine Fr.tup (by assumption) ?_)))
local macro_rules | `(tactic| walk_at "go1") => `(tactic| (first
  | ((with_reducible apply g_var); (focus rfl)) | with_reducible refine g_op ?_ | with_reducible refine g_c ?_ | with_reducible refine g_I0 ?_ | with_reducible refine g_eqI ?_ | with_reducible refine g_neI ?_
  | with_reducible refine g_cons ?_ | with_reducible refine g_nil ?_ | with_reducible refine g_tup ?_ | with_reducible refine g_lst ?_ | with_reducible refine g_bl ?_ | with_reducible refine g_test ?_
  | with_reducible refine g_B ?_ | with_reducible refine g_and ?_ | with_reducible refine g_or ?_ | with_reducible refine g_not ?_ | with_reducible refine g_andV ?_ | with_reducible refine g_orV ?_
  | with_reducible refine g_notV ?_ | with_reducible refine g_if ?_ | with_reducible refine g_cb ?_ | with_reducible refine g_call ?_ | with_reducible refine g_chain ?_ | with_reducible refine g_un ?_
  | with_reducible refine g_u ?_ | with_reducible refine g_seq ?_ | with_reducible refine g_next ?_ | with_reducible refine g_ret ?_ | with_reducible refine g_set ?_ | with_reducible refine g_ifS ?_
  | with_reducible refine g_drop ?_ | with_reducible refine g_asg ?_ | with_reducible refine g_name ?_ | with_reducible refine g_tc ?_ | with_reducible refine g_tn ?_ | with_reducible refine g_par ?_
  | with_reducible refine g_par3 ?_ | with_reducible refine g_p2 ?_ | with_reducible refine g_p3 ?_ | with_reducible refine g_fs ?_ | with_reducible refine g_fld ?_ | with_reducible refine g_m ?_
  | with_reducible refine g_mk ?_ | with_reducible refine g_dg ?_ | with_reducible refine g_dp ?_ | with_reducible refine g_din ?_ | with_reducible refine g_dni ?_ | with_reducible refine g_bm ?_
  | with_reducible refine g_mg ?_ | with_reducible refine g_il ?_ | with_reducible refine g_it ?_ | with_reducible refine g_ir ?_ | with_reducible refine g_ik ?_ | with_reducible refine g_for ?_
  | with_reducible refine g_lc ?_ | with_reducible refine g_ie ?_ | with_reducible refine g_iz ?_ | with_reducible refine g_yes ?_ | with_reducible refine g_retN ?_ | with_reducible refine g_gsub ?_ | with_reducible refine g_isN ?_ | with_reducible refine g_ntN ?_
  | with_reducible refine g_isiInt ?_ | with_reducible refine g_isiBool ?_ | with_reducible refine g_sl ?_ | with_reducible refine g_on ?_ | with_reducible refine g_os ?_ | ((with_reducible refine g_dsz ?_ ?_); (focus rfl); intro p hp)
  | ((with_reducible apply g_ixTt); (focus (walk_at "ht"; done)); (focus rfl)) | ((with_reducible apply g_ixLl); (focus (walk_at "ht"; done)); (focus rfl)) | ((with_reducible apply g_isiT); (focus (walk_at "ht"; done))) | ((with_reducible apply g_lnL); (focus (walk_at "ht"; done))) | ((with_reducible apply g_lnT); (focus (walk_at "ht"; done))) | ((with_reducible apply g_tTt); (focus (walk_at "ht"; done)); (focus rfl))
  | ((with_reducible apply g_tyL); (focus (walk_at "ht"; done))) | refine iteT ?_ | refine iteF ?_))
local macro_rules | `(tactic| walk_at "go") => `(tactic| (repeat (walk_at "go1")))
theorem at_sd2 (p : Int × Int) (s : Bool) {z : Int} (h : z = sN s) : atI [V.int p.1, V.int p.2] z = some (V.int (sd p s)) := by subst h; exact atI_sd p s
theorem zip_fst {bs : List Addr} {ps : List (Int × Int)} (h : bs.length = ps.length) : ((bs.zip (ps.map fun p => [p.1, p.2])).map fun p => V.ref p.1) = bs.map V.ref := by
  have e : ((bs.zip (ps.map fun p => [p.1, p.2])).map (·.1)) = bs := by
    rw [← List.unzip_fst, List.unzip_zip (by rw [List.length_map]; exact h)]
  conv => rhs; rw [← e, List.map_map]
  rfl
theorem zip_snd {bs : List Addr} {ps : List (Int × Int)} (h : bs.length = ps.length) : ((bs.zip (ps.map fun p => [p.1, p.2])).map (·.2)) = ps.map fun p => [p.1, p.2] := by
  rw [← List.unzip_snd, List.unzip_zip (by rw [List.length_map]; exact h)]
theorem zip_at {H : Hp} {bs : List Addr} {ps : List (Int × Int)} (h : Prs H bs ps) : ∀ q ∈ bs.zip (ps.map fun p => [p.1, p.2]), H q.1 = some (.tup (q.2.map V.int)) := by
  unfold Prs at h
  induction h with
  | nil => intro q hq; cases hq
  | cons e _ ih =>
    intro q hq
    rw [List.map_cons, List.zip_cons_cons] at hq
    rcases List.mem_cons.mp hq with rfl | hq
    · exact e
    · exact ih q hq
/-- (box, plane) at a side -/
def useOf (l : Int) (es : Wy) (s : Bool) : List (Int × Int) := es.map fun e => (sd (eE l e) s, e.2)
theorem use_nodup {l : Int} {es : Wy} (P : Proper (eE l) cC es) (s : Bool) : ((useOf l es s).map fun p => [p.1, p.2]).Nodup := by
  unfold useOf
  rw [List.map_map]
  have h := P.nd
  have hu := P.uq
  clear P
  induction es with
  | nil => exact List.nodup_nil
  | cons x es ih =>
    obtain ⟨h1, h2⟩ := List.nodup_cons.mp h
    rw [List.map_cons]
    refine List.nodup_cons.mpr ⟨fun hm => ?_, ih h2 fun a ha b hb => hu a (List.mem_cons_of_mem _ ha) b (List.mem_cons_of_mem _ hb)⟩
    obtain ⟨y, hy, e⟩ := List.mem_map.mp hm
    have e1 : sd (eE l y) s = sd (eE l x) s := by simpa using congrArg (fun z => z.head?) e
    have e2 : y.2 = x.2 := by simpa using congrArg (fun z => z.getLast?) e
    have := hu y (List.mem_cons_of_mem _ hy) x (List.mem_cons_self ..) s e1 e2
    exact h1 (this ▸ hy)
def spAreWays : Sp := fun vs H Q _ => ∃ (sz la wl th : Addr) (l : Int) (b : Nat) (al : List Int) (es : Wy), vs = [.ref sz, .ref la, .ref wl, .ref th] ∧ Pt H sz (l, (b : Int)) ∧ H la = some (.lst (al.map V.int)) ∧ Lp H wl (es.map (·.1)) ∧ H th = some (.tup (es.map fun e => V.int e.2)) ∧ 0 < l ∧ l ≤ 12 ∧
  (∀ e ∈ es, e.2 ∈ al) ∧ Proper (eE l) cC es ∧ es.length < 64 ∧ ∀ H', Same H H' → Q (.bl true) H'
section
variable {P : Program} {w : World} {K : PySem.W.Frag} {mg : Str → Option Value} {base : Heap} (T : Tx K mg)
theorem scAreWays : FnScope ["_law_sizes_here", "_law_alive", "_law_wishes_here", "_law_thing", "_law_side", "_law_used", "_law_wish", "_law_plane", "_law_one"] ["_law_sizes_here", "_law_alive", "_law_wishes_here", "_law_thing"] (defScope sAreWays) := ⟨rfl, rfl, rfl, by decide +kernel, rfl, by decide +kernel, by decide +kernel⟩
include T in
theorem ok__law_are_ways {f : Addr} {fd : FuncData} (F : FnP K "_law_are_ways" "_law_are_ways" sAreWays f fd)
    (c__law_boxes : Cal P w K mg base CX0 1 "_law_boxes" ["_law_sizes_here", "_law_wish"] spBoxesOf)  :
    FnOk P w K mg base CX0 2 f fd ["_law_sizes_here", "_law_alive", "_law_wishes_here", "_law_thing"] spAreWays := by
  refine F.ok scAreWays (fun vs H Q E h => ?_) (fun cdv A outer s H vs Q E hr h => ?_)
  · obtain ⟨sz, la, wl, th, l, b, al, es, rfl, _⟩ := h; rfl
  · obtain ⟨sz, la, wl, th, l, b, al, es, rfl, hsz, hla, hwl, hth, l0, l1, hcol, hP, hn, k⟩ := h
    refine ⟨_, PSs.nox (pss_cons (ps_if (PW.pt (pw_or (pt_not (pt_val (pe_callB (call_isiKK K rfl) (by rfl) T.z_isinstance (by decide +kernel) (pa_cons (pv 3) (pa_cons (pe_bltn (v := .ty "tuple") (by rfl) T.z_tuple (by decide +kernel) rfl) pa_nil))))) (pw_or1 (pt_cmpR op_ne (pe_callB (call_lenK K rfl) (by rfl) T.z_len (by decide +kernel) (pa_cons (pv 3) pa_nil)) (pe_callB (call_lenK K rfl) (by rfl) T.z_len (by decide +kernel) (pa_cons (pv 2) pa_nil)) (nomark _))))) (pss_one (ps_ret pe_bl)) pss_nil)
      (pss_cons (ps_if (pt_not (pt_val (pe_callB (cr_all rfl) (by rfl) T.z_all (by decide +kernel) (pa_cons (pe_lc (own := [("_law_one", 8)]) (g := gName 8) (tt := tYes) rfl scAreWays.nd (pi_tup (pv 3)) (blkOk_by (N := ["_law_sizes_here", "_law_alive", "_law_wishes_here", "_law_thing", "_law_side", "_law_used", "_law_wish", "_law_plane", "_law_one"]) (sc := defScope sAreWays) (by decide +kernel)) (fun _ _ _ _ _ => (pg_name (i := 8) scAreWays.nd rfl (Or.inl rfl))) (fun _ _ _ _ _ => pts_nil) (fun _ _ _ _ _ => (pe_and (pe_callB (call_isiKK K rfl) (by rfl) T.z_isinstance (by decide +kernel) (pa_cons (pv 8) (pa_cons (pe_bltn (v := .ty "int") (by rfl) T.z_int (by decide +kernel) rfl) pa_nil))) (pe_and (pe_not (pe_callB (call_isiKK K rfl) (by rfl) T.z_isinstance (by decide +kernel) (pa_cons (pv 8) (pa_cons (pe_bltn (v := .ty "bool") (by rfl) T.z_bool (by decide +kernel) rfl) pa_nil)))) (pe_one (pe_cmpR (op_inK K rfl) (pv 8) (pv 1) (by rfl))))))) pa_nil)))) (pss_one (ps_ret pe_bl)) pss_nil)
      (pss_cons (ps_for PassesOwn.never rfl (pi_range1 (by rfl) T.z_range (pa_cons pe_int pa_nil)) (pg_name (i := 4) scAreWays.nd rfl (Or.inr rfl))
      (pss_cons (ps_setLc (i := 5) (own := [("_law_wish", 6), ("_law_plane", 7)]) (tt := tYes) rfl scAreWays.nd rfl rfl (sw_true rfl rfl rfl (by decide +kernel)) (pi_zipLT (by rfl) T.z_zip (pa_cons (pv 2) (pa_cons (pv 3) pa_nil))) (blkOk_by (N := ["_law_sizes_here", "_law_alive", "_law_wishes_here", "_law_thing", "_law_side", "_law_used", "_law_wish", "_law_plane", "_law_one"]) (sc := defScope sAreWays) (by decide +kernel)) (fun _ _ _ _ _ => (pg_tupK K rfl (n := 2) (by rfl) (pgs_cons (pg_name (i := 6) scAreWays.nd rfl (Or.inl rfl)) (pgs_cons (pg_name (i := 7) scAreWays.nd rfl (Or.inl rfl)) pgs_nil)))) (fun _ _ _ _ _ => pts_nil) (fun _ _ _ _ _ => (pe_tup (pa_cons (pe_ix (ix_tupK K rfl) (pe_callF c__law_boxes hr (by decide) (by rfl) (pa_cons (pv 0) (pa_cons (pv 6) pa_nil))) (pv 4) (fun _ _ => rfl)) (pa_cons (pv 7) pa_nil)))))
      (pss_one (ps_if (pt_cmpR op_lt (pe_callB call_lenS (by rfl) T.z_len (by decide +kernel) (pa_cons (pe_callTy (cr_setOfT rfl hr.units) (by rfl) T.z_set (by decide +kernel) (pa_cons (pv 5) pa_nil)) pa_nil)) (pe_callB (call_lenK K rfl) (by rfl) T.z_len (by decide +kernel) (pa_cons (pv 5) pa_nil)) (nomark _)) (pss_one (ps_ret pe_bl)) pss_nil))))
      (pss_one (ps_ret pe_bl))))), ?_⟩
    have big : 100000 < sizeLine := by rw [sizeLine_eq]; omega
    obtain ⟨bs, hw1, hbs⟩ := hwl
    have hbl : bs.length = es.length := by rw [hbs.len, List.length_map]
    walk_at "go"
    rw [List.length_map, List.length_map, hbl, decide_eq_true rfl]
    walk_at "go"
    refine g_iT (SqT.of hth) ?_
    intro D hD
    refine lc_fm walk_tup (fun i => es[i]?.map fun _ => V.bl true) hD (by rw [List.length_map]; omega) (fun H' s => SqT.of (s _ _ hth)) (fun i y H2 H3 hi s yy Kt Kf k1 k2 => ?_) (fun H2 s2 hD2 => ?_)
    · obtain ⟨rfl, hy⟩ := yy
      rw [List.getElem?_map] at hy
      obtain ⟨e, he, rfl⟩ := Option.map_eq_some_iff.mp hy
      walk_at "go"
      refine ⟨rfl, ?_⟩
      walk_at "go"
      refine g_inL (s _ _ hla) ?_
      rw [decide_eq_true (hcol e (List.mem_of_getElem? he))]
      exact k1 _ _ (by rw [he]; rfl) (fun _ _ h => h)
    rw [fm_map es _ _ (by rw [List.length_map])] at hD2
    have e1 : (es.map fun _ => V.bl true) = (es.map fun _ => true).map V.bl := by rw [List.map_map]; rfl
    rw [e1] at hD2
    walk_at "go"
    refine g_all hD2 ?_
    rw [show (es.map fun _ => true).all id = true by simp]
    walk_at "go"
    refine g_ir1 (by omega) (by omega) ?_
    refine for_it walk_range (fun i σ H' => Same H H' ∧ ∃ x4 x5, σ = [some (.ref sz), some (.ref la), some (.ref wl), some (.ref th), x4, x5, none, none, none])
      ⟨s2, _, _, rfl⟩ (fun _ _ _ _ _ => trivial) (fun i x σ H3 H4 hi h y => ?_) (fun σ H' h => ?_)
    · obtain ⟨sB, x4, x5, rfl⟩ := h
      obtain ⟨rfl, ey⟩ := y
      obtain ⟨sd', ei⟩ : ∃ sd : Bool, (0 : Int) + (i : Int) = sN sd := by
        have hi' : i < 2 := hi
        match i, hi' with
        | 0, _ => exact ⟨false, rfl⟩
        | 1, _ => exact ⟨true, rfl⟩
      have ey2 : x = V.int (sN sd') := by rw [ey]; show V.int (0 + (i : Int)) = _; rw [ei]
      subst ey2
      have hw3 := sB _ _ hw1
      have hth3 := sB _ _ hth
      walk_at "go"
      refine g_iz1 hw3 hth3 ?_
      intro D3 hD3
      refine lc_prs (walk_zip2 (by rw [List.length_map, List.length_map, hbl])) (fun i => es[i]?.map fun e => (sd (eE l e) sd', e.2)) hD3 (by rw [List.length_map]; omega) (fun H' s => ⟨s _ _ hw3, s _ _ hth3⟩) (fun j y H5 H6 hj s yy Kt Kf k1 k2 => ?_) (fun H5 s5 hl5 => ?_)
      · obtain ⟨T', u, v, rfl, hT, rfl, hu, hv⟩ := yy
        have hv' : (es.map fun e => V.int e.2)[j]? = some v := hv
        rw [List.getElem?_map] at hv'
        obtain ⟨e, he, rfl⟩ := Option.map_eq_some_iff.mp hv'
        obtain ⟨c, rfl, hc⟩ := refs_at hu
        obtain ⟨p, hp, hpt⟩ := hbs.at_ hc
        have ep : p = e.1 := by
          rw [List.getElem?_map, he] at hp
          exact (Option.some.inj hp).symm
        subst ep
        have s7 : Same H5 (upd H5 T' (.tup [.ref c, .int e.2])) := same_new hT
        have hT7 : (upd H5 T' (.tup [.ref c, .int e.2])) T' = some (.tup [.ref c, .int e.2]) := upd_same
        generalize (upd H5 T' (.tup [.ref c, .int e.2])) = H7 at s7 hT7 ⊢
        have sC := (sB.trans s).trans s7
        walk_at "go"
        refine ⟨rfl, ?_⟩
        walk_at "go"
        refine ⟨sz, c, l, b, e.1.1, e.1.2, rfl, sC _ _ hsz, sC _ _ hpt, l0, l1, fun q hq => ?_⟩
        walk_at "go"
        refine g_ixTt (p := q) upd_same (at_sd2 (bx l e.1) sd' rfl) ?_
        walk_at "go"
        rename_i t9 ht9
        exact k1 t9 _ _ (by rw [he]; rfl) upd_same ((s7.trans (same_new hq)).trans (same_new ht9))
      rw [fm_map es _ _ (by rw [List.length_map, hbl])] at hl5
      obtain ⟨cs, hD5, hcs⟩ := hl5
      have hcl : cs.length = (useOf l es sd').length := hcs.len
      have hul : (useOf l es sd').length = es.length := List.length_map ..
      walk_at "go"
      refine ⟨D3, cs.zip ((useOf l es sd').map fun p => [p.1, p.2]), rfl, ?_, fun q hq => SqT.of (zip_at hcs q hq), ?_, fun a L ha hL1 hL2 => ?_⟩
      · rw [zip_fst hcl]; exact SqL.of hD5
      · rw [List.length_zip, List.length_map]; omega
      have hge : (useOf l es sd').length ≤ L.length := by
        have h1 : ∀ x ∈ (useOf l es sd').map fun p => [p.1, p.2], x ∈ L.map (·.2) := fun x hx => by
          rw [← zip_snd hcl] at hx
          obtain ⟨q, hq, rfl⟩ := List.mem_map.mp hx
          exact hL2 q hq
        have := nodup_len (use_nodup hP sd') h1
        rw [List.length_map, List.length_map] at this
        exact this
      have hD6 := upd_old (o := SetTO P w a L) hD5 ha
      walk_at "go"
      refine ⟨a, L, rfl, upd_same, ?_⟩
      walk_at "go"
      rw [List.length_map, hcl, decide_eq_false (show ¬ ((L.length : Nat) : Int) < (((useOf l es sd').length : Nat) : Int) by omega)]
      walk_at "go"
      exact ⟨((sB.trans s5).trans (same_new ha)), _, _, rfl⟩
    · obtain ⟨sB, x4, x5, rfl⟩ := h
      walk_at "go"
      exact k _ sB
end
end Kx
set_option maxHeartbeats 4000000
namespace Kx
open PySem PySem.Spec PyProof.Rows L2

local macro_rules | `(tactic| walk_at "ht") => `(tactic| (repeat (first | assumption | exact upd_same | refine upd_old ?_ (by assumption) | refine Same.at_ (by assumption) ?_ | refine Fr.tup (by assumption) ?_)))
local macro_rules | `(tactic| walk_at "go1") => `(tactic| (first
  | ((with_reducible apply g_var); (focus rfl)) | with_reducible refine g_op ?_ | with_reducible refine g_c ?_ | with_reducible refine g_I0 ?_ | with_reducible refine g_eqI ?_ | with_reducible refine g_neI ?_
  | with_reducible refine g_cons ?_ | with_reducible refine g_nil ?_ | with_reducible refine g_tup ?_ | with_reducible refine g_lst ?_ | with_reducible refine g_bl ?_ | with_reducible refine g_test ?_
  | with_reducible refine g_B ?_ | with_reducible refine g_and ?_ | with_reducible refine g_or ?_ | with_reducible refine g_not ?_ | with_reducible refine g_andV ?_ | with_reducible refine g_orV ?_
  | with_reducible refine g_notV ?_ | with_reducible refine g_if ?_ | with_reducible refine g_cb ?_ | with_reducible refine g_call ?_ | with_reducible refine g_chain ?_ | with_reducible refine g_un ?_
  | with_reducible refine g_u ?_ | with_reducible refine g_seq ?_ | with_reducible refine g_next ?_ | with_reducible refine g_ret ?_ | with_reducible refine g_set ?_ | with_reducible refine g_ifS ?_
  | with_reducible refine g_drop ?_ | with_reducible refine g_asg ?_ | with_reducible refine g_name ?_ | with_reducible refine g_tc ?_ | with_reducible refine g_tn ?_ | with_reducible refine g_par ?_
  | with_reducible refine g_par3 ?_ | with_reducible refine g_p2 ?_ | with_reducible refine g_p3 ?_ | with_reducible refine g_fs ?_ | with_reducible refine g_fld ?_ | with_reducible refine g_m ?_
  | with_reducible refine g_mk ?_ | with_reducible refine g_dg ?_ | with_reducible refine g_dp ?_ | with_reducible refine g_din ?_ | with_reducible refine g_dni ?_ | with_reducible refine g_bm ?_
  | with_reducible refine g_mg ?_ | with_reducible refine g_il ?_ | with_reducible refine g_it ?_ | with_reducible refine g_ir ?_ | with_reducible refine g_ik ?_ | with_reducible refine g_for ?_
  | with_reducible refine g_lc ?_ | with_reducible refine g_ie ?_ | with_reducible refine g_iz ?_ | with_reducible refine g_yes ?_ | with_reducible refine g_retN ?_ | with_reducible refine g_gsub ?_ | with_reducible refine g_isN ?_ | with_reducible refine g_ntN ?_
  | with_reducible refine g_isiInt ?_ | with_reducible refine g_isiBool ?_ | with_reducible refine g_sl ?_ | with_reducible refine g_on ?_ | with_reducible refine g_os ?_ | ((with_reducible refine g_dsz ?_ ?_); (focus rfl); intro p hp)
  | ((with_reducible apply g_ixTt); (focus (walk_at "ht"; done)); (focus rfl)) | ((with_reducible apply g_ixLl); (focus (walk_at "ht"; done)); (focus rfl)) | ((with_reducible apply g_isiT); (focus (walk_at "ht"; done))) | ((with_reducible apply g_lnL); (focus (walk_at "ht"; done))) | ((with_reducible apply g_lnT); (focus (walk_at "ht"; done))) | ((with_reducible apply g_tTt); (focus (walk_at "ht"; done)); (focus rfl))
  | ((with_reducible apply g_tyL); (focus (walk_at "ht"; done))) | refine iteT ?_ | refine iteF ?_))
local macro_rules | `(tactic| walk_at "go") => `(tactic| (repeat (walk_at "go1")))
def dE (e : (Int × Int) × Int) : PyData := .tuple [.tuple [.int e.1.1, .int e.1.2], .int e.2]
theorem dE_lay : ∀ es : Wy, PyData.canLayAll0 (es.map dE) = true
  | [] => by simp [PyData.canLayAll0]
  | e :: es => by
    have h := dE_lay es
    simp only [List.map_cons, PyData.canLayAll0, h, Bool.and_true]
    simp [dE, PyData.canLay0, PyData.canLayAll0]
theorem dE_dep : ∀ es : Wy, PyData.depthAll (es.map dE) ≤ 5
  | [] => by simp [PyData.depthAll]
  | e :: es => by
    have h1 := dE_dep es
    have h2 : (dE e).depth ≤ 5 := by simp [dE, PyData.depth, PyData.depthAll]
    simp only [List.map_cons, PyData.depthAll]
    omega
theorem dE_shaped (es : Wy) : SeqAt.shaped (.tuple (es.map dE)) = true := by
  have h1 := dE_dep es
  have h2 : PyData.depth (.tuple (es.map dE)) ≤ 64 := by
    simp only [PyData.depth]
    omega
  show (PyData.canLay0 (.tuple (es.map dE)) && decide (PyData.depth (.tuple (es.map dE)) ≤ 64)) = true
  rw [Bool.and_eq_true]
  exact ⟨by simp only [PyData.canLay0]; exact dE_lay es, decide_eq_true h2⟩
theorem dE_eqv (es : Wy) : PyData.eqv (.tuple (es.map dE)) (.tuple (es.map dE)) = true := SeqAt.eqv_refl _ (by simp only [PyData.canLay0]; exact dE_lay es)
theorem dE_dp {K : PySem.W.Frag} {H : Hp} {bs : List Addr} {es : Wy} (h : Pd EntA H bs es) : DpAll K H (bs.map V.ref) (es.map dE) := by
  unfold Pd at h
  induction h with
  | nil => exact .nil
  | cons e _ ih =>
    obtain ⟨q, h1, h2⟩ := e
    exact .cons (.tup (SqT.of h1) (.cons (.tup (SqT.of h2) (.cons (.int _) (.cons (.int _) .nil))) (.cons (.int _) .nil))) ih
def dI (n : Int) : PyData := .int n
theorem dI_lay : ∀ ns : List Int, PyData.canLayAll0 (ns.map dI) = true
  | [] => by simp [PyData.canLayAll0]
  | n :: ns => by
    have h := dI_lay ns
    simp only [List.map_cons, PyData.canLayAll0, h, Bool.and_true]
    simp [dI, PyData.canLay0]
theorem dI_dep : ∀ ns : List Int, PyData.depthAll (ns.map dI) ≤ 5
  | [] => by simp [PyData.depthAll]
  | n :: ns => by
    have h1 := dI_dep ns
    have h2 : (dI n).depth ≤ 5 := by simp [dI, PyData.depth]
    simp only [List.map_cons, PyData.depthAll]
    omega
theorem dI_shaped (ns : List Int) : SeqAt.shaped (.tuple (ns.map dI)) = true := by
  have h1 := dI_dep ns
  have h2 : PyData.depth (.tuple (ns.map dI)) ≤ 64 := by
    simp only [PyData.depth]
    omega
  show (PyData.canLay0 (.tuple (ns.map dI)) && decide (PyData.depth (.tuple (ns.map dI)) ≤ 64)) = true
  rw [Bool.and_eq_true]
  exact ⟨by simp only [PyData.canLay0]; exact dI_lay ns, decide_eq_true h2⟩
theorem dI_eqv (ns : List Int) : PyData.eqv (.tuple (ns.map dI)) (.tuple (ns.map dI)) = true := SeqAt.eqv_refl _ (by simp only [PyData.canLay0]; exact dI_lay ns)
theorem dI_dp {K : PySem.W.Frag} {H : Hp} : ∀ ns : List Int, DpAll K H (ns.map V.int) (ns.map dI)
  | [] => .nil
  | n :: ns => .cons (.int n) (dI_dp ns)
theorem g_neEnts {K : PySem.W.Frag} {H : Hp} {Q : VK} {a c : Addr} {bs cs : List Addr} {es : Wy} (h1 : H a = some (.tup (bs.map V.ref))) (h2 : Pd EntA H bs es) (h3 : H c = some (.tup (cs.map V.ref))) (h4 : Pd EntA H cs es) (q : Q (.bl false) H) : rNeD K (.ref a) (.ref c) H Q :=
  ⟨_, _, .tup (SqT.of h1) (dE_dp h2), .tup (SqT.of h3) (dE_dp h4), dE_shaped es, dE_shaped es, by rw [dE_eqv]; exact q⟩
theorem g_neInts {K : PySem.W.Frag} {H : Hp} {Q : VK} {a c : Addr} {ns : List Int} (h1 : SqT K H a (ns.map V.int)) (h3 : SqT K H c (ns.map V.int)) (q : Q (.bl false) H) : rNeD K (.ref a) (.ref c) H Q :=
  ⟨_, _, .tup h1 (dI_dp ns), .tup h3 (dI_dp ns), dI_shaped ns, dI_shaped ns, by rw [dI_eqv]; exact q⟩
theorem look_perm {m m' : Wy} (hk : (m.map (·.1)).Nodup) (p : m'.Perm m) {w : Int × Int} (hw : w ∈ m.map (·.1)) : look m' w = look m w := by
  obtain ⟨e, he, rfl⟩ := List.mem_map.mp hw
  rw [look_of hk he, look_of ((p.map _).nodup_iff.mpr hk) (p.mem_iff.mpr he)]
theorem ents_same {m m' : Wy} (hk : (m.map (·.1)).Nodup) (p : m'.Perm m) {ws : List (Int × Int)} (hw : ws.Perm (m.map (·.1))) : ents m' ws = ents m ws := by
  unfold ents
  refine List.map_congr_left fun w h => ?_
  rw [look_perm hk p (hw.mem_iff.mp h)]
def spIsSo (cl : Addr) : Sp := fun vs H Q _ => ∃ (x d o la wy : Addr) (l : Int) (b : Nat) (al sal : List Int) (m m' : Wy) (mv : Int), vs = [.ref x, .ref o] ∧ LaidAt cl H x d l b sal m mv ∧ LawAt H o la wy l b al m' mv ∧ m'.Perm m ∧ sal.Perm al ∧ sal.Pairwise (· ≤ ·) ∧ LOk l sal m ∧ m.length < 64 ∧ 0 < l ∧ l ≤ 12 ∧
  ∀ H', Same H H' → Q (.bl true) H'
section
variable {P : Program} {w : World} {K : PySem.W.Frag} {mg : Str → Option Value} {base : Heap} (T : Tx K mg)
theorem scIsSo : FnScope ["_law_laid_here", "_law_own", "_law_pairs", "_law_wishes_here", "_law_wish", "_law_plane"] ["_law_laid_here", "_law_own"] (defScope sIsSo) := ⟨rfl, rfl, rfl, by decide +kernel, rfl, by decide +kernel, by decide +kernel⟩
include T in
theorem ok__law_is_so {f : Addr} {fd : FuncData} (F : FnP K "_law_is_so" "_law_is_so" sIsSo f fd)
    (c_Laid_laid : CalM P w K mg base CX0 1 (cL K) "laid" ["self"] (spLaid (cL K))) (c_Laid_alive : CalM P w K mg base CX0 1 (cL K) "alive" ["self"] (spAlive (cL K))) (c_Laid_moved : CalM P w K mg base CX0 1 (cL K) "moved" ["self"] (spMoved (cL K))) (c__law_are_ways : Cal P w K mg base CX0 2 "_law_are_ways" ["_law_sizes_here", "_law_alive", "_law_wishes_here", "_law_thing"] spAreWays)  :
    FnOk P w K mg base CX0 3 f fd ["_law_laid_here", "_law_own"] (spIsSo (cL K)) := by
  refine F.ok scIsSo (fun vs H Q E h => ?_) (fun cdv A outer s H vs Q E hr h => ?_)
  · obtain ⟨x, d, o, la, wy, l, b, al, sal, m, m', mv, rfl, _⟩ := h; rfl
  · obtain ⟨x, d, o, la, wy, l, b, al, sal, m, m', mv, rfl, hl, hw, hmp, hsp, hso, hk, hm, l0, l1, k⟩ := h
    refine ⟨_, PSs.nox (pss_cons (ps_set (i := 2) scIsSo.nd rfl (Or.inl rfl) (pe_callTy call_tuple_of (by rfl) T.z_tuple (by decide +kernel) (pa_cons (pe_lc (own := [("_law_wish", 4)]) (g := gName 4) (tt := tYes) rfl scIsSo.nd (pi_list (pe_callB (cr_sortedDT rfl) (by rfl) T.z_sorted (by decide +kernel) (pa_cons (pe_dget (hu_of hr) (pv 1) pe_str (fun _ _ => rfl)) pa_nil))) (blkOk_by (N := ["_law_laid_here", "_law_own", "_law_pairs", "_law_wishes_here", "_law_wish", "_law_plane"]) (sc := defScope sIsSo) (by decide +kernel)) (fun _ _ _ _ _ => (pg_name (i := 4) scIsSo.nd rfl (Or.inl rfl))) (fun _ _ _ _ _ => pts_nil) (fun _ _ _ _ _ => (pe_tup (pa_cons (pv 4) (pa_cons (pe_dget (hu_of hr) (pe_dget (hu_of hr) (pv 1) pe_str (fun _ _ => rfl)) (pv 4) (fun _ _ => rfl)) pa_nil))))) pa_nil)))
      (pss_cons (ps_if (PW.pt (pw_or (pt_cmpR (op_neD hr.units) (pe_methF0 T.cl_Laid c_Laid_laid hr (by decide) (pv 0)) (pv 2) (nomark _)) (pw_or (pt_cmpR (op_neD hr.units) (pe_methF0 T.cl_Laid c_Laid_alive hr (by decide) (pv 0)) (pe_callTy call_tuple_of (by rfl) T.z_tuple (by decide +kernel) (pa_cons (pe_callB cr_sortedI (by rfl) T.z_sorted (by decide +kernel) (pa_cons (pe_dget (hu_of hr) (pv 1) pe_str (fun _ _ => rfl)) pa_nil)) pa_nil)) (nomark _)) (pw_or1 (pt_cmpR op_ne (pe_methF0 T.cl_Laid c_Laid_moved hr (by decide) (pv 0)) (pe_dget (hu_of hr) (pv 1) pe_str (fun _ _ => rfl)) (nomark _)))))) (pss_one (ps_ret pe_bl)) pss_nil)
      (pss_cons (ps_setLc (i := 3) (own := [("_law_wish", 4), ("_law_plane", 5)]) (tt := tYes) rfl scIsSo.nd rfl rfl (sw_true rfl rfl rfl (by decide +kernel)) (pi_tup (pv 2)) (blkOk_by (N := ["_law_laid_here", "_law_own", "_law_pairs", "_law_wishes_here", "_law_wish", "_law_plane"]) (sc := defScope sIsSo) (by decide +kernel)) (fun _ _ _ _ _ => (pg_tupK K rfl (n := 2) (by rfl) (pgs_cons (pg_name (i := 4) scIsSo.nd rfl (Or.inl rfl)) (pgs_cons (pg_name (i := 5) scIsSo.nd rfl (Or.inl rfl)) pgs_nil)))) (fun _ _ _ _ _ => pts_nil) (fun _ _ _ _ _ => (pv 4)))
      (pss_one (ps_ret (pe_callF c__law_are_ways hr (by decide) (by rfl) (pa_cons (pe_dget (hu_of hr) (pv 1) pe_str (fun _ _ => rfl)) (pa_cons (pe_dget (hu_of hr) (pv 1) pe_str (fun _ _ => rfl)) (pa_cons (pv 3) (pa_cons (pe_callTy call_tuple_of (by rfl) T.z_tuple (by decide +kernel) (pa_cons (pe_lc (own := [("_law_wish", 4), ("_law_plane", 5)]) (tt := tYes) rfl scIsSo.nd (pi_tup (pv 2)) (blkOk_by (N := ["_law_laid_here", "_law_own", "_law_pairs", "_law_wishes_here", "_law_wish", "_law_plane"]) (sc := defScope sIsSo) (by decide +kernel)) (fun _ _ _ _ _ => (pg_tupK K rfl (n := 2) (by rfl) (pgs_cons (pg_name (i := 4) scIsSo.nd rfl (Or.inl rfl)) (pgs_cons (pg_name (i := 5) scIsSo.nd rfl (Or.inl rfl)) pgs_nil)))) (fun _ _ _ _ _ => pts_nil) (fun _ _ _ _ _ => (pv 5))) pa_nil)) pa_nil)))))))))), ?_⟩
    have big : 100000 < sizeLine := by rw [sizeLine_eq]; omega
    have hkn' : (m'.map (·.1)).Nodup := (hmp.map _).nodup_iff.mpr hk.kn
    walk_at "go"
    refine hw.g3 ?_
    walk_at "go"
    refine ⟨wy, _, m'.map (·.1), rfl, hw.wy_, dm_keys m', fun bs ws q hbs hp hs hq => ?_⟩
    have s1 : Same H (upd H q (.lst (bs.map V.ref))) := same_new hq
    have hq1 : (upd H q (.lst (bs.map V.ref))) q = some (.lst (bs.map V.ref)) := upd_same
    have hbs1 := hbs.keep fun b xs e => s1 b _ e
    generalize (upd H q (.lst (bs.map V.ref))) = H1 at s1 hq1 hbs1 ⊢
    have hlw : ws.length = m.length := by rw [hp.length_eq, List.length_map, hmp.length_eq]
    have hpm : ws.Perm (m.map (·.1)) := hp.trans (hmp.map _)
    refine g_iL hq1 ?_
    intro D hD
    refine lc_st stEnt walk_list (fun i => ws[i]?.map fun w => (w, (look m' w).getD 0)) hD (by rw [List.length_map, hbs.len]; omega) (fun H' s => SqL.of (s _ _ hq1)) (fun i y H2 H3 hi s yy Kt Kf k1 k2 => ?_) (fun H2 cs s2 hD2 hcs => ?_)
    · obtain ⟨rfl, hy⟩ := yy
      obtain ⟨c, rfl, hc⟩ := refs_at hy
      obtain ⟨p, hp1, hpt⟩ := hbs1.at_ hc
      obtain ⟨v, hv⟩ := look_mem (hp.mem_iff.mp (List.mem_of_getElem? hp1))
      have hw3 := hw.same (s1.trans s)
      walk_at "go"
      refine ⟨rfl, ?_⟩
      walk_at "go"
      refine hw3.g3 ?_
      walk_at "go"
      refine g_dgT hw3.wy_ (s _ _ hpt) hv ?_
      walk_at "go"
      rename_i p9 hp9
      exact k1 p9 (p, (look m' p).getD 0) _ (by rw [hp1]; rfl) ⟨c, by rw [hv]; exact upd_same, upd_old (s _ _ hpt) hp9⟩ (same_new hp9)
    rw [ents_get m' ws _ (by rw [List.length_map, hbs.len]), ents_same hk.kn hmp hpm] at hcs
    have hes : (ents m ws).Perm m := ents_perm hk.kn hpm
    have hke := hk.perm hes
    have hel : (ents m ws).length = ws.length := ents_len m ws
    walk_at "go"
    refine ⟨D, _, rfl, .inl ⟨SqL.of hD2, fun t ht => ?_⟩⟩
    have s3 : Same H (upd H2 t (.tup (cs.map V.ref))) := same_snoc (s1.trans s2) ht
    have ht3 : (upd H2 t (.tup (cs.map V.ref))) t = some (.tup (cs.map V.ref)) := upd_same
    have hcs3 := hcs.same stEnt (same_new (o := .tup (cs.map V.ref)) ht)
    have hl3 := hl.same s3
    generalize (upd H2 t (.tup (cs.map V.ref))) = H3 at s3 ht3 hcs3 hl3 ⊢
    obtain ⟨dx, sz, a, hob, hsz, ha⟩ := hl3.ob
    clear hbs hbs1 hq1 hcs hD2
    walk_at "go"
    refine g_m2 hob rfl ?_
    walk_at "go"
    refine ⟨x, d, l, b, sal, m, mv, rfl, hl3, by omega, fun H4 r rb ws2 s4 hr4 hrb hwp hws => ?_⟩
    have e2 : ws2 = ws := leP_uniq hws hs (hwp.trans hpm.symm)
    subst e2
    walk_at "go"
    have ht4 := s4 _ _ ht3
    have hcs4 := hcs3.same stEnt s4
    refine g_neEnts hr4 hrb ht4 hcs4 ?_
    have s04 := s3.trans s4
    have hl4 := hl.same s04
    have hw4 := hw.same s04
    have hob4 := s4 _ _ hob
    walk_at "go"
    refine g_m2 hob4 rfl ?_
    walk_at "go"
    refine ⟨x, d, l, b, sal, m, mv, rfl, hl4, fun a4 ha4 => ?_⟩
    walk_at "go"
    refine hw4.g2 ?_
    walk_at "go"
    refine ⟨la, al, rfl, SqL.of hw4.al_, fun ns g hnp hns hg => ?_⟩
    have ens : ns = sal := le_uniq hns hso (hnp.trans hsp.symm)
    subst ens
    walk_at "go"
    refine ⟨g, _, rfl, .inl ⟨SqL.of upd_same, fun t2 ht2 => ?_⟩⟩
    have s5 : Same H4 (upd (upd H4 g (.lst (ns.map V.int))) t2 (.tup (ns.map V.int))) := same_snoc (same_new hg) ht2
    have ht5 : (upd (upd H4 g (.lst (ns.map V.int))) t2 (.tup (ns.map V.int))) t2 = some (.tup (ns.map V.int)) := upd_same
    generalize (upd (upd H4 g (.lst (ns.map V.int))) t2 (.tup (ns.map V.int))) = H5 at s5 ht5 ⊢
    walk_at "go"
    refine g_neInts ((Fr.of_same (W := []) s5).ft ha4).sq (SqT.of ht5) ?_
    have s05 := s04.trans s5
    have hl5 := hl.same s05
    have hw5 := hw.same s05
    have hob5 := s5 _ _ hob4
    have ht6 := s5 _ _ ht4
    have hcs5 := hcs4.same stEnt s5
    walk_at "go"
    refine g_m2 hob5 rfl ?_
    walk_at "go"
    refine ⟨x, d, l, b, ns, m, mv, rfl, hl5, ?_⟩
    walk_at "go"
    refine hw5.g4 ?_
    walk_at "go"
    rw [decide_eq_true rfl]
    clear ht5 hw4 hw hl hl3 hl4 hob hob4 hob5 hcs4 hcs3 ht4 ht3
    walk_at "go"
    refine g_iT (SqT.of ht6) ?_
    intro D2 hD2
    refine lc_prs walk_tup (fun i => (ents m ws2)[i]?.map (·.1)) hD2 (by rw [List.length_map, hcs5.len]; omega) (fun H' s => SqT.of (s _ _ ht6)) (fun i y H6 H7 hi s yy Kt Kf k1 k2 => ?_) (fun H6 s6 hl6 => ?_)
    · obtain ⟨rfl, hy⟩ := yy
      obtain ⟨c, rfl, hc⟩ := refs_at hy
      obtain ⟨e, he, qa, he1, he2⟩ := hcs5.at_ hc
      have he1' := s _ _ he1
      walk_at "go"
      refine ⟨rfl, ?_⟩
      walk_at "go"
      exact k1 qa e.1 _ (by rw [he]; rfl) (s _ _ he2) (fun _ _ h => h)
    rw [fm_map (ents m ws2) _ _ (by rw [List.length_map, hcs5.len])] at hl6
    have hw6 := hw5.same s6
    have ht7 := s6 _ _ ht6
    have hcs6 := hcs5.same stEnt s6
    walk_at "go"
    refine hw6.g1 fun sz6 hsz6 => ?_
    walk_at "go"
    refine hw6.g2 ?_
    walk_at "go"
    refine g_iT (SqT.of ht7) ?_
    intro D3 hD3
    refine lc_fm walk_tup (fun i => (ents m ws2)[i]?.map fun e => V.int e.2) hD3 (by rw [List.length_map, hcs5.len]; omega) (fun H' s => SqT.of (s _ _ ht7)) (fun i y H8 H7 hi s yy Kt Kf k1 k2 => ?_) (fun H7 s7 hD7 => ?_)
    · obtain ⟨rfl, hy⟩ := yy
      obtain ⟨c, rfl, hc⟩ := refs_at hy
      obtain ⟨e, he, qa, he1, he2⟩ := hcs6.at_ hc
      have he1' := s _ _ he1
      walk_at "go"
      refine ⟨rfl, ?_⟩
      walk_at "go"
      exact k1 _ _ (by rw [he]; rfl) (fun _ _ h => h)
    rw [fm_map (ents m ws2) _ _ (by rw [List.length_map, hcs5.len])] at hD7
    walk_at "go"
    refine ⟨D3, _, rfl, .inl ⟨SqL.of hD7, fun t9 ht9 => ?_⟩⟩
    have s8 : Same H7 (upd H7 t9 (.tup ((ents m ws2).map fun e => V.int e.2))) := same_new ht9
    have s68 := s7.trans s8
    have hw8 := hw6.same s68
    walk_at "go"
    refine ⟨sz6, la, D2, t9, l, b, al, ents m ws2, rfl, s68 _ _ hsz6, hw8.al_, ?_, upd_same, l0, l1, fun e he => hsp.mem_iff.mp (hke.col e he), hke.pr, by omega, fun H9 s9 => ?_⟩
    · obtain ⟨bs6, h61, h62⟩ := hl6
      exact ⟨bs6, s68 _ _ h61, h62.keep fun b xs e => s68 b _ e⟩
    · exact k _ (((s05.trans s6).trans s68).trans s9)
end
end Kx
set_option maxHeartbeats 4000000
namespace Kx
open PySem PySem.Spec PyProof.Rows L2

local macro_rules | `(tactic| walk_at "ht") => `(tactic| (repeat (first | assumption | exact upd_same | refine upd_old ?_ (by assumption) | refine Same.at_ (by assumption) ?_ | refine Fr.tup (by assumption) ?_)))
local macro_rules | `(tactic| walk_at "go1") => `(tactic| (first
  | ((with_reducible apply g_var); (focus rfl)) | with_reducible refine g_op ?_ | with_reducible refine g_c ?_ | with_reducible refine g_I0 ?_ | with_reducible refine g_eqI ?_ | with_reducible refine g_neI ?_
  | with_reducible refine g_cons ?_ | with_reducible refine g_nil ?_ | with_reducible refine g_tup ?_ | with_reducible refine g_lst ?_ | with_reducible refine g_bl ?_ | with_reducible refine g_test ?_
  | with_reducible refine g_B ?_ | with_reducible refine g_and ?_ | with_reducible refine g_or ?_ | with_reducible refine g_not ?_ | with_reducible refine g_andV ?_ | with_reducible refine g_orV ?_
  | with_reducible refine g_notV ?_ | with_reducible refine g_if ?_ | with_reducible refine g_cb ?_ | with_reducible refine g_call ?_ | with_reducible refine g_chain ?_ | with_reducible refine g_un ?_
  | with_reducible refine g_u ?_ | with_reducible refine g_seq ?_ | with_reducible refine g_next ?_ | with_reducible refine g_ret ?_ | with_reducible refine g_set ?_ | with_reducible refine g_ifS ?_
  | with_reducible refine g_drop ?_ | with_reducible refine g_asg ?_ | with_reducible refine g_name ?_ | with_reducible refine g_tc ?_ | with_reducible refine g_tn ?_ | with_reducible refine g_par ?_
  | with_reducible refine g_par3 ?_ | with_reducible refine g_p2 ?_ | with_reducible refine g_p3 ?_ | with_reducible refine g_fs ?_ | with_reducible refine g_fld ?_ | with_reducible refine g_m ?_
  | with_reducible refine g_mk ?_ | with_reducible refine g_dg ?_ | with_reducible refine g_dp ?_ | with_reducible refine g_din ?_ | with_reducible refine g_dni ?_ | with_reducible refine g_bm ?_
  | with_reducible refine g_mg ?_ | with_reducible refine g_il ?_ | with_reducible refine g_it ?_ | with_reducible refine g_ir ?_ | with_reducible refine g_ik ?_ | with_reducible refine g_for ?_
  | with_reducible refine g_lc ?_ | with_reducible refine g_ie ?_ | with_reducible refine g_iz ?_ | with_reducible refine g_yes ?_ | with_reducible refine g_retN ?_ | with_reducible refine g_gsub ?_ | with_reducible refine g_isN ?_ | with_reducible refine g_ntN ?_
  | with_reducible refine g_isiInt ?_ | with_reducible refine g_isiBool ?_ | with_reducible refine g_sl ?_ | with_reducible refine g_on ?_ | with_reducible refine g_os ?_ | ((with_reducible refine g_dsz ?_ ?_); (focus rfl); intro p hp)
  | ((with_reducible apply g_ixTt); (focus (walk_at "ht"; done)); (focus rfl)) | ((with_reducible apply g_ixLl); (focus (walk_at "ht"; done)); (focus rfl)) | ((with_reducible apply g_isiT); (focus (walk_at "ht"; done))) | ((with_reducible apply g_lnL); (focus (walk_at "ht"; done))) | ((with_reducible apply g_lnT); (focus (walk_at "ht"; done))) | ((with_reducible apply g_tTt); (focus (walk_at "ht"; done)); (focus rfl))
  | ((with_reducible apply g_tyL); (focus (walk_at "ht"; done))) | refine iteT ?_ | refine iteF ?_))
local macro_rules | `(tactic| walk_at "go") => `(tactic| (repeat (walk_at "go1")))
/-- a block where the number of slots is known -/
theorem pss_len {X : Cx} {b : List Stmt} {t : TS} (h : PSs X b t) : PSs X b (fun D σ H => σ.length = X.N.length → t D σ H) := ⟨fun pins s σ H D I q => h.run pins s σ H D I (q I.len)⟩
/-- what flies out of a put as the law catches it -/
def EToldX (K : PySem.W.Frag) (Q : VK) : XK := fun cls d H' => cls = .ref (cN K) ∧ ∃ (dd : Addr) (s : Bool) (k : Int), d = some dd ∧ H' dd = some (.xd [("box", .int k), ("side", sideV s)]) ∧ ∀ p, H' p = none → Q (.ref p) (upd H' p (.tup [.str "no", sideV s, .int k]))
def TTold (K : PySem.W.Frag) : (XK → Hp → VK → Prop) → Hp → VK → Prop := fun tl H Q => ∀ p0, H p0 = none → ∀ QQ : VK, (∀ v H', (∀ p, H' p = none → Q (.ref p) (upd H' p (.tup [.str "told", v]))) → QQ v H') → tl (EToldX K Q) (upd H p0 (.tup [.str "other"])) QQ
section
variable {P : Program} {w : World} {K : PySem.W.Frag} {mg : Str → Option Value} {base : Heap} (T : Tx K mg) (N : TxN K)
theorem scTold : FnScope ["_law_call", "_law_found", "e"] ["_law_call"] (defScope sTold) := ⟨rfl, rfl, rfl, by decide +kernel, rfl, by decide +kernel, by decide +kernel⟩
include T N in
theorem told_gives {X : Cx} {g : Addr} {cdg : Value} {q : Str} (hK : X.K = K) (hM : X.mg = mg) (hex : PySem.W.exmOne K (.ref (cN K)) (.ref (cN K)) = some true) :
    LamX.GivesTo X ["_law_call", "_law_found", "e"] "_law_told" (defScope sTold) g cdg (defBody sTold) "_law_call" q (TTold K) := by
  subst hK hM
  intro f c' s H Q tl act hc h
  have hgl : Names (cxOf CX0 X.prog X.w X.K X.mg X.base ["_law_call", "_law_found", "e"] "_law_told" (defScope sTold) g cdg X.A X.stack s H C8.E0).nox "NoWay" (.ref (cN X.K)) := ⟨by rfl, by decide, .inl T.gN⟩
  refine ⟨_, pss_cons (ps_set (i := 1) scTold.nd rfl (Or.inl rfl) (pe_tup (pa_cons pe_str pa_nil))) (pss_cons (ps_tryFst (i := 2) (X := (cxOf CX0 X.prog X.w X.K X.mg X.base ["_law_call", "_law_found", "e"] "_law_told" (defScope sTold) g cdg X.A X.stack s H C8.E0).nox) (c := .ref (cN X.K))
      (tb := fun W D σ H => ∃ Ech : XK, (∀ cls d σ' H', Ech cls d H' → W cls d σ' H') ∧ tAsg (tTup (tCons (tC (.str "told")) (tCons (fun σZ HZ Q => σZ[0]? = some (some (.ref f)) ∧ HZ c' = some (LamX.CodeO c' q) ∧ tl Ech HZ Q) tNil))) (gName 1) D σ H)
      (ts := fun a cls d D σ H => σ.length = 3 → tAsg (tTup (tCons (tC (.str "no")) (tCons (tXf a cls d (cN X.K) "side" (tVar 2)) (tCons (tXf a cls d (cN X.K) "box" (tVar 2)) tNil)))) (gName 1) D σ H)
      rfl rfl scTold.nd rfl rfl hgl (fun W pn xe tk _ => ?_) (fun a oe cls d pn hz hf => ?_)) (pss_len (pss_one (ps_ret (pv 1))))), ?_⟩
  · refine ⟨fun pins s' σ H' D I h' => ?_⟩
    obtain ⟨Ech, hW, h1⟩ := h'
    refine PSs.run (t := tAsg (tTup (tCons (tC (.str "told")) (tCons (fun σZ HZ Q => σZ[0]? = some (some (.ref f)) ∧ HZ c' = some (LamX.CodeO c' q) ∧ tl Ech HZ Q) tNil))) (gName 1)) ?_ pins s' σ H' D I h1
    exact pss_one (ps_set (i := 1) scTold.nd rfl (Or.inl rfl) (pe_tup (pa_cons pe_str (pa_cons (act W pn xe Ech _ _ tk hW) pa_nil))))
  · refine pss_len (X := (cxOf CX0 X.prog X.w X.K X.mg X.base ["_law_call", "_law_found", "e"] "_law_told" (defScope sTold) g cdg X.A X.stack s H C8.E0).nox.suite a ((a, oe) :: pn)) ?_
    exact (pss_one (ps_set (i := 1) scTold.nd rfl (Or.inl rfl) (pe_tup (pa_cons pe_str (pa_cons (pe_xf N.xf T.nN1 hz hf (pv 2)) (pa_cons (pe_xf N.xf T.nN2 hz hf (pv 2)) pa_nil))))))
  · walk_at "go"
    rename_i p0 hp0
    have slots : ∀ σ' : L2.St, σ'.length = 3 → ∃ x0 x1 x2, σ' = [x0, x1, x2] := fun σ' h => match σ', h with
      | [x0, x1, x2], _ => ⟨x0, x1, x2, rfl⟩
    refine ⟨EToldX X.K Q, fun cls d σ' H' hE => ?_, ?_⟩
    · obtain ⟨rfl, dd, sd, k, rfl, hd, kk⟩ := hE
      refine ⟨hex, fun a ha hlen => ?_⟩
      rw [List.length_set] at hlen
      obtain ⟨x0, x1, x2, rfl⟩ := slots σ' hlen
      walk_at "go"
      refine ⟨.ref a, rfl, rfl, rfl, dd, _, _, rfl, hd, by rfl, ?_⟩
      walk_at "go"
      refine ⟨.ref a, rfl, rfl, rfl, dd, _, _, rfl, hd, by rfl, ?_⟩
      walk_at "go"
      intro _
      walk_at "go"
      exact kk _ (by assumption)
    · walk_at "go"
      refine ⟨rfl, upd_old hc hp0, h p0 hp0 _ fun v H' hq => ?_⟩
      walk_at "go"
      intro _
      walk_at "go"
      exact hq _ (by assumption)
end
end Kx
set_option maxHeartbeats 4000000
namespace Kx
open PySem PySem.Spec PyProof.Rows L2
/-! The state of the law between its steps. -/
theorem HandAt.ext {H H' : Hp} {h : Addr} (x : HandAt H h) (f : LamX.ExtN H H') : HandAt H' h ∧ handCells H' h = handCells H h := by
  obtain ⟨c, cells, i1, i2, i3, i4, h1, h2, h3⟩ := x
  have q := f _ _ h1 (fun _ z => nomatch z)
  exact ⟨⟨c, cells, i1, i2, i3, i4, q, f _ _ h2 (fun _ z => nomatch z), h3⟩, by unfold handCells; rw [q, h1]⟩
theorem LawAt.ext {H H' : Hp} {o la wy : Addr} {l : Int} {b : Nat} {al : List Int} {m : Wy} {mv : Int} (h : LawAt H o la wy l b al m mv) (f : LamX.ExtN H H') : LawAt H' o la wy l b al m mv :=
  ⟨let ⟨sz, h1, h2⟩ := h.ob; ⟨sz, f _ _ h1 (fun _ z => nomatch z), f _ _ h2 (fun _ z => nomatch z)⟩, f _ _ h.al_ (fun _ z => nomatch z), f _ _ h.wy_ (fun _ z => nomatch z)⟩
theorem LaidAt.ext {cl x d : Addr} {H H' : Hp} {l : Int} {b : Nat} {al : List Int} {m : Wy} {mv : Int} (h : LaidAt cl H x d l b al m mv) (f : LamX.ExtN H H') : LaidAt cl H' x d l b al m mv := by
  obtain ⟨dx, sz, a, h1, h2, o, h3, h4⟩ := h.ob
  exact ⟨⟨dx, sz, a, f _ _ h1 (fun _ z => nomatch z), f _ _ h2 (fun _ z => nomatch z), o, h3, f _ _ h4 (fun _ z => nomatch z)⟩, f _ _ h.pl (fun _ z => nomatch z)⟩
theorem Prs.ext {H H' : Hp} {bs : List Addr} {ps : List (Int × Int)} (h : Prs H bs ps) (f : LamX.ExtN H H') : Prs H' bs ps := h.keep fun b xs e => f _ _ e (fun _ z => nomatch z)
theorem Lp.ext {H H' : Hp} {a : Addr} {ps : List (Int × Int)} (h : Lp H a ps) (f : LamX.ExtN H H') : Lp H' a ps := let ⟨bs, h1, h2⟩ := h; ⟨bs, f _ _ h1 (fun _ z => nomatch z), h2.ext f⟩
theorem Tp.ext {H H' : Hp} {a : Addr} {ps : List (Int × Int)} (h : Tp H a ps) (f : LamX.ExtN H H') : Tp H' a ps := let ⟨bs, h1, h2⟩ := h; ⟨bs, f _ _ h1 (fun _ z => nomatch z), h2.ext f⟩
/-- neither a table nor a code object -/
def Plain (H : Hp) (b : Addr) : Prop := (∀ ps, H b ≠ some (.tbl ps)) ∧ ∀ c q, H b ≠ some (LamX.CodeO c q)
theorem codeO_ext (c : Addr) (q : Str) : ∃ f, LamX.CodeO c q = HO.ext f := ⟨_, rfl⟩
theorem plain_of {H : Hp} {b : Addr} {o : HO} (h : H b = some o) (n1 : ∀ ps, o ≠ .tbl ps) (n2 : ∀ f, o ≠ .ext f) : Plain H b := ⟨fun ps z => n1 ps (Option.some.inj (h.symm.trans z)), fun c q z => by
  obtain ⟨f, hf⟩ := codeO_ext c q
  rw [hf] at z
  exact n2 f (Option.some.inj (h.symm.trans z))⟩
theorem plain_none {H : Hp} {b : Addr} (h : H b = none) : Plain H b := ⟨fun ps z => (by rw [h] at z; cases z), fun c q z => (by rw [h] at z; cases z)⟩
theorem tabs_fr {Tb : List (Addr × Str)} {W : List Addr} {H H' : Hp} (t : LamX.Tabs Tb H) (f : Fr W H H') (n : ∀ b ∈ W, Plain H b) : LamX.Tabs Tb H' := fun p hp => by
  obtain ⟨ps, h1, h2, h3⟩ := t p hp
  refine ⟨ps, f.at_ h1 (fun z => (n _ z).1 _ h1), h2, fun pos cv hc => ?_⟩
  obtain ⟨c, e1, e2⟩ := h3 pos cv hc
  exact ⟨c, e1, f.at_ e2 (fun z => (n _ z).2 _ _ e2)⟩
/-- the law's state: the laid planes at x and d, the law's own record at o, la and wy, the hand at h; which wishes are laid, in both orders; the planes, sorted and not -/
structure SLaw (cl : Addr) (Tb : List (Addr × Str)) (H : Hp) (x d o la wy h : Addr) (l : Int) (b : Nat) (al sal : List Int) (mp m : Wy) (mv : Int) : Prop where
  laid : LaidAt cl H x d l b sal mp mv
  law : LawAt H o la wy l b al m mv
  hand : HandAt H h
  tabs : LamX.Tabs Tb H
  pm : mp.Perm m
  ps : sal.Perm al
  so : sal.Pairwise (· ≤ ·)
  ok : SOk l b sal m []
  l0 : 0 < l
  l1 : l ≤ 12
  b1 : b ≤ 12
  ar : ∀ k ∈ al, 0 ≤ k ∧ k < 12
  ml : m.length ≤ 12
  lb : l * b ≤ 12
  n1 : d ≠ wy
  n2 : la ≠ h
  n3 : la ≠ handCells H h
section
variable {cl : Addr} {Tb : List (Addr × Str)} {H H' : Hp} {x d o la wy h : Addr} {l : Int} {b : Nat} {al sal : List Int} {mp m : Wy} {mv : Int} {W : List Addr}
theorem HandAt.cells (x : HandAt H h) : h ≠ handCells H h ∧ ∃ c, H (handCells H h) = some (.lst c) := by
  obtain ⟨c, cells, i1, i2, i3, i4, h1, h2, h3⟩ := x
  have e : handCells H h = c := by unfold handCells; rw [h1]
  rw [e]
  exact ⟨h3, _, h2⟩
theorem HandAt.lst (x : HandAt H h) : ∃ c, H h = some (.lst c) := let ⟨_, _, _, _, _, _, h1, _⟩ := x; ⟨_, h1⟩
/-- nothing of it has changed -/
theorem SLaw.fr (s : SLaw cl Tb H x d o la wy h l b al sal mp m mv) (f : Fr W H H') (n : ∀ a ∈ W, a ≠ x ∧ a ≠ d ∧ a ≠ o ∧ a ≠ la ∧ a ≠ wy ∧ a ≠ h ∧ a ≠ handCells H h) (np : ∀ a ∈ W, Plain H a) : SLaw cl Tb H' x d o la wy h l b al sal mp m mv := by
  have q : ∀ y, (∀ a ∈ W, a ≠ y) → y ∉ W := fun y hy hm => hy y hm rfl
  obtain ⟨q1, q2⟩ := s.hand.fr f (q _ fun a ha => (n a ha).2.2.2.2.2.1) (q _ fun a ha => (n a ha).2.2.2.2.2.2)
  exact { s with
    laid := s.laid.fr f (q _ fun a ha => (n a ha).1) (q _ fun a ha => (n a ha).2.1)
    law := s.law.fr f (q _ fun a ha => (n a ha).2.2.1) (q _ fun a ha => (n a ha).2.2.2.1) (q _ fun a ha => (n a ha).2.2.2.2.1)
    hand := q1
    tabs := tabs_fr s.tabs f np
    n3 := by rw [q2]; exact s.n3 }
theorem SLaw.same (s : SLaw cl Tb H x d o la wy h l b al sal mp m mv) (f : Same H H') : SLaw cl Tb H' x d o la wy h l b al sal mp m mv := s.fr (W := []) (Fr.of_same f) (by simp) (by simp)
theorem SLaw.ext (s : SLaw cl Tb H x d o la wy h l b al sal mp m mv) (f : LamX.ExtN H H') (t : LamX.Tabs Tb H') : SLaw cl Tb H' x d o la wy h l b al sal mp m mv :=
  { s with laid := s.laid.ext f, law := s.law.ext f, hand := (s.hand.ext f).1, tabs := t, n3 := by rw [(s.hand.ext f).2]; exact s.n3 }
/-- the addresses are other ones -/
theorem SLaw.ne (s : SLaw cl Tb H x d o la wy h l b al sal mp m mv) : (x ≠ o ∧ x ≠ la ∧ x ≠ wy ∧ x ≠ h ∧ x ≠ handCells H h ∧ x ≠ d) ∧ (d ≠ o ∧ d ≠ la ∧ d ≠ wy ∧ d ≠ h ∧ d ≠ handCells H h) ∧ (o ≠ la ∧ o ≠ wy ∧ o ≠ h ∧ o ≠ handCells H h) ∧ (la ≠ wy ∧ la ≠ h ∧ la ≠ handCells H h) ∧ (wy ≠ h ∧ wy ≠ handCells H h) := by
  obtain ⟨_, _, _, hx, _, _⟩ := s.laid.ob
  have hd := s.laid.pl
  obtain ⟨_, ho, _⟩ := s.law.ob
  have ha := s.law.al_
  have hw := s.law.wy_
  obtain ⟨_, hh⟩ := s.hand.lst
  obtain ⟨_, _, hc⟩ := s.hand.cells
  exact ⟨⟨ne_of hx ho (fun z => nomatch z), ne_of hx ha (fun z => nomatch z), ne_of hx hw (fun z => nomatch z), ne_of hx hh (fun z => nomatch z), ne_of hx hc (fun z => nomatch z), ne_of hx hd (fun z => nomatch z)⟩,
    ⟨ne_of hd ho (fun z => nomatch z), ne_of hd ha (fun z => nomatch z), s.n1, ne_of hd hh (fun z => nomatch z), ne_of hd hc (fun z => nomatch z)⟩,
    ⟨ne_of ho ha (fun z => nomatch z), ne_of ho hw (fun z => nomatch z), ne_of ho hh (fun z => nomatch z), ne_of ho hc (fun z => nomatch z)⟩,
    ⟨ne_of ha hw (fun z => nomatch z), s.n2, s.n3⟩, ne_of hw hh (fun z => nomatch z), ne_of hw hc (fun z => nomatch z)⟩
theorem SLaw.plain (s : SLaw cl Tb H x d o la wy h l b al sal mp m mv) : Plain H x ∧ Plain H d ∧ Plain H o ∧ Plain H la ∧ Plain H wy ∧ Plain H h := by
  obtain ⟨_, _, _, hx, _, _⟩ := s.laid.ob
  obtain ⟨_, ho, _⟩ := s.law.ob
  obtain ⟨_, hh⟩ := s.hand.lst
  exact ⟨plain_of hx (fun _ z => nomatch z) (fun _ z => nomatch z), plain_of s.laid.pl (fun _ z => nomatch z) (fun _ z => nomatch z), plain_of ho (fun _ z => nomatch z) (fun _ z => nomatch z), plain_of s.law.al_ (fun _ z => nomatch z) (fun _ z => nomatch z),
    plain_of s.law.wy_ (fun _ z => nomatch z) (fun _ z => nomatch z), plain_of hh (fun _ z => nomatch z) (fun _ z => nomatch z)⟩
end
end Kx
set_option maxHeartbeats 4000000
namespace Kx
open PySem PySem.Spec PyProof.Rows L2
/-- the told def, its code table's owner: what a call _law_told(lambda: ..) needs -/
structure ToldC (K : PySem.W.Frag) (mg : Str → Option Value) : Prop where
  ex : ∃ (g : Addr) (fd : FuncData), mg "_law_told" = some (.ref g) ∧ FnP K "_law_told" "_law_told" sTold g fd
  exm : PySem.W.exmOne K (.ref (cN K)) (.ref (cN K)) = some true
theorem pe_told {X : Cx} {C Pt' : Addr} {Tb : List (Addr × Str)} {i j k : Nat} {y z : Str} {p p1 p2 p3 p4 lpos pos : Pos} {params : Arguments} {scope : Scope} (T : Tx X.K X.mg) (N : TxN X.K) (D : ToldC X.K X.mg)
    (c_put : CalM X.prog X.w X.K X.mg X.base (L2.CX X.prog X.w) 6 (cL X.K) "put" ["self", "wish"] (spPut (cL X.K) (cN X.K)))
    (TB : LamX.TabB X.base X.mg C Pt') (hcode : X.env.code = .ref C) (hTb : Tb = [(Pt', X.env.qual ++ "<lambda>")]) (hr : Room (k + 8) X.A) (hg : Gl X "_law_told") (L : LamX.LamS X.env.scope scope) (hdef : defaultsOf params X.env = ([], []))
    (hbind : ∀ (q : Str) (cl : List (Str × Addr)) (pm cv ctv : Value), bindArgs (PySem.W.kla_fn "<lambda>" q params (.Call (.Attribute (.Name y p1) "put" p2) [.Name z p3] [] p4) scope cl pm cv ctv) ⟨[], []⟩ = pure [])
    (hi : X.N[i]? = some y) (hj : X.N[j]? = some z) (hy : scope.names.lookup y = some .free) (hz : scope.names.lookup z = some .free) (dy : (y == ("__debug__" : Str)) = false) (cy : (y == ("__classdict__" : Str)) = false) (dz : (z == ("__debug__" : Str)) = false) (cz : (z == ("__classdict__" : Str)) = false)
    (hev : ∀ (A : Around) (outer : List Env) (s : Shared) (H : Hp) (E : XK) (f c' : Addr), ∃ pl : Sem Bool, eval (.Call (.Attribute (.Name y p1) "put" p2) [.Name z p3] [] p4) (LamX.lamCx X A outer s H E scope f c').env = (do
      let ov ← eval (.Name y p1) (LamX.lamCx X A outer s H E scope f c').env
      standAt p2.atName
      let (fm, first) ← holding [ov] (getMethod ov "put" pl)
      callWith p4 fm first (backTo p4 (starEach [.Name z p3] (LamX.lamCx X A outer s H E scope f c').env)) (backToKw p4 (keywordEach [] (LamX.lamCx X A outer s H E scope f c').env)))) :
    PE X (.Call (.Name "_law_told" p) [.Lambda params (.Call (.Attribute (.Name y p1) "put" p2) [.Name z p3] [] p4) scope lpos] [] pos)
      (LamX.tLam Tb (TTold X.K) fun E => tMeth (cL X.K) "put" (spPut (cL X.K) (cN X.K)) [] E (tVar i) (tCons (tVar j) tNil)) := by
  obtain ⟨g, fd, hm, F⟩ := D.ex
  obtain ⟨oc, od, dV, kV, doc, pm, an, cdv, ct, osl, rfl, lk, hcd, _, _⟩ := F.ex
  have b1 : Binds X.K (PySem.W.fnOf "_law_told" "_law_told" (defArgs sTold) (defBody sTold) (defScope sTold) dV kV doc pm an cdv ct) ["_law_call"] [] := F.bindsN fun _ _ _ _ _ _ us hl => match us, hl with | [_], _ => rfl
  refine LamX.pe_lamcall (T := Tb) (TT := TTold X.K) (k := k + 6) hg hm F.kp lk hcd b1 scTold rfl (.inl rfl) (told_gives T N rfl rfl D.exm) TB hcode (by rw [hTb]; simp) (by rw [hTb]; simp) hr L hdef hbind (fun A outer s H E f c' hr' => ?_)
  obtain ⟨pl, hpl⟩ := hev A outer s H E f c'
  exact pe_methX (pl := pl) (ht := hpl) (X := LamX.lamCx X A outer s H E scope f c') T.cl_Laid c_put hr' (by omega) (passes_call (takes_of rfl rfl rfl rfl) (fun _ _ _ _ h => h)) (pe_var hi (.inr (.inr hy)) dy cy) (pa_cons (pe_var hj (.inr (.inr hz)) dz cz) pa_nil)
end Kx
set_option maxHeartbeats 4000000
/-! What the law's steps do to its state: plain Lean. -/
namespace Kx
open PySem PySem.Spec PyProof.Rows L2
/-- what a put tells -/
def outV (l : Int) (b : Nat) (al : List Int) (m : Wy) (w : Int × Int) : List V := match full l b (m.map (·.1) ++ [w]) al.length with
  | none => [.str "told", .int ((newR l al m w).row.length : Nat)]
  | some (s, k) => [.str "no", sideV s, .int k]
theorem outV_perm {l : Int} {b : Nat} {al : List Int} {m m' : Wy} {w : Int × Int} (hk : LOk l al m) (p : m'.Perm m) : outV l b al m' w = outV l b al m w := by
  unfold outV
  rw [full_perm ((p.map (·.1)).append_right [w]), newR_perm hk p]
/-- all wishes: unlike lines, unlike outputs -/
structure AllW (l : Int) (b : Nat) (all : List (Int × Int)) : Prop where
  n1 : (all.map (·.1)).Nodup
  n2 : (all.map (·.2)).Nodup
  rg : ∀ w ∈ all, InR l b w
  len : all.length ≤ 12
section
variable {l : Int} {b : Nat} {all ws aws : List (Int × Int)} {m : Wy} {al : List Int} {w : Int × Int} {pl : Int}
theorem AllW.sub (h : AllW l b all) (s : ws.Sublist all) : AllW l b ws := ⟨h.n1.sublist (s.map _), h.n2.sublist (s.map _), fun w hw => h.rg w (s.mem hw), Nat.le_trans s.length_le h.len⟩
theorem AllW.perm (h : AllW l b all) (p : ws.Perm all) : AllW l b ws := ⟨(p.map _).nodup_iff.mpr h.n1, (p.map _).nodup_iff.mpr h.n2, fun w hw => h.rg w (p.mem_iff.mp hw), by rw [p.length_eq]; exact h.len⟩
theorem AllW.nd (h : AllW l b all) : all.Nodup := nodup_of_map h.n1
theorem AllW.left {c : List (Int × Int)} (h : AllW l b (ws ++ c)) : AllW l b ws := h.sub (List.sublist_append_left ..)
theorem AllW.one (h : AllW l b (ws ++ aws)) (hw : w ∈ aws) : AllW l b (ws ++ [w]) := h.sub ((List.singleton_sublist.mpr hw).append_left ws)
theorem AllW.sok (h : AllW l b (m.map (·.1) ++ aws)) (s : SOk l b al m []) : SOk l b al m aws := ⟨s.ok, s.an, h.nd, h.rg⟩
theorem AllW.unl (h : AllW l b (m.map (·.1) ++ [w])) : ∀ e ∈ m, w.1 ≠ e.1.1 ∧ w.2 ≠ e.1.2 := fun e he => by
  have h1 := h.n1
  have h2 := h.n2
  rw [List.map_append, List.map_map] at h1 h2
  have q1 := (List.nodup_append.mp h1).2.2 e.1.1 (List.mem_map.mpr ⟨e, he, rfl⟩) w.1 (by simp)
  have q2 := (List.nodup_append.mp h2).2.2 e.1.2 (List.mem_map.mpr ⟨e, he, rfl⟩) w.2 (by simp)
  exact ⟨Ne.symm q1, Ne.symm q2⟩
theorem AllW.ml (h : AllW l b (m.map (·.1) ++ [w])) : m.length < 12 := by
  have := h.len
  rw [List.length_append, List.length_map] at this
  exact this
/-- with as many planes as a box has lines nothing is lost -/
theorem relay_none (hl : 0 < l) (ha : l ≤ (al.length : Int)) : ∀ (ws : List (Int × Int)) {st : Wy × List (Int × Int) × Nat}, AllW l b (st.1.map (·.1) ++ ws) → st.2.1 = [] → (ws.foldl (stp l b al) st).2.1 = []
  | [], _, _, h => h
  | w :: ws, st, A, h => by
    have A1 : AllW l b (st.1.map (·.1) ++ [w]) := A.one (List.mem_cons_self ..)
    have e : full l b (st.1.map (·.1) ++ [w]) al.length = none := full_never hl ha A1.n1 A1.n2
    have es : stp l b al st w = (newM l al st.1 w, st.2.1, st.2.2 + (newR l al st.1 w).row.length) := by unfold stp; rw [e]
    rw [List.foldl_cons, es]
    refine relay_none hl ha ws ?_ h
    show AllW l b ((newM l al st.1 w).map (·.1) ++ ws)
    rw [newM_keys, List.append_assoc]
    exact A
theorem lose_keys {al' : List Int} (hwp : ws.Perm ((ofPl m pl).map (·.1))) : ((relay l b al' (noPl m pl) ws).1.map (·.1) ++ (relay l b al' (noPl m pl) ws).2.1).Perm (m.map (·.1)) := by
  refine (relay_keys l b al' ws (noPl m pl, [], 0)).trans ?_
  show (List.map (fun e : (Int × Int) × Int => e.1) (noPl m pl) ++ [] ++ ws).Perm _
  rw [List.append_nil]
  refine (hwp.append_left _).trans ?_
  rw [← List.map_append]
  refine List.Perm.map _ (List.perm_append_comm.trans ?_)
  have e : noPl m pl = m.filter (fun e => !decide (e.2 = pl)) := List.filter_congr fun e _ => by by_cases c : e.2 = pl <;> simp [c]
  rw [e]
  exact List.filter_append_perm (fun e : (Int × Int) × Int => decide (e.2 = pl)) m
theorem al_len (nd : al.Nodup) (r : ∀ k ∈ al, 0 ≤ k ∧ k < 12) : al.length ≤ 12 := by
  have h := nodup_len (m := nums 12) nd fun x hx => mem_nums.mpr ⟨x.toNat, by have := r x hx; omega, by have := r x hx; omega⟩
  exact h
theorem al_new (h : al.length < 12) : ∃ k ∈ nums 12, k ∉ al := by
  refine Classical.byContradiction fun z => ?_
  have q := nodup_len (l := nums 12) (m := al) (nums_nodup 12) fun x hx => Classical.byContradiction fun y => z ⟨x, hx, y⟩
  have e : (nums 12).length = 12 := rfl
  omega
theorem fil_lt (h : pl ∈ al) : (al.filter fun k => decide (k ≠ pl)).length < al.length := by
  induction al with
  | nil => cases h
  | cons x xs ih =>
    rw [List.filter_cons]
    by_cases c : x = pl
    · rw [if_neg (by simp [c])]
      exact Nat.lt_succ_of_le (List.length_filter_le _ _)
    · rw [if_pos (by simpa using c)]
      have := ih ((List.mem_cons.mp h).resolve_left fun z => c z.symm)
      simpa using this
theorem drp_mem {p : Int × Int} : ∀ {m : Wy}, p ∉ m.map (·.1) → drp m p = m := fun {m} h => List.filter_eq_self.mpr fun e he => decide_eq_true fun z => h (List.mem_map.mpr ⟨e, he, z⟩)
theorem drp_keys {p : Int × Int} : ∀ {m : Wy}, (m.map (·.1)).Nodup → p ∈ m.map (·.1) → ((drp m p).map (·.1) ++ [p]).Perm (m.map (·.1))
  | [], _, h => by cases h
  | e :: m, hn, h => by
    obtain ⟨h1, h2⟩ := List.nodup_cons.mp hn
    by_cases c : e.1 = p
    · have e1 : drp (e :: m) p = m := by
        show List.filter _ (e :: m) = m
        rw [List.filter_cons, if_neg (by simp [c])]
        exact drp_mem (by rw [← c]; exact h1)
      rw [e1, List.map_cons, c]
      exact List.perm_append_comm
    · have e1 : drp (e :: m) p = e :: drp m p := by
        show List.filter _ (e :: m) = _
        rw [List.filter_cons, if_pos (by simpa using c)]
        rfl
      rw [e1]
      exact (drp_keys h2 ((List.mem_cons.mp h).resolve_left fun z => c z.symm)).cons _
theorem SOk.sub {m' : Wy} (s : SOk l b al m []) (h : ∃ q, m' = m.filter q) : SOk l b al m' [] := by
  obtain ⟨q, rfl⟩ := h
  have sb : ((m.filter q).map (·.1)).Sublist (m.map (·.1)) := List.filter_sublist.map _
  refine ⟨s.ok.drop q, s.an, ?_, fun w hw => s.rg w ?_⟩
  · rw [List.append_nil]
    have := s.nd
    rw [List.append_nil] at this
    exact this.sublist sb
  · rw [List.append_nil] at hw ⊢
    exact sb.mem hw
theorem SOk.more {al' : List Int} (s : SOk l b al m []) (nd : al'.Nodup) (h : ∀ k ∈ al, k ∈ al') : SOk l b al' m [] := ⟨⟨s.ok.kn, fun e he => h _ (s.ok.col e he), s.ok.pr⟩, nd, s.nd, s.rg⟩
/-- one put, all at once -/
theorem stp_keep (l : Int) (b : Nat) (al : List Int) (m : Wy) (w : Int × Int) : ((stp l b al (m, [], 0) w).1.map (·.1) ++ (stp l b al (m, [], 0) w).2.1).Perm (m.map (·.1) ++ [w]) := by
  have := stp_keys l b al (m, [], 0) w
  simpa using this
theorem stp_told {s : Bool} (h : full l b (m.map (·.1) ++ [w]) al.length = none) : stp l b al (m, [], 0) w = (newM l al m w, [], (newR l al m w).row.length) := by
  unfold stp
  show (match full l b (m.map (·.1) ++ [w]) al.length with | none => _ | some _ => _) = _
  rw [h]
  simp
theorem stp_no {r : Bool × Int} (h : full l b (m.map (·.1) ++ [w]) al.length = some r) : stp l b al (m, [], 0) w = (m, [w], 0) := by
  unfold stp
  show (match full l b (m.map (·.1) ++ [w]) al.length with | none => _ | some _ => _) = _
  rw [h]
  simp
end
end Kx
set_option maxHeartbeats 4000000
/-! A put on both sides, as the law reads it. -/
namespace Kx
open PySem PySem.Spec PyProof.Rows L2
/-- all but what stands at W, and the tables, is as it was -/
structure Fn (W : List Addr) (H H' : Hp) : Prop where
  kp : ∀ b o, b ∉ W → H b = some o → (∀ ps, o ≠ .tbl ps) → H' b = some o
  im : ∀ b o, Imm o → H b = some o → H' b = some o
section
variable {W W' : List Addr} {H H' H1 H2 : Hp} {a : Addr} {xs : List V}
theorem Fn.of_fr (f : Fr W H H') : Fn W H H' := ⟨fun b o n h _ => f.kp b o n h, f.im⟩
theorem Fn.of_same (f : Same H H') : Fn W H H' := Fn.of_fr (Fr.of_same f)
theorem Fn.of_ext (f : LamX.ExtN H H') : Fn W H H' := ⟨fun b o _ h n => f b o h n, fun b o i h => f b o h (fun ps z => by subst z; exact i)⟩
theorem Fn.refl : Fn W H H := Fn.of_same fun _ _ h => h
theorem Fn.step (f : Fn W H H1) (g : Fn W' H1 H2) (h : ∀ b ∈ W', b ∈ W ∨ ∀ o, H b = some o → (∀ ps, o ≠ .tbl ps) → False) : Fn W H H2 := by
  refine ⟨fun b o n e t => g.kp b o (fun z => ?_) (f.kp b o n e t) t, fun b o i e => g.im b o i (f.im b o i e)⟩
  rcases h b z with q | q
  · exact n q
  · exact q o e t
theorem Fn.trans (f : Fn W H H1) (g : Fn W H1 H2) : Fn W H H2 := f.step g fun _ h => .inl h
theorem Fn.mono (f : Fn W H H') (h : ∀ b ∈ W, b ∈ W') : Fn W' H H' := ⟨fun b o n e t => f.kp b o (fun z => n (h b z)) e t, f.im⟩
theorem Fn.tup (f : Fn W H H') (h : H a = some (.tup xs)) : H' a = some (.tup xs) := f.im _ _ trivial h
theorem Fn.lst (f : Fn W H H') (n : a ∉ W) (h : H a = some (.lst xs)) : H' a = some (.lst xs) := f.kp _ _ n h (fun _ z => nomatch z)
end
section
variable {cl : Addr} {Tb : List (Addr × Str)} {W : List Addr} {H H' : Hp} {x d o la wy h a : Addr} {l : Int} {b : Nat} {al sal : List Int} {mp m : Wy} {mv : Int} {bs : List Addr} {ps : List (Int × Int)}
theorem Prs.fn (h : Prs H bs ps) (f : Fn W H H') : Prs H' bs ps := h.keep fun b xs e => f.tup e
theorem Lp.fn (h : Lp H a ps) (f : Fn W H H') (n : a ∉ W) : Lp H' a ps := let ⟨bs, h1, h2⟩ := h; ⟨bs, f.lst n h1, h2.fn f⟩
theorem Tp.fn (h : Tp H a ps) (f : Fn W H H') : Tp H' a ps := let ⟨bs, h1, h2⟩ := h; ⟨bs, f.tup h1, h2.fn f⟩
theorem LaidAt.fn (h : LaidAt cl H x d l b al m mv) (f : Fn W H H') (n1 : x ∉ W) (n2 : d ∉ W) : LaidAt cl H' x d l b al m mv := by
  obtain ⟨dx, sz, a, h1, h2, e, h3, h4⟩ := h.ob
  exact ⟨⟨dx, sz, a, f.kp _ _ n1 h1 (fun _ z => nomatch z), f.tup h2, e, h3, f.im _ _ trivial h4⟩, f.kp _ _ n2 h.pl (fun _ z => nomatch z)⟩
theorem LawAt.fn (h : LawAt H o la wy l b al m mv) (f : Fn W H H') (n1 : o ∉ W) (n2 : la ∉ W) (n3 : wy ∉ W) : LawAt H' o la wy l b al m mv := by
  obtain ⟨sz, h1, h2⟩ := h.ob
  exact ⟨⟨sz, f.kp _ _ n1 h1 (fun _ z => nomatch z), f.tup h2⟩, f.lst n2 h.al_, f.kp _ _ n3 h.wy_ (fun _ z => nomatch z)⟩
theorem HandAt.fn (x : HandAt H h) (f : Fn W H H') (n : h ∉ W) (nc : handCells H h ∉ W) : HandAt H' h ∧ handCells H' h = handCells H h := by
  obtain ⟨c, cells, i1, i2, i3, i4, h1, h2, h3⟩ := x
  have e : handCells H h = c := by unfold handCells; rw [h1]
  rw [e] at nc ⊢
  have q := f.lst n h1
  exact ⟨⟨c, cells, i1, i2, i3, i4, q, f.lst nc h2, h3⟩, by unfold handCells; rw [q]⟩
/-- nothing of it has changed -/
theorem SLaw.fn (s : SLaw cl Tb H x d o la wy h l b al sal mp m mv) (f : Fn W H H') (t : LamX.Tabs Tb H') (n : ∀ a ∈ W, a ≠ x ∧ a ≠ d ∧ a ≠ o ∧ a ≠ la ∧ a ≠ wy ∧ a ≠ h ∧ a ≠ handCells H h) : SLaw cl Tb H' x d o la wy h l b al sal mp m mv ∧ handCells H' h = handCells H h := by
  have q : ∀ y, (∀ a ∈ W, a ≠ y) → y ∉ W := fun y hy hm => hy y hm rfl
  obtain ⟨q1, q2⟩ := s.hand.fn f (q _ fun a ha => (n a ha).2.2.2.2.2.1) (q _ fun a ha => (n a ha).2.2.2.2.2.2)
  exact ⟨{ s with
    laid := s.laid.fn f (q _ fun a ha => (n a ha).1) (q _ fun a ha => (n a ha).2.1)
    law := s.law.fn f (q _ fun a ha => (n a ha).2.2.1) (q _ fun a ha => (n a ha).2.2.2.1) (q _ fun a ha => (n a ha).2.2.2.2.1)
    hand := q1
    tabs := t
    n3 := by rw [q2]; exact s.n3 }, q2⟩
theorem SLaw.len (s : SLaw cl Tb H x d o la wy h l b al sal mp m mv) : al.length ≤ 12 := al_len (s.ps.nodup_iff.mp s.ok.an) s.ar
theorem SLaw.slen (s : SLaw cl Tb H x d o la wy h l b al sal mp m mv) : sal.length ≤ 12 := by rw [s.ps.length_eq]; exact s.len
theorem SLaw.mpl (s : SLaw cl Tb H x d o la wy h l b al sal mp m mv) : mp.length ≤ 12 := by rw [s.pm.length_eq]; exact s.ml
end
section
variable {K : PySem.W.Frag} {Tb : List (Addr × Str)} {σ : L2.St} {H : Hp} {Q : VK} {i j n : Nat} {x d o la wy h t : Addr} {l : Int} {b : Nat} {al sal : List Int} {mp m : Wy} {mv : Int} {w : Int × Int}
/-- _law_told(lambda: laid.put(wish)) -/
theorem told_put (hx : σ[i]? = some (some (.ref x))) (hj : σ[j]? = some (some (.ref t))) (tb : LamX.Tabs Tb H) (hl : LaidAt (cL K) H x d l b sal mp mv) (ht : Pt H t w) (l0 : 0 < l) (l1 : l ≤ 12) (b1 : b ≤ 12)
    (s : SOk l b sal mp []) (A : AllW l b (mp.map (·.1) ++ [w])) (len : sal.length ≤ 12)
    (k : ∀ H' r d' m', Fn [x] H H' → LamX.Tabs Tb H' → (d' = d ∨ ∀ b o, H b = some o → (∀ ps, o ≠ .tbl ps) → d' ≠ b) → LaidAt (cL K) H' x d' l b sal m' (mv + ((stp l b sal (mp, [], 0) w).2.2 : Nat)) →
      m'.Perm (stp l b sal (mp, [], 0) w).1 → H' r = some (.tup (outV l b sal mp w)) → Q (.ref r) H') :
    LamX.tLam Tb (TTold K) (fun E => tMeth (cL K) "put" (spPut (cL K) (cN K)) [] E (tVar i) (tCons (tVar j) tNil)) σ H Q := by
  refine ⟨tb, fun H1 e1 tb1 p0 hp0 QQ hq => ?_⟩
  have s0 : Same H1 (upd H1 p0 (.tup [.str "other"])) := same_new hp0
  have hl1 := (hl.ext e1).same s0
  have ht1 := s0 _ _ (e1 _ _ ht (fun _ z => nomatch z))
  have f1 : Fn [x] H (upd H1 p0 (.tup [.str "other"])) := (Fn.of_ext e1).trans (Fn.of_same s0)
  have f0 : ∀ b o, H b = some o → (∀ ps, o ≠ .tbl ps) → (upd H1 p0 (.tup [.str "other"])) b = some o := fun b o h n => s0 _ _ (e1 _ _ h n)
  have tb2 : LamX.Tabs Tb (upd H1 p0 (.tup [.str "other"])) := tb1.ext fun b o h => s0 b o h
  generalize (upd H1 p0 (.tup [.str "other"])) = H2 at s0 hl1 ht1 f1 f0 tb2 ⊢
  obtain ⟨dx, sz, a, hob, hsz, ha⟩ := hl1.ob
  have hrg := A.rg w (by simp)
  have hml := A.ml
  show tMeth (cL K) "put" (spPut (cL K) (cN K)) [] (EToldX K Q) (tVar i) (tCons (tVar j) tNil) σ H2 QQ
  refine g_m (g_var hx (g_m2 hob rfl (g_cons (g_var hj (g_nil ?_)))))
  refine ⟨x, t, d, l, b, sal, mp, mv, w, rfl, hl1, ht1, l0, l1, b1, s.an, by omega, by omega, s.ok, hrg.1, hrg.2, A.unl, fun z => free_of_full l0 hrg s.an z, ?_⟩
  cases e : full l b (mp.map (·.1) ++ [w]) sal.length with
  | none =>
    intro H3 d' m' f3 hd' hl3 hp3
    refine hq _ H3 fun p hp => ?_
    have s4 := same_new (o := .tup [.str "told", .int ((newR l sal mp w).row.length : Nat)]) hp
    have px : Plain H2 x := plain_of hob (fun _ z => nomatch z) (fun _ z => nomatch z)
    have tb3 : LamX.Tabs Tb H3 := tabs_fr tb2 f3 (by simpa using px)
    refine k _ p d' m' ((f1.trans (Fn.of_fr f3)).trans (Fn.of_same s4)) (tb3.ext fun b o h => s4 b o h) (.inr fun b o hb n z => ?_) ?_ ?_ ?_
    · rw [← z] at hb
      rw [f0 _ _ hb n] at hd'
      cases hd'
    · rw [stp_told (s := false) e]
      exact hl3.same s4
    · rw [stp_told (s := false) e]
      exact hp3
    · rw [upd_same]
      unfold outV
      rw [e]
  | some r =>
    obtain ⟨sd, kk⟩ := r
    intro dd H3 s3 h3
    refine ⟨rfl, dd, sd, kk, rfl, h3, fun p hp => ?_⟩
    have s4 := s3.trans (same_new (o := .tup [.str "no", sideV sd, .int kk]) hp)
    refine k _ p d mp (f1.trans (Fn.of_same s4)) (tb2.ext fun b o h => s4 b o h) (.inl rfl) ?_ ?_ ?_
    · rw [stp_no e]
      simpa using hl1.same s4
    · rw [stp_no e]
    · rw [upd_same]
      unfold outV
      rw [e]
/-- _law_put(own, wish) -/
theorem lput {E : XK} (hl : LawAt H o la wy l b al m mv) (ht : Pt H t w) (l0 : 0 < l) (l1 : l ≤ 12) (b1 : b ≤ 12) (sp : sal.Perm al) (so : sal.Pairwise (· ≤ ·))
    (s : SOk l b sal m []) (A : AllW l b (m.map (·.1) ++ [w])) (len : sal.length ≤ 12)
    (k : ∀ H' r, Fr [o, wy] H H' → LawAt H' o la wy l b al (stp l b sal (m, [], 0) w).1 (mv + ((stp l b sal (m, [], 0) w).2.2 : Nat)) → H' r = some (.tup (outV l b sal m w)) → Q (.ref r) H') :
    spLPut [.ref o, .ref t] H Q E := by
  have hrg := A.rg w (by simp)
  have hml := A.ml
  have el := sp.length_eq
  refine ⟨o, t, la, wy, l, b, al, sal, m, mv, w, rfl, hl, ht, l0, l1, b1, sp, so, s.ok, by omega, by omega, (A.sok s).new, fun z => free_of_full l0 hrg s.an (by rw [el]; exact z), ?_⟩
  rw [← el]
  cases e : full l b (m.map (·.1) ++ [w]) sal.length with
  | none =>
    intro H' r f hl' hr
    refine k H' r f ?_ ?_
    · rw [stp_told (s := false) e]
      exact hl'
    · rw [hr]
      unfold outV
      rw [e]
  | some r =>
    obtain ⟨sd, kk⟩ := r
    intro H' r s' hr
    refine k H' r (Fr.of_same s') ?_ ?_
    · rw [stp_no e]
      simpa using hl.same s'
    · rw [hr]
      unfold outV
      rw [e]
theorem lay2 {x : Str} (hx : PyData.strOk x = true) (n : Int) : PyData.canLay0 (.tuple [.str x, .int n]) = true := by simp [PyData.canLay0, PyData.canLayAll0, hx]
theorem lay3 {x y : Str} (hx : PyData.strOk x = true) (hy : PyData.strOk y = true) (n : Int) : PyData.canLay0 (.tuple [.str x, .str y, .int n]) = true := by simp [PyData.canLay0, PyData.canLayAll0, hx, hy]
theorem sh2 {x : Str} (hx : PyData.strOk x = true) (n : Int) : SeqAt.shaped (.tuple [.str x, .int n]) = true := by
  show (PyData.canLay0 _ && decide (PyData.depth _ ≤ 64)) = true
  rw [lay2 hx]
  simp [PyData.depth, PyData.depthAll]
theorem sh3 {x y : Str} (hx : PyData.strOk x = true) (hy : PyData.strOk y = true) (n : Int) : SeqAt.shaped (.tuple [.str x, .str y, .int n]) = true := by
  show (PyData.canLay0 _ && decide (PyData.depth _ ≤ 64)) = true
  rw [lay3 hx hy]
  simp [PyData.depth, PyData.depthAll]
theorem okT : PyData.strOk "told" = true := by decide +kernel
theorem okN : PyData.strOk "no" = true := by decide +kernel
theorem okS (s : Bool) : PyData.strOk (if s = true then "out" else "in") = true := by cases s <;> decide +kernel
theorem ne_out {a c : Addr} (h1 : H a = some (.tup (outV l b sal m w))) (h2 : H c = some (.tup (outV l b sal m w))) (q : Q (.bl false) H) : rNeD K (.ref a) (.ref c) H Q := by
  unfold outV at h1 h2
  cases e : full l b (m.map (·.1) ++ [w]) sal.length with
  | none =>
    rw [e] at h1 h2
    refine ⟨_, _, .tup (SqT.of h1) (.cons (.str _) (.cons (.int _) .nil)), .tup (SqT.of h2) (.cons (.str _) (.cons (.int _) .nil)), sh2 okT _, sh2 okT _, ?_⟩
    rw [SeqAt.eqv_refl _ (lay2 okT _)]
    exact q
  | some r =>
    obtain ⟨sd, kk⟩ := r
    rw [e] at h1 h2
    refine ⟨_, _, .tup (SqT.of h1) (.cons (.str _) (.cons (.str _) (.cons (.int _) .nil))), .tup (SqT.of h2) (.cons (.str _) (.cons (.str _) (.cons (.int _) .nil))), sh3 okN (okS sd) _, sh3 okN (okS sd) _, ?_⟩
    rw [SeqAt.eqv_refl _ (lay3 okN (okS sd) _)]
    exact q
theorem g_eqTT {H : Hp} {Q : VK} (q : Q (.bl true) H) : rEq (.str "told") (.str "told") H Q := ⟨rfl, by rw [decide_eq_true rfl]; exact q⟩
theorem g_eqNT {H : Hp} {Q : VK} (q : Q (.bl false) H) : rEq (.str "no") (.str "told") H Q := ⟨rfl, by rw [decide_eq_false (by decide)]; exact q⟩
/-- behind the told put, ahead of the law's own: what both then make of it -/
theorem both_state {H1 H2 : Hp} {d' : Addr} {mp' : Wy} (s : SLaw (cL K) Tb H x d o la wy h l b al sal mp m mv) (A : AllW l b (m.map (·.1) ++ [w])) (f1 : Fn [x] H H1) (t1 : LamX.Tabs Tb H1) (hd : d' = d ∨ ∀ b o, H b = some o → (∀ ps, o ≠ .tbl ps) → d' ≠ b)
    (hl1 : LaidAt (cL K) H1 x d' l b sal mp' (mv + ((stp l b sal (mp, [], 0) w).2.2 : Nat))) (hp1 : mp'.Perm (stp l b sal (mp, [], 0) w).1) (f2 : Fr [o, wy] H1 H2)
    (hl2 : LawAt H2 o la wy l b al (stp l b sal (m, [], 0) w).1 (mv + ((stp l b sal (m, [], 0) w).2.2 : Nat))) :
    SLaw (cL K) Tb H2 x d' o la wy h l b al sal mp' (stp l b sal (m, [], 0) w).1 (mv + ((stp l b sal (m, [], 0) w).2.2 : Nat)) ∧ Fn [x, o, wy] H H2 ∧ handCells H2 h = handCells H h := by
  obtain ⟨⟨x1, x2, x3, x4, x5, x6⟩, ⟨d1, d2, d3, d4, d5⟩, ⟨o1, o2, o3, o4⟩, ⟨a1, a2, a3⟩, w1, w2⟩ := s.ne
  have f12 : Fn [x, o, wy] H H2 := (f1.mono (by simp)).trans ((Fn.of_fr f2).mono (by simp))
  have dw : d' ≠ wy := by
    rcases hd with z | z
    · rw [z]; exact s.n1
    · exact z _ _ s.law.wy_ (fun _ z => nomatch z)
  have law1 : LawAt H1 o la wy l b al m mv := s.law.fn f1 (by simpa using Ne.symm x1) (by simpa using Ne.symm x2) (by simpa using Ne.symm x3)
  have dO : d' ≠ o := by
    obtain ⟨_, ho, _⟩ := law1.ob
    exact ne_of hl1.pl ho (fun z => nomatch z)
  obtain ⟨q1, q2⟩ := s.hand.fn f12 (by simp; exact ⟨Ne.symm x4, Ne.symm o3, Ne.symm w1⟩) (by simp; exact ⟨Ne.symm x5, Ne.symm o4, Ne.symm w2⟩)
  have po : Plain H1 o := by
    obtain ⟨_, ho, _⟩ := law1.ob
    exact plain_of ho (fun _ z => nomatch z) (fun _ z => nomatch z)
  have pw : Plain H1 wy := plain_of law1.wy_ (fun _ z => nomatch z) (fun _ z => nomatch z)
  obtain ⟨p1, p2⟩ := stp_perm (b := b) s.ok.ok s.pm [] 0 w
  have hk := stp_keep l b sal m w
  refine ⟨{ s with
    laid := ?_
    law := hl2
    hand := q1
    tabs := tabs_fr t1 f2 (by simpa using ⟨po, pw⟩)
    pm := hp1.trans p1
    ok := SOk.step (rest := []) (st := (m, [], 0)) s.l0 (A.sok s.ok)
    ml := ?_
    n1 := dw
    n3 := by rw [q2]; exact s.n3 }, f12, q2⟩
  · rw [← p2]
    exact hl1.fr f2 (by simpa using ⟨x1, x3⟩) (by simpa using ⟨dO, dw⟩)
  · have := hk.length_eq
    rw [List.length_append, List.length_append, List.length_map, List.length_map] at this
    have := A.ml
    simp at *
    omega
end
end Kx
set_option maxHeartbeats 4000000
/-! The law's state between two of its statements. -/
namespace Kx
open PySem PySem.Spec PyProof.Rows L2
def sub (b : List Stmt) (i : Nat) : Stmt := b.getD i (.Pass ⟨0, 0, 0, 0⟩)
def bod : Stmt → List Stmt
  | .For _ _ b _ _ => b
  | .If _ b _ _ => b
  | _ => []
abbrev lawN : List Str := ["_law_script", "_law_hand_here", "_law_sizes_here", "_law_many", "_law_own", "_law_away", "_law_turn", "_law_plane", "_law_lost_here", "_law_told_here", "_law_gone", "_law_laid_here", "_law_wish", "_law_one"]
abbrev LX (P : Program) (w : World) (K : PySem.W.Frag) (mg : Str → Option Value) (base : Heap) (f : Addr) (cdv : Value) (A : Around) (outer : List Env) (s : Shared) (H : Hp) (E : XK) : Cx := (cxOf CX0 P w K mg base lawN "law" (defScope sLaw) f cdv A outer s H E).nox
abbrev s4 : Stmt := sub (defBody sLaw) 4
abbrev s40 : Stmt := sub (bod s4) 0
abbrev s5 : Stmt := sub (defBody sLaw) 5
abbrev s50 : Stmt := sub (bod s5) 0
abbrev s504 : Stmt := sub (bod s50) 4
abbrev s51 : Stmt := sub (bod s5) 1
abbrev s513 : Stmt := sub (bod s51) 3
abbrev s52 : Stmt := sub (bod s5) 2
abbrev s53 : Stmt := sub (bod s5) 3
/-- from such a state to such a one -/
def tri (Pre Post : Int → Nat → List (Int × Int) → L2.St → Hp → Prop) : TS := fun D σ H => ∃ l b all, Pre l b all σ H ∧ ∀ σ' H', Post l b all σ' H' → D.nx σ' H'
theorem ps_imp {X : Cx} {st : Stmt} {t u : TS} (h : PS X st t) (i : ∀ D σ H, u D σ H → t D σ H) : PS X st u := ⟨fun pins s σ H D I q => h.run pins s σ H D I (i D σ H q)⟩
theorem pss_imp {X : Cx} {st : List Stmt} {t u : TS} (h : PSs X st t) (i : ∀ D σ H, u D σ H → t D σ H) : PSs X st u := ⟨fun pins s σ H D I q => h.run pins s σ H D I (i D σ H q)⟩
/-- the state but for the slots: all: the wishes that are laid or away -/
structure LS (cl : Addr) (Tb : List (Addr × Str)) (l : Int) (b : Nat) (all : List (Int × Int)) (H : Hp) (h sz o aw x d la wy : Addr) (al sal : List Int) (mp m : Wy) (mv : Int) (aws : List (Int × Int)) : Prop where
  sz_ : Pt H sz (l, (b : Int))
  s : SLaw cl Tb H x d o la wy h l b al sal mp m mv
  aw_ : Lp H aw aws
  pk : (m.map (·.1) ++ aws).Perm all
  n1 : aw ≠ la
  n2 : aw ≠ h
  n3 : aw ≠ handCells H h
/-- the same, while what was lost stands at slot 8 -/
def LSl (cl : Addr) (Tb : List (Addr × Str)) (R : Nat → Prop) (l : Int) (b : Nat) (all : List (Int × Int)) (σ : L2.St) (H : Hp) : Prop := AllW l b all ∧ ((all.length : Nat) : Int) = l * b ∧
  ∃ (scr : V) (h sz o aw x d la wy r : Addr) (al sal : List Int) (mp m : Wy) (mv : Int) (aws lost all0 : List (Int × Int)) (z6 z7 z9 z10 z12 : Option V),
    σ = [some scr, some (.ref h), some (.ref sz), some (.int (l * b)), some (.ref o), some (.ref aw), z6, z7, some (.ref r), z9, z10, some (.ref x), z12, none] ∧ LS cl Tb l b all0 H h sz o aw x d la wy al sal mp m mv aws ∧ (all0 ++ lost).Perm all ∧ Tp H r lost ∧ R al.length
/-- the state, R of how many planes are alive -/
def LSt (cl : Addr) (Tb : List (Addr × Str)) (l : Int) (b : Nat) (all : List (Int × Int)) (R : Nat → Prop) (σ : L2.St) (H : Hp) : Prop :=
  ∃ (scr : V) (h sz o aw x d la wy : Addr) (al sal : List Int) (mp m : Wy) (mv : Int) (aws : List (Int × Int)) (z6 z7 z8 z9 z10 z12 : Option V),
    σ = [some scr, some (.ref h), some (.ref sz), some (.int (l * b)), some (.ref o), some (.ref aw), z6, z7, z8, z9, z10, some (.ref x), z12, none] ∧ LS cl Tb l b all H h sz o aw x d la wy al sal mp m mv aws ∧ R al.length
def LG (cl : Addr) (Tb : List (Addr × Str)) (R : Nat → Prop) (l : Int) (b : Nat) (all : List (Int × Int)) (σ : L2.St) (H : Hp) : Prop := AllW l b all ∧ ((all.length : Nat) : Int) = l * b ∧ LSt cl Tb l b all R σ H
section
variable {cl : Addr} {Tb : List (Addr × Str)} {l : Int} {b : Nat} {all : List (Int × Int)} {W : List Addr} {H H' H1 H2 : Hp} {h sz o aw x d la wy : Addr} {al sal : List Int} {mp m : Wy} {mv : Int} {aws : List (Int × Int)} {w : Int × Int}
theorem LS.xo (L : LS cl Tb l b all H h sz o aw x d la wy al sal mp m mv aws) : aw ≠ x ∧ aw ≠ d ∧ aw ≠ o ∧ aw ≠ wy := by
  obtain ⟨bs, ha, _⟩ := L.aw_
  obtain ⟨_, _, _, hx, _, _⟩ := L.s.laid.ob
  obtain ⟨_, ho, _⟩ := L.s.law.ob
  exact ⟨ne_of ha hx (fun z => nomatch z), ne_of ha L.s.laid.pl (fun z => nomatch z), ne_of ha ho (fun z => nomatch z), ne_of ha L.s.law.wy_ (fun z => nomatch z)⟩
theorem LS.fr (L : LS cl Tb l b all H h sz o aw x d la wy al sal mp m mv aws) (f : Fr W H H') (n : ∀ a ∈ W, H a = none) : LS cl Tb l b all H' h sz o aw x d la wy al sal mp m mv aws := by
  have q : ∀ a ∈ W, ∀ y u, H y = some u → a ≠ y := fun a ha y u e z => by
    have q := n a ha
    rw [z, e] at q
    cases q
  obtain ⟨_, _, _, hx, _, _⟩ := L.s.laid.ob
  obtain ⟨_, ho, _⟩ := L.s.law.ob
  obtain ⟨_, hh⟩ := L.s.hand.lst
  obtain ⟨_, _, hc⟩ := L.s.hand.cells
  obtain ⟨bs, ha, _⟩ := L.aw_
  have nn : ∀ a ∈ W, a ≠ x ∧ a ≠ d ∧ a ≠ o ∧ a ≠ la ∧ a ≠ wy ∧ a ≠ h ∧ a ≠ handCells H h := fun a m => ⟨q a m _ _ hx, q a m _ _ L.s.laid.pl, q a m _ _ ho, q a m _ _ L.s.law.al_, q a m _ _ L.s.law.wy_, q a m _ _ hh, q a m _ _ hc⟩
  obtain ⟨s1, s2⟩ := L.s.fn (Fn.of_fr f) (tabs_fr L.s.tabs f fun a m => plain_none (n a m)) nn
  exact ⟨f.tup L.sz_, s1, L.aw_.fr f (fun m => q _ m _ _ ha rfl), L.pk, L.n1, L.n2, by rw [s2]; exact L.n3⟩
theorem LS.same (L : LS cl Tb l b all H h sz o aw x d la wy al sal mp m mv aws) (f : Same H H') : LS cl Tb l b all H' h sz o aw x d la wy al sal mp m mv aws := L.fr (W := []) (Fr.of_same f) (by simp)
/-- a draw -/
theorem LS.draw (L : LS cl Tb l b all H h sz o aw x d la wy al sal mp m mv aws) (f : Fr [h] H H') (hh : HandAt H' h) (hc : handCells H' h = handCells H h) : LS cl Tb l b all H' h sz o aw x d la wy al sal mp m mv aws := by
  obtain ⟨⟨x1, x2, x3, x4, x5, x6⟩, ⟨d1, d2, d3, d4, d5⟩, ⟨o1, o2, o3, o4⟩, ⟨a1, a2, a3⟩, w1, w2⟩ := L.s.ne
  obtain ⟨_, _, _, _, _, ph⟩ := L.s.plain
  refine ⟨f.tup L.sz_, { L.s with
    laid := L.s.laid.fr f (by simpa using x4) (by simpa using d4)
    law := L.s.law.fr f (by simpa using o3) (by simpa using a2) (by simpa using w1)
    hand := hh
    tabs := tabs_fr L.s.tabs f (by simpa using ph)
    n3 := by rw [hc]; exact L.s.n3 }, L.aw_.fr f (by simpa using L.n2), L.pk, L.n1, L.n2, by rw [hc]; exact L.n3⟩
/-- the law's own lists and the laid planes, all anew -/
theorem LS.anew {d' : Addr} {al' sal' : List Int} {mp' m' : Wy} {mv' : Int} (L : LS cl Tb l b all H h sz o aw x d la wy al sal mp m mv aws) (f : Fn W H H') (t : LamX.Tabs Tb H') (nh : h ∉ W) (nc : handCells H h ∉ W) (na : aw ∉ W)
    (hl : LaidAt cl H' x d' l b sal' mp' mv') (hw : LawAt H' o la wy l b al' m' mv') (nd : d' ≠ wy) (pm : mp'.Perm m') (ps : sal'.Perm al') (so : sal'.Pairwise (· ≤ ·)) (ok : SOk l b sal' m' []) (ar : ∀ k ∈ al', 0 ≤ k ∧ k < 12) (ml : m'.length ≤ 12) :
    SLaw cl Tb H' x d' o la wy h l b al' sal' mp' m' mv' ∧ Lp H' aw aws ∧ Pt H' sz (l, (b : Int)) ∧ handCells H' h = handCells H h := by
  obtain ⟨q1, q2⟩ := L.s.hand.fn f nh nc
  exact ⟨⟨hl, hw, q1, t, pm, ps, so, ok, L.s.l0, L.s.l1, L.s.b1, ar, ml, L.s.lb, nd, L.s.n2, by rw [q2]; exact L.s.n3⟩, L.aw_.fn f na, f.tup L.sz_, q2⟩
end
section
variable {K : PySem.W.Frag} {Tb : List (Addr × Str)} {σ : L2.St} {H H1 : Hp} {Q : VK} {i j n : Nat} {x d o la wy h t : Addr} {l : Int} {b : Nat} {al sal : List Int} {mp m : Wy} {mv : Int} {w : Int × Int}
/-- the told put, and what the law's own then makes of it -/
theorem SLaw.told (s : SLaw (cL K) Tb H x d o la wy h l b al sal mp m mv) (A : AllW l b (m.map (·.1) ++ [w])) (hx : σ[i]? = some (some (.ref x))) (hj : σ[j]? = some (some (.ref t))) (ht : Pt H t w)
    (k : ∀ H1 r d' mp', Fn [x] H H1 → (∀ H2, Fr [o, wy] H1 H2 → LawAt H2 o la wy l b al (stp l b sal (m, [], 0) w).1 (mv + ((stp l b sal (m, [], 0) w).2.2 : Nat)) →
        SLaw (cL K) Tb H2 x d' o la wy h l b al sal mp' (stp l b sal (m, [], 0) w).1 (mv + ((stp l b sal (m, [], 0) w).2.2 : Nat)) ∧ Fn [x, o, wy] H H2 ∧ handCells H2 h = handCells H h) →
      LawAt H1 o la wy l b al m mv → H1 r = some (.tup (outV l b sal m w)) → Q (.ref r) H1) :
    LamX.tLam Tb (TTold K) (fun E => tMeth (cL K) "put" (spPut (cL K) (cN K)) [] E (tVar i) (tCons (tVar j) tNil)) σ H Q := by
  obtain ⟨⟨x1, x2, x3, x4, x5, x6⟩, _⟩ := s.ne
  refine told_put hx hj s.tabs s.laid ht s.l0 s.l1 s.b1 (s.ok.perm s.pm) (A.perm ((s.pm.map _).append_right _)) s.slen fun H' r d' m' f t' hd hl hp hr => ?_
  rw [outV_perm s.ok.ok s.pm] at hr
  exact k H' r d' m' f (fun H2 f2 hw => both_state s A f t' hd hl hp f2 hw) (s.law.fn f (by simpa using Ne.symm x1) (by simpa using Ne.symm x2) (by simpa using Ne.symm x3)) hr
theorem SLaw.lputs {E : XK} (s : SLaw (cL K) Tb H x d o la wy h l b al sal mp m mv) (A : AllW l b (m.map (·.1) ++ [w])) (hl : LawAt H1 o la wy l b al m mv) (ht : Pt H1 t w)
    (k : ∀ H' r, Fr [o, wy] H1 H' → LawAt H' o la wy l b al (stp l b sal (m, [], 0) w).1 (mv + ((stp l b sal (m, [], 0) w).2.2 : Nat)) → H' r = some (.tup (outV l b sal m w)) → Q (.ref r) H') :
    spLPut [.ref o, .ref t] H1 Q E := lput hl ht s.l0 s.l1 s.b1 s.ps s.so s.ok A s.slen k
end
end Kx
set_option maxHeartbeats 4000000
namespace Kx
open PySem PySem.Spec PyProof.Rows L2

local macro_rules | `(tactic| walk_at "ht") => `(tactic| (repeat (first | assumption | exact upd_same | refine upd_old ?_ (by assumption) | refine Same.at_ (by assumption) ?_ | refine Fr.tup (by assumption) ?_)))
local macro_rules | `(tactic| walk_at "go1") => `(tactic| (first
  | ((with_reducible apply g_var); (focus rfl)) | with_reducible refine g_op ?_ | with_reducible refine g_c ?_ | with_reducible refine g_I0 ?_ | with_reducible refine g_eqI ?_ | with_reducible refine g_neI ?_
  | with_reducible refine g_cons ?_ | with_reducible refine g_nil ?_ | with_reducible refine g_tup ?_ | with_reducible refine g_lst ?_ | with_reducible refine g_bl ?_ | with_reducible refine g_test ?_
  | with_reducible refine g_B ?_ | with_reducible refine g_and ?_ | with_reducible refine g_or ?_ | with_reducible refine g_not ?_ | with_reducible refine g_andV ?_ | with_reducible refine g_orV ?_
  | with_reducible refine g_notV ?_ | with_reducible refine g_if ?_ | with_reducible refine g_cb ?_ | with_reducible refine g_call ?_ | with_reducible refine g_chain ?_ | with_reducible refine g_un ?_
  | with_reducible refine g_u ?_ | with_reducible refine g_seq ?_ | with_reducible refine g_next ?_ | with_reducible refine g_ret ?_ | with_reducible refine g_set ?_ | with_reducible refine g_ifS ?_
  | with_reducible refine g_drop ?_ | with_reducible refine g_asg ?_ | with_reducible refine g_name ?_ | with_reducible refine g_tc ?_ | with_reducible refine g_tn ?_ | with_reducible refine g_par ?_
  | with_reducible refine g_par3 ?_ | with_reducible refine g_p2 ?_ | with_reducible refine g_p3 ?_ | with_reducible refine g_fs ?_ | with_reducible refine g_fld ?_ | with_reducible refine g_m ?_
  | with_reducible refine g_mk ?_ | with_reducible refine g_dg ?_ | with_reducible refine g_dp ?_ | with_reducible refine g_din ?_ | with_reducible refine g_dni ?_ | with_reducible refine g_bm ?_
  | with_reducible refine g_mg ?_ | with_reducible refine g_il ?_ | with_reducible refine g_it ?_ | with_reducible refine g_ir ?_ | with_reducible refine g_ik ?_ | with_reducible refine g_for ?_
  | with_reducible refine g_lc ?_ | with_reducible refine g_ie ?_ | with_reducible refine g_iz ?_ | with_reducible refine g_yes ?_ | with_reducible refine g_retN ?_ | with_reducible refine g_gsub ?_ | with_reducible refine g_isN ?_ | with_reducible refine g_ntN ?_
  | with_reducible refine g_isiInt ?_ | with_reducible refine g_isiBool ?_ | with_reducible refine g_sl ?_ | with_reducible refine g_on ?_ | with_reducible refine g_os ?_ | ((with_reducible refine g_dsz ?_ ?_); (focus rfl); intro p hp)
  | ((with_reducible apply g_ixTt); (focus (walk_at "ht"; done)); (focus rfl)) | ((with_reducible apply g_ixLl); (focus (walk_at "ht"; done)); (focus rfl)) | ((with_reducible apply g_isiT); (focus (walk_at "ht"; done))) | ((with_reducible apply g_lnL); (focus (walk_at "ht"; done))) | ((with_reducible apply g_lnT); (focus (walk_at "ht"; done))) | ((with_reducible apply g_tTt); (focus (walk_at "ht"; done)); (focus rfl))
  | ((with_reducible apply g_tyL); (focus (walk_at "ht"; done))) | refine iteT ?_ | refine iteF ?_))
local macro_rules | `(tactic| walk_at "go") => `(tactic| (repeat (walk_at "go1")))
section
variable {P : Program} {w : World} {K : PySem.W.Frag} {mg : Str → Option Value} {base : Heap} (T : Tx K mg) (N : TxN K) (Dt : ToldC K mg) {Cc Pc : Addr} {Tb : List (Addr × Str)} (TB : LamX.TabB base mg Cc Pc)
  {f : Addr} {cdv : Value} (hcode : cdv = .ref Cc) {A : Around} {outer : List Env} {s0 : Shared} {H0 : Hp} {E : XK} (hTb : Tb = [(Pc, (LX P w K mg base f cdv A outer s0 H0 E).env.qual ++ "<lambda>")]) (hr : Room 14 (A.deeper (envOfC "law" (defScope sLaw) s0.heap.objs.size f cdv)))
theorem scLaw : FnScope ["_law_script", "_law_hand_here", "_law_sizes_here", "_law_many", "_law_own", "_law_away", "_law_turn", "_law_plane", "_law_lost_here", "_law_told_here", "_law_gone", "_law_laid_here", "_law_wish", "_law_one"] ["_law_script"] (defScope sLaw) := ⟨rfl, rfl, rfl, by decide +kernel, rfl, by decide +kernel, by decide +kernel⟩
include T hr in
/-- the check at a turn's end -/
theorem k53 (c__law_is_so : Cal P w K mg base CX0 3 "_law_is_so" ["_law_laid_here", "_law_own"] (spIsSo (cL K))) {R : Nat → Prop} : PS (LX P w K mg base f cdv A outer s0 H0 E) s53 (tri (LG (cL K) Tb R) (LG (cL K) Tb R)) := by
  refine ps_imp (ps_if (PW.pt (pw_or (pt_not (pt_val (pe_callF c__law_is_so hr (by decide) (by rfl) (pa_cons (pv 11) (pa_cons (pv 4) pa_nil))))) (pw_or1 (pt_cmpR op_ne (pe_op op_add (pe_callB call_len_dT (by rfl) T.z_len (by decide +kernel) (pa_cons (pe_dget (hu_of hr) (pv 4) pe_str (fun _ _ => rfl)) pa_nil)) (pe_callB (call_lenK K rfl) (by rfl) T.z_len (by decide +kernel) (pa_cons (pv 5) pa_nil))) (pv 3) (nomark _))))) (pss_one (ps_ret pe_bl)) pss_nil) (fun D σ H q => ?_)
  obtain ⟨l, b, all, ⟨hA, hlen, scr, h, sz, o, aw, x, d, la, wy, al, sal, mp, m, mv, aws, z6, z7, z8, z9, z10, z12, rfl, L, hn⟩, k⟩ := q
  have hml := L.s.mpl
  walk_at "go"
  refine ⟨x, d, o, la, wy, l, b, al, sal, mp, m, mv, rfl, L.s.laid, L.s.law, L.s.pm.symm, L.s.ps, L.s.so, L.s.ok.ok.perm L.s.pm, by omega, L.s.l0, L.s.l1, fun H1 s1 => ?_⟩
  have L1 := L.same s1
  walk_at "go"
  refine L1.s.law.g3 ?_
  walk_at "go"
  refine ⟨wy, _, rfl, L1.s.law.wy_, ?_⟩
  obtain ⟨bs, ha, hb⟩ := L1.aw_
  walk_at "go"
  have e : ((dm m).length : Int) + ((bs.map V.ref).length : Int) = l * b := by
    have := L.pk.length_eq
    rw [List.length_append, List.length_map] at this
    rw [dm_len, List.length_map, hb.len]
    omega
  rw [decide_eq_true e]
  walk_at "go"
  exact k _ _ ⟨hA, hlen, scr, h, sz, o, aw, x, d, la, wy, al, sal, mp, m, mv, aws, z6, z7, z8, z9, z10, z12, rfl, L1, hn⟩
end
end Kx
set_option maxHeartbeats 4000000
namespace Kx
open PySem PySem.Spec PyProof.Rows L2

local macro_rules | `(tactic| walk_at "ht") => `(tactic| (repeat (first | assumption | exact upd_same | refine upd_old ?_ (by assumption) | refine Same.at_ (by assumption) ?_ | refine Fr.tup (by assumption) ?_)))
local macro_rules | `(tactic| walk_at "go1") => `(tactic| (first
  | ((with_reducible apply g_var); (focus rfl)) | with_reducible refine g_op ?_ | with_reducible refine g_c ?_ | with_reducible refine g_I0 ?_ | with_reducible refine g_eqI ?_ | with_reducible refine g_neI ?_
  | with_reducible refine g_cons ?_ | with_reducible refine g_nil ?_ | with_reducible refine g_tup ?_ | with_reducible refine g_lst ?_ | with_reducible refine g_bl ?_ | with_reducible refine g_test ?_
  | with_reducible refine g_B ?_ | with_reducible refine g_and ?_ | with_reducible refine g_or ?_ | with_reducible refine g_not ?_ | with_reducible refine g_andV ?_ | with_reducible refine g_orV ?_
  | with_reducible refine g_notV ?_ | with_reducible refine g_if ?_ | with_reducible refine g_cb ?_ | with_reducible refine g_call ?_ | with_reducible refine g_chain ?_ | with_reducible refine g_un ?_
  | with_reducible refine g_u ?_ | with_reducible refine g_seq ?_ | with_reducible refine g_next ?_ | with_reducible refine g_ret ?_ | with_reducible refine g_set ?_ | with_reducible refine g_ifS ?_
  | with_reducible refine g_drop ?_ | with_reducible refine g_asg ?_ | with_reducible refine g_name ?_ | with_reducible refine g_tc ?_ | with_reducible refine g_tn ?_ | with_reducible refine g_par ?_
  | with_reducible refine g_par3 ?_ | with_reducible refine g_p2 ?_ | with_reducible refine g_p3 ?_ | with_reducible refine g_fs ?_ | with_reducible refine g_fld ?_ | with_reducible refine g_m ?_
  | with_reducible refine g_mk ?_ | with_reducible refine g_dg ?_ | with_reducible refine g_dp ?_ | with_reducible refine g_din ?_ | with_reducible refine g_dni ?_ | with_reducible refine g_bm ?_
  | with_reducible refine g_mg ?_ | with_reducible refine g_il ?_ | with_reducible refine g_it ?_ | with_reducible refine g_ir ?_ | with_reducible refine g_ik ?_ | with_reducible refine g_for ?_
  | with_reducible refine g_lc ?_ | with_reducible refine g_ie ?_ | with_reducible refine g_iz ?_ | with_reducible refine g_yes ?_ | with_reducible refine g_retN ?_ | with_reducible refine g_gsub ?_ | with_reducible refine g_isN ?_ | with_reducible refine g_ntN ?_
  | with_reducible refine g_isiInt ?_ | with_reducible refine g_isiBool ?_ | with_reducible refine g_sl ?_ | with_reducible refine g_on ?_ | with_reducible refine g_os ?_ | ((with_reducible refine g_dsz ?_ ?_); (focus rfl); intro p hp)
  | ((with_reducible apply g_ixTt); (focus (walk_at "ht"; done)); (focus rfl)) | ((with_reducible apply g_ixLl); (focus (walk_at "ht"; done)); (focus rfl)) | ((with_reducible apply g_isiT); (focus (walk_at "ht"; done))) | ((with_reducible apply g_lnL); (focus (walk_at "ht"; done))) | ((with_reducible apply g_lnT); (focus (walk_at "ht"; done))) | ((with_reducible apply g_tTt); (focus (walk_at "ht"; done)); (focus rfl))
  | ((with_reducible apply g_tyL); (focus (walk_at "ht"; done))) | refine iteT ?_ | refine iteF ?_))
local macro_rules | `(tactic| walk_at "go") => `(tactic| (repeat (walk_at "go1")))
section
variable {P : Program} {w : World} {K : PySem.W.Frag} {mg : Str → Option Value} {base : Heap} (T : Tx K mg) (N : TxN K) (Dt : ToldC K mg) {Cc Pc : Addr} {Tb : List (Addr × Str)} (TB : LamX.TabB base mg Cc Pc)
  {f : Addr} {cdv : Value} (hcode : cdv = .ref Cc) {A : Around} {outer : List Env} {s0 : Shared} {H0 : Hp} {E : XK} (hTb : Tb = [(Pc, (LX P w K mg base f cdv A outer s0 H0 E).env.qual ++ "<lambda>")]) (hr : Room 14 (A.deeper (envOfC "law" (defScope sLaw) s0.heap.objs.size f cdv)))
include T N Dt TB hTb hcode hr in
/-- a wish exchanged -/
theorem k52 (c__law_draw : Cal P w K mg base CX0 1 "_law_draw" ["_law_hand_here", "_law_many"] spDraw) (c__law_put : Cal P w K mg base CX0 3 "_law_put" ["_law_own", "_law_wish"] spLPut) (c_Laid_put : CalM P w K mg base (L2.CX P w) 6 (cL K) "put" ["self", "wish"] (spPut (cL K) (cN K))) (c_Laid_drop : CalM P w K mg base CX0 4 (cL K) "drop" ["self", "wish"] (spDrop (cL K))) {R : Nat → Prop} : PS (LX P w K mg base f cdv A outer s0 H0 E) s52 (tri (LG (cL K) Tb R) (LG (cL K) Tb R)) := by
  refine ps_imp (ps_if (PW.pt (pw_and (pt_cmpR op_gt (pe_callB call_len_dT (by rfl) T.z_len (by decide +kernel) (pa_cons (pe_dget (hu_of hr) (pv 4) pe_str (fun _ _ => rfl)) pa_nil)) pe_int (nomark _)) (pw_and1 (pt_cmpR op_eq (pe_callF c__law_draw hr (by decide) (by rfl) (pa_cons (pv 1) (pa_cons pe_int pa_nil))) pe_int (nomark _))))) (pss_cons (ps_set (i := 10) scLaw.nd rfl (Or.inr rfl) (pe_ix (ix_listK K rfl) (pe_callB (cr_sortedDT rfl) (by rfl) T.z_sorted (by decide +kernel) (pa_cons (pe_dget (hu_of hr) (pv 4) pe_str (fun _ _ => rfl)) pa_nil)) (pe_callF c__law_draw hr (by decide) (by rfl) (pa_cons (pv 1) (pa_cons (pe_callB call_len_dT (by rfl) T.z_len (by decide +kernel) (pa_cons (pe_dget (hu_of hr) (pv 4) pe_str (fun _ _ => rfl)) pa_nil)) pa_nil))) (fun _ _ => rfl)))
      (pss_cons (ps_expr (pe_bm PySem.F.plainAttrs_dict PySem.F.slot_dict_pop PySem.F.type_dict_pop (mt_popT1 hr) (pe_dget (hu_of hr) (pv 4) pe_str (fun _ _ => rfl)) (pa_cons (pv 10) pa_nil)))
      (pss_cons (ps_expr (pe_methF T.cl_Laid c_Laid_drop hr (by decide) (pv 11) (pa_cons (pv 10) pa_nil)))
      (pss_one (ps_if (pt_cmpR (op_neD hr.units) (pe_told (i := 11) (j := 10) (k := 6) T N Dt c_Laid_put TB hcode hTb hr (by rfl) (LamX.lamS_by (show LamX.lamSB (defScope sLaw) _ = true from by decide +kernel)) rfl (fun _ _ _ _ _ => rfl) rfl rfl rfl rfl (by decide) (by decide) (by decide) (by decide) (fun _ _ _ _ _ _ _ => ⟨_, rfl⟩)) (pe_callF c__law_put hr (by decide) (by rfl) (pa_cons (pv 4) (pa_cons (pv 10) pa_nil))) (nomark _)) (pss_one (ps_ret pe_bl)) pss_nil))))) pss_nil) (fun D σ H q => ?_)
  obtain ⟨l, b, all, ⟨hA, hlen, scr, h, sz, o, aw, x, d, la, wy, al, sal, mp, m, mv, aws, z6, z7, z8, z9, z10, z12, rfl, L, hn⟩, k⟩ := q
  have big : 100000 < sizeLine := by rw [sizeLine_eq]; omega
  have hml := L.s.ml
  walk_at "go"
  refine L.s.law.g3 ?_
  walk_at "go"
  refine ⟨wy, _, rfl, L.s.law.wy_, ?_⟩
  walk_at "go"
  by_cases c : (0 : Int) < ((dm m).length : Nat)
  · rw [decide_eq_true c]
    walk_at "go"
    refine ⟨h, 3, rfl, L.s.hand, by omega, by omega, fun H1 r f1 hh1 hc1 r0 r1 => ?_⟩
    have L1 := L.draw f1 hh1 hc1
    walk_at "go"
    by_cases cr : r = 0
    · rw [decide_eq_true cr]
      walk_at "go"
      refine L1.s.law.g3 ?_
      walk_at "go"
      refine ⟨wy, _, m.map (·.1), rfl, L1.s.law.wy_, dm_keys m, fun bs ps q hbs hp hs hq => ?_⟩
      have s2 : Same H1 (upd H1 q (.lst (bs.map V.ref))) := same_new hq
      have hq2 : (upd H1 q (.lst (bs.map V.ref))) q = some (.lst (bs.map V.ref)) := upd_same
      have hqh : q ≠ h := by
        obtain ⟨_, hh⟩ := L1.s.hand.lst
        exact Ne.symm (ne_of_none hh hq)
      have hbs2 := hbs.keep fun b xs e => s2 b _ e
      have L2 := L1.same s2
      clear hbs
      generalize (upd H1 q (.lst (bs.map V.ref))) = H2 at s2 hq2 hbs2 L2 ⊢
      walk_at "go"
      refine L2.s.law.g3 ?_
      walk_at "go"
      refine ⟨wy, _, rfl, L2.s.law.wy_, ?_⟩
      walk_at "go"
      refine ⟨h, ((dm m).length : Nat), rfl, L2.s.hand, c, by rw [dm_len]; omega, fun H3 r3 f3 hh3 hc3 r30 r31 => ?_⟩
      have L3 := L2.draw f3 hh3 hc3
      have hq3 := f3.at_ hq2 (by simpa using hqh)
      have hbs3 := hbs2.fr f3
      rw [dm_len] at r31
      have hpl : ps.length = m.length := by rw [hp.length_eq, List.length_map]
      obtain ⟨p, hp1⟩ : ∃ p, ps[r3.toNat]? = some p := ⟨_, List.getElem?_eq_getElem (by omega)⟩
      obtain ⟨t, ht1, ht3⟩ := hbs3.get hp1
      have er : r3 = (r3.toNat : Int) := by omega
      have hpm : p ∈ m.map (·.1) := hp.mem_iff.mp (List.mem_of_getElem? hp1)
      refine g_ixLl (v := .ref t) hq3 (by rw [er]; exact atI_nat (by rw [List.getElem?_map, ht1]; rfl)) ?_
      clear hbs2 hq2 L2 L1 s2 f1 f3
      have hkn := L3.s.ok.ok.kn
      obtain ⟨v, hv⟩ := look_mem hpm
      walk_at "go"
      refine L3.s.law.g3 ?_
      refine g_tyD L3.s.law.wy_ ?_
      walk_at "go"
      refine ⟨wy, t, _, pk p, .int v, rfl, rfl, L3.s.law.wy_, ht3, by rw [dm_val, hv]; rfl, ?_⟩
      rw [dm_drop]
      obtain ⟨⟨x1, x2, x3, x4, x5, x6⟩, ⟨d1, d2, d3, d4, d5⟩, ⟨o1, o2, o3, o4⟩, ⟨a1, a2, a3⟩, w1, w2⟩ := L3.s.ne
      obtain ⟨px, pd, po, pa, pw, ph⟩ := L3.s.plain
      obtain ⟨u1, u2, u3, u4⟩ := L3.xo
      obtain ⟨f4, hw4⟩ := L3.s.law.setw (m' := drp m p)
      have hl4 := L3.s.laid.fr f4 (by simpa using x3) (by simpa using d3)
      have ht4 := f4.tup ht3
      have t4 := tabs_fr L3.s.tabs f4 (by simpa using pw)
      generalize (upd H3 wy (.dT (dm (drp m p)))) = H4 at f4 hw4 hl4 ht4 t4 ⊢
      obtain ⟨dx, szz, aa, hob, _, _⟩ := hl4.ob
      have hrg := L3.s.ok.rg p (by rw [List.append_nil]; exact hpm)
      walk_at "go"
      refine g_m2 hob rfl ?_
      walk_at "go"
      refine ⟨x, t, d, l, b, sal, mp, mv, p, rfl, hl4, ht4, ⟨by have := L3.s.l0; omega, L3.s.l1⟩, L3.s.b1, hrg.1, hrg.2, look_isSome ((L3.s.pm.map _).mem_iff.mpr hpm), fun H5 f5 hl5 => ?_⟩
      have ht5 := f5.tup ht4
      have f35 : Fn [x, d, wy] H3 H5 := ((Fn.of_fr f4).mono (by simp)).trans ((Fn.of_fr f5).mono (by simp))
      have hw5 := hw4.fr f5 (by simpa using ⟨Ne.symm x1, Ne.symm d1⟩) (by simpa using ⟨Ne.symm x2, Ne.symm d2⟩) (by simpa using ⟨Ne.symm x3, Ne.symm d3⟩)
      have t5 := tabs_fr t4 f5 (by
        have q1 : Plain H4 x := plain_of hob (fun _ z => nomatch z) (fun _ z => nomatch z)
        have q2 : Plain H4 d := plain_of hl4.pl (fun _ z => nomatch z) (fun _ z => nomatch z)
        simpa using ⟨q1, q2⟩)
      obtain ⟨S5, aw5, sz5, c5⟩ := L3.anew f35 t5 (by simpa using ⟨Ne.symm x4, Ne.symm d4, Ne.symm w1⟩) (by simpa using ⟨Ne.symm x5, Ne.symm d5, Ne.symm w2⟩) (by simpa using ⟨u1, u2, u4⟩) hl5 hw5 L3.s.n1 (L3.s.pm.filter _) L3.s.ps L3.s.so (L3.s.ok.sub ⟨_, rfl⟩) L3.s.ar (Nat.le_trans (List.length_filter_le ..) L3.s.ml)
      have hdk := drp_keys hkn hpm
      have A5 : AllW l b ((drp m p).map (·.1) ++ [p]) := ((hA.perm L3.pk).left).perm hdk
      have hfl := full_again (b := b) L3.s.ok.ok L3.s.ok.an hdk
      walk_at "go"
      refine S5.told A5 rfl rfl ht5 (fun H6 r6 d6 mp6 f6 fin6 law6 hr6 => ?_)
      walk_at "go"
      refine S5.lputs A5 law6 (f6.tup ht5) (fun H7 r7 f7 law7 hr7 => ?_)
      obtain ⟨S7, g7, c7⟩ := fin6 H7 f7 law7
      refine ne_out (f7.tup hr6) hr7 ?_
      walk_at "go"
      rw [stp_told (s := false) hfl] at S7
      refine k _ _ ⟨hA, hlen, scr, h, sz, o, aw, x, d6, la, wy, al, sal, mp6, _, _, aws, z6, z7, z8, z9, _, z12, rfl, ⟨g7.tup sz5, S7, aw5.fn g7 (by simpa using ⟨u1, u3, u4⟩), ?_, L3.n1, L3.n2, by rw [c7, c5]; exact L3.n3⟩, hn⟩
      rw [newM_keys]
      exact (hdk.append_right _).trans L3.pk
    · rw [decide_eq_false cr]
      walk_at "go"
      exact k _ _ ⟨hA, hlen, scr, h, sz, o, aw, x, d, la, wy, al, sal, mp, m, mv, aws, z6, z7, z8, z9, z10, z12, rfl, L1, hn⟩
  · rw [decide_eq_false c]
    walk_at "go"
    exact k _ _ ⟨hA, hlen, scr, h, sz, o, aw, x, d, la, wy, al, sal, mp, m, mv, aws, z6, z7, z8, z9, z10, z12, rfl, L, hn⟩
end
end Kx
set_option maxHeartbeats 4000000
namespace Kx
open PySem PySem.Spec PyProof.Rows L2

local macro_rules | `(tactic| walk_at "ht") => `(tactic| (repeat (first | assumption | exact upd_same | refine upd_old ?_ (by assumption) | refine Same.at_ (by assumption) ?_ | refine Fr.tup (by assumption) ?_)))
local macro_rules | `(tactic| walk_at "go1") => `(tactic| (first
  | ((with_reducible apply g_var); (focus rfl)) | with_reducible refine g_op ?_ | with_reducible refine g_c ?_ | with_reducible refine g_I0 ?_ | with_reducible refine g_eqI ?_ | with_reducible refine g_neI ?_
  | with_reducible refine g_cons ?_ | with_reducible refine g_nil ?_ | with_reducible refine g_tup ?_ | with_reducible refine g_lst ?_ | with_reducible refine g_bl ?_ | with_reducible refine g_test ?_
  | with_reducible refine g_B ?_ | with_reducible refine g_and ?_ | with_reducible refine g_or ?_ | with_reducible refine g_not ?_ | with_reducible refine g_andV ?_ | with_reducible refine g_orV ?_
  | with_reducible refine g_notV ?_ | with_reducible refine g_if ?_ | with_reducible refine g_cb ?_ | with_reducible refine g_call ?_ | with_reducible refine g_chain ?_ | with_reducible refine g_un ?_
  | with_reducible refine g_u ?_ | with_reducible refine g_seq ?_ | with_reducible refine g_next ?_ | with_reducible refine g_ret ?_ | with_reducible refine g_set ?_ | with_reducible refine g_ifS ?_
  | with_reducible refine g_drop ?_ | with_reducible refine g_asg ?_ | with_reducible refine g_name ?_ | with_reducible refine g_tc ?_ | with_reducible refine g_tn ?_ | with_reducible refine g_par ?_
  | with_reducible refine g_par3 ?_ | with_reducible refine g_p2 ?_ | with_reducible refine g_p3 ?_ | with_reducible refine g_fs ?_ | with_reducible refine g_fld ?_ | with_reducible refine g_m ?_
  | with_reducible refine g_mk ?_ | with_reducible refine g_dg ?_ | with_reducible refine g_dp ?_ | with_reducible refine g_din ?_ | with_reducible refine g_dni ?_ | with_reducible refine g_bm ?_
  | with_reducible refine g_mg ?_ | with_reducible refine g_il ?_ | with_reducible refine g_it ?_ | with_reducible refine g_ir ?_ | with_reducible refine g_ik ?_ | with_reducible refine g_for ?_
  | with_reducible refine g_lc ?_ | with_reducible refine g_ie ?_ | with_reducible refine g_iz ?_ | with_reducible refine g_yes ?_ | with_reducible refine g_retN ?_ | with_reducible refine g_gsub ?_ | with_reducible refine g_isN ?_ | with_reducible refine g_ntN ?_
  | with_reducible refine g_isiInt ?_ | with_reducible refine g_isiBool ?_ | with_reducible refine g_sl ?_ | with_reducible refine g_on ?_ | with_reducible refine g_os ?_ | ((with_reducible refine g_dsz ?_ ?_); (focus rfl); intro p hp)
  | ((with_reducible apply g_ixTt); (focus (walk_at "ht"; done)); (focus rfl)) | ((with_reducible apply g_ixLl); (focus (walk_at "ht"; done)); (focus rfl)) | ((with_reducible apply g_isiT); (focus (walk_at "ht"; done))) | ((with_reducible apply g_lnL); (focus (walk_at "ht"; done))) | ((with_reducible apply g_lnT); (focus (walk_at "ht"; done))) | ((with_reducible apply g_tTt); (focus (walk_at "ht"; done)); (focus rfl))
  | ((with_reducible apply g_tyL); (focus (walk_at "ht"; done))) | refine iteT ?_ | refine iteF ?_))
local macro_rules | `(tactic| walk_at "go") => `(tactic| (repeat (walk_at "go1")))
section
variable {P : Program} {w : World} {K : PySem.W.Frag} {mg : Str → Option Value} {base : Heap} (T : Tx K mg) (N : TxN K) (Dt : ToldC K mg) {Cc Pc : Addr} {Tb : List (Addr × Str)} (TB : LamX.TabB base mg Cc Pc)
  {f : Addr} {cdv : Value} (hcode : cdv = .ref Cc) {A : Around} {outer : List Env} {s0 : Shared} {H0 : Hp} {E : XK} (hTb : Tb = [(Pc, (LX P w K mg base f cdv A outer s0 H0 E).env.qual ++ "<lambda>")]) (hr : Room 14 (A.deeper (envOfC "law" (defScope sLaw) s0.heap.objs.size f cdv)))
include T hr in
/-- what is lost joins what is away -/
theorem k504 {R : Nat → Prop} : PS (LX P w K mg base f cdv A outer s0 H0 E) s504 (tri (LSl (cL K) Tb R) (LG (cL K) Tb R)) := by
  refine ps_imp (ps_set (i := 5) scLaw.nd rfl (Or.inl rfl) (pe_callB cr_sortedPO (by rfl) T.z_sorted (by decide +kernel) (pa_cons (pe_op op_cat (pv 5) (pe_callTy call_list_of (by rfl) T.z_list (by decide +kernel) (pa_cons (pv 8) pa_nil))) pa_nil))) (fun D σ H q => ?_)
  obtain ⟨l, b, all, ⟨hA, hlen, scr, h, sz, o, aw, x, d, la, wy, r, al, sal, mp, m, mv, aws, lost, all0, z6, z7, z9, z10, z12, rfl, L, hp0, ⟨bl, hr1, hbl⟩, hn⟩, k⟩ := q
  have big : 100000 < sizeLine := by rw [sizeLine_eq]; omega
  obtain ⟨ba, ha, hba⟩ := L.aw_
  have hn12 : aws.length + lost.length ≤ 12 := by
    have e1 := L.pk.length_eq
    have e2 := hp0.length_eq
    have e3 := hA.len
    rw [List.length_append] at e1 e2
    omega
  walk_at "go"
  refine ⟨r, _, rfl, .inr (SqT.of hr1), fun p1 hp1 => ?_⟩
  walk_at "go"
  refine ⟨aw, p1, _, _, rfl, rfl, upd_old ha hp1, upd_same, by rw [List.length_map, List.length_map, hba.len, hbl.len]; omega, fun p2 hp2 => ?_⟩
  have s2 : Same H (upd (upd H p1 (.lst (bl.map V.ref))) p2 (.lst (ba.map V.ref ++ bl.map V.ref))) := same_snoc (same_new hp1) hp2
  have hb2 : (upd (upd H p1 (.lst (bl.map V.ref))) p2 (.lst (ba.map V.ref ++ bl.map V.ref))) p2 = some (.lst ((ba ++ bl).map V.ref)) := by rw [upd_same, List.map_append]
  have hpr := (hba.app hbl).keep fun b xs e => s2 b _ e
  have hp2H := same_none (same_new (o := .lst (bl.map V.ref)) hp1) hp2
  generalize (upd (upd H p1 (.lst (bl.map V.ref))) p2 (.lst (ba.map V.ref ++ bl.map V.ref))) = H2 at s2 hb2 hpr ⊢
  walk_at "go"
  refine ⟨p2, _, fun v => prOf H2 (adV v), rfl, SqL.of hb2, fun v hv => ?_, fun ys p4 hs hb4 hp4 => ?_⟩
  · obtain ⟨b, hb, rfl⟩ := List.mem_map.mp hv
    exact ⟨b, rfl, (hpr.mem b hb).1⟩
  obtain ⟨ds, rfl, hds⟩ := refs_perm hb4.perm
  have hdp : Prs H2 ds (ds.map (prOf H2)) := Prs.map_ fun b hb => (hpr.mem b (hds.mem_iff.mp hb)).1
  have hdq : (ds.map (prOf H2)).Perm (aws ++ lost) := by rw [hpr.eq]; exact hds.map _
  have s4 : Same H (upd H2 p4 (.lst (ds.map V.ref))) := same_snoc s2 hp4
  have L4 := L.same s4
  have hp4H := same_none s2 hp4
  have nw : ∀ y u, H y = some u → p4 ≠ y := fun y u e => Ne.symm (ne_of_none e hp4H)
  obtain ⟨_, hh⟩ := L.s.hand.lst
  obtain ⟨_, _, hc⟩ := L.s.hand.cells
  have hcc : handCells (upd H2 p4 (.lst (ds.map V.ref))) h = handCells H h := (L.s.hand.fr (W := []) (Fr.of_same s4) (by simp) (by simp)).2
  walk_at "go"
  refine k _ _ ⟨hA, hlen, scr, h, sz, o, p4, x, d, la, wy, al, sal, mp, m, mv, _, z6, z7, _, z9, z10, z12, rfl, ⟨L4.sz_, L4.s, ⟨ds, upd_same, hdp.keep fun b xs e => upd_old e hp4⟩, ?_, nw _ _ L.s.law.al_, nw _ _ hh, by rw [hcc]; exact nw _ _ hc⟩, hn⟩
  refine (hdq.append_left _).trans ?_
  rw [← List.append_assoc]
  exact (L.pk.append_right _).trans hp0
theorem g_nePrs {H : Hp} {Q : VK} {a c : Addr} {bs cs : List Addr} {ps : List (Int × Int)} (h1 : H a = some (.tup (bs.map V.ref))) (h2 : Prs H bs ps) (h3 : H c = some (.tup (cs.map V.ref))) (h4 : Prs H cs ps) (hl : ps.length ≤ 12) (q : Q (.bl false) H) : rNeD K (.ref a) (.ref c) H Q := by
  have dp : ∀ {bs : List Addr} {ps : List (Int × Int)}, Prs H bs ps → DpAll K H (bs.map V.ref) (ps.map fun p => PyData.tuple [.int p.1, .int p.2]) := fun {bs ps} h => by
    unfold Prs at h
    induction h with
    | nil => exact .nil
    | cons e _ ih => exact .cons (.tup (SqT.of e) (.cons (.int _) (.cons (.int _) .nil))) ih
  have lay : ∀ ps : List (Int × Int), PyData.canLayAll0 (ps.map fun p => PyData.tuple [.int p.1, .int p.2]) = true := fun ps => by
    induction ps with
    | nil => simp [PyData.canLayAll0]
    | cons e es h =>
      simp only [List.map_cons, PyData.canLayAll0, h, Bool.and_true]
      simp [PyData.canLay0, PyData.canLayAll0]
  have dep : ∀ ps : List (Int × Int), PyData.depthAll (ps.map fun p => PyData.tuple [.int p.1, .int p.2]) ≤ 5 := fun ps => by
    induction ps with
    | nil => simp [PyData.depthAll]
    | cons e es h =>
      have h2 : (PyData.tuple [.int e.1, .int e.2]).depth ≤ 5 := by simp [PyData.depth, PyData.depthAll]
      simp only [List.map_cons, PyData.depthAll]
      omega
  have sh : SeqAt.shaped (.tuple (ps.map fun p => PyData.tuple [.int p.1, .int p.2])) = true := by
    have h1 := dep ps
    have h2 : PyData.depth (.tuple (ps.map fun p => PyData.tuple [.int p.1, .int p.2])) ≤ 64 := by
      simp only [PyData.depth]
      omega
    show (PyData.canLay0 _ && decide (PyData.depth _ ≤ 64)) = true
    rw [Bool.and_eq_true]
    exact ⟨by simp only [PyData.canLay0]; exact lay ps, decide_eq_true h2⟩
  exact ⟨_, _, .tup (SqT.of h1) (dp h2), .tup (SqT.of h3) (dp h4), sh, sh, by rw [SeqAt.eqv_refl _ (by simp only [PyData.canLay0]; exact lay ps)]; exact q⟩
include T hr in
/-- a plane is lost -/
theorem k50 (c__law_draw : Cal P w K mg base CX0 1 "_law_draw" ["_law_hand_here", "_law_many"] spDraw) (c__law_lost : Cal P w K mg base CX0 4 "_law_lost" ["_law_own", "_law_plane"] spLost) (c__law_is_so : Cal P w K mg base CX0 3 "_law_is_so" ["_law_laid_here", "_law_own"] (spIsSo (cL K))) (c_Laid_lose : CalM P w K mg base CX0 6 (cL K) "lose" ["self", "plane"] (spLose (cL K))) : PS (LX P w K mg base f cdv A outer s0 H0 E) s50 (tri (LG (cL K) Tb fun _ => True) (LG (cL K) Tb fun n => n < 12)) := by
  refine ps_imp (ps_if (pt_cmpR op_gt (pe_callB (call_lenK K rfl) (by rfl) T.z_len (by decide +kernel) (pa_cons (pe_dget (hu_of hr) (pv 4) pe_str (fun _ _ => rfl)) pa_nil)) pe_int (nomark _)) (pss_cons (ps_set (i := 7) scLaw.nd rfl (Or.inl rfl) (pe_ix (ix_listK K rfl) (pe_dget (hu_of hr) (pv 4) pe_str (fun _ _ => rfl)) (pe_callF c__law_draw hr (by decide) (by rfl) (pa_cons (pv 1) (pa_cons (pe_callB (call_lenK K rfl) (by rfl) T.z_len (by decide +kernel) (pa_cons (pe_dget (hu_of hr) (pv 4) pe_str (fun _ _ => rfl)) pa_nil)) pa_nil))) (fun _ _ => rfl))) (pss_cons (ps_set (i := 8) scLaw.nd rfl (Or.inl rfl) (pe_callF c__law_lost hr (by decide) (by rfl) (pa_cons (pv 4) (pa_cons (pv 7) pa_nil)))) (pss_cons (ps_if (PW.pt (pw_or (pt_cmpR (op_neD hr.units) (pe_methF T.cl_Laid c_Laid_lose hr (by decide) (pv 11) (pa_cons (pv 7) pa_nil)) (pv 8) (nomark _)) (pw_or1 (pt_not (pt_val (pe_callF c__law_is_so hr (by decide) (by rfl) (pa_cons (pv 11) (pa_cons (pv 4) pa_nil)))))))) (pss_one (ps_ret pe_bl)) pss_nil) (pss_cons (ps_if (PW.pt (pw_and (pt_cmpR op_ge (pe_callB (call_lenK K rfl) (by rfl) T.z_len (by decide +kernel) (pa_cons (pe_dget (hu_of hr) (pv 4) pe_str (fun _ _ => rfl)) pa_nil)) (pe_ix (ix_tupK K rfl) (pv 2) pe_int (fun _ _ => rfl)) (nomark _)) (pw_and1 (pt_cmpR (op_neD hr.units) (pv 8) (pe_tup pa_nil) (nomark _))))) (pss_one (ps_ret pe_bl)) pss_nil) (pss_one (k504 (R := fun n => n < 12) (Tb := Tb) T hr)))))) pss_nil) (fun D σ H q => ?_)
  obtain ⟨l, b, all, ⟨hA, hlen, scr, h, sz, o, aw, x, d, la, wy, al, sal, mp, m, mv, aws, z6, z7, z8, z9, z10, z12, rfl, L, hn⟩, k⟩ := q
  have big : 100000 < sizeLine := by rw [sizeLine_eq]; omega
  have hal := L.s.len
  have hsl := L.s.slen
  have hml := L.s.ml
  have hmpl := L.s.mpl
  have hla := L.s.law.al_
  walk_at "go"
  refine L.s.law.g2 ?_
  walk_at "go"
  by_cases c : (0 : Int) < ((al.map V.int).length : Nat)
  · rw [decide_eq_true c]
    walk_at "go"
    refine L.s.law.g2 ?_
    walk_at "go"
    refine L.s.law.g2 ?_
    walk_at "go"
    refine ⟨h, _, rfl, L.s.hand, c, by rw [List.length_map]; omega, fun H1 r f1 hh1 hc1 r0 r1 => ?_⟩
    have L1 := L.draw f1 hh1 hc1
    have hla1 := L1.s.law.al_
    rw [List.length_map] at r1
    obtain ⟨pl, hpl⟩ : ∃ pl, al[r.toNat]? = some pl := ⟨_, List.getElem?_eq_getElem (by omega)⟩
    have er : r = (r.toNat : Int) := by omega
    have hpa : pl ∈ al := List.mem_of_getElem? hpl
    have hps : pl ∈ sal := L1.s.ps.mem_iff.mpr hpa
    refine g_ixLl (v := .int pl) hla1 (by rw [er]; exact atI_nat (by rw [List.getElem?_map, hpl]; rfl)) ?_
    clear hla f1
    walk_at "go"
    refine ⟨o, la, wy, l, b, al, sal, m, mv, pl, rfl, L1.s.law, hpa, L1.s.l0, L1.s.l1, L1.s.b1, L1.s.ps, L1.s.so, by omega, by omega, L1.s.ok, fun H2 r2 bs2 ws f2 hwp hws hr2 hb2 hw2 => ?_⟩
    obtain ⟨⟨x1, x2, x3, x4, x5, x6⟩, ⟨d1, d2, d3', d4, d5⟩, ⟨o1, o2, o3, o4⟩, ⟨a1, a2, a3⟩, w1, w2⟩ := L1.s.ne
    obtain ⟨px, pd, po, pa, pw, ph⟩ := L1.s.plain
    obtain ⟨u1, u2, u3, u4⟩ := L1.xo
    have hlt := fil_lt hpa
    have hps' : (sal.filter fun k => decide (k ≠ pl)).Perm (al.filter fun k => decide (k ≠ pl)) := L1.s.ps.filter _
    have hso' : (sal.filter fun k => decide (k ≠ pl)).Pairwise (· ≤ ·) := L1.s.so.sublist List.filter_sublist
    have har' : ∀ k ∈ (al.filter fun k => decide (k ≠ pl)), 0 ≤ k ∧ k < 12 := fun k hk => L1.s.ar k (List.mem_filter.mp hk).1
    generalize hal' : (al.filter fun k => decide (k ≠ pl)) = al' at hw2 hlt hps' har'
    generalize hsal' : (sal.filter fun k => decide (k ≠ pl)) = sal' at hb2 hw2 hps' hso'
    have hS0 := sok_pl L1.s.ok hsal' hwp
    have hS1 : SOk l b sal' (relay l b sal' (noPl m pl) ws).1 [] := relay_ok L1.s.l0 ws (st := (noPl m pl, [], 0)) (rest := []) (by rw [List.append_nil]; exact hS0)
    have hkeys := lose_keys (l := l) (b := b) (al' := sal') hwp
    obtain ⟨p1, p2⟩ := relay_perm (b := b) (al := sal') L1.s.l0 ws (lo := []) (n := 0) hS0 (L1.s.pm.filter _ : (noPl mp pl).Perm (noPl m pl))
    have hnone : l ≤ (al'.length : Int) → (relay l b sal' (noPl m pl) ws).2.1 = [] := fun z => relay_none L1.s.l0 (by rw [hps'.length_eq]; exact z) ws (st := (noPl m pl, [], 0)) (((hA.perm L1.pk).left).perm (by
      refine (hwp.append_left _).trans ?_
      rw [← List.map_append]
      refine List.Perm.map _ (List.perm_append_comm.trans ?_)
      have e : noPl m pl = m.filter (fun e => !decide (e.2 = pl)) := List.filter_congr fun e _ => by by_cases c : e.2 = pl <;> simp [c]
      rw [e]
      exact List.filter_append_perm (fun e : (Int × Int) × Int => decide (e.2 = pl)) m)) rfl
    have hl2 := L1.s.laid.fr f2 (by simpa using ⟨x1, x2, x3⟩) (by simpa using ⟨d1, d2, d3'⟩)
    have t2 := tabs_fr L1.s.tabs f2 (by simpa using ⟨po, pa, pw⟩)
    obtain ⟨dx, szz, aa, hob, _, _⟩ := hl2.ob
    walk_at "go"
    refine g_m2 hob rfl ?_
    walk_at "go"
    refine ⟨x, d, l, b, sal, mp, mv, pl, rfl, hl2, L1.s.ar pl hpa, hps, L1.s.l0, L1.s.l1, L1.s.b1, by omega, by omega, L1.s.ok.perm L1.s.pm, fun H3 r3 d3 bs3 ws3 mp3 f3 hd3 hwp3 hws3 hr3 hb3 hl3 hp3 => ?_⟩
    have ews : ws3 = ws := leP_uniq hws3 hws (hwp3.trans (((L1.s.pm.filter _).map _).trans hwp.symm))
    subst ews
    rw [hsal'] at hb3 hl3 hp3
    rw [show (relay l b sal' (noPl mp pl) ws3).2 = (relay l b sal' (noPl m pl) ws3).2 from p2] at hb3 hl3
    have hp3' : mp3.Perm (relay l b sal' (noPl m pl) ws3).1 := hp3.trans p1
    have hw3 := hw2.fr f3 (by simpa using ⟨Ne.symm x1, Ne.symm d1⟩) (by simpa using ⟨Ne.symm x2, Ne.symm d2⟩) (by simpa using ⟨Ne.symm x3, Ne.symm d3'⟩)
    have f13 : Fn [x, d, o, la, wy] H1 H3 := ((Fn.of_fr f2).mono (by simp)).trans ((Fn.of_fr f3).mono (by simp))
    have t3 := tabs_fr t2 f3 (by
      have q1 : Plain H2 x := plain_of hob (fun _ z => nomatch z) (fun _ z => nomatch z)
      have q2 : Plain H2 d := plain_of hl2.pl (fun _ z => nomatch z) (fun _ z => nomatch z)
      simpa using ⟨q1, q2⟩)
    have hdw : d3 ≠ wy := by
      rcases hd3 with z | z
      · rw [z]; exact L1.s.n1
      · exact Ne.symm (ne_of_none hw2.wy_ z)
    generalize hst : relay l b sal' (noPl m pl) ws3 = st at hb2 hw2 hw3 hb3 hl3 hp3' hS1 hkeys hnone
    have hkl := hkeys.length_eq
    rw [List.length_append, List.length_map, List.length_map] at hkl
    obtain ⟨S3, aw3, sz3, c3⟩ := L1.anew f13 t3 (by simpa using ⟨Ne.symm x4, Ne.symm d4, Ne.symm o3, Ne.symm a2, Ne.symm w1⟩) (by simpa using ⟨Ne.symm x5, Ne.symm d5, Ne.symm o4, Ne.symm a3, Ne.symm w2⟩) (by simpa using ⟨u1, u2, u3, L1.n1, u4⟩) hl3 hw3 hdw hp3' hps' hso' hS1 har' (by omega)
    have L3 : LS (cL K) Tb l b (st.1.map (·.1) ++ aws) H3 h sz o aw x d3 la wy al' sal' mp3 st.1 (mv + (st.2.2 : Nat)) aws := ⟨sz3, S3, aw3, .refl _, L1.n1, L1.n2, by rw [c3]; exact L1.n3⟩
    have hall : ((st.1.map (·.1) ++ aws) ++ st.2.1).Perm all := by
      rw [List.append_assoc]
      refine (List.perm_append_comm.append_left _).trans ?_
      rw [← List.append_assoc]
      exact (hkeys.append_right _).trans L1.pk
    have tp3 : Tp H3 r2 st.2.1 := ⟨bs2, f3.tup hr2, hb2.fr f3⟩
    clear hwp3 hws3 hp3 hl2 t2 t3 hob hdw f13 hS0 p1 p2
    walk_at "go"
    refine g_nePrs hr3 hb3 (f3.tup hr2) (hb2.fr f3) (by omega) ?_
    walk_at "go"
    have hm3 := S3.mpl
    refine ⟨x, d3, o, la, wy, l, b, al', sal', mp3, st.1, _, rfl, S3.laid, S3.law, S3.pm.symm, S3.ps, S3.so, S3.ok.ok.perm S3.pm, by omega, S3.l0, S3.l1, fun H4 s4 => ?_⟩
    have L4 := L3.same s4
    have tp4 := tp3.fr (Fr.of_same (W := []) s4)
    have hla4 := L4.s.law.al_
    have hsz4 := L4.sz_
    clear L3 S3 hr3 hb3 hla1 L1 L
    walk_at "go"
    refine L4.s.law.g2 ?_
    walk_at "go"
    by_cases c4 : l ≤ ((al'.map V.int).length : Nat)
    · rw [decide_eq_true c4]
      walk_at "go"
      rename_i p5 hp5
      obtain ⟨bs5, hr5, hb5⟩ := tp4
      rw [List.length_map] at c4
      have e5 := hnone c4
      have s5 := same_new (o := .tup []) hp5
      refine g_nePrs (ps := []) (bs := bs5) (cs := []) (s5 _ _ hr5) (by rw [← e5]; exact hb5.keep fun b xs e => s5 b _ e) upd_same Prs.nil (by simp) ?_
      walk_at "go"
      exact ⟨l, b, all, ⟨hA, hlen, scr, h, sz, o, aw, x, d3, la, wy, r2, al', sal', mp3, st.1, _, aws, st.2.1, _, z6, _, z9, z10, z12, rfl, L4.same s5, hall, ⟨bs5, s5 _ _ hr5, hb5.keep fun b xs e => s5 b _ e⟩, by omega⟩, k⟩
    · rw [decide_eq_false c4]
      walk_at "go"
      exact ⟨l, b, all, ⟨hA, hlen, scr, h, sz, o, aw, x, d3, la, wy, r2, al', sal', mp3, st.1, _, aws, st.2.1, _, z6, _, z9, z10, z12, rfl, L4, hall, tp4, by omega⟩, k⟩
  · rw [decide_eq_false c]
    walk_at "go"
    rw [List.length_map] at c
    exact k _ _ ⟨hA, hlen, scr, h, sz, o, aw, x, d, la, wy, al, sal, mp, m, mv, aws, z6, z7, z8, z9, z10, z12, rfl, L, by omega⟩
end
end Kx
set_option maxHeartbeats 4000000
namespace Kx
open PySem PySem.Spec PyProof.Rows L2

local macro_rules | `(tactic| walk_at "ht") => `(tactic| (repeat (first | assumption | exact upd_same | refine upd_old ?_ (by assumption) | refine Same.at_ (by assumption) ?_ | refine Fr.tup (by assumption) ?_)))
local macro_rules | `(tactic| walk_at "go1") => `(tactic| (first
  | ((with_reducible apply g_var); (focus rfl)) | with_reducible refine g_op ?_ | with_reducible refine g_c ?_ | with_reducible refine g_I0 ?_ | with_reducible refine g_eqI ?_ | with_reducible refine g_neI ?_
  | with_reducible refine g_cons ?_ | with_reducible refine g_nil ?_ | with_reducible refine g_tup ?_ | with_reducible refine g_lst ?_ | with_reducible refine g_bl ?_ | with_reducible refine g_test ?_
  | with_reducible refine g_B ?_ | with_reducible refine g_and ?_ | with_reducible refine g_or ?_ | with_reducible refine g_not ?_ | with_reducible refine g_andV ?_ | with_reducible refine g_orV ?_
  | with_reducible refine g_notV ?_ | with_reducible refine g_if ?_ | with_reducible refine g_cb ?_ | with_reducible refine g_call ?_ | with_reducible refine g_chain ?_ | with_reducible refine g_un ?_
  | with_reducible refine g_u ?_ | with_reducible refine g_seq ?_ | with_reducible refine g_next ?_ | with_reducible refine g_ret ?_ | with_reducible refine g_set ?_ | with_reducible refine g_ifS ?_
  | with_reducible refine g_drop ?_ | with_reducible refine g_asg ?_ | with_reducible refine g_name ?_ | with_reducible refine g_tc ?_ | with_reducible refine g_tn ?_ | with_reducible refine g_par ?_
  | with_reducible refine g_par3 ?_ | with_reducible refine g_p2 ?_ | with_reducible refine g_p3 ?_ | with_reducible refine g_fs ?_ | with_reducible refine g_fld ?_ | with_reducible refine g_m ?_
  | with_reducible refine g_mk ?_ | with_reducible refine g_dg ?_ | with_reducible refine g_dp ?_ | with_reducible refine g_din ?_ | with_reducible refine g_dni ?_ | with_reducible refine g_bm ?_
  | with_reducible refine g_mg ?_ | with_reducible refine g_il ?_ | with_reducible refine g_it ?_ | with_reducible refine g_ir ?_ | with_reducible refine g_ik ?_ | with_reducible refine g_for ?_
  | with_reducible refine g_lc ?_ | with_reducible refine g_ie ?_ | with_reducible refine g_iz ?_ | with_reducible refine g_yes ?_ | with_reducible refine g_retN ?_ | with_reducible refine g_gsub ?_ | with_reducible refine g_isN ?_ | with_reducible refine g_ntN ?_
  | with_reducible refine g_isiInt ?_ | with_reducible refine g_isiBool ?_ | with_reducible refine g_sl ?_ | with_reducible refine g_on ?_ | with_reducible refine g_os ?_ | ((with_reducible refine g_dsz ?_ ?_); (focus rfl); intro p hp)
  | ((with_reducible apply g_ixTt); (focus (walk_at "ht"; done)); (focus rfl)) | ((with_reducible apply g_ixLl); (focus (walk_at "ht"; done)); (focus rfl)) | ((with_reducible apply g_isiT); (focus (walk_at "ht"; done))) | ((with_reducible apply g_lnL); (focus (walk_at "ht"; done))) | ((with_reducible apply g_lnT); (focus (walk_at "ht"; done))) | ((with_reducible apply g_tTt); (focus (walk_at "ht"; done)); (focus rfl))
  | ((with_reducible apply g_tyL); (focus (walk_at "ht"; done))) | refine iteT ?_ | refine iteF ?_))
local macro_rules | `(tactic| walk_at "go") => `(tactic| (repeat (walk_at "go1")))
theorem erase_mid {α : Type} (xs : List α) (y : α) (ys : List α) : (xs ++ y :: ys).eraseIdx xs.length = xs ++ ys := by
  induction xs with
  | nil => rfl
  | cons x xs ih => show x :: (xs ++ y :: ys).eraseIdx xs.length = _; rw [ih]; rfl
theorem nd_first {α : Type} {xs : List α} {y : α} {ys : List α} (h : (xs ++ y :: ys).Nodup) (m : Nat) (hm : m < xs.length) : (xs ++ y :: ys)[m]? ≠ some y := fun e => by
  rw [List.getElem?_append_left hm] at e
  exact (List.nodup_append.mp h).2.2 y (List.mem_of_getElem? e) y (List.mem_cons_self ..) rfl
theorem drop_at {α : Type} {xs : List α} {i : Nat} {y : α} (h : xs[i]? = some y) : xs.drop i = y :: xs.drop (i + 1) := by
  obtain ⟨h1, h2⟩ := List.getElem?_eq_some_iff.mp h
  rw [List.drop_eq_getElem_cons h1, h2]
section
variable {P : Program} {w : World} {K : PySem.W.Frag} {mg : Str → Option Value} {base : Heap} (T : Tx K mg) (N : TxN K) (Dt : ToldC K mg) {Cc Pc : Addr} {Tb : List (Addr × Str)} (TB : LamX.TabB base mg Cc Pc)
  {f : Addr} {cdv : Value} (hcode : cdv = .ref Cc) {A : Around} {outer : List Env} {s0 : Shared} {H0 : Hp} {E : XK} (hTb : Tb = [(Pc, (LX P w K mg base f cdv A outer s0 H0 E).env.qual ++ "<lambda>")]) (hr : Room 14 (A.deeper (envOfC "law" (defScope sLaw) s0.heap.objs.size f cdv)))
include T N Dt TB hTb hcode hr in
/-- the wishes that are away, each once more -/
theorem k513 (c__law_put : Cal P w K mg base CX0 3 "_law_put" ["_law_own", "_law_wish"] spLPut) (c_Laid_put : CalM P w K mg base (L2.CX P w) 6 (cL K) "put" ["self", "wish"] (spPut (cL K) (cN K))) {R : Nat → Prop} : PS (LX P w K mg base f cdv A outer s0 H0 E) s513 (tri (LG (cL K) Tb R) (LG (cL K) Tb R)) := by
  refine ps_imp (ps_for PassesOwn.never rfl (pi_list (pe_callTy call_list_of (by rfl) T.z_list (by decide +kernel) (pa_cons (pv 5) pa_nil))) (pg_name (i := 12) scLaw.nd rfl (Or.inr rfl))
      (pss_cons (ps_set (i := 9) scLaw.nd rfl (Or.inl rfl) (pe_told (i := 11) (j := 12) (k := 6) T N Dt c_Laid_put TB hcode hTb hr (by rfl) (LamX.lamS_by (show LamX.lamSB (defScope sLaw) _ = true from by decide +kernel)) rfl (fun _ _ _ _ _ => rfl) rfl rfl rfl rfl (by decide) (by decide) (by decide) (by decide) (fun _ _ _ _ _ _ _ => ⟨_, rfl⟩)))
      (pss_cons (ps_if (pt_cmpR (op_neD hr.units) (pv 9) (pe_callF c__law_put hr (by decide) (by rfl) (pa_cons (pv 4) (pa_cons (pv 12) pa_nil))) (nomark _)) (pss_one (ps_ret pe_bl)) pss_nil)
      (pss_one (ps_if (pt_cmpR op_eq (pe_ix (ix_tupK K rfl) (pv 9) pe_int (fun _ _ => rfl)) pe_str (nomark _)) (pss_one (ps_expr (pe_bm PySem.F.plainAttrs_list PySem.F.slot_list_remove PySem.F.type_list_remove (mt_removeP hr) (pv 5) (pa_cons (pv 12) pa_nil)))) pss_nil))))) (fun D σ H q => ?_)
  obtain ⟨l, b, all, ⟨hA, hlen, scr, h, sz, o, aw, x, d, la, wy, al, sal, mp, m, mv, aws, z6, z7, z8, z9, z10, z12, rfl, L, hn⟩, k⟩ := q
  have big : 100000 < sizeLine := by rw [sizeLine_eq]; omega
  obtain ⟨bs, ha, hb⟩ := id L.aw_
  walk_at "go"
  refine ⟨aw, _, rfl, .inl (SqL.of ha), fun cp hcp => ?_⟩
  have s1 : Same H (upd H cp (.lst (bs.map V.ref))) := same_new hcp
  have hcp1 : (upd H cp (.lst (bs.map V.ref))) cp = some (.lst (bs.map V.ref)) := upd_same
  have L1 := L.same s1
  have nw : ∀ y u, H y = some u → cp ≠ y := fun y u e => Ne.symm (ne_of_none e hcp)
  have ha1 := s1 _ _ ha
  have hb1 := hb.keep fun b xs e => s1 b _ e
  have nca : cp ≠ aw := nw _ _ ha
  generalize (upd H cp (.lst (bs.map V.ref))) = H1 at s1 hcp1 L1 ha1 hb1 ⊢
  have hbl : bs.length = aws.length := hb.len
  refine g_iL hcp1 ?_
  refine for_it walk_list (fun i σ H' => ∃ (d : Addr) (mp m : Wy) (mv : Int) (kb : List Addr) (kept : List (Int × Int)) (z9 z12 : Option V),
      σ = [some scr, some (.ref h), some (.ref sz), some (.int (l * b)), some (.ref o), some (.ref aw), z6, z7, z8, z9, z10, some (.ref x), z12, none] ∧ Pt H' sz (l, (b : Int)) ∧ SLaw (cL K) Tb H' x d o la wy h l b al sal mp m mv ∧
      H' aw = some (.lst ((kb ++ bs.drop i).map V.ref)) ∧ Prs H' kb kept ∧ Prs H' bs aws ∧ H' cp = some (.lst (bs.map V.ref)) ∧ (m.map (·.1) ++ (kept ++ aws.drop i)).Perm all ∧ handCells H' h = handCells H1 h)
    ⟨d, mp, m, mv, [], [], z9, z12, rfl, L1.sz_, L1.s, by simpa using ha1, Prs.nil, hb1, hcp1, by simpa using L1.pk, rfl⟩ (fun i σ H' hi hv => by
      obtain ⟨d, mp, m, mv, kb, kept, z9, z12, _, _, _, _, _, _, hc, _⟩ := hv
      exact SqL.of hc) (fun i y σ H2 H3 hi hv yy => ?_) (fun σ H2 hv => ?_)
  · obtain ⟨d, mp, m, mv, kb, kept, z9, z12, rfl, hsz, S, haw, hkb, hbs, hc2, hpk, hcc⟩ := hv
    obtain ⟨rfl, hy⟩ := yy
    obtain ⟨c, rfl, hc⟩ := refs_at hy
    obtain ⟨w, hw, hwt⟩ := hbs.at_ hc
    have dw := drop_at hw
    have db := drop_at hc
    rw [dw] at hpk
    rw [db] at haw
    have A : AllW l b (m.map (·.1) ++ [w]) := (hA.perm hpk).one (by simp)
    have ndk : (kept ++ w :: aws.drop (i + 1)).Nodup := (List.nodup_append.mp (hA.perm hpk).nd).2.1
    obtain ⟨_, ho, _⟩ := S.law.ob
    obtain ⟨_, _, _, hob, _, _⟩ := S.laid.ob
    have n1 : aw ∉ [x, o, wy] := by simpa using ⟨ne_of haw hob (fun z => nomatch z), ne_of haw ho (fun z => nomatch z), ne_of haw S.law.wy_ (fun z => nomatch z)⟩
    have n2 : cp ∉ [x, o, wy] := by simpa using ⟨ne_of hc2 hob (fun z => nomatch z), ne_of hc2 ho (fun z => nomatch z), ne_of hc2 S.law.wy_ (fun z => nomatch z)⟩
    walk_at "go"
    refine S.told A rfl rfl hwt (fun H4 r4 d4 mp4 f4 fin4 law4 hr4 => ?_)
    walk_at "go"
    refine S.lputs A law4 (f4.tup hwt) (fun H5 r5 f5 law5 hr5 => ?_)
    obtain ⟨S5, g5, c5⟩ := fin4 H5 f5 law5
    have hr45 := f5.tup hr4
    refine ne_out hr45 hr5 ?_
    have haw5 := g5.lst n1 haw
    have hc5 := g5.lst n2 hc2
    have hbs5 := hbs.fn g5
    have hkb5 := hkb.fn g5
    have hwt5 := g5.tup hwt
    have hsz5 := g5.tup hsz
    clear fin4 law4 law5 hr4 hr5 g5 f4 f5 S haw hc2 hbs hkb hwt
    cases e : full l b (m.map (·.1) ++ [w]) sal.length with
    | none =>
      unfold outV at hr45
      rw [e] at hr45
      rw [stp_told (s := false) e] at S5
      walk_at "go"
      refine g_eqTT ?_
      walk_at "go"
      refine ⟨aw, c, kb ++ c :: bs.drop (i + 1), kept ++ w :: aws.drop (i + 1), w, kept.length, rfl, rfl, haw5, hkb5.app (by rw [← dw, ← db]; exact hbs5.drop i), hwt5, by simp, fun m hm => nd_first ndk m hm, ?_⟩
      rw [← hkb5.len, erase_mid]
      have f6 : Fr [aw] H5 (upd H5 aw (.lst ((kb ++ bs.drop (i + 1)).map V.ref))) := Fr.refl.mut haw5 (fun z => z) (.inl (by simp))
      obtain ⟨_, ho5, _⟩ := S5.law.ob
      obtain ⟨_, _, _, hob5, _, _⟩ := S5.laid.ob
      have pa : Plain H5 aw := plain_of haw5 (fun _ z => nomatch z) (fun _ z => nomatch z)
      have cc := c5.trans hcc
      obtain ⟨S6, c6⟩ := S5.fn (Fn.of_fr f6) (tabs_fr S5.tabs f6 (by simpa using pa)) (by
        intro a ha'
        obtain rfl : a = aw := by simpa using ha'
        exact ⟨ne_of haw5 hob5 (fun z => nomatch z), ne_of haw5 S5.laid.pl (fun z => nomatch z), ne_of haw5 ho5 (fun z => nomatch z), L1.n1, ne_of haw5 S5.law.wy_ (fun z => nomatch z), L1.n2, by rw [cc]; exact L1.n3⟩)
      refine ⟨d4, mp4, _, _, kb, kept, _, _, rfl, f6.tup hsz5, S6, upd_same, hkb5.fr f6, hbs5.fr f6, f6.at_ hc5 (by simpa using nca), ?_, c6.trans cc⟩
      rw [newM_keys, List.append_assoc]
      exact (List.Perm.append_left _ (List.perm_middle (l₁ := kept) (a := w) (l₂ := aws.drop (i + 1))).symm).trans hpk
    | some r =>
      obtain ⟨sd, kk⟩ := r
      unfold outV at hr45
      rw [e] at hr45
      rw [stp_no e] at S5
      walk_at "go"
      refine g_eqNT ?_
      walk_at "go"
      exact ⟨d4, mp4, _, _, kb ++ [c], kept ++ [w], _, _, rfl, hsz5, S5, by simpa using haw5, hkb5.snoc hwt5, hbs5, hc5, by simpa using hpk, c5.trans hcc⟩
  · obtain ⟨d, mp, m, mv, kb, kept, z9, z12, rfl, hsz, S, haw, hkb, hbs, hc2, hpk, hcc⟩ := hv
    rw [List.drop_eq_nil_of_le (by rw [List.length_map]; exact Nat.le_refl _), List.append_nil] at haw
    rw [List.drop_eq_nil_of_le (by rw [List.length_map, hbl]; exact Nat.le_refl _), List.append_nil] at hpk
    exact k _ _ ⟨hA, hlen, scr, h, sz, o, aw, x, d, la, wy, al, sal, mp, m, mv, kept, z6, z7, z8, z9, z10, z12, rfl, ⟨hsz, S, ⟨kb, haw, hkb⟩, hpk, L.n1, L.n2, by rw [hcc]; exact L1.n3⟩, hn⟩
theorem fm_new (al : List Int) (n : Nat) : (List.range n).filterMap (fun i : Nat => if (i : Int) ∈ al then none else some (V.int (i : Int))) = ((nums n).filter fun k => !decide (k ∈ al)).map V.int := by
  unfold nums
  induction n with
  | zero => rfl
  | succ n ih =>
    rw [List.range_succ, List.filterMap_append, List.map_append, List.filter_append, List.map_append, ih]
    congr 1
    by_cases c : (n : Int) ∈ al <;> simp [c]
theorem SOk.al_more {l : Int} {b : Nat} {al al' : List Int} {m : Wy} (s : SOk l b al m []) (nd : al'.Nodup) (h : ∀ k ∈ al, k ∈ al') : SOk l b al' m [] := s.more nd h
include T N Dt TB hTb hcode hr in
/-- a plane is back -/
theorem k51 (c__law_draw : Cal P w K mg base CX0 1 "_law_draw" ["_law_hand_here", "_law_many"] spDraw) (c__law_put : Cal P w K mg base CX0 3 "_law_put" ["_law_own", "_law_wish"] spLPut) (c_Laid_put : CalM P w K mg base (L2.CX P w) 6 (cL K) "put" ["self", "wish"] (spPut (cL K) (cN K))) (c_Laid_back : CalM P w K mg base CX0 3 (cL K) "back" ["self", "plane"] (spBack (cL K))) : PS (LX P w K mg base f cdv A outer s0 H0 E) s51 (tri (LG (cL K) Tb fun n => n < 12) (LG (cL K) Tb fun _ => True)) := by
  refine ps_imp (ps_if (pt_cmpR op_eq (pe_callF c__law_draw hr (by decide) (by rfl) (pa_cons (pv 1) (pa_cons pe_int pa_nil))) pe_int (nomark _)) (pss_cons (ps_set (i := 7) scLaw.nd rfl (Or.inl rfl) (pe_callB (cr_min rfl) (by rfl) T.z_min (by decide +kernel) (pa_cons (pe_lc (own := [("_law_one", 13)]) (g := gName 13) rfl scLaw.nd (pi_range1 (by rfl) T.z_range (pa_cons pe_int pa_nil)) (blkOk_by (N := ["_law_script", "_law_hand_here", "_law_sizes_here", "_law_many", "_law_own", "_law_away", "_law_turn", "_law_plane", "_law_lost_here", "_law_told_here", "_law_gone", "_law_laid_here", "_law_wish", "_law_one"]) (sc := defScope sLaw) (by decide +kernel)) (fun _ _ _ _ _ => (pg_name (i := 13) scLaw.nd rfl (Or.inl rfl))) (fun _ _ _ _ _ => (pts_one (pt_cmpR (op_notInK K rfl) (pv 13) (pe_dget (hu_of hr) (pv 4) pe_str (fun _ _ => rfl)) (by rfl)))) (fun _ _ _ _ _ => (pv 13))) pa_nil))) (pss_cons (ps_expr (pe_bm PySem.F.plainAttrs_list PySem.F.slot_list_append PySem.F.type_list_append mt_append (pe_dget (hu_of hr) (pv 4) pe_str (fun _ _ => rfl)) (pa_cons (pv 7) pa_nil))) (pss_cons (ps_expr (pe_methF T.cl_Laid c_Laid_back hr (by decide) (pv 11) (pa_cons (pv 7) pa_nil))) (pss_one (k513 (R := fun _ => True) (Tb := Tb) T N Dt TB hcode hTb hr c__law_put c_Laid_put))))) pss_nil) (fun D σ H q => ?_)
  obtain ⟨l, b, all, ⟨hA, hlen, scr, h, sz, o, aw, x, d, la, wy, al, sal, mp, m, mv, aws, z6, z7, z8, z9, z10, z12, rfl, L, hn⟩, k⟩ := q
  have big : 100000 < sizeLine := by rw [sizeLine_eq]; omega
  have hsl := L.s.slen
  walk_at "go"
  refine ⟨h, 3, rfl, L.s.hand, by omega, by omega, fun H1 r f1 hh1 hc1 r0 r1 => ?_⟩
  have L1 := L.draw f1 hh1 hc1
  walk_at "go"
  by_cases cr : r = 0
  · rw [decide_eq_true cr]
    walk_at "go"
    refine g_ir1 (by omega) (by omega) ?_
    intro D1 hD1
    refine lc_fm walk_range (fun i : Nat => if (i : Int) ∈ al then none else some (V.int (i : Int))) hD1 (by show 12 < _; omega) (fun _ _ => trivial) (fun i y H2 H3 hi s yy Kt Kf k1 k2 => ?_) (fun H2 s2 hD2 => ?_)
    · obtain ⟨rfl, rfl⟩ := yy
      have L2 := L1.same s
      walk_at "go"
      refine ⟨rfl, ?_⟩
      walk_at "go"
      refine L2.s.law.g2 ?_
      refine g_ninL L2.s.law.al_ ?_
      walk_at "go"
      by_cases c : (0 + (i : Nat) : Int) ∈ al
      · rw [decide_eq_true c]
        walk_at "go"
        exact k2 _ (by rw [if_pos (by simpa using c)]) (fun _ _ h => h)
      · rw [decide_eq_false c]
        walk_at "go"
        exact k1 _ _ (by rw [if_neg (by simpa using c)]; simp) (fun _ _ h => h)
    rw [show (Int.toNat 12) = 12 from rfl, fm_new] at hD2
    have L2 := L1.same s2
    obtain ⟨kn, hk1, hk2⟩ := al_new hn
    walk_at "go"
    refine ⟨D1, _, rfl, SqL.of hD2, List.length_pos_of_mem (List.mem_filter.mpr ⟨hk1, by simpa using hk2⟩), fun pl hpl hmin => ?_⟩
    obtain ⟨hp1, hp2⟩ := List.mem_filter.mp hpl
    have hpn : pl ∉ al := by simpa using hp2
    have hpr : 0 ≤ pl ∧ pl < 12 := by
      obtain ⟨i, hi, rfl⟩ := mem_nums.mp hp1
      omega
    have hps : pl ∉ sal := fun z => hpn (L2.s.ps.mem_iff.mp z)
    clear hD2 hmin hpl hp1 hp2
    walk_at "go"
    refine L2.s.law.g2 ?_
    refine g_tyL L2.s.law.al_ ?_
    walk_at "go"
    refine g_app L2.s.law.al_ (by rw [List.length_map]; omega) ?_
    obtain ⟨⟨x1, x2, x3, x4, x5, x6⟩, ⟨d1, d2, d3, d4, d5⟩, ⟨o1, o2, o3, o4⟩, ⟨a1, a2, a3⟩, w1, w2⟩ := L2.s.ne
    obtain ⟨px, pd, po, pa, pw, ph⟩ := L2.s.plain
    obtain ⟨u1, u2, u3, u4⟩ := L2.xo
    have ee : al.map V.int ++ [V.int pl] = (al ++ [pl]).map V.int := by simp
    rw [ee]
    obtain ⟨f3, hw3⟩ := L2.s.law.seta (al' := al ++ [pl])
    have hl3 := L2.s.laid.fr f3 (by simpa using x2) (by simpa using d2)
    have t3 := tabs_fr L2.s.tabs f3 (by simpa using pa)
    generalize (upd H2 la (.lst ((al ++ [pl]).map V.int))) = H3 at f3 hw3 hl3 t3 ⊢
    obtain ⟨dx, szz, aa, hob, _, _⟩ := hl3.ob
    walk_at "go"
    refine g_m2 hob rfl ?_
    walk_at "go"
    refine ⟨x, d, l, b, sal, mp, mv, pl, rfl, hl3, hpr, hps, by omega, fun H4 sal' f4 hl4 hsp hso => ?_⟩
    have t4 := tabs_fr t3 f4 (by
      have q1 : Plain H3 x := plain_of hob (fun _ z => nomatch z) (fun _ z => nomatch z)
      simpa using q1)
    have hw4 := hw3.fr f4 (by simpa using Ne.symm x1) (by simpa using Ne.symm x2) (by simpa using Ne.symm x3)
    have f24 : Fn [x, la] H2 H4 := ((Fn.of_fr f3).mono (by simp)).trans ((Fn.of_fr f4).mono (by simp))
    have hsal : sal'.Perm (al ++ [pl]) := hsp.trans (L2.s.ps.append_right _)
    have hnd : sal'.Nodup := hsal.nodup_iff.mpr (List.nodup_append.mpr ⟨L2.s.ps.nodup_iff.mp L2.s.ok.an, by simp, fun a ha c hc e => by
      obtain rfl : c = pl := by simpa using hc
      exact hpn (e ▸ ha)⟩)
    obtain ⟨S4, aw4, sz4, c4⟩ := L2.anew f24 t4 (by simpa using ⟨Ne.symm x4, Ne.symm a2⟩) (by simpa using ⟨Ne.symm x5, Ne.symm a3⟩) (by simpa using ⟨u1, L2.n1⟩) hl4 hw4 L2.s.n1 L2.s.pm hsal hso (L2.s.ok.more hnd fun k hk => hsp.mem_iff.mpr (List.mem_append_left _ hk)) (fun k hk => by
      rcases List.mem_append.mp hk with z | z
      · exact L2.s.ar k z
      · obtain rfl : k = pl := by simpa using z
        exact hpr) L2.s.ml
    walk_at "go"
    exact ⟨l, b, all, ⟨hA, hlen, scr, h, sz, o, aw, x, d, la, wy, _, sal', mp, m, mv, aws, z6, _, z8, z9, z10, z12, rfl, ⟨sz4, S4, aw4, L2.pk, L2.n1, L2.n2, by rw [c4]; exact L2.n3⟩, trivial⟩, k⟩
  · rw [decide_eq_false cr]
    walk_at "go"
    exact k _ _ ⟨hA, hlen, scr, h, sz, o, aw, x, d, la, wy, al, sal, mp, m, mv, aws, z6, z7, z8, z9, z10, z12, rfl, L1, trivial⟩
end
end Kx
set_option maxHeartbeats 4000000
namespace Kx
open PySem PySem.Spec PyProof.Rows L2

local macro_rules | `(tactic| walk_at "ht") => `(tactic| (repeat (first | assumption | exact upd_same | refine upd_old ?_ (by assumption) | refine Same.at_ (by assumption) ?_ | refine Fr.tup (by assumption) ?_)))
local macro_rules | `(tactic| walk_at "go1") => `(tactic| (first
  | ((with_reducible apply g_var); (focus rfl)) | with_reducible refine g_op ?_ | with_reducible refine g_c ?_ | with_reducible refine g_I0 ?_ | with_reducible refine g_eqI ?_ | with_reducible refine g_neI ?_
  | with_reducible refine g_cons ?_ | with_reducible refine g_nil ?_ | with_reducible refine g_tup ?_ | with_reducible refine g_lst ?_ | with_reducible refine g_bl ?_ | with_reducible refine g_test ?_
  | with_reducible refine g_B ?_ | with_reducible refine g_and ?_ | with_reducible refine g_or ?_ | with_reducible refine g_not ?_ | with_reducible refine g_andV ?_ | with_reducible refine g_orV ?_
  | with_reducible refine g_notV ?_ | with_reducible refine g_if ?_ | with_reducible refine g_cb ?_ | with_reducible refine g_call ?_ | with_reducible refine g_chain ?_ | with_reducible refine g_un ?_
  | with_reducible refine g_u ?_ | with_reducible refine g_seq ?_ | with_reducible refine g_next ?_ | with_reducible refine g_ret ?_ | with_reducible refine g_set ?_ | with_reducible refine g_ifS ?_
  | with_reducible refine g_drop ?_ | with_reducible refine g_asg ?_ | with_reducible refine g_name ?_ | with_reducible refine g_tc ?_ | with_reducible refine g_tn ?_ | with_reducible refine g_par ?_
  | with_reducible refine g_par3 ?_ | with_reducible refine g_p2 ?_ | with_reducible refine g_p3 ?_ | with_reducible refine g_fs ?_ | with_reducible refine g_fld ?_ | with_reducible refine g_m ?_
  | with_reducible refine g_mk ?_ | with_reducible refine g_dg ?_ | with_reducible refine g_dp ?_ | with_reducible refine g_din ?_ | with_reducible refine g_dni ?_ | with_reducible refine g_bm ?_
  | with_reducible refine g_mg ?_ | with_reducible refine g_il ?_ | with_reducible refine g_it ?_ | with_reducible refine g_ir ?_ | with_reducible refine g_ik ?_ | with_reducible refine g_for ?_
  | with_reducible refine g_lc ?_ | with_reducible refine g_ie ?_ | with_reducible refine g_iz ?_ | with_reducible refine g_yes ?_ | with_reducible refine g_retN ?_ | with_reducible refine g_gsub ?_ | with_reducible refine g_isN ?_ | with_reducible refine g_ntN ?_
  | with_reducible refine g_isiInt ?_ | with_reducible refine g_isiBool ?_ | with_reducible refine g_sl ?_ | with_reducible refine g_on ?_ | with_reducible refine g_os ?_ | ((with_reducible refine g_dsz ?_ ?_); (focus rfl); intro p hp)
  | ((with_reducible apply g_ixTt); (focus (walk_at "ht"; done)); (focus rfl)) | ((with_reducible apply g_ixLl); (focus (walk_at "ht"; done)); (focus rfl)) | ((with_reducible apply g_isiT); (focus (walk_at "ht"; done))) | ((with_reducible apply g_lnL); (focus (walk_at "ht"; done))) | ((with_reducible apply g_lnT); (focus (walk_at "ht"; done))) | ((with_reducible apply g_tTt); (focus (walk_at "ht"; done)); (focus rfl))
  | ((with_reducible apply g_tyL); (focus (walk_at "ht"; done))) | refine iteT ?_ | refine iteF ?_))
local macro_rules | `(tactic| walk_at "go") => `(tactic| (repeat (walk_at "go1")))
def spLaw (K : PySem.W.Frag) (Pc : Addr) : Sp := fun vs H Q _ => ∃ (a : Addr) (ns : List Int), vs = [.ref a] ∧ SqL K H a (ns.map V.int) ∧ H Pc = some (.tbl #[]) ∧ ∀ H', Q (.bl true) H'
theorem g_rgT {te : L2.St → Hp → (Int → Int → Hp → Prop) → Prop} {σ : L2.St} {H : Hp} {Q : VK} (q : te σ H fun a b H1 => RgOk a b ∧ ∀ q o, H1 q = none → o.dict = none → Q (.ref q) (upd H1 q (.frz o (.tup (rgV a b))))) : tTupRgF te σ H Q := q
theorem nums_lt (n : Nat) : (nums n).Pairwise (· < ·) := by
  unfold nums
  rw [List.pairwise_map]
  exact List.pairwise_lt_range.imp fun {a b} h => by
    show (a : Int) < (b : Int)
    omega
theorem nums_len (n : Nat) : (nums n).length = n := by simp [nums]
section
variable {P : Program} {w : World} {K : PySem.W.Frag} {mg : Str → Option Value} {base : Heap} (T : Tx K mg) (N : TxN K) (Dt : ToldC K mg) {Cc Pc : Addr} {Tb : List (Addr × Str)} (TB : LamX.TabB base mg Cc Pc)
  {f : Addr} {cdv : Value} (hcode : cdv = .ref Cc) {A : Around} {outer : List Env} {s0 : Shared} {H0 : Hp} {E : XK} (hTb : Tb = [(Pc, (LX P w K mg base f cdv A outer s0 H0 E).env.qual ++ "<lambda>")]) (hr : Room 14 (A.deeper (envOfC "law" (defScope sLaw) s0.heap.objs.size f cdv)))
include T N Dt TB hTb hcode hr in
/-- the drawn wishes are laid -/
theorem k4 (c__law_wishes : Cal P w K mg base CX0 2 "_law_wishes" ["_law_hand_here", "_law_many", "_law_most"] spWishes) (c__law_put : Cal P w K mg base CX0 3 "_law_put" ["_law_own", "_law_wish"] spLPut) (c_Laid_put : CalM P w K mg base (L2.CX P w) 6 (cL K) "put" ["self", "wish"] (spPut (cL K) (cN K))) : PS (LX P w K mg base f cdv A outer s0 H0 E) s4 (fun D σ H => ∃ l b, LSt (cL K) Tb l b [] (fun n => n = 12) σ H ∧ ∀ all σ' H', LG (cL K) Tb (fun _ => True) l b all σ' H' → D.nx σ' H') := by
  refine ps_imp (ps_for PassesOwn.never rfl (pi_tup (pe_callF c__law_wishes hr (by decide) (by rfl) (pa_cons (pv 1) (pa_cons (pv 3) (pa_cons (pv 3) pa_nil))))) (pg_name (i := 12) scLaw.nd rfl (Or.inr rfl))
      (pss_one (ps_if (pt_cmpR (op_neD hr.units) (pe_told (i := 11) (j := 12) (k := 6) T N Dt c_Laid_put TB hcode hTb hr (by rfl) (LamX.lamS_by (show LamX.lamSB (defScope sLaw) _ = true from by decide +kernel)) rfl (fun _ _ _ _ _ => rfl) rfl rfl rfl rfl (by decide) (by decide) (by decide) (by decide) (fun _ _ _ _ _ _ _ => ⟨_, rfl⟩)) (pe_callF c__law_put hr (by decide) (by rfl) (pa_cons (pv 4) (pa_cons (pv 12) pa_nil))) (nomark _)) (pss_one (ps_ret pe_bl)) pss_nil))) (fun D σ H q => ?_)
  obtain ⟨l, b, ⟨scr, h, sz, o, aw, x, d, la, wy, al, sal, mp, m, mv, aws, z6, z7, z8, z9, z10, z12, rfl, L, hn⟩, k⟩ := q
  have big : 100000 < sizeLine := by rw [sizeLine_eq]; omega
  obtain ⟨n, en⟩ : ∃ n : Nat, l * (b : Int) = (n : Int) := Int.eq_ofNat_of_zero_le (Int.mul_nonneg (by have := L.s.l0; omega) (by omega))
  have hlb := L.s.lb
  have hemp := List.append_eq_nil_iff.mp (List.Perm.eq_nil L.pk)
  obtain ⟨hm0, hw0⟩ := hemp
  subst hw0
  have hsl : sal.length = 12 := by rw [L.s.ps.length_eq]; exact hn
  walk_at "go"
  refine ⟨h, n, by rw [en]; rfl, L.s.hand, by omega, fun H1 t ws f1 hh1 hc1 ht hwl hn1 hn2 hrg => ?_⟩
  have L1 := L.draw f1 hh1 hc1
  obtain ⟨bs, htb, hbs⟩ := ht
  have hA : AllW l b ws := ⟨hn1, hn2, fun w hw => by
    have := hrg w hw
    unfold InR
    rw [en]
    exact this, by omega⟩
  refine g_iT (SqT.of htb) ?_
  refine for_it walk_tup (fun i σ H' => ∃ (d : Addr) (mp m : Wy) (mv : Int) (z12 : Option V),
      σ = [some scr, some (.ref h), some (.ref sz), some (.int (l * b)), some (.ref o), some (.ref aw), z6, z7, z8, z9, z10, some (.ref x), z12, none] ∧ Pt H' sz (l, (b : Int)) ∧ SLaw (cL K) Tb H' x d o la wy h l b al sal mp m mv ∧
      Lp H' aw [] ∧ Prs H' bs ws ∧ H' t = some (.tup (bs.map V.ref)) ∧ (m.map (·.1)).Perm (ws.take i) ∧ handCells H' h = handCells H1 h)
    ⟨d, mp, m, mv, z12, rfl, L1.sz_, L1.s, L1.aw_, hbs, htb, by rw [hm0]; simp, rfl⟩ (fun i σ H' hi hv => by
      obtain ⟨d, mp, m, mv, z12, _, _, _, _, _, hc, _⟩ := hv
      exact SqT.of hc) (fun i y σ H2 H3 hi hv yy => ?_) (fun σ H2 hv => ?_)
  · obtain ⟨d, mp, m, mv, z12, rfl, hsz, S, haw, hbs2, ht2, hpk, hcc⟩ := hv
    obtain ⟨rfl, hy⟩ := yy
    obtain ⟨c, rfl, hc⟩ := refs_at hy
    obtain ⟨w, hw, hwt⟩ := hbs2.at_ hc
    have htk : ws.take (i + 1) = ws.take i ++ [w] := by rw [List.take_succ, hw]; rfl
    have A : AllW l b (m.map (·.1) ++ [w]) := (hA.sub (List.take_sublist (i + 1) ws)).perm (by rw [htk]; exact hpk.append_right _)
    have hfl : full l b (m.map (·.1) ++ [w]) sal.length = none := full_never S.l0 (by have := S.l1; omega) A.n1 A.n2
    obtain ⟨_, ho, _⟩ := S.law.ob
    obtain ⟨_, _, _, hob, _, _⟩ := S.laid.ob
    obtain ⟨ba, haw1, haw2⟩ := haw
    have n1 : aw ∉ [x, o, wy] := by simpa using ⟨ne_of haw1 hob (fun z => nomatch z), ne_of haw1 ho (fun z => nomatch z), ne_of haw1 S.law.wy_ (fun z => nomatch z)⟩
    walk_at "go"
    refine S.told A rfl rfl hwt (fun H4 r4 d4 mp4 f4 fin4 law4 hr4 => ?_)
    walk_at "go"
    refine S.lputs A law4 (f4.tup hwt) (fun H5 r5 f5 law5 hr5 => ?_)
    obtain ⟨S5, g5, c5⟩ := fin4 H5 f5 law5
    refine ne_out (f5.tup hr4) hr5 ?_
    rw [stp_told (s := false) hfl] at S5
    walk_at "go"
    refine ⟨d4, mp4, _, _, _, rfl, g5.tup hsz, S5, ⟨ba, g5.lst n1 haw1, haw2.fn g5⟩, hbs2.fn g5, g5.tup ht2, ?_, c5.trans hcc⟩
    rw [newM_keys, htk]
    exact hpk.append_right _
  · obtain ⟨d, mp, m, mv, z12, rfl, hsz, S, haw, hbs2, ht2, hpk, hcc⟩ := hv
    rw [List.take_of_length_le (by rw [List.length_map, hbs2.len]; exact Nat.le_refl _)] at hpk
    exact k ws _ _ ⟨hA, by rw [en, hwl], scr, h, sz, o, aw, x, d, la, wy, al, sal, mp, m, mv, [], z6, z7, z8, z9, z10, z12, rfl, ⟨hsz, S, haw, by rw [List.append_nil]; exact hpk, L.n1, L.n2, by rw [hcc]; exact L1.n3⟩, trivial⟩
end
section
variable {P : Program} {w : World} {K : PySem.W.Frag} {mg : Str → Option Value} {base : Heap} (T : Tx K mg) (N : TxN K) (Dt : ToldC K mg) {Pc : Addr}
include T N Dt in
theorem ok_law {f : Addr} {fd : FuncData} (F : FnP K "law" "law" sLaw f fd) (TB : ∀ c, (∃ oc od fdd osl, K.lookup f = some ⟨oc, od, .func fdd, osl⟩ ∧ fdd.code = .ref c) → LamX.TabB base mg c Pc)
    (c__law_hand : Cal P w K mg base CX0 1 "_law_hand" ["_law_script"] (spHand K)) (c__law_sizes : Cal P w K mg base CX0 2 "_law_sizes" ["_law_hand_here"] spSizes) (c__law_wishes : Cal P w K mg base CX0 2 "_law_wishes" ["_law_hand_here", "_law_many", "_law_most"] spWishes) (c__law_laid : Cal P w K mg base CX0 1 "_law_laid" ["_law_sizes_here", "_law_alive"] spLLaid) (c__law_put : Cal P w K mg base CX0 3 "_law_put" ["_law_own", "_law_wish"] spLPut) (c__law_lost : Cal P w K mg base CX0 4 "_law_lost" ["_law_own", "_law_plane"] spLost) (c__law_is_so : Cal P w K mg base CX0 3 "_law_is_so" ["_law_laid_here", "_law_own"] (spIsSo (cL K))) (c__law_draw : Cal P w K mg base CX0 1 "_law_draw" ["_law_hand_here", "_law_many"] spDraw) (c_Laid_init : CalC P w K mg base CX0 5 "Laid" (cL K) ["self", "sizes", "alive"] (spLaidInit (cL K))) (c_Laid_put : CalM P w K mg base (L2.CX P w) 6 (cL K) "put" ["self", "wish"] (spPut (cL K) (cN K))) (c_Laid_lose : CalM P w K mg base CX0 6 (cL K) "lose" ["self", "plane"] (spLose (cL K))) (c_Laid_back : CalM P w K mg base CX0 3 (cL K) "back" ["self", "plane"] (spBack (cL K))) (c_Laid_drop : CalM P w K mg base CX0 4 (cL K) "drop" ["self", "wish"] (spDrop (cL K))) : FnOk P w K mg base CX0 15 f fd ["_law_script"] (spLaw K Pc) := by
  obtain ⟨oc, od, dV, kV, doc, pm, an, cdv, ct, osl, rfl, lk, hcd, _, _⟩ := F.ex
  obtain ⟨Cc, hcode⟩ := He.codeIn_ref hcd
  have TBc := TB Cc ⟨_, _, _, _, lk, hcode⟩
  refine fn_of (N := lawN) lk hcd scLaw (fun vs H Q E h => ?_) (fun A outer s0 H vs Q E hr h => ?_)
  · obtain ⟨a, ns, rfl, _⟩ := h; rfl
  · obtain ⟨a, ns, rfl, hs, hPc, k⟩ := h
    have big : 100000 < sizeLine := by rw [sizeLine_eq]; omega
    refine ⟨_, PSs.nox (pss_cons (ps_set (i := 1) scLaw.nd rfl (Or.inl rfl) (pe_callF c__law_hand hr (by decide) (by rfl) (pa_cons (pv 0) pa_nil))) (pss_cons (ps_set (i := 2) scLaw.nd rfl (Or.inl rfl) (pe_callF c__law_sizes hr (by decide) (by rfl) (pa_cons (pv 1) pa_nil))) (pss_cons (ps_set (i := 3) scLaw.nd rfl (Or.inl rfl) (pe_op op_mul (pe_ix (ix_tupK K rfl) (pv 2) pe_int (fun _ _ => rfl)) (pe_ix (ix_tupK K rfl) (pv 2) pe_int (fun _ _ => rfl)))) (pss_cons (ps_asg (pe_tup (pa_cons (pe_makeF c_Laid_init hr (by decide) (by rfl) (pa_cons (pv 2) (pa_cons (pe_tupRgF rfl (by rfl) T.z_tuple (prg_1 (by rfl) T.z_range pe_int)) pa_nil))) (pa_cons (pe_callF c__law_laid hr (by decide) (by rfl) (pa_cons (pv 2) (pa_cons (pe_listRg rfl (by rfl) T.z_list (prg_1 (by rfl) T.z_range pe_int)) pa_nil))) (pa_cons (pe_lst pa_nil) pa_nil)))) (pg_tupK K rfl (n := 3) (by rfl) (pgs_cons (pg_name (i := 11) scLaw.nd rfl (Or.inr rfl)) (pgs_cons (pg_name (i := 4) scLaw.nd rfl (Or.inr rfl)) (pgs_cons (pg_name (i := 5) scLaw.nd rfl (Or.inl rfl)) pgs_nil)))))
      (pss_cons (k4 (P := P) (w := w) (base := base) (Tb := [(Pc, (LX P w K mg base f cdv A outer s0 H E).env.qual ++ "<lambda>")]) T N Dt TBc hcode rfl hr c__law_wishes c__law_put c_Laid_put)
      (pss_cons (ps_for PassesOwn.never rfl (pi_range1 (by rfl) T.z_range (pa_cons pe_int pa_nil)) (pg_name (i := 6) scLaw.nd rfl (Or.inl rfl))
        (pss_cons (k50 (Tb := [(Pc, (LX P w K mg base f cdv A outer s0 H E).env.qual ++ "<lambda>")]) T hr c__law_draw c__law_lost c__law_is_so c_Laid_lose)
        (pss_cons (k51 (Tb := [(Pc, (LX P w K mg base f cdv A outer s0 H E).env.qual ++ "<lambda>")]) T N Dt TBc hcode rfl hr c__law_draw c__law_put c_Laid_put c_Laid_back)
        (pss_cons (k52 (R := fun _ => True) (Tb := [(Pc, (LX P w K mg base f cdv A outer s0 H E).env.qual ++ "<lambda>")]) T N Dt TBc hcode rfl hr c__law_draw c__law_put c_Laid_put c_Laid_drop)
        (pss_one (k53 (R := fun _ => True) (Tb := [(Pc, (LX P w K mg base f cdv A outer s0 H E).env.qual ++ "<lambda>")]) T hr c__law_is_so))))))
      (pss_one (ps_ret pe_bl)))))))), ?_⟩
    have tb0 : LamX.Tabs [(Pc, (LX P w K mg base f cdv A outer s0 H E).env.qual ++ "<lambda>")] H := fun p hp => by
      obtain rfl := List.mem_singleton.mp hp
      exact LamX.TabS.nil hPc
    generalize [(Pc, (LX P w K mg base f cdv A outer s0 H E).env.qual ++ "<lambda>")] = Tb at tb0 ⊢
    walk_at "go"
    refine ⟨a, ns, rfl, trivial, hs, fun H1 h s1 hn1 hn2 hh1 => ?_⟩
    walk_at "go"
    refine ⟨h, rfl, hh1, fun H2 sz l b f2 hh2 hc2 hsz l0 l1 b0 lb => ?_⟩
    have tb2 : LamX.Tabs Tb H2 := tabs_fr (tb0.ext fun b o e => s1 b o e) f2 (by
      obtain ⟨_, hx⟩ := hh1.lst
      simpa using plain_of hx (fun _ z => nomatch z) (fun _ z => nomatch z))
    have b12 : (b : Int) ≤ 12 := by
      have := Int.mul_le_mul_of_nonneg_right (show (1 : Int) ≤ l by omega) (show (0 : Int) ≤ (b : Int) by omega)
      omega
    clear tb0 hn1 hn2 s1 f2 hc2 hPc hs
    walk_at "go"
    refine g_I (C := CMul) (.inl ⟨by omega, by omega⟩) ?_
    walk_at "go"
    refine g_rgT ?_
    refine g_rg1 ?_
    walk_at "go"
    refine ⟨_, rfl, RgOk.of_le (by omega) (by omega) (by omega) (by omega), fun q1 oq hq1 hoq => ?_⟩
    walk_at "go"
    intro x dx hx hdx hne
    have hqf : Ft (upd H2 q1 (.frz oq (.tup (rgV 0 12)))) q1 ((nums 12).map V.int) := ⟨oq, hoq, by
      have e := rg_nums 12
      rw [upd_same]
      exact congrArg (fun z => some (HO.frz oq (.tup z))) e⟩
    have s3 : Same H2 (upd H2 q1 (.frz oq (.tup (rgV 0 12)))) := same_new hq1
    generalize (upd H2 q1 (.frz oq (.tup (rgV 0 12)))) = H3 at s3 hqf hx hdx ⊢
    have s4 : Same H3 (upd (upd H3 dx (.own x)) x (.ins (cL K) dx [])) := same_snoc (same_new hdx) (by rw [upd_ne (Ne.symm hne)]; exact hx)
    have hx4 : (upd (upd H3 dx (.own x)) x (.ins (cL K) dx [])) x = some (.ins (cL K) dx []) := upd_same
    generalize (upd (upd H3 dx (.own x)) x (.ins (cL K) dx [])) = H4 at s4 hx4 ⊢
    refine ⟨x, sz, q1, dx, l, b, nums 12, rfl, hx4, s4 _ _ (s3 _ _ hsz), (Fr.of_same (W := []) s4).ft hqf, ⟨l0, l1⟩, ⟨by omega, by omega⟩, lb, nums_lt 12, fun n hn => by
      obtain ⟨i, hi, rfl⟩ := mem_nums.mp hn
      omega, fun H5 d f5 hd hl5 => ⟨rfl, ?_⟩⟩
    have hx2 : H2 x = none := same_none s3 hx
    have f25 : Fr [x] H2 H5 := (Fr.of_same (s3.trans s4)).trans f5
    have nx : ∀ y u, H2 y = some u → y ≠ x := fun y u e => ne_of_none e hx2
    obtain ⟨_, hhl⟩ := hh2.lst
    obtain ⟨_, _, hhc⟩ := hh2.cells
    obtain ⟨hh5, hc5⟩ := hh2.fr f25 (by simpa using nx _ _ hhl) (by simpa using nx _ _ hhc)
    have tb5 : LamX.Tabs Tb H5 := tabs_fr tb2 f25 (by simpa using plain_none hx2)
    have hsz5 := f25.tup hsz
    clear hqf s3 s4 hx4 f5 hd hx hdx hne hx2 nx tb2 f25 hhl hhc hq1 hoq
    walk_at "go"
    refine g_rgL ?_
    refine g_rg1 ?_
    walk_at "go"
    refine ⟨_, rfl, RgOk.of_le (by omega) (by omega) (by omega) (by omega), fun q2 hq2 => ?_⟩
    have s6 : Same H5 (upd H5 q2 (.lst (rgV 0 12))) := same_new hq2
    have hq6 : (upd H5 q2 (.lst (rgV 0 12))) q2 = some (.lst ((nums 12).map V.int)) := by
      have e := rg_nums 12
      rw [upd_same]
      exact congrArg (fun z => some (HO.lst z)) e
    generalize (upd H5 q2 (.lst (rgV 0 12))) = H6 at s6 hq6 ⊢
    walk_at "go"
    refine ⟨sz, q2, l, b, nums 12, rfl, s6 _ _ hsz5, hq6, fun H7 o la wy s7 ho hla hwy hw7 => ?_⟩
    have s57 := s6.trans s7
    walk_at "go"
    rename_i aw haw p9 hp9
    have s79 := (same_new (o := .lst []) haw).trans (same_new (o := .tup [.ref x, .ref o, .ref aw]) hp9)
    have s59 := s57.trans s79
    obtain ⟨hh9, hc9⟩ := hh5.fr (W := []) (Fr.of_same s59) (by simp) (by simp)
    obtain ⟨_, hhl⟩ := hh5.lst
    obtain ⟨_, _, hhc⟩ := hh5.cells
    have n7 : ∀ y u, H7 y = some u → aw ≠ y := fun y u e => Ne.symm (ne_of_none e haw)
    have n6 : ∀ z y u, H6 z = none → H5 y = some u → z ≠ y := fun z y u e1 e2 => Ne.symm (ne_of_none (s6 _ _ e2) e1)
    have haw9 := same_new (o := .tup [.ref x, .ref o, .ref aw]) hp9 aw (.lst []) upd_same
    refine ⟨l, b, ⟨_, h, sz, o, aw, x, d, la, wy, nums 12, nums 12, [], [], 0, [], _, _, _, _, _, _, rfl, ⟨s59 _ _ hsz5, ⟨hl5.same s59, hw7.same s79, hh9, tb5.ext fun b o e => s59 b o e, .refl _, .refl _, (nums_lt 12).imp fun h => Int.le_of_lt h,
      ⟨⟨by simp, (fun e he => by cases he), ⟨List.nodup_nil, (fun e he => by cases he)⟩⟩, nums_nodup 12, by simp, (fun w hw => by cases hw)⟩, by omega, l1, by omega, fun n hn => by
        obtain ⟨i, hi, rfl⟩ := mem_nums.mp hn
        omega, by simp, lb, Ne.symm (n6 _ _ _ hwy hl5.pl), n6 _ _ _ hla hhl, by rw [hc9]; exact n6 _ _ _ hla hhc⟩, ⟨[], haw9, Prs.nil⟩, .refl _, n7 _ _ hw7.al_, n7 _ _ (s57 _ _ hhl), by rw [hc9]; exact n7 _ _ (s57 _ _ hhc)⟩, rfl⟩, fun all σ' H' G => ?_⟩
    clear hh9 hc9 hhl hhc n7 n6 haw9 s59 s79 hp9 haw hw7 hwy hla ho s7 s57 hq6 s6 hq2 tb5 hsz5 hl5 hh5 hc5 hh2 hh1 hsz
    walk_at "go"
    refine g_ir1 (by omega) (by omega) ?_
    refine for_it walk_range (fun i σ H' => LG (cL K) Tb (fun _ => True) l b all σ H') G (fun _ _ _ _ _ => trivial) (fun i y σ H2 H3 hi G yy => ?_) (fun σ H2 G => ?_)
    · obtain ⟨rfl, rfl⟩ := yy
      obtain ⟨hA, hlen, scr, h, sz, o, aw, x, d, la, wy, al, sal, mp, m, mv, aws, z6, z7, z8, z9, z10, z12, rfl, L, hn⟩ := G
      walk_at "go"
      exact ⟨l, b, all, ⟨hA, hlen, scr, h, sz, o, aw, x, d, la, wy, al, sal, mp, m, mv, aws, _, z7, z8, z9, z10, z12, rfl, L, trivial⟩, fun σ2 H2 G2 => ⟨l, b, all, G2, fun σ3 H3 G3 => ⟨l, b, all, G3, fun σ4 H4 G4 => ⟨l, b, all, G4, fun σ5 H5 G5 => G5⟩⟩⟩⟩
    · walk_at "go"
      exact k _
end
end Kx
set_option maxHeartbeats 0
namespace Kx
open PySem PySem.Spec PyProof.Rows L2
open PySem.HandSPX (refsVE)
/-- an own error's class that is made by its own __init__ -/
def errB (K : PySem.W.Frag) (C : Addr) : Bool := match K.lookup C with
  | some ⟨.type "type", _, .cls cd, sl⟩ => (match cd.mro, sl.toList with
    | .ref C' :: bm, [_, _, _, _, some (.builtin n), _] => C' == C && n == "ValueError.__new__" && !cd.hasDel && cd.hasDict && refsVE bm
    | _, _ => false)
  | _ => false
def initAt (K : PySem.W.Frag) (C : Addr) : Addr := match PySem.W.findIn K (.ref C) "__init__" with
  | some (some (.ref a)) => a
  | _ => 0
def exB (K : PySem.W.Frag) : Bool :=
  errB K (He.ga K "NoWay") && decide (PySem.W.findIn K (.ref (He.ga K "NoWay")) "__setattr__" = some (some (.builtin "object.__setattr__"))) &&
  decide (PySem.W.subIn K (.ref (He.ga K "NoWay")) (.type "BaseException") = some true) && decide (PySem.W.typeIn K (.ref (He.ga K "NoWay")) = some (.type "type")) &&
  decide (PySem.W.findIn K (.ref (He.ga K "NoWay")) "__init__" = some (some (.ref (He.ma K (He.ga K "NoWay") "__init__")))) &&
  decide (PySem.W.typeIn K (.ref (He.ma K (He.ga K "NoWay") "__init__")) = some (.type "function")) && L2.xfB K (He.ga K "NoWay")
def d0 : He.DefD := ⟨("is_integer", none), "is_integer", "is_integer", defArgs sIsInteger, defBody sIsInteger, defScope sIsInteger, [], []⟩
def d1 : He.DefD := ⟨("is_within", none), "is_within", "is_within", defArgs sIsWithin, defBody sIsWithin, defScope sIsWithin, [], []⟩
def d2 : He.DefD := ⟨("is_pair", none), "is_pair", "is_pair", defArgs sIsPair, defBody sIsPair, defScope sIsPair, [], []⟩
def d3 : He.DefD := ⟨("is_lot", none), "is_lot", "is_lot", defArgs sIsLot, defBody sIsLot, defScope sIsLot, [], []⟩
def d4 : He.DefD := ⟨("NoWay", some "__init__"), "__init__", "NoWay.__init__", defArgs sNoWayInit, defBody sNoWayInit, defScope sNoWayInit, [], []⟩
def d5 : He.DefD := ⟨("is_tie", none), "is_tie", "is_tie", defArgs sIsTie, defBody sIsTie, defScope sIsTie, [], []⟩
def d6 : He.DefD := ⟨("ends_of", none), "ends_of", "ends_of", defArgs sEndsOf, defBody sEndsOf, defScope sEndsOf, [], []⟩
def d7 : He.DefD := ⟨("Paint", some "__init__"), "__init__", "Paint.__init__", defArgs sPaintInit, defBody sPaintInit, defScope sPaintInit, [], []⟩
def d8 : He.DefD := ⟨("Paint", some "least_free"), "least_free", "Paint.least_free", defArgs sLeastFree, defBody sLeastFree, defScope sLeastFree, [], []⟩
def d9 : He.DefD := ⟨("Paint", some "row_from"), "row_from", "Paint.row_from", defArgs sRowFrom, defBody sRowFrom, defScope sRowFrom, [], []⟩
def d10 : He.DefD := ⟨("Paint", some "exchange"), "exchange", "Paint.exchange", defArgs sExchange, defBody sExchange, defScope sExchange, [], []⟩
def d11 : He.DefD := ⟨("Paint", some "add"), "add", "Paint.add", defArgs sAdd, defBody sAdd, defScope sAdd, [], []⟩
def d12 : He.DefD := ⟨("added", none), "added", "added", defArgs sAdded, defBody sAdded, defScope sAdded, [], []⟩
def d13 : He.DefD := ⟨("check_sizes", none), "check_sizes", "check_sizes", defArgs sCheckSizes, defBody sCheckSizes, defScope sCheckSizes, [], []⟩
def d14 : He.DefD := ⟨("check_planes", none), "check_planes", "check_planes", defArgs sCheckPlanes, defBody sCheckPlanes, defScope sCheckPlanes, [], []⟩
def d15 : He.DefD := ⟨("boxes_of", none), "boxes_of", "boxes_of", defArgs sBoxesOf, defBody sBoxesOf, defScope sBoxesOf, [], []⟩
def d16 : He.DefD := ⟨("full_box", none), "full_box", "full_box", defArgs sFullBox, defBody sFullBox, defScope sFullBox, [], []⟩
def d17 : He.DefD := ⟨("check_room", none), "check_room", "check_room", defArgs sCheckRoom, defBody sCheckRoom, defScope sCheckRoom, [], []⟩
def d18 : He.DefD := ⟨("Laid", some "__init__"), "__init__", "Laid.__init__", defArgs sLaidInit, defBody sLaidInit, defScope sLaidInit, [], []⟩
def d19 : He.DefD := ⟨("Laid", some "check_wish"), "check_wish", "Laid.check_wish", defArgs sCheckWish, defBody sCheckWish, defScope sCheckWish, [], []⟩
def d20 : He.DefD := ⟨("Laid", some "check_plane"), "check_plane", "Laid.check_plane", defArgs sCheckPlane, defBody sCheckPlane, defScope sCheckPlane, [], []⟩
def d21 : He.DefD := ⟨("Laid", some "lay"), "lay", "Laid.lay", defArgs sLay, defBody sLay, defScope sLay, [], []⟩
def d22 : He.DefD := ⟨("Laid", some "put"), "put", "Laid.put", defArgs sPut, defBody sPut, defScope sPut, [], []⟩
def d23 : He.DefD := ⟨("Laid", some "drop"), "drop", "Laid.drop", defArgs sDrop, defBody sDrop, defScope sDrop, [], []⟩
def d24 : He.DefD := ⟨("Laid", some "lose"), "lose", "Laid.lose", defArgs sLose, defBody sLose, defScope sLose, [], []⟩
def d25 : He.DefD := ⟨("Laid", some "back"), "back", "Laid.back", defArgs sBack, defBody sBack, defScope sBack, [], []⟩
def d26 : He.DefD := ⟨("Laid", some "laid"), "laid", "Laid.laid", defArgs sLaid, defBody sLaid, defScope sLaid, [], []⟩
def d27 : He.DefD := ⟨("Laid", some "alive"), "alive", "Laid.alive", defArgs sAlive, defBody sAlive, defScope sAlive, [], []⟩
def d28 : He.DefD := ⟨("Laid", some "moved"), "moved", "Laid.moved", defArgs sMoved, defBody sMoved, defScope sMoved, [], []⟩
def d29 : He.DefD := ⟨("_law_hand", none), "_law_hand", "_law_hand", defArgs sHand, defBody sHand, defScope sHand, [], []⟩
def d30 : He.DefD := ⟨("_law_draw", none), "_law_draw", "_law_draw", defArgs sDraw, defBody sDraw, defScope sDraw, [], []⟩
def d31 : He.DefD := ⟨("_law_sizes", none), "_law_sizes", "_law_sizes", defArgs sSizes, defBody sSizes, defScope sSizes, [], []⟩
def d32 : He.DefD := ⟨("_law_wishes", none), "_law_wishes", "_law_wishes", defArgs sWishes, defBody sWishes, defScope sWishes, [], []⟩
def d33 : He.DefD := ⟨("_law_boxes", none), "_law_boxes", "_law_boxes", defArgs sBoxes, defBody sBoxes, defScope sBoxes, [], []⟩
def d34 : He.DefD := ⟨("_law_full", none), "_law_full", "_law_full", defArgs sFull, defBody sFull, defScope sFull, [], []⟩
def d35 : He.DefD := ⟨("_law_are_ways", none), "_law_are_ways", "_law_are_ways", defArgs sAreWays, defBody sAreWays, defScope sAreWays, [], []⟩
def d36 : He.DefD := ⟨("_law_told", none), "_law_told", "_law_told", defArgs sTold, defBody sTold, defScope sTold, [], []⟩
def d37 : He.DefD := ⟨("_law_row", none), "_law_row", "_law_row", defArgs sRow, defBody sRow, defScope sRow, [], []⟩
def d38 : He.DefD := ⟨("_law_put_in", none), "_law_put_in", "_law_put_in", defArgs sPutIn, defBody sPutIn, defScope sPutIn, [], []⟩
def d39 : He.DefD := ⟨("_law_laid", none), "_law_laid", "_law_laid", defArgs sLLaid, defBody sLLaid, defScope sLLaid, [], []⟩
def d40 : He.DefD := ⟨("_law_put", none), "_law_put", "_law_put", defArgs sLPut, defBody sLPut, defScope sLPut, [], []⟩
def d41 : He.DefD := ⟨("_law_lost", none), "_law_lost", "_law_lost", defArgs sLost, defBody sLost, defScope sLost, [], []⟩
def d42 : He.DefD := ⟨("_law_is_so", none), "_law_is_so", "_law_is_so", defArgs sIsSo, defBody sIsSo, defScope sIsSo, [], []⟩
def d43 : He.DefD := ⟨("law", none), "law", "law", defArgs sLaw, defBody sLaw, defScope sLaw, [], []⟩
def fn : List He.DefD := [d0, d1, d2, d3, d4, d5, d6, d7, d8, d9, d10, d11, d12, d13, d14, d15, d16, d17, d18, d19, d20, d21, d22, d23, d24, d25, d26, d27, d28, d29, d30, d31, d32, d33, d34, d35, d36, d37, d38, d39, d40, d41, d42, d43]

def fa0 : List He.Fa := [.glo "is_integer", .glo "is_within", .glo "is_pair", .glo "is_lot", .glo "NoWay", .glo "is_tie", .glo "ends_of", .glo "Paint", .glo "added", .glo "check_sizes", .glo "check_planes", .glo "boxes_of", .glo "full_box", .glo "check_room", .glo "Laid", .glo "_law_hand", .glo "_law_draw", .glo "_law_sizes", .glo "_law_wishes", .glo "_law_boxes", .glo "_law_full", .glo "_law_are_ways", .glo "_law_told", .glo "_law_row", .glo "_law_put_in", .glo "_law_laid", .glo "_law_put", .glo "_law_lost", .glo "_law_is_so", .glo "law"]
def fa1 : List He.Fa := [.free "isinstance", .free "int", .free "bool", .free "tuple", .free "len", .free "list", .free "enumerate", .free "range", .free "any", .free "sorted", .free "zip", .free "abs", .free "min", .free "set", .free "all", .free "ValueError", .int "MOST_LINES" 12, .int "MOST_PLANES" 12, .cls "Paint", .cls "Laid", .noat "Paint" "kept_ties", .noat "Paint" "kept_colours", .noat "Paint" "kept_at", .noat "Laid" "kept_sizes", .noat "Laid" "kept_alive", .noat "Laid" "kept_planes", .noat "Laid" "kept_moved", .noat "NoWay" "side", .noat "NoWay" "box", .meth "Paint" "least_free"]
def fa2 : List He.Fa := [.meth "Paint" "row_from", .meth "Paint" "exchange", .meth "Paint" "add", .meth "Laid" "check_wish", .meth "Laid" "check_plane", .meth "Laid" "lay", .meth "Laid" "put", .meth "Laid" "drop", .meth "Laid" "lose", .meth "Laid" "back", .meth "Laid" "laid", .meth "Laid" "alive", .meth "Laid" "moved", .mkr "Paint", .mkr "Laid", .exm "NoWay" "NoWay" true, .keep "NoWay"]
def fa : List He.Fa := fa0 ++ fa1 ++ fa2
def loose0 : List PySem.Str := ["_wall", "is_integer", "is_within", "is_pair", "is_lot", "FabricError", "NoPlane", "NoSizes", "NoPlanes", "NoWish", "Barred", "NoWay", "is_tie", "ends_of", "Paint", "added", "MOST_LINES", "MOST_PLANES", "check_sizes", "check_planes", "boxes_of", "full_box", "check_room", "Laid", "_law_hand", "_law_draw", "_law_sizes", "_law_wishes", "_law_boxes", "_law_full"]
def loose1 : List PySem.Str := ["_law_are_ways", "_law_told", "_law_row", "_law_put_in", "_law_laid", "_law_put", "_law_lost", "_law_is_so"]
def loose : List PySem.Str := loose0 ++ loose1
abbrev R : PySem.W.OpenRow := PySem.W.OpenLaw.row PySem.Challenge.rw_exactbeats_k51_whole_planes_lost_and_bac
def tf : List He.Defn := [("law", none)]
abbrev hk : PySem.W.Hook := He.hookX 6 fa fn [] tf exB
def ob (s : PySem.W.SharedT) : He.AlX := He.obsX 6 fa fn [] tf exB (HandSHeadRun.getT s)
theorem run (w : World) : HandSHeadRun.RunEq R (PySem.W.view R.prog [44]) hk ob 6000 loose w := by
  intro os
  kernel_rfl
end Kx
set_option maxHeartbeats 4000000
namespace Kx
open PySem PySem.Spec PyProof.Rows L2
theorem ob_eq (s : PySem.W.SharedT) : ob s = hk.obs s.abs := He.obsX_eq (HandSHeadRun.getT_eq s)
section
variable {P : Program} {w : World} {K : PySem.W.Frag} {mg : Str → Option Value} {base : Heap} {CX : CXT} {k : Nat} {x qual m : Str} {st : Stmt} {fd : FuncData} {ps : List Str} {sp : Sp} {f C : Addr}
theorem cal_of {y : Str} {params : Arguments} {body : List Stmt} {scope : Scope} {dvs : List V} {kws : List (Str × V)} (F : FunD K y qual params body scope dvs kws f fd) (hm : mg x = some (.ref f)) (hb : Binds K fd ps []) (ok : FnOk P w K mg base CX k f fd ps sp) : Cal P w K mg base CX k x ps sp := ⟨_, _, hm, F.kp, hb, ok⟩
theorem calm_of (hm : Meth K C m f) (hb : Binds K fd ps []) (ok : FnOk P w K mg base CX k f fd ps sp) : CalM P w K mg base CX k C m ps sp := ⟨_, _, hm, hb, ok⟩
theorem calc_of (hm : mg x = some (.ref C)) (hk : Mk K C f) (hb : Binds K fd ps []) (ok : FnOk P w K mg base CX k f fd ps sp) : CalC P w K mg base CX k x C ps sp := ⟨_, _, hm, hk, hb, ok⟩
end
section
variable {P : Program} {w : World} {K : PySem.W.Frag} {mg : Str → Option Value} {h : Heap}
theorem err_cls (e : errB K (cN K) = true) : ∃ nm q N bs bm sn sub ab col dd k0 k1 k2 k3 k5, K.lookup (cN K) = some (excClassObj nm q (cN K) N bs bm true sn sub ab col dd k0 k1 k2 k3 k5 "ValueError.__new__") ∧ PySem.HandSPX.refsVE bm = true := by
  unfold errB at e
  split at e
  · rename_i dd cd sl hk
    split at e
    · rename_i C' bm k0 k1 k2 k3 n k5 hm hs
      simp only [Bool.and_eq_true, beq_iff_eq, Bool.not_eq_true'] at e
      obtain ⟨⟨⟨⟨e1, e2⟩, e3⟩, e4⟩, e5⟩ := e
      obtain ⟨nm, bs, mro, ns, qn, hd, sn, sb, ab, col, del⟩ := cd
      dsimp only at hm e3 e4
      subst e3 e4 e2 hm
      have es : sl = #[k0, k1, k2, k3, some (.builtin "ValueError.__new__"), k5] := Array.toList_inj.mp hs
      subst es
      refine ⟨nm, qn, ns, bs, bm, sn, sb, ab, col, dd, k0, k1, k2, k3, k5, ?_, e5⟩
      rw [hk, e1]
    · cases e
  · cases e
theorem facts_N (e : exB K = true) (kN : PySem.W.keepIn K (.ref (cN K)) = true) : TxN K := by
  unfold exB at e
  simp only [Bool.and_eq_true, decide_eq_true_eq] at e
  obtain ⟨⟨⟨⟨⟨⟨h1, h2⟩, h3⟩, h4⟩, h5⟩, h6⟩, h7⟩ := e
  exact ⟨⟨err_cls h1, h2, h3, h4, kN⟩, h5, h6, xfB_ok h7⟩
theorem facts_T (X : K.In h) (G : h.Ns mainGlobals mg) (c : He.SaysD fa fn K) : Tx K mg :=
  { z_isinstance := He.free_ok X G (c.fact 30 (f := .free "isinstance") rfl),
    z_int := He.free_ok X G (c.fact 31 (f := .free "int") rfl),
    z_bool := He.free_ok X G (c.fact 32 (f := .free "bool") rfl),
    z_tuple := He.free_ok X G (c.fact 33 (f := .free "tuple") rfl),
    z_len := He.free_ok X G (c.fact 34 (f := .free "len") rfl),
    z_list := He.free_ok X G (c.fact 35 (f := .free "list") rfl),
    z_enumerate := He.free_ok X G (c.fact 36 (f := .free "enumerate") rfl),
    z_range := He.free_ok X G (c.fact 37 (f := .free "range") rfl),
    z_any := He.free_ok X G (c.fact 38 (f := .free "any") rfl),
    z_sorted := He.free_ok X G (c.fact 39 (f := .free "sorted") rfl),
    z_zip := He.free_ok X G (c.fact 40 (f := .free "zip") rfl),
    z_abs := He.free_ok X G (c.fact 41 (f := .free "abs") rfl),
    z_min := He.free_ok X G (c.fact 42 (f := .free "min") rfl),
    z_set := He.free_ok X G (c.fact 43 (f := .free "set") rfl),
    z_all := He.free_ok X G (c.fact 44 (f := .free "all") rfl),
    ml := He.int_ok X G (c.fact 46 (f := .int "MOST_LINES" 12) rfl),
    mp := He.int_ok X G (c.fact 47 (f := .int "MOST_PLANES" 12) rfl),
    cl_Paint := He.cls_ok (c.fact 48 (f := .cls "Paint") rfl),
    cl_Laid := He.cls_ok (c.fact 49 (f := .cls "Laid") rfl),
    nP1 := He.noat_ok (c.fact 50 (f := .noat "Paint" "kept_ties") rfl),
    nP2 := He.noat_ok (c.fact 51 (f := .noat "Paint" "kept_colours") rfl),
    nP3 := He.noat_ok (c.fact 52 (f := .noat "Paint" "kept_at") rfl),
    nL1 := He.noat_ok (c.fact 53 (f := .noat "Laid" "kept_sizes") rfl),
    nL2 := He.noat_ok (c.fact 54 (f := .noat "Laid" "kept_alive") rfl),
    nL3 := He.noat_ok (c.fact 55 (f := .noat "Laid" "kept_planes") rfl),
    nL4 := He.noat_ok (c.fact 56 (f := .noat "Laid" "kept_moved") rfl),
    nN1 := He.noat_ok (c.fact 57 (f := .noat "NoWay" "side") rfl),
    nN2 := He.noat_ok (c.fact 58 (f := .noat "NoWay" "box") rfl),
    gN := He.glo_ok X G (c.fact 4 (f := .glo "NoWay") rfl) }
theorem all_ok {Pc : Addr} (X : K.In h) (G : h.Ns mainGlobals mg) (c : He.SaysD fa fn K) (e : exB K = true) : ∃ fd : FuncData, (∀ (s : Shared) (v : Value), BindsTo s fd ⟨[v], []⟩ [("_law_script", v)]) ∧
    ∀ base : Heap, LamX.TabB base mg (He.codeOf K ("law", none)) Pc → FnOk P w K mg base CX0 15 (He.fAd K ("law", none)) fd ["_law_script"] (spLaw K Pc) := by
  have T := facts_T X G c
  have N := facts_N e (He.keep_ok (c.fact 76 (f := .keep "NoWay") rfl))
  obtain ⟨f_is_integer, F_is_integer⟩ := c.def_ 0 (d := d0) rfl
  obtain ⟨f_is_within, F_is_within⟩ := c.def_ 1 (d := d1) rfl
  obtain ⟨f_is_pair, F_is_pair⟩ := c.def_ 2 (d := d2) rfl
  obtain ⟨f_is_lot, F_is_lot⟩ := c.def_ 3 (d := d3) rfl
  obtain ⟨f_NoWay_init, F_NoWay_init⟩ := c.def_ 4 (d := d4) rfl
  obtain ⟨f_is_tie, F_is_tie⟩ := c.def_ 5 (d := d5) rfl
  obtain ⟨f_ends_of, F_ends_of⟩ := c.def_ 6 (d := d6) rfl
  obtain ⟨f_Paint_init, F_Paint_init⟩ := c.def_ 7 (d := d7) rfl
  obtain ⟨f_Paint_least_free, F_Paint_least_free⟩ := c.def_ 8 (d := d8) rfl
  obtain ⟨f_Paint_row_from, F_Paint_row_from⟩ := c.def_ 9 (d := d9) rfl
  obtain ⟨f_Paint_exchange, F_Paint_exchange⟩ := c.def_ 10 (d := d10) rfl
  obtain ⟨f_Paint_add, F_Paint_add⟩ := c.def_ 11 (d := d11) rfl
  obtain ⟨f_added, F_added⟩ := c.def_ 12 (d := d12) rfl
  obtain ⟨f_check_sizes, F_check_sizes⟩ := c.def_ 13 (d := d13) rfl
  obtain ⟨f_check_planes, F_check_planes⟩ := c.def_ 14 (d := d14) rfl
  obtain ⟨f_boxes_of, F_boxes_of⟩ := c.def_ 15 (d := d15) rfl
  obtain ⟨f_full_box, F_full_box⟩ := c.def_ 16 (d := d16) rfl
  obtain ⟨f_check_room, F_check_room⟩ := c.def_ 17 (d := d17) rfl
  obtain ⟨f_Laid_init, F_Laid_init⟩ := c.def_ 18 (d := d18) rfl
  obtain ⟨f_Laid_check_wish, F_Laid_check_wish⟩ := c.def_ 19 (d := d19) rfl
  obtain ⟨f_Laid_check_plane, F_Laid_check_plane⟩ := c.def_ 20 (d := d20) rfl
  obtain ⟨f_Laid_lay, F_Laid_lay⟩ := c.def_ 21 (d := d21) rfl
  obtain ⟨f_Laid_put, F_Laid_put⟩ := c.def_ 22 (d := d22) rfl
  obtain ⟨f_Laid_drop, F_Laid_drop⟩ := c.def_ 23 (d := d23) rfl
  obtain ⟨f_Laid_lose, F_Laid_lose⟩ := c.def_ 24 (d := d24) rfl
  obtain ⟨f_Laid_back, F_Laid_back⟩ := c.def_ 25 (d := d25) rfl
  obtain ⟨f_Laid_laid, F_Laid_laid⟩ := c.def_ 26 (d := d26) rfl
  obtain ⟨f_Laid_alive, F_Laid_alive⟩ := c.def_ 27 (d := d27) rfl
  obtain ⟨f_Laid_moved, F_Laid_moved⟩ := c.def_ 28 (d := d28) rfl
  obtain ⟨f__law_hand, F__law_hand⟩ := c.def_ 29 (d := d29) rfl
  obtain ⟨f__law_draw, F__law_draw⟩ := c.def_ 30 (d := d30) rfl
  obtain ⟨f__law_sizes, F__law_sizes⟩ := c.def_ 31 (d := d31) rfl
  obtain ⟨f__law_wishes, F__law_wishes⟩ := c.def_ 32 (d := d32) rfl
  obtain ⟨f__law_boxes, F__law_boxes⟩ := c.def_ 33 (d := d33) rfl
  obtain ⟨f__law_full, F__law_full⟩ := c.def_ 34 (d := d34) rfl
  obtain ⟨f__law_are_ways, F__law_are_ways⟩ := c.def_ 35 (d := d35) rfl
  obtain ⟨f__law_told, F__law_told⟩ := c.def_ 36 (d := d36) rfl
  obtain ⟨f__law_row, F__law_row⟩ := c.def_ 37 (d := d37) rfl
  obtain ⟨f__law_put_in, F__law_put_in⟩ := c.def_ 38 (d := d38) rfl
  obtain ⟨f__law_laid, F__law_laid⟩ := c.def_ 39 (d := d39) rfl
  obtain ⟨f__law_put, F__law_put⟩ := c.def_ 40 (d := d40) rfl
  obtain ⟨f__law_lost, F__law_lost⟩ := c.def_ 41 (d := d41) rfl
  obtain ⟨f__law_is_so, F__law_is_so⟩ := c.def_ 42 (d := d42) rfl
  obtain ⟨f_law, F_law⟩ := c.def_ 43 (d := d43) rfl
  have b_is_integer : Binds K f_is_integer ["thing"] [] := F_is_integer.bindsN fun _ _ _ _ _ _ us hl => match us, hl with | [_], _ => rfl
  have b_is_within : Binds K f_is_within ["thing", "least", "most"] [] := F_is_within.bindsN fun _ _ _ _ _ _ us hl => match us, hl with | [_, _, _], _ => rfl
  have b_is_pair : Binds K f_is_pair ["thing"] [] := F_is_pair.bindsN fun _ _ _ _ _ _ us hl => match us, hl with | [_], _ => rfl
  have b_is_lot : Binds K f_is_lot ["thing", "many"] [] := F_is_lot.bindsN fun _ _ _ _ _ _ us hl => match us, hl with | [_, _], _ => rfl
  have b_is_tie : Binds K f_is_tie ["thing", "many"] [] := F_is_tie.bindsN fun _ _ _ _ _ _ us hl => match us, hl with | [_, _], _ => rfl
  have b_ends_of : Binds K f_ends_of ["tie"] [] := F_ends_of.bindsN fun _ _ _ _ _ _ us hl => match us, hl with | [_], _ => rfl
  have b_Paint_init : Binds K f_Paint_init ["self", "ties", "colouring"] [] := F_Paint_init.bindsN fun _ _ _ _ _ _ us hl => match us, hl with | [_, _, _], _ => rfl
  have b_Paint_least_free : Binds K f_Paint_least_free ["self", "ends", "colours"] [] := F_Paint_least_free.bindsN fun _ _ _ _ _ _ us hl => match us, hl with | [_, _, _], _ => rfl
  have b_Paint_row_from : Binds K f_Paint_row_from ["self", "end", "one", "other"] [] := F_Paint_row_from.bindsN fun _ _ _ _ _ _ us hl => match us, hl with | [_, _, _, _], _ => rfl
  have b_Paint_exchange : Binds K f_Paint_exchange ["self", "row", "one", "other"] [] := F_Paint_exchange.bindsN fun _ _ _ _ _ _ us hl => match us, hl with | [_, _, _, _], _ => rfl
  have b_Paint_add : Binds K f_Paint_add ["self", "tie", "colours"] [] := F_Paint_add.bindsN fun _ _ _ _ _ _ us hl => match us, hl with | [_, _, _], _ => rfl
  have b_added : Binds K f_added ["web", "colours", "colouring", "pair"] [] := F_added.bindsN fun _ _ _ _ _ _ us hl => match us, hl with | [_, _, _, _], _ => rfl
  have b_check_sizes : Binds K f_check_sizes ["sizes"] [] := F_check_sizes.bindsN fun _ _ _ _ _ _ us hl => match us, hl with | [_], _ => rfl
  have b_check_planes : Binds K f_check_planes ["alive"] [] := F_check_planes.bindsN fun _ _ _ _ _ _ us hl => match us, hl with | [_], _ => rfl
  have b_boxes_of : Binds K f_boxes_of ["sizes", "wish"] [] := F_boxes_of.bindsN fun _ _ _ _ _ _ us hl => match us, hl with | [_, _], _ => rfl
  have b_full_box : Binds K f_full_box ["sizes", "wishes", "many"] [] := F_full_box.bindsN fun _ _ _ _ _ _ us hl => match us, hl with | [_, _, _], _ => rfl
  have b_check_room : Binds K f_check_room ["sizes", "wishes", "many"] [] := F_check_room.bindsN fun _ _ _ _ _ _ us hl => match us, hl with | [_, _, _], _ => rfl
  have b_Laid_init : Binds K f_Laid_init ["self", "sizes", "alive"] [] := F_Laid_init.bindsN fun _ _ _ _ _ _ us hl => match us, hl with | [_, _, _], _ => rfl
  have b_Laid_check_wish : Binds K f_Laid_check_wish ["self", "wish"] [] := F_Laid_check_wish.bindsN fun _ _ _ _ _ _ us hl => match us, hl with | [_, _], _ => rfl
  have b_Laid_check_plane : Binds K f_Laid_check_plane ["self", "plane"] [] := F_Laid_check_plane.bindsN fun _ _ _ _ _ _ us hl => match us, hl with | [_, _], _ => rfl
  have b_Laid_lay : Binds K f_Laid_lay ["self", "wish"] [] := F_Laid_lay.bindsN fun _ _ _ _ _ _ us hl => match us, hl with | [_, _], _ => rfl
  have b_Laid_put : Binds K f_Laid_put ["self", "wish"] [] := F_Laid_put.bindsN fun _ _ _ _ _ _ us hl => match us, hl with | [_, _], _ => rfl
  have b_Laid_drop : Binds K f_Laid_drop ["self", "wish"] [] := F_Laid_drop.bindsN fun _ _ _ _ _ _ us hl => match us, hl with | [_, _], _ => rfl
  have b_Laid_lose : Binds K f_Laid_lose ["self", "plane"] [] := F_Laid_lose.bindsN fun _ _ _ _ _ _ us hl => match us, hl with | [_, _], _ => rfl
  have b_Laid_back : Binds K f_Laid_back ["self", "plane"] [] := F_Laid_back.bindsN fun _ _ _ _ _ _ us hl => match us, hl with | [_, _], _ => rfl
  have b_Laid_laid : Binds K f_Laid_laid ["self"] [] := F_Laid_laid.bindsN fun _ _ _ _ _ _ us hl => match us, hl with | [_], _ => rfl
  have b_Laid_alive : Binds K f_Laid_alive ["self"] [] := F_Laid_alive.bindsN fun _ _ _ _ _ _ us hl => match us, hl with | [_], _ => rfl
  have b_Laid_moved : Binds K f_Laid_moved ["self"] [] := F_Laid_moved.bindsN fun _ _ _ _ _ _ us hl => match us, hl with | [_], _ => rfl
  have b__law_hand : Binds K f__law_hand ["_law_script"] [] := F__law_hand.bindsN fun _ _ _ _ _ _ us hl => match us, hl with | [_], _ => rfl
  have b__law_draw : Binds K f__law_draw ["_law_hand_here", "_law_many"] [] := F__law_draw.bindsN fun _ _ _ _ _ _ us hl => match us, hl with | [_, _], _ => rfl
  have b__law_sizes : Binds K f__law_sizes ["_law_hand_here"] [] := F__law_sizes.bindsN fun _ _ _ _ _ _ us hl => match us, hl with | [_], _ => rfl
  have b__law_wishes : Binds K f__law_wishes ["_law_hand_here", "_law_many", "_law_most"] [] := F__law_wishes.bindsN fun _ _ _ _ _ _ us hl => match us, hl with | [_, _, _], _ => rfl
  have b__law_boxes : Binds K f__law_boxes ["_law_sizes_here", "_law_wish"] [] := F__law_boxes.bindsN fun _ _ _ _ _ _ us hl => match us, hl with | [_, _], _ => rfl
  have b__law_full : Binds K f__law_full ["_law_sizes_here", "_law_wishes_here", "_law_planes"] [] := F__law_full.bindsN fun _ _ _ _ _ _ us hl => match us, hl with | [_, _, _], _ => rfl
  have b__law_are_ways : Binds K f__law_are_ways ["_law_sizes_here", "_law_alive", "_law_wishes_here", "_law_thing"] [] := F__law_are_ways.bindsN fun _ _ _ _ _ _ us hl => match us, hl with | [_, _, _, _], _ => rfl
  have b__law_row : Binds K f__law_row ["_law_lies", "_law_side", "_law_place", "_law_first", "_law_second"] [] := F__law_row.bindsN fun _ _ _ _ _ _ us hl => match us, hl with | [_, _, _, _, _], _ => rfl
  have b__law_put_in : Binds K f__law_put_in ["_law_lies", "_law_pair", "_law_colours"] [] := F__law_put_in.bindsN fun _ _ _ _ _ _ us hl => match us, hl with | [_, _, _], _ => rfl
  have b__law_laid : Binds K f__law_laid ["_law_sizes_here", "_law_alive"] [] := F__law_laid.bindsN fun _ _ _ _ _ _ us hl => match us, hl with | [_, _], _ => rfl
  have b__law_put : Binds K f__law_put ["_law_own", "_law_wish"] [] := F__law_put.bindsN fun _ _ _ _ _ _ us hl => match us, hl with | [_, _], _ => rfl
  have b__law_lost : Binds K f__law_lost ["_law_own", "_law_plane"] [] := F__law_lost.bindsN fun _ _ _ _ _ _ us hl => match us, hl with | [_, _], _ => rfl
  have b__law_is_so : Binds K f__law_is_so ["_law_laid_here", "_law_own"] [] := F__law_is_so.bindsN fun _ _ _ _ _ _ us hl => match us, hl with | [_, _], _ => rfl
  have Dt : ToldC K mg := ⟨⟨_, _, He.glo_ok X G (c.fact 22 (f := .glo "_law_told") rfl), F__law_told⟩, He.exm_ok (c.fact 75 (f := .exm "NoWay" "NoWay" true) rfl)⟩
  refine ⟨f_law, fun s v => F_law.bindsA (ps := ["_law_script"]) (fun _ _ _ _ _ _ us hl => match us, hl with | [_], _ => rfl) s [v] rfl, fun base TB => ?_⟩
  have c_is_integer_g := He.glo_ok X G (c.fact 0 (f := .glo "is_integer") rfl)
  have c_is_integer_ok := ok_is_integer (P := P) (w := w) (base := base) F_is_integer T.z_isinstance T.z_int T.z_bool
  have c_is_integer : Cal P w K mg base CX0 1 "is_integer" ["thing"] spIsInteger := cal_of F_is_integer c_is_integer_g b_is_integer c_is_integer_ok
  have c_is_within : Cal P w K mg base CX0 2 "is_within" ["thing", "least", "most"] spIsWithin := cal_of F_is_within (He.glo_ok X G (c.fact 1 (f := .glo "is_within") rfl)) b_is_within (ok_is_within F_is_within c_is_integer_ok c_is_integer_g F_is_integer.kp b_is_integer)
  have c_is_pair : Cal P w K mg base CX0 1 "is_pair" ["thing"] spIsPair := cal_of F_is_pair (He.glo_ok X G (c.fact 2 (f := .glo "is_pair") rfl)) b_is_pair (ok_is_pair T F_is_pair )
  have c_is_lot : Cal P w K mg base CX0 3 "is_lot" ["thing", "many"] spIsLot := cal_of F_is_lot (He.glo_ok X G (c.fact 3 (f := .glo "is_lot") rfl)) b_is_lot (ok_is_lot T F_is_lot c_is_within)
  have c_is_tie : Cal P w K mg base CX0 3 "is_tie" ["thing", "many"] spIsTie := cal_of F_is_tie (He.glo_ok X G (c.fact 5 (f := .glo "is_tie") rfl)) b_is_tie (ok_is_tie F_is_tie c_is_pair c_is_within)
  have c_ends_of : Cal P w K mg base CX0 1 "ends_of" ["tie"] spEndsOf := cal_of F_ends_of (He.glo_ok X G (c.fact 6 (f := .glo "ends_of") rfl)) b_ends_of (ok_ends_of F_ends_of )
  have c_Paint_init : CalC P w K mg base CX0 2 "Paint" (cP K) ["self", "ties", "colouring"] (spPaintInit (cP K) P w) := calc_of (He.glo_ok X G (c.fact 7 (f := .glo "Paint") rfl)) (He.mkr_ok (c.fact 73 (f := .mkr "Paint") rfl)) b_Paint_init (ok_Paint_init T F_Paint_init c_ends_of)
  have c_Paint_least_free : CalM P w K mg base CX0 1 (cP K) "least_free" ["self", "ends", "colours"] (spLeastFree (cP K) P w) := calm_of (He.meth_ok (c.fact 59 (f := .meth "Paint" "least_free") rfl)) b_Paint_least_free (ok_Paint_least_free T F_Paint_least_free )
  have c_Paint_row_from : CalM P w K mg base CX0 2 (cP K) "row_from" ["self", "end", "one", "other"] (spRowFrom (cP K) P w) := calm_of (He.meth_ok (c.fact 60 (f := .meth "Paint" "row_from") rfl)) b_Paint_row_from (ok_Paint_row_from T F_Paint_row_from c_ends_of)
  have c_Paint_exchange : CalM P w K mg base CX0 2 (cP K) "exchange" ["self", "row", "one", "other"] (spExchange (cP K) P w) := calm_of (He.meth_ok (c.fact 61 (f := .meth "Paint" "exchange") rfl)) b_Paint_exchange (ok_Paint_exchange T F_Paint_exchange c_ends_of)
  have c_Paint_add : CalM P w K mg base CX0 3 (cP K) "add" ["self", "tie", "colours"] (spAdd (cP K) P w) := calm_of (He.meth_ok (c.fact 62 (f := .meth "Paint" "add") rfl)) b_Paint_add (ok_Paint_add T F_Paint_add c_ends_of c_Paint_least_free c_Paint_row_from c_Paint_exchange)
  have c_added : Cal P w K mg base CX0 4 "added" ["web", "colours", "colouring", "pair"] (spAdded K) := cal_of F_added (He.glo_ok X G (c.fact 8 (f := .glo "added") rfl)) b_added (ok_added T F_added c_Paint_init c_Paint_add)
  have c_check_sizes : Cal P w K mg base CX0 3 "check_sizes" ["sizes"] spCheckSizes := cal_of F_check_sizes (He.glo_ok X G (c.fact 9 (f := .glo "check_sizes") rfl)) b_check_sizes (ok_check_sizes T F_check_sizes c_is_pair c_is_within)
  have c_check_planes : Cal P w K mg base CX0 4 "check_planes" ["alive"] spCheckPlanes := cal_of F_check_planes (He.glo_ok X G (c.fact 10 (f := .glo "check_planes") rfl)) b_check_planes (ok_check_planes T F_check_planes c_is_lot)
  have c_boxes_of : Cal P w K mg base CX0 1 "boxes_of" ["sizes", "wish"] spBoxesOf := cal_of F_boxes_of (He.glo_ok X G (c.fact 11 (f := .glo "boxes_of") rfl)) b_boxes_of (ok_boxes_of F_boxes_of )
  have c_full_box : Cal P w K mg base CX0 2 "full_box" ["sizes", "wishes", "many"] spFullBox := cal_of F_full_box (He.glo_ok X G (c.fact 12 (f := .glo "full_box") rfl)) b_full_box (ok_full_box T F_full_box c_boxes_of)
  have c_check_room : Cal P w K mg base (L2.CX P w) 4 "check_room" ["sizes", "wishes", "many"] (spCheckRoom (cN K)) := cal_of F_check_room (He.glo_ok X G (c.fact 13 (f := .glo "check_room") rfl)) b_check_room (ok_check_room T N (f1 := 0) F_check_room c_full_box F_NoWay_init)
  have c_Laid_init : CalC P w K mg base CX0 5 "Laid" (cL K) ["self", "sizes", "alive"] (spLaidInit (cL K)) := calc_of (He.glo_ok X G (c.fact 14 (f := .glo "Laid") rfl)) (He.mkr_ok (c.fact 74 (f := .mkr "Laid") rfl)) b_Laid_init (ok_Laid_init T F_Laid_init c_check_sizes c_check_planes)
  have c_Laid_check_wish : CalM P w K mg base CX0 4 (cL K) "check_wish" ["self", "wish"] (spCheckWish (cL K)) := calm_of (He.meth_ok (c.fact 63 (f := .meth "Laid" "check_wish") rfl)) b_Laid_check_wish (ok_Laid_check_wish T F_Laid_check_wish c_is_tie)
  have c_Laid_check_plane : CalM P w K mg base CX0 3 (cL K) "check_plane" ["self", "plane"] (spCheckPlane (cL K)) := calm_of (He.meth_ok (c.fact 64 (f := .meth "Laid" "check_plane") rfl)) b_Laid_check_plane (ok_Laid_check_plane T F_Laid_check_plane c_is_within)
  have c_Laid_lay : CalM P w K mg base CX0 5 (cL K) "lay" ["self", "wish"] (spLay (cL K)) := calm_of (He.meth_ok (c.fact 65 (f := .meth "Laid" "lay") rfl)) b_Laid_lay (ok_Laid_lay T F_Laid_lay c_boxes_of c_added)
  have c_Laid_put : CalM P w K mg base (L2.CX P w) 6 (cL K) "put" ["self", "wish"] (spPut (cL K) (cN K)) := calm_of (He.meth_ok (c.fact 66 (f := .meth "Laid" "put") rfl)) b_Laid_put (ok_Laid_put T F_Laid_put c_Laid_check_wish c_check_room c_Laid_lay)
  have c_Laid_drop : CalM P w K mg base CX0 4 (cL K) "drop" ["self", "wish"] (spDrop (cL K)) := calm_of (He.meth_ok (c.fact 67 (f := .meth "Laid" "drop") rfl)) b_Laid_drop (ok_Laid_drop T F_Laid_drop c_is_tie)
  have c_Laid_lose : CalM P w K mg base CX0 6 (cL K) "lose" ["self", "plane"] (spLose (cL K)) := calm_of (He.meth_ok (c.fact 68 (f := .meth "Laid" "lose") rfl)) b_Laid_lose (ok_Laid_lose T F_Laid_lose c_Laid_check_plane c_full_box c_Laid_lay)
  have c_Laid_back : CalM P w K mg base CX0 3 (cL K) "back" ["self", "plane"] (spBack (cL K)) := calm_of (He.meth_ok (c.fact 69 (f := .meth "Laid" "back") rfl)) b_Laid_back (ok_Laid_back T F_Laid_back c_is_within)
  have c_Laid_laid : CalM P w K mg base CX0 1 (cL K) "laid" ["self"] (spLaid (cL K)) := calm_of (He.meth_ok (c.fact 70 (f := .meth "Laid" "laid") rfl)) b_Laid_laid (ok_Laid_laid T F_Laid_laid )
  have c_Laid_alive : CalM P w K mg base CX0 1 (cL K) "alive" ["self"] (spAlive (cL K)) := calm_of (He.meth_ok (c.fact 71 (f := .meth "Laid" "alive") rfl)) b_Laid_alive (ok_Laid_alive T F_Laid_alive )
  have c_Laid_moved : CalM P w K mg base CX0 1 (cL K) "moved" ["self"] (spMoved (cL K)) := calm_of (He.meth_ok (c.fact 72 (f := .meth "Laid" "moved") rfl)) b_Laid_moved (ok_Laid_moved T F_Laid_moved )
  have c__law_hand : Cal P w K mg base CX0 1 "_law_hand" ["_law_script"] (spHand K) := cal_of F__law_hand (He.glo_ok X G (c.fact 15 (f := .glo "_law_hand") rfl)) b__law_hand (ok__law_hand T F__law_hand )
  have c__law_draw : Cal P w K mg base CX0 1 "_law_draw" ["_law_hand_here", "_law_many"] spDraw := cal_of F__law_draw (He.glo_ok X G (c.fact 16 (f := .glo "_law_draw") rfl)) b__law_draw (ok__law_draw T F__law_draw )
  have c__law_sizes : Cal P w K mg base CX0 2 "_law_sizes" ["_law_hand_here"] spSizes := cal_of F__law_sizes (He.glo_ok X G (c.fact 17 (f := .glo "_law_sizes") rfl)) b__law_sizes (ok__law_sizes F__law_sizes c__law_draw)
  have c__law_wishes : Cal P w K mg base CX0 2 "_law_wishes" ["_law_hand_here", "_law_many", "_law_most"] spWishes := cal_of F__law_wishes (He.glo_ok X G (c.fact 18 (f := .glo "_law_wishes") rfl)) b__law_wishes (ok__law_wishes T F__law_wishes c__law_draw)
  have c__law_boxes : Cal P w K mg base CX0 1 "_law_boxes" ["_law_sizes_here", "_law_wish"] spBoxesOf := cal_of F__law_boxes (He.glo_ok X G (c.fact 19 (f := .glo "_law_boxes") rfl)) b__law_boxes (ok__law_boxes F__law_boxes )
  have c__law_full : Cal P w K mg base CX0 2 "_law_full" ["_law_sizes_here", "_law_wishes_here", "_law_planes"] spFullBox := cal_of F__law_full (He.glo_ok X G (c.fact 20 (f := .glo "_law_full") rfl)) b__law_full (ok__law_full T F__law_full c__law_boxes)
  have c__law_are_ways : Cal P w K mg base CX0 2 "_law_are_ways" ["_law_sizes_here", "_law_alive", "_law_wishes_here", "_law_thing"] spAreWays := cal_of F__law_are_ways (He.glo_ok X G (c.fact 21 (f := .glo "_law_are_ways") rfl)) b__law_are_ways (ok__law_are_ways T F__law_are_ways c__law_boxes)
  have c__law_row : Cal P w K mg base CX0 1 "_law_row" ["_law_lies", "_law_side", "_law_place", "_law_first", "_law_second"] spRow := cal_of F__law_row (He.glo_ok X G (c.fact 23 (f := .glo "_law_row") rfl)) b__law_row (ok__law_row T F__law_row )
  have c__law_put_in : Cal P w K mg base CX0 2 "_law_put_in" ["_law_lies", "_law_pair", "_law_colours"] spPutIn := cal_of F__law_put_in (He.glo_ok X G (c.fact 24 (f := .glo "_law_put_in") rfl)) b__law_put_in (ok__law_put_in T F__law_put_in c__law_row)
  have c__law_laid : Cal P w K mg base CX0 1 "_law_laid" ["_law_sizes_here", "_law_alive"] spLLaid := cal_of F__law_laid (He.glo_ok X G (c.fact 25 (f := .glo "_law_laid") rfl)) b__law_laid (ok__law_laid F__law_laid T)
  have c__law_put : Cal P w K mg base CX0 3 "_law_put" ["_law_own", "_law_wish"] spLPut := cal_of F__law_put (He.glo_ok X G (c.fact 26 (f := .glo "_law_put") rfl)) b__law_put (ok__law_put T F__law_put c__law_full c__law_boxes c__law_put_in)
  have c__law_lost : Cal P w K mg base CX0 4 "_law_lost" ["_law_own", "_law_plane"] spLost := cal_of F__law_lost (He.glo_ok X G (c.fact 27 (f := .glo "_law_lost") rfl)) b__law_lost (ok__law_lost T F__law_lost c__law_put)
  have c__law_is_so : Cal P w K mg base CX0 3 "_law_is_so" ["_law_laid_here", "_law_own"] (spIsSo (cL K)) := cal_of F__law_is_so (He.glo_ok X G (c.fact 28 (f := .glo "_law_is_so") rfl)) b__law_is_so (ok__law_is_so T F__law_is_so c_Laid_laid c_Laid_alive c_Laid_moved c__law_are_ways)
  refine ok_law T N Dt F_law (fun c' hc => ?_) c__law_hand c__law_sizes c__law_wishes c__law_laid c__law_put c__law_lost c__law_is_so c__law_draw c_Laid_init c_Laid_put c_Laid_lose c_Laid_back c_Laid_drop
  obtain ⟨oc, od, fdd, osl, lk, hcode⟩ := hc
  rw [He.codeOf_eq lk hcode] at TB
  exact TB
theorem facts {l : PySem.W.OpenLaw} {fa' : Addr} (X : K.In h) (G : h.Ns mainGlobals mg) (hfa : mg ("law" : Str) = some (.ref fa')) (c : He.SaysX fa fn [] tf exB w h K) : LamX.LawAtS l w K CX0 15 63 "_law_script" mg fa' h := by
  have e := hfa.symm.trans (He.glo_ok X G (c.t.d.fact 29 (f := .glo "law") rfl))
  cases e
  have hin : (("law", none) : He.Defn) ∈ tf := List.mem_singleton.mpr rfl
  obtain ⟨fd, hb, ok⟩ := all_ok (P := l.prog) (w := w) (Pc := (He.cT K ("law", none)).2) X G c.t.d c.more
  refine ⟨fd, [He.cT K ("law", none)], spLaw K (He.cT K ("law", none)).2, fun p hp => ?_, fun p hp => ?_, fun p hp => ?_, hb, fun H a ns _ _ hH hS => ⟨a, ns, rfl, hS, hH _ (List.mem_singleton.mpr rfl), fun _ => rfl⟩, fun base _ _ hT => ok base (hT _ (List.mem_singleton.mpr rfl))⟩
  · obtain rfl := List.mem_singleton.mp hp
    exact c.empty _ hin
  · obtain rfl := List.mem_singleton.mp hp
    exact c.out _ hin
  · obtain rfl := List.mem_singleton.mp hp
    exact PySem.W.codeHd_of_K X (c.hd _ hin)
end
end Kx
open PySem PySem.W PySem.Calls PyProof.Rows
set_option maxHeartbeats 0 in
theorem PySem.Challenge.cw_exactbeats_k51_whole_planes_lost_and_bac_holds : PySem.Challenge.rw_exactbeats_k51_whole_planes_lost_and_bac.Holds := by
  w_on; o_law
  refine HandSHeadRun.head_any (r := OpenLaw.row PySem.Challenge.rw_exactbeats_k51_whole_planes_lost_and_bac) (q := view (OpenLaw.row PySem.Challenge.rw_exactbeats_k51_whole_planes_lost_and_bac).prog [44]) (H := Kx.hk) (ob := Kx.ob) (M := 6000) (loose := Kx.loose) (d := HandSHeadRun.topDef (OpenLaw.row PySem.Challenge.rw_exactbeats_k51_whole_planes_lost_and_bac).prog 44) (kwd := []) Kx.ob_eq
    (by kernel_rfl) (fun s => by kernel_rfl) Kx.run (by kernel_rfl) (by kernel_rfl) (by kernel_rfl) (by rfl) (by first | assumption | decide +kernel) (by decide +kernel) ⟨rfl, rfl, rfl, rfl, rfl, by decide +kernel⟩ ?hw ?hc
  case hw => w_witness2
  case hc =>
    refine LamX.walk_ofTsE (l := PySem.Challenge.rw_exactbeats_k51_whole_planes_lost_and_bac) (n := 63) (k := 15) (x := "_law_script") (CX := fun _ => L2.CX0) rfl (by decide) (by kernel_rfl) ⟨rfl, by decide, by decide⟩ ?F (fun _ _ _ _ _ z => z)
    intro w mg fa h Y G hmg0
    obtain ⟨K, KX, c⟩ := Y
    have hmg : mg ("law" : PySem.Str) = some (.ref fa) := by
      have e : (HandSHeadRun.topDef (OpenLaw.row PySem.Challenge.rw_exactbeats_k51_whole_planes_lost_and_bac).prog 44).name = ("law" : PySem.Str) := by kernel_rfl
      rw [← e]
      exact hmg0
    exact ⟨K, KX, Kx.facts KX G hmg c⟩
