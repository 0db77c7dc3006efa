import PyProof.Rows.All
import HandS.ForMost
import HandS.More
import HandS.TupAny
import HandS.TupMul
import KE.KDictKeyed
import KE.KDictWalk
import KE.KDictDisplayH
import HandS.Codes
import HandS.Style
import HandS.Conv
import HandS.Flow
import KE.KDictCopyH
import KE.DataMinMax
import KE.SortData
import KE.KeyNested
import KE.LtData
import HandS.Defaults
import PySem.Challenge.RW_wayguess_k49_whole_ever_more_for_ever
import HandS.Ends
import HandS.Words
import HandS.WordsExc
import HandS.Head0
import HandS.Head1
import HandS.Head2
import HandS.HeadEnd
import HandS.HeadHook1
import HandS.HeadHook2
set_option autoImplicit false
set_option linter.all false
/-! The plain law behind the climbs: a finite graph with weights, parent pointers, sums. Core Lean alone. -/
namespace K49

section lists
variable {α : Type} [DecidableEq α]
theorem nodup_le {l m : List α} (hn : l.Nodup) (hs : ∀ x ∈ l, x ∈ m) : l.length ≤ m.length := by
  induction l generalizing m with
  | nil => exact Nat.zero_le _
  | cons a r ih =>
    obtain ⟨h1, h2⟩ := List.nodup_cons.mp hn
    have ha : a ∈ m := hs a List.mem_cons_self
    have h3 : ∀ x ∈ r, x ∈ m.erase a := fun x hx => by
      have hxa : x ≠ a := fun e => h1 (e ▸ hx)
      exact (List.mem_erase_of_ne hxa).mpr (hs x (List.mem_cons_of_mem _ hx))
    have h4 := ih h2 h3
    rw [List.length_erase_of_mem ha] at h4
    have h5 : 0 < m.length := List.length_pos_of_mem ha
    rw [List.length_cons]
    omega
theorem filter_le {p q : α → Bool} (l : List α) (h : ∀ x, p x = true → q x = true) : (l.filter p).length ≤ (l.filter q).length := by
  induction l with
  | nil => exact Nat.le_refl _
  | cons a r ih =>
    by_cases hp : p a = true
    · rw [List.filter_cons_of_pos hp, List.filter_cons_of_pos (h a hp), List.length_cons, List.length_cons]
      omega
    · rw [List.filter_cons_of_neg hp]
      by_cases hq : q a = true
      · rw [List.filter_cons_of_pos hq, List.length_cons]
        omega
      · rw [List.filter_cons_of_neg hq]
        exact ih
theorem filter_lt {p q : α → Bool} (l : List α) (h : ∀ x, p x = true → q x = true) {a : α} (ha : a ∈ l) (hp : p a = false) (hq : q a = true) : (l.filter p).length + 1 ≤ (l.filter q).length := by
  induction l with
  | nil => exact nomatch ha
  | cons b r ih =>
    by_cases e : b = a
    · subst e
      rw [List.filter_cons_of_neg (by rw [hp]; exact Bool.false_ne_true), List.filter_cons_of_pos hq, List.length_cons]
      have := filter_le r h
      omega
    · have har : a ∈ r := by
        rcases List.mem_cons.mp ha with z | z
        · exact absurd z.symm e
        · exact z
      have ih' := ih har
      by_cases hpb : p b = true
      · rw [List.filter_cons_of_pos hpb, List.filter_cons_of_pos (h b hpb), List.length_cons, List.length_cons]
        omega
      · rw [List.filter_cons_of_neg hpb]
        by_cases hqb : q b = true
        · rw [List.filter_cons_of_pos hqb, List.length_cons]
          omega
        · rw [List.filter_cons_of_neg hqb]
          exact ih'
theorem sum_le {f g : α → Nat} (l : List α) (h : ∀ x, f x ≤ g x) : (l.map f).sum ≤ (l.map g).sum := by
  induction l with
  | nil => exact Nat.le_refl _
  | cons a r ih =>
    rw [List.map_cons, List.map_cons, List.sum_cons, List.sum_cons]
    have := h a
    omega
theorem sum_lt {f g : α → Nat} (l : List α) (h : ∀ x, f x ≤ g x) {a : α} (ha : a ∈ l) (hl : f a < g a) : (l.map f).sum < (l.map g).sum := by
  induction l with
  | nil => exact nomatch ha
  | cons b r ih =>
    rw [List.map_cons, List.map_cons, List.sum_cons, List.sum_cons]
    rcases List.mem_cons.mp ha with z | z
    · subst z
      have := sum_le r h
      omega
    · have := ih z
      have := h b
      omega
end lists

/-! ### the graph -/
structure Gr (κ E : Type) where
  nxt : κ → E → κ
  wt : κ → E → Int
  evs : List E

section graph
variable {κ E : Type}
/-- where a run leads; what it adds up to -/
def Gr.run (g : Gr κ E) : κ → List E → κ
  | u, [] => u
  | u, e :: r => g.run (g.nxt u e) r
def Gr.dif (g : Gr κ E) : κ → List E → Int
  | _, [] => 0
  | u, e :: r => g.wt u e + g.dif (g.nxt u e) r
theorem Gr.run_app (g : Gr κ E) (u : κ) (a b : List E) : g.run u (a ++ b) = g.run (g.run u a) b := by
  induction a generalizing u with
  | nil => rfl
  | cons e r ih => exact ih _
theorem Gr.dif_app (g : Gr κ E) (u : κ) (a b : List E) : g.dif u (a ++ b) = g.dif u a + g.dif (g.run u a) b := by
  induction a generalizing u with
  | nil => show g.dif u b = 0 + g.dif u b; omega
  | cons e r ih =>
    show g.wt u e + g.dif (g.nxt u e) (r ++ b) = (g.wt u e + g.dif (g.nxt u e) r) + g.dif (g.run (g.nxt u e) r) b
    rw [ih]
    omega
inductive Gr.Reach (g : Gr κ E) (s : κ) : κ → Prop
  | base : g.Reach s s
  | step {v : κ} {e : E} : g.Reach s v → e ∈ g.evs → g.Reach s (g.nxt v e)
theorem Gr.Reach.closed {g : Gr κ E} {s v : κ} {D : κ → Prop} (r : g.Reach s v) (h0 : D s) (h1 : ∀ v e, D v → e ∈ g.evs → D (g.nxt v e)) : D v := by
  induction r with
  | base => exact h0
  | step _ he ih => exact h1 _ _ ih he

/-! ### parent pointers: none: unknown; some none: the root; some (p, e): come to from p by e -/
abbrev PW (κ E : Type) := κ → Option (Option (κ × E))
inductive Anc (W : PW κ E) : κ → κ → List (κ × E) → Prop
  | refl (v : κ) : Anc W v v []
  | step {v p : κ} {e : E} {u : κ} {es : List (κ × E)} : W v = some (some (p, e)) → Anc W p u es → Anc W v u (es ++ [(p, e)])
def Gr.wsum (g : Gr κ E) (es : List (κ × E)) : Int := (es.map fun x => g.wt x.1 x.2).sum
theorem Gr.wsum_snoc (g : Gr κ E) (es : List (κ × E)) (p : κ) (e : E) : g.wsum (es ++ [(p, e)]) = g.wsum es + g.wt p e := by
  unfold Gr.wsum
  rw [List.map_append, List.sum_append]
  show _ + (g.wt p e + 0) = _
  omega
theorem Anc.inv {W : PW κ E} {v u : κ} {es : List (κ × E)} (a : Anc W v u es) (h : es ≠ []) : ∃ p e es', W v = some (some (p, e)) ∧ Anc W p u es' ∧ es = es' ++ [(p, e)] := by
  cases a with
  | refl => exact absurd rfl h
  | step hw t => exact ⟨_, _, _, hw, t, rfl⟩
theorem Anc.nil {W : PW κ E} {v u : κ} (a : Anc W v u []) : v = u := by
  generalize h : ([] : List (κ × E)) = es at a
  cases a with
  | refl => rfl
  | step _ _ => exact absurd h (by simp)
/-- at the far end one more -/
theorem Anc.up {W : PW κ E} {v u p : κ} {e : E} {es : List (κ × E)} (a : Anc W v u es) (h : W u = some (some (p, e))) : Anc W v p ((p, e) :: es) := by
  induction a with
  | refl v => exact Anc.step (es := []) h (Anc.refl _)
  | step hw _ ih => exact Anc.step hw (ih h)
theorem Anc.trans {W : PW κ E} {v u x : κ} {es fs : List (κ × E)} (a : Anc W v u es) (b : Anc W u x fs) : Anc W v x (fs ++ es) := by
  induction a with
  | refl v => rw [List.append_nil]; exact b
  | step hw _ ih => rw [← List.append_assoc]; exact Anc.step hw (ih b)
/-- the pointers lead one way -/
theorem Anc.root_unique {W : PW κ E} {v r r' : κ} {es es' : List (κ × E)} (a : Anc W v r es) (hr : W r = some none) (b : Anc W v r' es') (hr' : W r' = some none) : r = r' ∧ es = es' := by
  induction a generalizing es' with
  | refl v =>
    cases b with
    | refl => exact ⟨rfl, rfl⟩
    | step hw _ => rw [hr] at hw; cases hw
  | step hw _ ih =>
    cases b with
    | refl => rw [hr'] at hw; cases hw
    | step hw' t =>
      rw [hw] at hw'
      cases hw'
      obtain ⟨h1, h2⟩ := ih hr t
      exact ⟨h1, by rw [h2]⟩
/-- what stands on the way -/
theorem Anc.mem {W : PW κ E} {v r x : κ} {es : List (κ × E)} (a : Anc W v r es) (h : x ∈ es.map (·.1)) : ∃ fs hs, es = fs ++ hs ∧ hs ≠ [] ∧ Anc W x r fs := by
  induction a with
  | refl v => exact nomatch h
  | @step v p e u es hw t ih =>
    rw [List.map_append] at h
    rcases List.mem_append.mp h with z | z
    · obtain ⟨fs, hs, h1, h2, h3⟩ := ih z
      refine ⟨fs, hs ++ [(p, e)], ?_, by simp, h3⟩
      rw [h1, List.append_assoc]
    · have e1 : x = p := by simpa using z
      subst e1
      exact ⟨es, [(x, e)], rfl, by simp, t⟩
def Rooted (W : PW κ E) (v : κ) : Prop := ∃ r es, Anc W v r es ∧ W r = some none
theorem Rooted.of {W : PW κ E} {v u : κ} {es : List (κ × E)} (a : Anc W v u es) (h : Rooted W u) : Rooted W v := by
  obtain ⟨r, fs, b, hr⟩ := h
  exact ⟨r, _, a.trans b, hr⟩
theorem Anc.nodup {W : PW κ E} {v r : κ} {es : List (κ × E)} (a : Anc W v r es) (hr : W r = some none) : (es.map (·.1) ++ [v]).Nodup := by
  induction a with
  | refl v => simp
  | @step v p e u es hw t ih =>
    have h1 := ih hr
    have a' : Anc W v u (es ++ [(p, e)]) := .step hw t
    have e1 : (es ++ [(p, e)]).map (·.1) = es.map (·.1) ++ [p] := by rw [List.map_append]; rfl
    rw [e1]
    refine List.nodup_append.mpr ⟨h1, by simp, fun x hx y hy q => ?_⟩
    have e2 : y = v := by simpa using hy
    subst e2
    subst q
    rw [← e1] at hx
    obtain ⟨fs, hs, h2, h3, h4⟩ := a'.mem hx
    obtain ⟨_, h5⟩ := Anc.root_unique a' hr h4 hr
    rw [h2] at h5
    have h6 := congrArg List.length h5
    rw [List.length_append] at h6
    exact h3 (List.eq_nil_of_length_eq_zero (by omega))
/-- the way as a run -/
def EdgeOk (g : Gr κ E) (W : PW κ E) : Prop := ∀ v p e, W v = some (some (p, e)) → e ∈ g.evs ∧ g.nxt p e = v
theorem Anc.run {g : Gr κ E} {W : PW κ E} (ok : EdgeOk g W) {v u : κ} {es : List (κ × E)} (a : Anc W v u es) : g.run u (es.map (·.2)) = v ∧ g.dif u (es.map (·.2)) = g.wsum es := by
  induction a with
  | refl v => exact ⟨rfl, rfl⟩
  | @step v p e u es hw t ih =>
    rw [List.map_append]
    show g.run u (es.map (·.2) ++ [e]) = v ∧ g.dif u (es.map (·.2) ++ [e]) = _
    rw [g.run_app, g.dif_app, ih.1, ih.2, g.wsum_snoc]
    refine ⟨(ok v p e hw).2, ?_⟩
    show g.wsum es + (g.wt p e + 0) = _
    omega
theorem Anc.evs {g : Gr κ E} {W : PW κ E} (ok : EdgeOk g W) {v u : κ} {es : List (κ × E)} (a : Anc W v u es) : ∀ e ∈ es.map (·.2), e ∈ g.evs := by
  induction a with
  | refl v => exact fun _ h => nomatch h
  | @step v p e u es hw t ih =>
    intro x hx
    rw [List.map_append] at hx
    rcases List.mem_append.mp hx with z | z
    · exact ih x z
    · have e1 : x = e := by simpa using z
      rw [e1]
      exact (ok v p e hw).1
end graph

/-! ### a thing put -/
section put
variable {κ : Type} [DecidableEq κ] {α : Type}
def put (f : κ → Option α) (k : κ) (x : α) : κ → Option α := fun j => if j = k then some x else f j
theorem put_same (f : κ → Option α) (k : κ) (x : α) : put f k x k = some x := by unfold put; rw [if_pos rfl]
theorem put_ne (f : κ → Option α) {k j : κ} (x : α) (h : j ≠ k) : put f k x j = f j := by unfold put; rw [if_neg h]
end put

/-! ### climbing -/
section climb
variable {κ E : Type} [DecidableEq κ]
def known (L : List κ) (S : κ → Option Int) : Nat := (L.filter fun v => (S v).isSome).length
structure CInv (g : Gr κ E) (s0 : κ) (L : List κ) (S : κ → Option Int) (W : PW κ E) : Prop where
  dom : ∀ v, S v = none ↔ W v = none
  reach : ∀ v a, S v = some a → g.Reach s0 v
  st : S s0 ≠ none
  root : ∀ v, W v = some none → v = s0 ∧ S v = some 0
  edge : ∀ v p e, W v = some (some (p, e)) → e ∈ g.evs ∧ g.nxt p e = v ∧ ∃ a b, S v = some a ∧ S p = some b ∧ a ≤ b + g.wt p e
  pos : ∀ v p e es, W v = some (some (p, e)) → Anc W p v es → 0 < g.wsum es + g.wt p e
  low : ∀ v a, S v = some a → 1 - (known L S : Int) ≤ a
/-- what L is: it holds all that can be come to -/
structure Clo (g : Gr κ E) (s0 : κ) (L : List κ) : Prop where
  st : s0 ∈ L
  cl : ∀ v e, v ∈ L → e ∈ g.evs → g.nxt v e ∈ L
theorem Clo.all {g : Gr κ E} {s0 : κ} {L : List κ} (F : Clo g s0 L) {v : κ} (r : g.Reach s0 v) : v ∈ L := r.closed F.st F.cl
theorem Clo.size {g : Gr κ E} {s0 : κ} {L : List κ} (F : Clo g s0 L) {l : List κ} (hn : l.Nodup) (h : ∀ v ∈ l, g.Reach s0 v) : l.length ≤ L.length := nodup_le hn fun v hv => F.all (h v hv)

def UnitWt (g : Gr κ E) : Prop := ∀ v e, -1 ≤ g.wt v e ∧ g.wt v e ≤ 1

theorem cinv_start (g : Gr κ E) (s0 : κ) (L : List κ) (hs : s0 ∈ L) : CInv g s0 L (put (fun _ => none) s0 0) (put (fun _ => none) s0 none) where
  dom := fun v => by
    unfold put
    by_cases h : v = s0
    · rw [if_pos h, if_pos h]; simp
    · rw [if_neg h, if_neg h]; simp
  reach := fun v a h => by
    by_cases e : v = s0
    · rw [e]; exact .base
    · rw [put_ne _ _ e] at h; cases h
  st := by rw [put_same]; simp
  root := fun v h => by
    by_cases e : v = s0
    · exact ⟨e, by rw [e, put_same]⟩
    · rw [put_ne _ _ e] at h; cases h
  edge := fun v p e h => by
    by_cases q : v = s0
    · rw [q, put_same] at h; cases h
    · rw [put_ne _ _ q] at h; cases h
  pos := fun v p e es h _ => by
    by_cases q : v = s0
    · rw [q, put_same] at h; cases h
    · rw [put_ne _ _ q] at h; cases h
  low := fun v a h => by
    have h1 : 1 ≤ known L (put (fun _ => none) s0 0) := by
      unfold known
      refine List.length_pos_of_mem (a := s0) (List.mem_filter.mpr ⟨hs, ?_⟩)
      rw [put_same]
      rfl
    by_cases q : v = s0
    · rw [q, put_same] at h
      have := Option.some.inj h
      omega
    · rw [put_ne _ _ q] at h; cases h

/-- a potential along the pointers -/
theorem Anc.pot {g : Gr κ E} {W : PW κ E} {S : κ → Option Int} (h : ∀ v p e, W v = some (some (p, e)) → ∃ a b, S v = some a ∧ S p = some b ∧ a ≤ b + g.wt p e) {v u : κ} {es : List (κ × E)} (t : Anc W v u es) {a b : Int} (ha : S v = some a) (hb : S u = some b) : a ≤ b + g.wsum es := by
  induction t generalizing a with
  | refl v =>
    rw [ha] at hb
    have := Option.some.inj hb
    show a ≤ b + 0
    omega
  | @step v p e u es hw t ih =>
    obtain ⟨a', c, h1, h2, h3⟩ := h v p e hw
    rw [ha] at h1
    have e1 := Option.some.inj h1
    have := ih h2 hb
    rw [g.wsum_snoc]
    omega

section relax
variable {g : Gr κ E} {s0 : κ} {L : List κ} {S : κ → Option Int} {W : PW κ E} {u : κ} {e : E} {b : Int}
theorem anc_put {v x y : κ} {z : Option (κ × E)} {es : List (κ × E)} (t : Anc (put W v z) x y es) : Anc W x y es ∨ (z ≠ none ∧ (x = v ∨ v ∈ es.map (·.1))) := by
  induction t with
  | refl x => exact .inl (.refl x)
  | @step x p e y es hw t ih =>
    by_cases q : x = v
    · subst q
      rw [put_same] at hw
      refine .inr ⟨fun z => ?_, .inl rfl⟩
      rw [z] at hw
      cases hw
    · rw [put_ne _ _ q] at hw
      rcases ih with h | ⟨h0, h | h⟩
      · exact .inl (.step hw h)
      · refine .inr ⟨h0, .inr ?_⟩
        rw [List.map_append]
        exact List.mem_append_right _ (by simp [h])
      · refine .inr ⟨h0, .inr ?_⟩
        rw [List.map_append]
        exact List.mem_append_left _ h
/-- the pointers that are come to are known -/
theorem anc_known (I : CInv g s0 L S W) {x p : κ} {e : E} (h : W x = some (some (p, e))) : ∃ a b, S x = some a ∧ S p = some b ∧ a ≤ b + g.wt p e := (I.edge x p e h).2.2
/-- RELAXED: v = nxt u e gets more than it had -/
theorem CInv.relax (I : CInv g s0 L S W) (F : Clo g s0 L) (U : UnitWt g) (hu : S u = some b) (he : e ∈ g.evs) (hr : S (g.nxt u e) = none ∨ ∃ a, S (g.nxt u e) = some a ∧ a < b + g.wt u e) :
    CInv g s0 L (put S (g.nxt u e) (b + g.wt u e)) (put W (g.nxt u e) (some (u, e))) := by
  have hreach : g.Reach s0 (g.nxt u e) := .step (I.reach u b hu) he
  generalize hv : g.nxt u e = v at *
  -- the new sums are not less
  have up : ∀ x a, S x = some a → ∃ a', put S v (b + g.wt u e) x = some a' ∧ a ≤ a' := fun x a h => by
    by_cases q : x = v
    · subst q
      refine ⟨_, put_same _ _ _, ?_⟩
      rcases hr with z | ⟨c, z, hc⟩
      · rw [z] at h; cases h
      · rw [z] at h
        have := Option.some.inj h
        omega
    · exact ⟨a, by rw [put_ne _ _ q]; exact h, Int.le_refl _⟩
  have kle : known L S ≤ known L (put S v (b + g.wt u e)) := filter_le L fun x hx => by
    cases q : S x with
    | none => rw [q] at hx; cases hx
    | some a =>
      obtain ⟨a', h1, _⟩ := up x a q
      rw [h1]
      rfl
  refine ⟨fun x => ?_, fun x a h => ?_, ?_, fun x h => ?_, fun x p f h => ?_, fun x p f es h t => ?_, fun x a h => ?_⟩
  · by_cases q : x = v
    · rw [q, put_same, put_same]; simp
    · rw [put_ne _ _ q, put_ne _ _ q]; exact I.dom x
  · by_cases q : x = v
    · rw [q]; exact hreach
    · rw [put_ne _ _ q] at h; exact I.reach x a h
  · intro h
    cases q : S s0 with
    | none => exact I.st q
    | some a =>
      obtain ⟨a', h1, _⟩ := up s0 a q
      rw [h1] at h
      cases h
  · by_cases q : x = v
    · rw [q, put_same] at h; cases h
    · rw [put_ne _ _ q] at h
      obtain ⟨h1, h2⟩ := I.root x h
      exact ⟨h1, by rw [put_ne _ _ q]; exact h2⟩
  · by_cases q : x = v
    · subst q
      rw [put_same] at h
      cases h
      obtain ⟨b', h1, h2⟩ := up u b hu
      exact ⟨he, hv, _, b', put_same _ _ _, h1, by omega⟩
    · rw [put_ne _ _ q] at h
      obtain ⟨h1, h2, a, c, h3, h4, h5⟩ := I.edge x p f h
      obtain ⟨c', h6, h7⟩ := up p c h4
      exact ⟨h1, h2, a, c', by rw [put_ne _ _ q]; exact h3, h6, by omega⟩
  · -- a loop of the new pointers
    have full : Anc (put W v (some (u, e))) x x (es ++ [(p, f)]) := .step h t
    rcases hr with hn | ⟨c, hc, hlt⟩
    · -- v was not known: nothing points to it
      have nop : ∀ y q k, put W v (some (u, e)) y = some (some (q, k)) → q ≠ v := fun y q k hy z => by
        subst z
        by_cases r : y = q
        · subst r
          rw [put_same] at hy
          cases hy
          rw [hn] at hu
          cases hu
        · rw [put_ne _ _ r] at hy
          obtain ⟨_, c, _, h2, _⟩ := anc_known I hy
          rw [hn] at h2
          cases h2
      have nom : ∀ {y z : κ} {fs : List (κ × E)}, Anc (put W v (some (u, e))) y z fs → v ∉ fs.map (·.1) := fun {y z fs} a => by
        induction a with
        | refl _ => simp
        | @step y q' k z fs hw _ ih =>
          intro hm
          rw [List.map_append] at hm
          rcases List.mem_append.mp hm with q | q
          · exact ih q
          · have e1 : v = q' := by simpa using q
            exact nop _ _ _ hw e1.symm
      have xv : x ≠ v := fun z => by
        subst z
        have hp := nop _ _ _ h
        cases t with
        | refl => exact hp rfl
        | @step _ q k _ fs hw t' =>
          -- the first edge goes from v
          have : x ∈ (fs ++ [(q, k)]).map (·.1) := by
            clear h full nom hp
            have key : ∀ {y z : κ} {fs : List (κ × E)}, Anc (put W x (some (u, e))) y z fs → fs ≠ [] → z ∈ fs.map (·.1) := fun {y z fs} a => by
              induction a with
              | refl _ => exact fun h => absurd rfl h
              | @step y q k z fs hw t ih =>
                intro _
                rw [List.map_append]
                by_cases hf : fs = []
                · subst hf
                  have := t.nil
                  subst this
                  simp
                · exact List.mem_append_left _ (ih hf)
            exact key (Anc.step hw t') (by simp)
          exact nom (Anc.step hw t') this
      rcases anc_put full with z | ⟨_, z | z⟩
      · obtain ⟨p', f', es', h1, h2, h3⟩ := z.inv (by simp)
        have e1 : es = es' ∧ (p, f) = (p', f') := by
          have hl : es.length = es'.length := by
            have q := congrArg List.length h3
            rw [List.length_append, List.length_append] at q
            simpa using q
          have := List.append_inj h3 hl
          exact ⟨this.1, by simpa using this.2⟩
        obtain ⟨rfl, e2⟩ := e1
        cases e2
        exact I.pos x p f es h1 h2
      · exact absurd z xv
      · exact absurd z (nom full)
    · -- the old sums: each edge not less, the new one less
      have weak : ∀ y q k, put W v (some (u, e)) y = some (some (q, k)) → ∃ a d, S y = some a ∧ S q = some d ∧ a ≤ d + g.wt q k := fun y q k hy => by
        by_cases r : y = v
        · subst r
          rw [put_same] at hy
          cases hy
          exact ⟨c, b, hc, hu, by omega⟩
        · rw [put_ne _ _ r] at hy
          exact anc_known I hy
      have strict : ∀ {y z : κ} {fs : List (κ × E)}, Anc (put W v (some (u, e))) y z fs → ∀ a d, S y = some a → S z = some d → Anc W y z fs ∨ a < d + g.wsum fs := fun {y z fs} t => by
        induction t with
        | refl y => exact fun _ _ _ _ => .inl (.refl y)
        | @step y q k z fs hw t ih =>
          intro a d ha hd
          obtain ⟨a', m, h1, h2, h3⟩ := weak y q k hw
          rw [ha] at h1
          have e1 := Option.some.inj h1
          by_cases r : y = v
          · subst r
            rw [put_same] at hw
            cases hw
            right
            have hp := Anc.pot (S := S) weak t h2 hd
            rw [g.wsum_snoc]
            rw [ha] at hc
            have := Option.some.inj hc
            rw [hu] at h2
            have := Option.some.inj h2
            omega
          · rw [put_ne _ _ r] at hw
            rcases ih m d h2 hd with z | z
            · exact .inl (.step hw z)
            · right
              rw [g.wsum_snoc]
              omega
      obtain ⟨ax, _, hx, _, _⟩ := weak x p f h
      rw [← g.wsum_snoc]
      rcases strict full ax ax hx hx with z | z
      · obtain ⟨p', f', es', h1, h2, h3⟩ := z.inv (by simp)
        have e1 : es = es' ∧ (p, f) = (p', f') := by
          have hl : es.length = es'.length := by
            have q := congrArg List.length h3
            rw [List.length_append, List.length_append] at q
            simpa using q
          have := List.append_inj h3 hl
          exact ⟨this.1, by simpa using this.2⟩
        obtain ⟨rfl, e2⟩ := e1
        cases e2
        rw [g.wsum_snoc]
        exact I.pos x p f es h1 h2
      · omega
  · have hw := (U u e).1
    by_cases q : x = v
    · rw [q, put_same] at h
      have e1 := Option.some.inj h
      have hb := I.low u b hu
      rcases hr with hn | ⟨c, hc, hlt⟩
      · have := filter_lt (p := fun y => (S y).isSome) (q := fun y => (put S v (b + g.wt u e) y).isSome) L (fun y hy => by
          cases q : S y with
          | none => rw [q] at hy; cases hy
          | some a =>
            obtain ⟨a', h1, _⟩ := up y a q
            rw [h1]
            rfl) (F.all hreach) (by rw [hn]; rfl) (by rw [put_same]; rfl)
        have k2 : known L S + 1 ≤ known L (put S v (b + g.wt u e)) := this
        omega
      · have := I.low v c hc
        omega
    · rw [put_ne _ _ q] at h
      have := I.low x a h
      omega
end relax

/-! ### a round of the climb -/
def Le (S S' : κ → Option Int) (v : κ) : Prop := ∀ a, S v = some a → ∃ a', S' v = some a' ∧ a ≤ a'
def Lt (S S' : κ → Option Int) (v : κ) : Prop := ∃ a', S' v = some a' ∧ ∀ a, S v = some a → a < a'
/-- within a round that began with S0, W0; R: risen so far -/
structure Round (g : Gr κ E) (s0 : κ) (L : List κ) (S0 : κ → Option Int) (W0 : PW κ E) (S : κ → Option Int) (W : PW κ E) (R : List κ) : Prop where
  inv : CInv g s0 L S W
  le : ∀ v, Le S0 S v
  lt : ∀ v ∈ R, Lt S0 S v
  same : ∀ v, v ∉ R → W v = W0 v
theorem Round.start {g : Gr κ E} {s0 : κ} {L : List κ} {S : κ → Option Int} {W : PW κ E} (I : CInv g s0 L S W) : Round g s0 L S W S W [] :=
  ⟨I, fun _ a h => ⟨a, h, Int.le_refl _⟩, fun _ h => (nomatch h), fun _ _ => rfl⟩
theorem Round.relax {g : Gr κ E} {s0 : κ} {L : List κ} {S0 S : κ → Option Int} {W0 W : PW κ E} {R R' : List κ} {u : κ} {e : E} {b : Int} (I : Round g s0 L S0 W0 S W R) (F : Clo g s0 L) (U : UnitWt g) (hu : S u = some b) (he : e ∈ g.evs)
    (hr : S (g.nxt u e) = none ∨ ∃ a, S (g.nxt u e) = some a ∧ a < b + g.wt u e) (hR : ∀ v, v ∈ R' ↔ (v ∈ R ∨ v = g.nxt u e)) :
    Round g s0 L S0 W0 (put S (g.nxt u e) (b + g.wt u e)) (put W (g.nxt u e) (some (u, e))) R' := by
  have up : ∀ x a, S x = some a → ∃ a', put S (g.nxt u e) (b + g.wt u e) x = some a' ∧ a ≤ a' := fun x a h => by
    by_cases q : x = g.nxt u e
    · refine ⟨_, by rw [q]; exact put_same _ _ _, ?_⟩
      rw [q] at h
      rcases hr with z | ⟨c, z, hc⟩
      · rw [z] at h; cases h
      · rw [z] at h
        have := Option.some.inj h
        omega
    · exact ⟨a, by rw [put_ne _ _ q]; exact h, Int.le_refl _⟩
  refine ⟨I.inv.relax F U hu he hr, fun v a h => ?_, fun v hv => ?_, fun v hv => ?_⟩
  · obtain ⟨a1, h1, l1⟩ := I.le v a h
    obtain ⟨a2, h2, l2⟩ := up v a1 h1
    exact ⟨a2, h2, Int.le_trans l1 l2⟩
  · by_cases q : v = g.nxt u e
    · subst q
      refine ⟨_, put_same _ _ _, fun a h => ?_⟩
      obtain ⟨a1, h1, l1⟩ := I.le _ a h
      rcases hr with z | ⟨c, z, hc⟩
      · rw [z] at h1; cases h1
      · rw [z] at h1
        have := Option.some.inj h1
        omega
    · rcases (hR v).mp hv with z | z
      · obtain ⟨a1, h1, l1⟩ := I.lt v z
        obtain ⟨a2, h2, l2⟩ := up v a1 h1
        exact ⟨a2, h2, fun a h => Int.lt_of_lt_of_le (l1 a h) l2⟩
      · exact absurd z q
  · have q : v ≠ g.nxt u e := fun z => hv ((hR v).mpr (.inr z))
    rw [put_ne _ _ q]
    exact I.same v fun z => hv ((hR v).mpr (.inl z))

/-! ### between the rounds -/
def Allrooted (W : PW κ E) : Prop := ∀ v, W v ≠ none → Rooted W v
structure Head (g : Gr κ E) (s0 : κ) (L : List κ) (S : κ → Option Int) (W : PW κ E) : Prop where
  inv : CInv g s0 L S W
  rooted : Allrooted W
theorem head_start (g : Gr κ E) (s0 : κ) (L : List κ) (hs : s0 ∈ L) : Head g s0 L (put (fun _ => none) s0 0) (put (fun _ => none) s0 none) where
  inv := cinv_start g s0 L hs
  rooted := fun v h => by
    by_cases e : v = s0
    · subst e
      exact ⟨_, [], .refl _, put_same _ _ _⟩
    · rw [put_ne _ _ e] at h
      exact absurd rfl h
theorem CInv.known {g : Gr κ E} {s0 : κ} {L : List κ} {S : κ → Option Int} {W : PW κ E} (I : CInv g s0 L S W) {v : κ} (h : W v ≠ none) : ∃ a, S v = some a := by
  cases q : S v with
  | none => exact absurd ((I.dom v).mp q) h
  | some a => exact ⟨a, rfl⟩
theorem CInv.edgeOk {g : Gr κ E} {s0 : κ} {L : List κ} {S : κ → Option Int} {W : PW κ E} (I : CInv g s0 L S W) : EdgeOk g W := fun v p e h => ⟨(I.edge v p e h).1, (I.edge v p e h).2.1⟩
theorem CInv.path_known {g : Gr κ E} {s0 : κ} {L : List κ} {S : κ → Option Int} {W : PW κ E} (I : CInv g s0 L S W) {v u : κ} {es : List (κ × E)} (a : Anc W v u es) : ∀ x ∈ es.map (·.1), ∃ b, S x = some b := by
  induction a with
  | refl _ => exact fun _ h => nomatch h
  | @step v p e u es hw t ih =>
    intro x hx
    rw [List.map_append] at hx
    rcases List.mem_append.mp hx with z | z
    · exact ih x z
    · have e1 : x = p := by simpa using z
      obtain ⟨_, b, _, h, _⟩ := anc_known I hw
      exact ⟨b, by rw [e1]; exact h⟩
theorem wsum_le {g : Gr κ E} (U : UnitWt g) (es : List (κ × E)) : g.wsum es ≤ es.length := by
  unfold Gr.wsum
  induction es with
  | nil => exact Int.le_refl _
  | cons x r ih =>
    rw [List.map_cons, List.sum_cons, List.length_cons]
    have := (U x.1 x.2).2
    omega
/-- where all pointers lead to the root no sum is great -/
theorem Head.high {g : Gr κ E} {s0 : κ} {L : List κ} {S : κ → Option Int} {W : PW κ E} (I : Head g s0 L S W) (F : Clo g s0 L) (U : UnitWt g) {v : κ} {a : Int} (h : S v = some a) : a ≤ L.length := by
  have hw : W v ≠ none := fun z => by
    rw [(I.inv.dom v).mpr z] at h
    cases h
  obtain ⟨r, es, t, hr⟩ := I.rooted v hw
  obtain ⟨_, hr0⟩ := I.inv.root r hr
  have h1 := Anc.pot (S := S) (fun x p e q => anc_known I.inv q) t h hr0
  have h2 := wsum_le U es
  have h3 := t.nodup hr
  have h4 : (es.map (·.1) ++ [v]).length ≤ L.length := F.size h3 fun x hx => by
    rcases List.mem_append.mp hx with z | z
    · obtain ⟨b, hb⟩ := I.inv.path_known t x z
      exact I.inv.reach x b hb
    · have e1 : x = v := by simpa using z
      rw [e1]
      exact I.inv.reach v a h
  rw [List.length_append, List.length_map] at h4
  have h5 : es.length ≤ L.length := Nat.le_trans (Nat.le_add_right _ _) h4
  omega
theorem known_le (L : List κ) (S : κ → Option Int) : known L S ≤ L.length := List.length_filter_le _ _

/-- the measure -/
def lack (n : Nat) : Option Int → Nat
  | none => 3 * n + 3
  | some a => ((n : Int) + 1 - a).toNat
def meas (L : List κ) (S : κ → Option Int) : Nat := (L.map fun v => lack L.length (S v)).sum
theorem lack_le {n : Nat} {o o' : Option Int} (h : ∀ a, o = some a → ∃ a', o' = some a' ∧ a ≤ a') (h' : ∀ a', o' = some a' → 1 - (n : Int) ≤ a') : lack n o' ≤ lack n o := by
  cases o with
  | none =>
    cases o' with
    | none => exact Nat.le_refl _
    | some a' =>
      have := h' a' rfl
      show ((n : Int) + 1 - a').toNat ≤ 3 * n + 3
      omega
  | some a =>
    obtain ⟨a', e, l⟩ := h a rfl
    subst e
    show ((n : Int) + 1 - a').toNat ≤ ((n : Int) + 1 - a).toNat
    omega
theorem lack_lt {n : Nat} {o o' : Option Int} (h : ∃ a', o' = some a' ∧ ∀ a, o = some a → a < a') (hi : ∀ a, o = some a → a ≤ (n : Int)) (h' : ∀ a', o' = some a' → 1 - (n : Int) ≤ a') : lack n o' < lack n o := by
  obtain ⟨a', e, l⟩ := h
  subst e
  have := h' a' rfl
  cases o with
  | none =>
    show ((n : Int) + 1 - a').toNat < 3 * n + 3
    omega
  | some a =>
    have := l a rfl
    have := hi a rfl
    show ((n : Int) + 1 - a').toNat < ((n : Int) + 1 - a).toNat
    omega
theorem meas_le {g : Gr κ E} {s0 : κ} {L : List κ} {S0 S : κ → Option Int} {W0 W : PW κ E} {R : List κ} (I : Round g s0 L S0 W0 S W R) : meas L S ≤ meas L S0 :=
  sum_le L fun v => lack_le (I.le v) fun a h => by
    have := I.inv.low v a h
    have := known_le L S
    omega
theorem meas_lt {g : Gr κ E} {s0 : κ} {L : List κ} {S0 S : κ → Option Int} {W0 W : PW κ E} {R : List κ} (I0 : Head g s0 L S0 W0) (I : Round g s0 L S0 W0 S W R) (F : Clo g s0 L) (U : UnitWt g) (hR : R ≠ []) : meas L S < meas L S0 := by
  cases R with
  | nil => exact absurd rfl hR
  | cons r R =>
    have hr : r ∈ r :: R := List.mem_cons_self
    have low : ∀ v a, S v = some a → 1 - (L.length : Int) ≤ a := fun v a h => by
      have := I.inv.low v a h
      have := known_le L S
      omega
    obtain ⟨a', h1, h2⟩ := I.lt r hr
    exact sum_lt L (fun v => lack_le (I.le v) (low v)) (F.all (I.inv.reach r a' h1)) (lack_lt (I.lt r hr) (fun a h => I0.high F U h) (low r))
/-- behind a round whose risen things all lead to the root -/
theorem Round.head {g : Gr κ E} {s0 : κ} {L : List κ} {S0 S : κ → Option Int} {W0 W : PW κ E} {R : List κ} (I0 : Head g s0 L S0 W0) (I : Round g s0 L S0 W0 S W R) (h : ∀ v ∈ R, Rooted W v) : Head g s0 L S W := by
  refine ⟨I.inv, fun v hv => ?_⟩
  have key : ∀ {v r : κ} {es : List (κ × E)}, Anc W0 v r es → W0 r = some none → Rooted W v := fun {v r es} t hr => by
    induction t with
    | refl v =>
      by_cases q : v ∈ R
      · exact h v q
      · exact ⟨v, [], .refl v, by rw [I.same v q]; exact hr⟩
    | @step v p e u es hw t ih =>
      by_cases q : v ∈ R
      · exact h v q
      · exact Rooted.of (Anc.step (es := []) (by rw [I.same v q]; exact hw) (.refl p)) (ih hr)
  by_cases q : v ∈ R
  · exact h v q
  · rw [I.same v q] at hv
    obtain ⟨r, es, t, hr⟩ := I0.rooted v hv
    exact key t hr
/-- a loop of the pointers is a loop of the graph that adds -/
theorem CInv.loop {g : Gr κ E} {s0 : κ} {L : List κ} {S : κ → Option Int} {W : PW κ E} (I : CInv g s0 L S W) {v : κ} {es : List (κ × E)} (a : Anc W v v es) (h : es ≠ []) :
    g.run v (es.map (·.2)) = v ∧ 0 < g.dif v (es.map (·.2)) ∧ es.map (·.2) ≠ [] ∧ ∀ e ∈ es.map (·.2), e ∈ g.evs := by
  obtain ⟨h1, h2⟩ := a.run I.edgeOk
  obtain ⟨p, e, es', h3, h4, h5⟩ := a.inv h
  refine ⟨h1, ?_, by simpa using h, a.evs I.edgeOk⟩
  rw [h2, h5, g.wsum_snoc]
  exact I.pos v p e es' h3 h4
end climb

/-! ### a thing in a loop -/
section seek
variable {κ E : Type} [DecidableEq κ]
/-- seen: by the turn -/
structure Seek (W : PW κ E) (seen : κ → Option Nat) (i : Nat) (thing here : κ) : Prop where
  old : ∀ x t, seen x = some t → (t < i ∧ Rooted W x) ∨ (t = i ∧ ∃ es, es ≠ [] ∧ Anc W x here es)
  at_ : thing = here ∨ seen thing = some i
  hk : W here ≠ none
  sk : ∀ x t, seen x = some t → W x ≠ none
def Turns (W : PW κ E) (seen : κ → Option Nat) (i : Nat) : Prop := ∀ x t, seen x = some t → t < i ∧ Rooted W x ∧ W x ≠ none
theorem Seek.start {W : PW κ E} {seen : κ → Option Nat} {i : Nat} {thing : κ} (T : Turns W seen i) (hk : W thing ≠ none) : Seek W seen i thing thing :=
  ⟨fun x t h => .inl ⟨(T x t h).1, (T x t h).2.1⟩, .inl rfl, hk, fun x t h => (T x t h).2.2⟩
theorem Seek.step {W : PW κ E} {seen : κ → Option Nat} {i : Nat} {thing here p : κ} {e : E} (I : Seek W seen i thing here) (hp : W here = some (some (p, e))) (hk : W p ≠ none) : Seek W (put seen here i) i thing p := by
  have one : Anc W here p [(p, e)] := Anc.step (es := []) hp (.refl p)
  refine ⟨fun x t h => ?_, ?_, hk, fun x t h => ?_⟩
  · by_cases q : x = here
    · subst q
      rw [put_same] at h
      exact .inr ⟨(Option.some.inj h).symm, _, by simp, one⟩
    · rw [put_ne _ _ q] at h
      rcases I.old x t h with z | ⟨z, es, h1, h2⟩
      · exact .inl z
      · exact .inr ⟨z, _, by simp, h2.up hp⟩
  · by_cases q : thing = here
    · exact .inr (by rw [q, put_same])
    · rcases I.at_ with z | z
      · exact absurd z q
      · exact .inr (by rw [put_ne _ _ q]; exact z)
  · by_cases q : x = here
    · rw [q]; exact I.hk
    · rw [put_ne _ _ q] at h
      exact I.sk x t h
/-- the walk's end: a loop, or all lead to the root -/
theorem Seek.found {W : PW κ E} {seen : κ → Option Nat} {i : Nat} {thing here : κ} (I : Seek W seen i thing here) (h : seen here = some i) : ∃ es, es ≠ [] ∧ Anc W here here es := by
  rcases I.old here i h with ⟨z, _⟩ | ⟨_, z⟩
  · exact absurd z (Nat.lt_irrefl _)
  · exact z
theorem Seek.go {W : PW κ E} {seen : κ → Option Nat} {i : Nat} {thing here : κ} (I : Seek W seen i thing here) (h : (∃ t, seen here = some t ∧ t ≠ i) ∨ W here = some none) : Turns W seen (i + 1) ∧ Rooted W thing := by
  have hr : Rooted W here := by
    rcases h with ⟨t, h1, h2⟩ | h
    · rcases I.old here t h1 with ⟨_, z⟩ | ⟨z, _⟩
      · exact z
      · exact absurd z h2
    · exact ⟨here, [], .refl _, h⟩
  have all : ∀ x t, seen x = some t → t < i + 1 ∧ Rooted W x ∧ W x ≠ none := fun x t hx => by
    rcases I.old x t hx with ⟨h1, h2⟩ | ⟨h1, es, _, h3⟩
    · exact ⟨by omega, h2, I.sk x t hx⟩
    · exact ⟨by omega, Rooted.of h3 hr, I.sk x t hx⟩
  refine ⟨all, ?_⟩
  rcases I.at_ with z | z
  · rw [z]; exact hr
  · exact (all thing i z).2.1
end seek

/-! ### first ways -/
section first
variable {κ E : Type} [DecidableEq κ]
structure FInv (g : Gr κ E) (s0 : κ) (W : PW κ E) : Prop where
  edge : EdgeOk g W
  par : ∀ v p e, W v = some (some (p, e)) → W p ≠ none
  root : ∀ v, W v = some none → v = s0
  st : W s0 ≠ none
  reach : ∀ v, W v ≠ none → g.Reach s0 v
  rooted : Allrooted W
theorem finv_start (g : Gr κ E) (s0 : κ) : FInv g s0 (put (fun _ => none) s0 none) where
  edge := fun v p e h => by
    by_cases q : v = s0
    · rw [q, put_same] at h; cases h
    · rw [put_ne _ _ q] at h; cases h
  par := fun v p e h => by
    by_cases q : v = s0
    · rw [q, put_same] at h; cases h
    · rw [put_ne _ _ q] at h; cases h
  root := fun v h => by
    by_cases q : v = s0
    · exact q
    · rw [put_ne _ _ q] at h; cases h
  st := by rw [put_same]; simp
  reach := fun v h => by
    by_cases q : v = s0
    · rw [q]; exact .base
    · rw [put_ne _ _ q] at h; exact absurd rfl h
  rooted := fun v h => by
    by_cases e : v = s0
    · subst e
      exact ⟨_, [], .refl _, put_same _ _ _⟩
    · rw [put_ne _ _ e] at h
      exact absurd rfl h
theorem FInv.add {g : Gr κ E} {s0 : κ} {W : PW κ E} (I : FInv g s0 W) {u : κ} {e : E} (hu : W u ≠ none) (he : e ∈ g.evs) (hn : W (g.nxt u e) = none) : FInv g s0 (put W (g.nxt u e) (some (u, e))) := by
  have hreach : g.Reach s0 (g.nxt u e) := .step (I.reach u hu) he
  generalize hv : g.nxt u e = v at *
  have keep : ∀ {x r : κ} {es : List (κ × E)}, Anc W x r es → W x ≠ none → Anc (put W v (some (u, e))) x r es := fun {x r es} t => by
    induction t with
    | refl x => exact fun _ => .refl x
    | @step x p f r es hw t ih =>
      intro _
      have hx : x ≠ v := fun z => by rw [z, hn] at hw; cases hw
      exact .step (by rw [put_ne _ _ hx]; exact hw) (ih (I.par x p f hw))
  have rt : ∀ x, W x ≠ none → Rooted (put W v (some (u, e))) x := fun x hx => by
    obtain ⟨r, es, t, hr⟩ := I.rooted x hx
    have hrv : r ≠ v := fun z => by rw [z, hn] at hr; cases hr
    exact ⟨r, es, keep t hx, by rw [put_ne _ _ hrv]; exact hr⟩
  refine ⟨fun x p f h => ?_, fun x p f h => ?_, fun x h => ?_, ?_, fun x h => ?_, fun x h => ?_⟩
  · by_cases q : x = v
    · rw [q, put_same] at h
      cases h
      exact ⟨he, by rw [q]; exact hv⟩
    · rw [put_ne _ _ q] at h
      exact I.edge x p f h
  · have hp : W p ≠ none := by
      by_cases q : x = v
      · rw [q, put_same] at h
        cases h
        exact hu
      · rw [put_ne _ _ q] at h
        exact I.par x p f h
    have hpv : p ≠ v := fun z => by rw [z] at hp; exact hp hn
    rw [put_ne _ _ hpv]
    exact hp
  · by_cases q : x = v
    · rw [q, put_same] at h; cases h
    · rw [put_ne _ _ q] at h
      exact I.root x h
  · by_cases q : s0 = v
    · rw [q, put_same]; simp
    · rw [put_ne _ _ q]; exact I.st
  · by_cases q : x = v
    · rw [q]; exact hreach
    · rw [put_ne _ _ q] at h
      exact I.reach x h
  · by_cases q : x = v
    · subst q
      exact Rooted.of (Anc.step (es := []) (put_same _ _ _) (.refl u)) (rt u hu)
    · rw [put_ne _ _ q] at h
      exact rt x h
/-- the way from the first thing -/
theorem FInv.way {g : Gr κ E} {s0 : κ} {W : PW κ E} (I : FInv g s0 W) {v r : κ} {es : List (κ × E)} (a : Anc W v r es) (hr : W r = some none) : g.run s0 (es.map (·.2)) = v ∧ ∀ e ∈ es.map (·.2), e ∈ g.evs := by
  have := I.root r hr
  subst this
  exact ⟨(a.run I.edge).1, a.evs I.edge⟩
end first

/-! ### many passes -/
end K49
set_option Elab.async false
set_option linter.all false
set_option maxRecDepth 100000
set_option autoImplicit false
/-! Data (tuples of numbers and texts, nested) in the abstract heap; dicts whose keys are such data. -/
namespace K49
open PySem PySem.Spec PyProof.Rows L2

/-! ### data -/
mutual
inductive KAt (H : Hp) : NestedKey → V → Prop
  | none : KAt H .none .non
  | num (i : Int) : KAt H (.num i) (.int i)
  | text (x : Str) : KAt H (.text x) (.str x)
  | tup {a : Addr} {vs : List V} {ks : List NestedKey} : H a = some (.tup vs) → KAts H ks vs → KAt H (.tup ks) (.ref a)
inductive KAts (H : Hp) : List NestedKey → List V → Prop
  | nil : KAts H [] []
  | cons {k : NestedKey} {v : V} {ks : List NestedKey} {vs : List V} : KAt H k v → KAts H ks vs → KAts H (k :: ks) (v :: vs)
end
/-- the tuples stay -/
def Ts (H H' : Hp) : Prop := ∀ b xs, H b = some (.tup xs) → H' b = some (.tup xs)
theorem Ts.refl (H : Hp) : Ts H H := fun _ _ h => h
theorem Ts.trans {H H1 H2 : Hp} (a : Ts H H1) (b : Ts H1 H2) : Ts H H2 := fun c xs h => b c xs (a c xs h)
theorem Ts.of {H H' : Hp} (e : Same H H') : Ts H H' := fun b xs h => e b _ h
theorem Ts.upd {H : Hp} {a : Addr} {o u : HO} (h : H a = some o) (n : ∀ xs, o ≠ .tup xs) : Ts H (upd H a u) := fun b xs q => by
  have : b ≠ a := fun e => by
    subst e
    rw [h] at q
    exact n xs (Option.some.inj q)
  rw [upd_ne this]
  exact q
theorem Ts.new {H : Hp} {a : Addr} {u : HO} (h : H a = none) : Ts H (L2.upd H a u) := fun b xs q => by
  rw [upd_ne (ne_of_none q h)]
  exact q
mutual
theorem KAt.mono {H H' : Hp} (t : Ts H H') : ∀ (k : NestedKey) (v : V), KAt H k v → KAt H' k v
  | .none, _, h => by cases h; exact .none
  | .num i, _, h => by cases h; exact .num i
  | .text x, _, h => by cases h; exact .text x
  | .tup ks, _, h => by
    cases h with
    | tup h1 h2 => exact .tup (t _ _ h1) (KAts.mono t ks _ h2)
theorem KAts.mono {H H' : Hp} (t : Ts H H') : ∀ (ks : List NestedKey) (vs : List V), KAts H ks vs → KAts H' ks vs
  | [], _, h => by cases h; exact .nil
  | k :: ks, _, h => by
    cases h with
    | cons h1 h2 => exact .cons (KAt.mono t k _ h1) (KAts.mono t ks _ h2)
end
theorem KAt.up {H H' : Hp} {k : NestedKey} {v : V} (h : KAt H k v) (t : Ts H H') : KAt H' k v := KAt.mono t k v h
theorem KAts.up {H H' : Hp} {ks : List NestedKey} {vs : List V} (h : KAts H ks vs) (t : Ts H H') : KAts H' ks vs := KAts.mono t ks vs h
theorem KAts.length {H : Hp} : ∀ {ks : List NestedKey} {vs : List V}, KAts H ks vs → vs.length = ks.length
  | [], _, h => by cases h; rfl
  | _ :: ks, _, h => by
    cases h with
    | cons _ h2 => rw [List.length_cons, List.length_cons, h2.length]
theorem KAts.get {H : Hp} : ∀ {ks : List NestedKey} {vs : List V} {i : Nat} {k : NestedKey}, KAts H ks vs → ks[i]? = some k → ∃ v, vs[i]? = some v ∧ KAt H k v
  | [], _, i, k, h, e => by simp at e
  | k0 :: ks, _, 0, k, h, e => by
    cases h with
    | cons h1 h2 =>
      have e' : k0 = k := by simpa using e
      subst e'
      exact ⟨_, rfl, h1⟩
  | k0 :: ks, _, i + 1, k, h, e => by
    cases h with
    | cons h1 h2 =>
      obtain ⟨v, h3, h4⟩ := h2.get (i := i) (k := k) (by simpa using e)
      exact ⟨v, by simpa using h3, h4⟩
theorem KAts.getV {H : Hp} : ∀ {ks : List NestedKey} {vs : List V} {i : Nat} {v : V}, KAts H ks vs → vs[i]? = some v → ∃ k, ks[i]? = some k ∧ KAt H k v
  | [], _, i, v, h, e => by cases h; simp at e
  | k0 :: ks, _, 0, v, h, e => by
    cases h with
    | @cons _ v0 _ _ h1 h2 =>
      have e' : v0 = v := by simpa using e
      subst e'
      exact ⟨_, rfl, h1⟩
  | k0 :: ks, _, i + 1, v, h, e => by
    cases h with
    | cons h1 h2 =>
      obtain ⟨k, h3, h4⟩ := h2.getV (i := i) (v := v) (by simpa using e)
      exact ⟨k, by simpa using h3, h4⟩
theorem KAts.append {H : Hp} : ∀ {ks ls : List NestedKey} {vs ws : List V}, KAts H ks vs → KAts H ls ws → KAts H (ks ++ ls) (vs ++ ws)
  | [], _, _, _, h, g => by cases h; exact g
  | _ :: _, _, _, _, h, g => by
    cases h with
    | cons h1 h2 => exact .cons h1 (h2.append g)
theorem KAts.take {H : Hp} : ∀ {ks : List NestedKey} {vs : List V} (n : Nat), KAts H ks vs → KAts H (ks.take n) (vs.take n)
  | [], _, n, h => by cases h; simp; exact .nil
  | _ :: _, _, 0, h => .nil
  | _ :: _, _, n + 1, h => by
    cases h with
    | cons h1 h2 => exact .cons h1 (h2.take n)
theorem KAts.drop {H : Hp} : ∀ {ks : List NestedKey} {vs : List V} (n : Nat), KAts H ks vs → KAts H (ks.drop n) (vs.drop n)
  | [], _, n, h => by cases h; simp; exact .nil
  | _ :: _, _, 0, h => h
  | _ :: _, _, n + 1, h => by
    cases h with
    | cons h1 h2 => exact h2.drop n
theorem KAts.set {H : Hp} {k : NestedKey} {v : V} (g : KAt H k v) : ∀ {ks : List NestedKey} {vs : List V} (n : Nat), KAts H ks vs → KAts H (ks.set n k) (vs.set n v)
  | [], _, n, h => by cases h; exact .nil
  | _ :: _, _, 0, h => by
    cases h with
    | cons h1 h2 => exact .cons g h2
  | _ :: _, _, n + 1, h => by
    cases h with
    | cons h1 h2 => exact .cons h1 (h2.set g n)
theorem KAts.rep {H : Hp} {k : NestedKey} {v : V} (g : KAt H k v) : ∀ n : Nat, KAts H (List.replicate n k) (List.replicate n v)
  | 0 => .nil
  | n + 1 => .cons g (KAts.rep g n)
mutual
theorem KAt.inj {H : Hp} : ∀ (k k' : NestedKey) (v : V), KAt H k v → KAt H k' v → k = k'
  | .none, _, _, h, h' => by cases h; cases h'; rfl
  | .num _, _, _, h, h' => by cases h; cases h'; rfl
  | .text _, _, _, h, h' => by cases h; cases h'; rfl
  | .tup ks, _, _, h, h' => by
    cases h with
    | tup h1 h2 =>
      cases h' with
      | tup h3 h4 =>
        rw [h1] at h3
        cases h3
        rw [KAts.inj ks _ _ h2 h4]
theorem KAts.inj {H : Hp} : ∀ (ks ks' : List NestedKey) (vs : List V), KAts H ks vs → KAts H ks' vs → ks = ks'
  | [], _, _, h, h' => by cases h; cases h'; rfl
  | k :: ks, _, _, h, h' => by
    cases h with
    | cons h1 h2 =>
      cases h' with
      | cons h3 h4 => rw [KAt.inj k _ _ h1 h3, KAts.inj ks _ _ h2 h4]
end
section
variable {X : Cx} {pins : List (Addr × Obj)} {σ : L2.St} {H : Hp} {s : Shared}
mutual
theorem kat_is (I : Inv X pins σ H s) : ∀ (k : NestedKey) (v : V) (u : Value), KAt H k v → RelV v u → NestedIs s.heap k u
  | .none, _, _, h, r => by cases h; cases r; exact .none
  | .num i, _, _, h, r => by
    cases h
    obtain ⟨t, rfl⟩ := r
    exact .int i t
  | .text x, _, _, h, r => by
    cases h
    obtain ⟨t, rfl⟩ := r
    exact .text x t
  | .tup ks, _, _, h, r => by
    cases h with
    | @tup a vs _ h1 h2 =>
      cases r
      obtain ⟨its, rv, ⟨o, e, c, n, d⟩, _⟩ := I.tuple (SqT.of h1)
      exact .tup e c d (by simpa using kats_is I ks vs its h2 rv)
theorem kats_is (I : Inv X pins σ H s) : ∀ (ks : List NestedKey) (vs : List V) (us : List Value), KAts H ks vs → Vals vs us → NestedAll s.heap ks us
  | [], _, _, h, r => by cases h; cases r; exact .nil
  | k :: ks, _, _, h, r => by
    cases h with
    | cons h1 h2 =>
      cases r with
      | cons r1 r2 => exact .cons (kat_is I k _ _ h1 r1) (kats_is I ks _ _ h2 r2)
end
end

/-! ### dicts with such keys: (key, where its tuple stands, value) -/
abbrev KE3 := List (NestedKey × Addr × V)
def KR : KE3 → List (NestedKey × Addr × Value) → Prop := Paired fun p q => p.1 = q.1 ∧ p.2.1 = q.2.1 ∧ RelV p.2.2 q.2.2
def DNp (P : Program) (w : World) (d : Addr) (kas : KE3) : Heap → Prop := fun h => kas.length ≤ sizeLine ∧ (d == sysModules) = false ∧ ∃ xs, KR kas xs ∧
  ∃ o es ep, h.get? d = some o ∧ o.ExactDict ∧ o.data = .dict es ep ∧ es.toList = xs.map (entryOfKey (nestedKind P w)) ∧ (xs.map (·.1)).Nodup
def DNo (P : Program) (w : World) (d : Addr) (kas : KE3) : HO := .ext (DNp P w d kas)
/-- keys and values -/
def kvs3 (kas : KE3) : List (NestedKey × V) := kas.map fun x => (x.1, x.2.2)
/-- the keys' tuples stand -/
def KeysAt (H : Hp) (kas : KE3) : Prop := ∀ x ∈ kas, KAt H x.1 (.ref x.2.1) ∧ x.1.depth ≤ 8
/-- the dict at d may be read: its pairs in order -/
def DRd (P : Program) (w : World) (H : Hp) (d : Addr) (kvs : List (NestedKey × V)) : Prop := ∃ kas, Rd H d (DNo P w d kas) ∧ KeysAt H kas ∧ kvs3 kas = kvs
/-- it may be written -/
def DNt (P : Program) (w : World) (H : Hp) (d : Addr) (kvs : List (NestedKey × V)) : Prop := ∃ kas, H d = some (DNo P w d kas) ∧ KeysAt H kas ∧ kvs3 kas = kvs
section
variable {P : Program} {w : World} {H H' : Hp} {h : Heap} {d : Addr} {kvs : List (NestedKey × V)} {kas : KE3}
theorem DNt.rd (x : DNt P w H d kvs) : DRd P w H d kvs := let ⟨kas, a, b, c⟩ := x; ⟨kas, .inl a, b, c⟩
theorem KeysAt.up (x : KeysAt H kas) (t : Ts H H') : KeysAt H' kas := fun y hy => ⟨(x y hy).1.up t, (x y hy).2⟩
/-- it stays -/
theorem DNt.up (x : DNt P w H d kvs) (t : Ts H H') (e : ∀ o, H d = some o → H' d = some o) : DNt P w H' d kvs := let ⟨kas, a, b, c⟩ := x; ⟨kas, e _ a, b.up t, c⟩
theorem DNt.same (x : DNt P w H d kvs) (e : Same H H') : DNt P w H' d kvs := x.up (Ts.of e) fun o q => e _ _ q
theorem DRd.same (x : DRd P w H d kvs) (e : Same H H') : DRd P w H' d kvs := by
  obtain ⟨kas, a, b, c⟩ := x
  refine ⟨kas, ?_, b.up (Ts.of e), c⟩
  rcases a with a | ⟨o, a⟩
  · exact .inl (e _ _ a)
  · exact .inr ⟨o, e _ _ a⟩
theorem DNt.obj (x : DNt P w H d kvs) : ∃ φ, H d = some (.ext φ) := let ⟨_, a, _⟩ := x; ⟨_, a⟩
theorem KR.length {kas : KE3} {xs : List (NestedKey × Addr × Value)} (r : KR kas xs) : kas.length = xs.length := Paired.length r
theorem KR.val {kas : KE3} {xs : List (NestedKey × Addr × Value)} (r : KR kas xs) (k : NestedKey) : RelO (valV (kvs3 kas) k) ((atKey xs k).map (·.2)) := by
  unfold KR at r
  induction r with
  | nil => exact True.intro
  | @cons p q ps qs h t ih =>
    obtain ⟨h1, _, h2⟩ := h
    by_cases e : p.1 = k
    · have e' : q.1 = k := h1.symm.trans e
      have b : atKey (q :: qs) k = some q.2 := by simp [atKey, List.find?_cons, e']
      rw [b]
      show RelO (valV ((p.1, p.2.2) :: kvs3 ps) k) _
      rw [valV_pos (p := (p.1, p.2.2)) e]
      exact h2
    · have e' : ¬ q.1 = k := fun z => e (h1.trans z)
      have b : atKey (q :: qs) k = atKey qs k := by simp [atKey, List.find?_cons, e']
      rw [b]
      show RelO (valV ((p.1, p.2.2) :: kvs3 ps) k) _
      rw [valV_neg (p := (p.1, p.2.2)) e]
      exact ih
/-- in its place, or at the end -/
def put3 (kas : KE3) (k : NestedKey) (a : Addr) (v : V) : KE3 :=
  if (valV (kvs3 kas) k).isSome = true then kas.map (fun x => if x.1 = k then (x.1, x.2.1, v) else x) else kas ++ [(k, a, v)]
theorem kvs3_put (kas : KE3) (k : NestedKey) (a : Addr) (v : V) : kvs3 (put3 kas k a v) = putK (kvs3 kas) k v := by
  unfold put3 putK
  rw [valV_any]
  split
  · unfold kvs3
    rw [List.map_map, List.map_map]
    refine List.map_congr_left fun x _ => ?_
    by_cases h : x.1 = k <;> simp [h]
  · unfold kvs3
    rw [List.map_append]
    rfl
theorem KR.repl {kas : KE3} {xs : List (NestedKey × Addr × Value)} (r : KR kas xs) (k : NestedKey) {y : V} {u : Value} (ry : RelV y u) :
    KR (kas.map fun x => if x.1 = k then (x.1, x.2.1, y) else x) (xs.map (putAt k u)) := by
  unfold KR at r ⊢
  induction r with
  | nil => exact .nil
  | @cons p q ps qs h t ih =>
    rw [List.map_cons, List.map_cons]
    refine .cons ?_ ih
    obtain ⟨h1, h2, h3⟩ := h
    unfold putAt
    by_cases e : p.1 = k
    · rw [if_pos e, if_pos (h1.symm.trans e)]
      exact ⟨h1, h2, ry⟩
    · rw [if_neg e, if_neg (fun z => e (h1.trans z))]
      exact ⟨h1, h2, h3⟩
theorem KR.put {kas : KE3} {xs : List (NestedKey × Addr × Value)} (r : KR kas xs) (k : NestedKey) (b : Addr) {y : V} {u : Value} (ry : RelV y u) : KR (put3 kas k b y) (storedH xs k b u) := by
  have e : (valV (kvs3 kas) k).isSome = (atKey xs k).isSome := by
    rw [(r.val k).isSome_eq, Option.isSome_map]
  unfold put3 storedH
  rw [e]
  by_cases q : (atKey xs k).isSome = true
  · rw [if_pos q, if_pos q]
    exact r.repl k ry
  · rw [if_neg q, if_neg q]
    exact Paired.snoc r ⟨rfl, rfl, ry⟩
theorem length_put3 (kas : KE3) (k : NestedKey) (a : Addr) (v : V) : (put3 kas k a v).length ≤ kas.length + 1 := by
  unfold put3
  split
  · rw [List.length_map]
    omega
  · rw [List.length_append, List.length_cons, List.length_nil]
    omega
theorem keysAt_put {kas : KE3} {k : NestedKey} {a : Addr} {v : V} (x : KeysAt H kas) (h : KAt H k (.ref a)) (hd : k.depth ≤ 8) : KeysAt H (put3 kas k a v) := fun y hy => by
  unfold put3 at hy
  split at hy
  · obtain ⟨z, hz, e⟩ := List.mem_map.mp hy
    by_cases q : z.1 = k
    · rw [if_pos q] at e
      subst e
      exact x z hz
    · rw [if_neg q] at e
      subst e
      exact x z hz
  · rcases List.mem_append.mp hy with z | z
    · exact x y z
    · have e := List.mem_singleton.mp z
      subst e
      exact ⟨h, hd⟩
end

section
variable {X : Cx} {pins : List (Addr × Obj)} {σ : L2.St} {H : Hp} {s : Shared} {a b : Addr} {k : NestedKey} {kvs : List (NestedKey × V)} {y v : V} {u r : Value} {A : Around} {E : Value → Shared → Prop}
theorem dn_heap (I : Inv X pins σ H s) (g : DRd X.prog X.w H a kvs) : kvs.length ≤ sizeLine ∧ (a == sysModules) = false ∧ ∃ xs, (∃ kas, KR kas xs ∧ kvs3 kas = kvs ∧ Rd H a (DNo X.prog X.w a kas) ∧ KeysAt H kas) ∧ s.heap.DictOfH (nestedKind X.prog X.w) a xs := by
  obtain ⟨kas, hr, hk, e⟩ := g
  have x : ObjOk X.prog X.w H s.heap a (DNo X.prog X.w a kas) := hr.ok I.hok
  obtain ⟨⟨z, hd, xs, rel, o, es, ep, h1, h2, h3, h4, h5⟩, _⟩ := x
  refine ⟨by rw [← e]; unfold kvs3; rw [List.length_map]; exact z, hd, xs, ⟨kas, rel, e, hr, hk⟩, o, es, ep, h1, h2, h3, h4, ?_, h5⟩
  have all : ∀ {l : KE3} {m : List (NestedKey × Addr × Value)}, KR l m → KeysAt H l → ∀ x ∈ m, (nestedKind X.prog X.w).is s.heap x.1 x.2.1 := by
    intro l m q
    unfold KR at q
    induction q with
    | nil => exact fun _ x hx => nomatch hx
    | @cons p q ps qs hq t ih =>
      intro hk x hx
      rcases List.mem_cons.mp hx with e | hx
      · subst e
        obtain ⟨e1, e2, _⟩ := hq
        obtain ⟨k1, k2⟩ := hk p List.mem_cons_self
        rw [← e1, ← e2]
        exact ⟨kat_is I _ _ _ k1 rfl, k2⟩
      · exact ih (fun y hy => hk y (List.mem_cons_of_mem _ hy)) x hx
  exact all rel hk
theorem key_is (I : Inv X pins σ H s) (h : KAt H k (.ref b)) (hd : k.depth ≤ 8) : (nestedKind X.prog X.w).is s.heap k b := ⟨kat_is I _ _ _ h rfl, hd⟩
theorem room8 (hu : A.units + 9 < cLine) : (nestedKind X.prog X.w).room A.in1 := by
  show A.in1.units + 8 < cLine
  have : A.in1.units = A.units + 1 := rfl
  omega
theorem room8' (hu : A.units + 9 < cLine) : (nestedKind X.prog X.w).room A := by
  show A.units + 8 < cLine
  omega
/-- d[k], there -/
theorem dn_get {Q : Value → Shared → Prop} (hu : A.units + 9 < cLine) (I : Inv X pins σ H s) (g : DRd X.prog X.w H a kvs) (hk : KAt H k (.ref b)) (hd : k.depth ≤ 8) (l : valV kvs k = some v) (h : ∀ w' s', Inv X pins σ H s' → RelV v w' → Q w' s') :
    wpAny (model X.prog X.w) A (getItem (.ref a) (.ref b)) Q E s := by
  obtain ⟨z, hs, xs, ⟨kas, rel, e, _, _⟩, dd⟩ := dn_heap I g
  obtain ⟨w', hw, rw'⟩ := RelO.some_of (v := v) (o := (atKey xs k).map (·.2)) (by rw [← l, ← e]; exact rel.val k)
  obtain ⟨p, hp, hp2⟩ := Option.map_eq_some_iff.mp hw
  refine wpAny_getItem_heap (room8 hu) (key_is I hk hd) dd hp ?_
  rw [hp2]
  exact h w' _ (I.tok _) rw'
/-- k in d -/
theorem dn_in {Q : Value → Shared → Prop} (hu : A.units + 9 < cLine) (I : Inv X pins σ H s) (g : DRd X.prog X.w H a kvs) (hk : KAt H k (.ref b)) (hd : k.depth ≤ 8) (h : ∀ s', Inv X pins σ H s' → Q (.bool (valV kvs k).isSome) s') :
    wpAny (model X.prog X.w) A (compareOp .In (.ref b) (.ref a)) Q E s := by
  obtain ⟨z, hs, xs, ⟨kas, rel, e, _, _⟩, dd⟩ := dn_heap I g
  refine wpAny_in_heap (room8 hu) (key_is I hk hd) hs dd ?_
  have q := (rel.val k).isSome_eq
  rw [Option.isSome_map, e] at q
  rw [← q]
  exact h _ (I.tok _)
theorem dn_notIn {Q : Value → Shared → Prop} (hu : A.units + 9 < cLine) (I : Inv X pins σ H s) (g : DRd X.prog X.w H a kvs) (hk : KAt H k (.ref b)) (hd : k.depth ≤ 8) (h : ∀ s', Inv X pins σ H s' → Q (.bool (!(valV kvs k).isSome)) s') :
    wpAny (model X.prog X.w) A (compareOp .NotIn (.ref b) (.ref a)) Q E s := by
  obtain ⟨z, hs, xs, ⟨kas, rel, e, _, _⟩, dd⟩ := dn_heap I g
  refine wpAny_notIn_heap (room8 hu) (key_is I hk hd) hs dd ?_
  have q := (rel.val k).isSome_eq
  rw [Option.isSome_map, e] at q
  rw [← q]
  exact h _ (I.tok _)
/-- d.get(k) -/
theorem dn_get1 {Q : Value → Shared → Prop} (hu : A.units + 9 < cLine) (I : Inv X pins σ H s) (g : DRd X.prog X.w H a kvs) (hk : KAt H k (.ref b)) (hd : k.depth ≤ 8) (h : ∀ w' s', Inv X pins σ H s' → RelV ((valV kvs k).getD .non) w' → Q w' s') :
    wpAny (model X.prog X.w) A (call (.builtin "dict.get") [.ref a, .ref b]) Q E s := by
  obtain ⟨z, hs, xs, ⟨kas, rel, e, _, _⟩, dd⟩ := dn_heap I g
  refine call_meetsIn PySem.F.slot_dict_get dd.typeIs PySem.F.entry_dict_get (PySem.F.args_dict_get_2 _ _) (meetsH_dict_get (nestedKind X.prog X.w) a b hs) ⟨room8 hu, k, xs, key_is I hk hd, dd, h _ _ (I.tok _) ?_⟩
  have q := rel.val k
  rw [e] at q
  exact q.getD rfl
/-- what a store leaves -/
def Put (P : Program) (w : World) (H : Hp) (a : Addr) (k : NestedKey) (v : V) (kvs : List (NestedKey × V)) (H' : Hp) : Prop := (∃ φ, H' = upd H a (.ext φ)) ∧ DNt P w H' a (putK kvs k v)
/-- d[k] = v -/
theorem dn_set {Q : Unit → Shared → Prop} (hu : A.units + 9 < cLine) (I : Inv X pins σ H s) (g : DNt X.prog X.w H a kvs) (hk : KAt H k (.ref b)) (hd : k.depth ≤ 8) (hl : kvs.length < sizeLine) (rv : RelV v r)
    (h : ∀ H' s', Put X.prog X.w H a k v kvs H' → Inv X pins σ H' s' → Q () s') : wpAny (model X.prog X.w) A (setItem (.ref a) (.ref b) r) Q E s := by
  obtain ⟨kas, hr, hka, e⟩ := g
  have x : ObjOk X.prog X.w H s.heap a (DNo X.prog X.w a kas) := I.hok a _ hr
  obtain ⟨⟨z, hs, xs, rel, _⟩, _⟩ := id x
  obtain ⟨_, _, xs', ⟨kas', rel', e', hr', _⟩, dd⟩ := dn_heap I (DNt.rd ⟨kas, hr, hka, e⟩)
  have len : kas'.length = kvs.length := by rw [← e']; unfold kvs3; rw [List.length_map]
  have hz : xs'.length ≤ sizeLine := by rw [← rel'.length]; omega
  have len0 : kas.length = kvs.length := by rw [← e]; unfold kvs3; rw [List.length_map]
  refine wpAny_setItem_heap (hsz := hz) (room8 hu) (key_is I hk hd) dd fun h' dd' hsb => ?_
  obtain ⟨q, es, ep, hq, h2, h3, h4, h5, h6⟩ := dd'
  have hl3 : (put3 kas' k b v).length ≤ sizeLine := by have := length_put3 kas' k b v; omega
  have new : ∀ Hn, ObjOk X.prog X.w Hn h' a (DNo X.prog X.w a (put3 kas' k b v)) := fun Hn =>
    ⟨⟨hl3, hs, _, rel'.put k b rv, q, es, ep, hq, h2, h3, h4, h6⟩, ⟨q, hq⟩, fun g1 g2 ⟨y1, y2, y3, y4, yo, yes, yep, y5, y6⟩ st => ⟨y1, y2, y3, y4, yo, yes, yep, st _ y5, y6⟩⟩
  have tsame : Ts H (upd H a (DNo X.prog X.w a (put3 kas' k b v))) := Ts.upd hr fun _ z => nomatch z
  refine h _ _ ⟨⟨_, rfl⟩, put3 kas' k b v, upd_same, ?_, by rw [kvs3_put, e']⟩ (I.write (x := a) (e := a) (by rw [hr]; exact True.intro) (.inl rfl) (fun c qo hc zz => (hsb.2 c hc).trans zz) ⟨q, hq⟩ (new _))
  refine (keysAt_put ?_ hk hd).up tsame
  rcases hr' with hr' | ⟨o, hr'⟩
  · rename_i hka'
    exact hka'
  · rename_i hka'
    exact hka'
end
end K49
set_option Elab.async false
set_option linter.all false
set_option maxRecDepth 100000
set_option maxHeartbeats 1000000
set_option autoImplicit false
/-! Rules of one form for each operator, whatever its operands are; rules for the dicts with nested keys. -/
namespace K49
open PySem PySem.Spec PyProof.Rows L2

/-! ### tuple * int, from 0 on -/
theorem tuple_mul1 (l : Addr) (items : Array Value) (n : Nat) (dd : Option Addr) (sl : Array (Option Value)) (u : Tok) :
    Meets (Builtin.«tuple.__mul__» ⟨[.ref l, .int 1 u], []⟩) (fun _ R s => s.heap.get? l = some { cls := .type "tuple", dict := dd, data := .seq items n, slots := sl } ∧ R (.ok (.ret (Value.ref l))) s) :=
  .of_wp fun prog w A R s h => by
    obtain ⟨hp, g, d, tk, os⟩ := s
    obtain ⟨hl, h⟩ := h
    have f1 := AutoSeq1.idx_int
    wp_walk using wpAny_loadPart' hl
    repeat (first
      | (refine wpAny_ite_false (decide_eq_false (by decide)) ?_; wp_walk using wpAny_loadPart' hl)
      | (refine wpAny_ite_true (decide_eq_true (by simp)) ?_; wp_walk using wpAny_loadPart' hl))
    exact ⟨_, rfl, h⟩
theorem tuple_mul0 (l : Addr) (items : Array Value) (n : Nat) (dd : Option Addr) (sl : Array (Option Value)) (u : Tok) (hne : items.isEmpty = false) :
    Meets (Builtin.«tuple.__mul__» ⟨[.ref l, .int 0 u], []⟩) (fun _ R s => s.heap.get? l = some { cls := .type "tuple", dict := dd, data := .seq items n, slots := sl } ∧
      R (.ok (.ret (Value.ref s.heap.objs.size))) { s with heap := s.heap.push { cls := Value.type "tuple", data := Data.seq #[] }, toks := s.toks }) :=
  .of_wp fun prog w A R s h => by
    obtain ⟨hp, g, d, tk, os⟩ := s
    obtain ⟨hl, h⟩ := h
    have f1 := AutoSeq1.idx_int
    wp_walk using wpAny_loadPart' hl
    repeat (first
      | (refine wpAny_ite_false (decide_eq_false (by decide)) ?_; wp_walk using wpAny_loadPart' hl)
      | (refine wpAny_ite_false (decide_eq_false (by rw [hne]; decide)) ?_; wp_walk using wpAny_loadPart' hl)
      | (refine wpAny_ite_true (decide_eq_true (by simp)) ?_; wp_walk using wpAny_loadPart' hl))
    exact ⟨_, rfl, h⟩
/-- t * n for a tuple that stands, 0 ≤ n -/
def rRepU : R2 := fun x y H Q => ∃ l xs, ∃ k : Nat, x = .ref l ∧ y = .int k ∧ H l = some (.tup xs) ∧ xs ≠ [] ∧ k ≤ 1000 ∧ xs.length ≤ 1000 ∧
  ∀ p H', Same H H' → H' p = some (.tup (List.replicate k xs).flatten) → Q (.ref p) H'
theorem same_new {H : Hp} {p : Addr} {o : HO} (h : H p = none) : Same H (upd H p o) := fun b u e => by
  rw [upd_ne (ne_of_none e h)]
  exact e
section
variable {X : Cx}
theorem op_repU : OpR X (binaryOp .Mult) rRepU := by
  intro pins s σ H x y v u Q I rx ry h
  obtain ⟨l, xs, k, rfl, rfl, hT, hne, h2, hz, q⟩ := h
  by_cases hk : 2 ≤ k
  · refine op_repT pins s σ H _ _ v u Q I rx ry ⟨l, k, xs, rfl, rfl, SqT.of hT, hne, by omega, by omega, hz, fun p hp => ?_⟩
    refine q p _ (same_new hp) ?_
    rw [upd_same]
    simp
  · cases rx
    obtain ⟨t, rfl⟩ := ry
    obtain ⟨its, r, ⟨⟨cls, dd, data, sl⟩, ho, hc, n, hd⟩, hs⟩ := I.tuple (SqT.of hT)
    simp only at hc hd
    subst hc hd
    have hle : its.length = xs.length := r.length.symm
    have hi : its.toArray.isEmpty = false := by
      cases its with
      | nil =>
        exact absurd (List.eq_nil_of_length_eq_zero hle.symm) hne
      | cons a b => rfl
    have hk01 : k = 0 ∨ k = 1 := by omega
    rcases hk01 with rfl | rfl
    · refine wpAny_binaryOp_repeat_ref (T := "tuple") (U := "int") (by decide) ⟨_, ho, rfl⟩ (fun s' => typeIs_int s' 0 t) noFill_tuple_mul F.fills_int_mul F.slot_int_rmul repeat_tuple F.slot_int_index.lookup
        (call_meets F.slot_int_rmul (typeIs_int s 0 t) F.entry_int_rmul (F.args_int_rmul_2 _ _) (int_rmul_tuple 0 t l its.toArray n dd sl)
          ⟨ho, rfl, ⟨_, ho, rfl⟩, call_meets F.slot_tuple_mul ⟨_, ho, rfl⟩ F.entry_tuple_mul (F.args_tuple_mul_2 _ _) (tuple_mul0 l its.toArray n dd sl t hi) ⟨ho, ?_⟩⟩)
      have hn := I.hok.fresh (Nat.le_refl s.heap.objs.size)
      refine ⟨.ref s.heap.objs.size, _, I.laid (t' := s.toks) (o := .tup []) (fun b ob q => Heap.get?_push_of_some _ q) (Nat.le_refl _) ⟨Nat.zero_le _, [], .nil, IsTup.new _ _⟩, rfl, q _ _ (same_new hn) ?_⟩
      rw [upd_same]
      rfl
    · refine wpAny_binaryOp_repeat_ref (T := "tuple") (U := "int") (by decide) ⟨_, ho, rfl⟩ (fun s' => typeIs_int s' 1 t) noFill_tuple_mul F.fills_int_mul F.slot_int_rmul repeat_tuple F.slot_int_index.lookup
        (call_meets F.slot_int_rmul (typeIs_int s 1 t) F.entry_int_rmul (F.args_int_rmul_2 _ _) (int_rmul_tuple 1 t l its.toArray n dd sl)
          ⟨ho, rfl, ⟨_, ho, rfl⟩, call_meets F.slot_tuple_mul ⟨_, ho, rfl⟩ F.entry_tuple_mul (F.args_tuple_mul_2 _ _) (tuple_mul1 l its.toArray n dd sl t) ⟨ho, ?_⟩⟩)
      refine ⟨.ref l, H, I, rfl, q l H (Same.refl H) ?_⟩
      rw [hT]
      simp

/-! ### one rule an operator -/
abbrev rAddU (K : PySem.W.Frag) : R2 := fun x y H Q => rI0 (fun i j => .int (i + j)) x y H Q ∨ rCatA K x y H Q ∨ rCat x y H Q
theorem op_addU : OpR X (binaryOp .Add) (rAddU X.K) := op_add.or (op_catA.or op_cat)
abbrev rMulU : R2 := fun x y H Q => rI CMul (fun i j => .int (i * j)) x y H Q ∨ rRepU x y H Q
theorem op_mulU : OpR X (binaryOp .Mult) rMulU := op_mul.or op_repU
abbrev rEqU (K : PySem.W.Frag) : R2 := fun x y H Q => rEq x y H Q ∨ rEqD K x y H Q
theorem op_eqU (hu : X.A.units + 64 < cLine) : OpR X (compareOp .Eq) (rEqU X.K) := op_eq.or (op_eqD hu)
abbrev rNeU (K : PySem.W.Frag) : R2 := fun x y H Q => rNe x y H Q ∨ rNeD K x y H Q
theorem op_neU (hu : X.A.units + 64 < cLine) : OpR X (compareOp .NotEq) (rNeU X.K) := op_ne.or (op_neD hu)
abbrev rSub : R2 := rI0 fun i j => .int (i - j)
abbrev rMod : R2 := rI (fun _ j => 0 < j) fun i j => .int (i % j)
abbrev rDiv : R2 := rI CDiv fun i j => .int (i / j)
abbrev rShl : R2 := rI CPow fun i j => .int (i * 2 ^ j.toNat)
abbrev rPow : R2 := rI CPow fun i j => .int (i ^ j.toNat)
abbrev rLt : R2 := rI0 fun i j => .bl (decide (i < j))
abbrev rLe : R2 := rI0 fun i j => .bl (decide (i ≤ j))
abbrev rGt : R2 := rI0 fun i j => .bl (decide (j < i))
abbrev rGe : R2 := rI0 fun i j => .bl (decide (j ≤ i))
abbrev rIsN : R2 := fun x y H Q => y = .non ∧ Q (.bl (decide (x = .non))) H
abbrev rNotN : R2 := fun x y H Q => y = .non ∧ Q (.bl (!decide (x = .non))) H

/-! ### the dicts with nested keys -/
/-- the key b is the data k -/
def KeyK (H : Hp) (y : V) (k : NestedKey) : Prop := (∃ b, y = .ref b) ∧ KAt H k y ∧ k.depth ≤ 8
def rInN (P : Program) (w : World) (neg : Bool) : R2 := fun x y H Q => ∃ a k kvs, y = .ref a ∧ KeyK H x k ∧ DRd P w H a kvs ∧ Q (.bl (if neg then !(valV kvs k).isSome else (valV kvs k).isSome)) H
theorem op_inN (hu : X.A.units + 9 < cLine) : OpR X (compareOp .In) (rInN X.prog X.w false) := by
  intro pins s σ H x y v u Q I rx ry h
  obtain ⟨a, k, kvs, rfl, ⟨⟨b, rfl⟩, hk, hd⟩, g, q⟩ := h
  cases rx
  cases ry
  exact dn_in hu I g hk hd fun s' I' => ⟨.bl (valV kvs k).isSome, H, I', rfl, q⟩
theorem op_notInN (hu : X.A.units + 9 < cLine) : OpR X (compareOp .NotIn) (rInN X.prog X.w true) := by
  intro pins s σ H x y v u Q I rx ry h
  obtain ⟨a, k, kvs, rfl, ⟨⟨b, rfl⟩, hk, hd⟩, g, q⟩ := h
  cases rx
  cases ry
  exact dn_notIn hu I g hk hd fun s' I' => ⟨.bl (!(valV kvs k).isSome), H, I', rfl, q⟩
abbrev rInU (P : Program) (w : World) (K : PySem.W.Frag) (neg : Bool) : R2 := fun x y H Q => rIn K neg x y H Q ∨ rInN P w neg x y H Q
theorem op_inU (hu : X.A.units + 64 < cLine) : OpR X (compareOp .In) (rInU X.prog X.w X.K false) := op_in_seq.or (op_inN (by omega))
theorem op_notInU (hu : X.A.units + 64 < cLine) : OpR X (compareOp .NotIn) (rInU X.prog X.w X.K true) := op_notIn_seq.or (op_notInN (by omega))
/-- d[k] -/
def rIxN (P : Program) (w : World) : R2 := fun x y H Q => ∃ a k kvs v, x = .ref a ∧ KeyK H y k ∧ DRd P w H a kvs ∧ valV kvs k = some v ∧ Q v H
theorem ix_dn (hu : X.A.units + 9 < cLine) : IxR X (rIxN X.prog X.w) := by
  intro value slice pins s σ H x y v u Q I rx ry h hs
  obtain ⟨a, k, kvs, z, rfl, ⟨⟨b, rfl⟩, hk, hd⟩, g, hv, q⟩ := h
  cases rx
  cases ry
  obtain ⟨_, _, xs, _, dd⟩ := dn_heap I g
  have hT : s.TypeIs (.ref a) "dict" := dd.typeIs
  have h₂ := dn_get (Q := EP X pins σ Q) (E := X.xe) hu I g hk hd hv fun w' s' I' rw' => ⟨z, H, I', rw', q⟩
  unfold subscriptTail
  refine wpAny_bind ?_
  rw [getitemInPython_of_ne hT.not_modules]
  refine wpAny_bind (wpAny_specialOf hT PySem.F.slot_dict_getitem.lookup ?_)
  have fin : wpAny (model X.prog X.w) X.A (subscripted slice false (.ref a) (.ref b)) (fun r s₃ => wpAny (model X.prog X.w) X.A (letTemporaryGo value (.ref a) r >>= fun _ => pure r) (EP X pins σ Q) X.xe s₃) X.xe s := by
    rw [hs]
    exact wpAny_operating (wpAny_mono h₂ (fun r s₃ h₃ => wpAny_bind (wpAny_letTemporaryGo (wpAny_pure h₃))) fun _ _ x => x)
  first
    | exact wpAny_pure (wpAny_bind fin)
    | exact wpAny_bind (wpAny_pure (wpAny_bind fin))
    | exact wpAny_bind fin
abbrev rIxU (P : Program) (w : World) (K : PySem.W.Frag) : R2 := fun x y H Q => rIxL K x y H Q ∨ rIxT K x y H Q ∨ rIxN P w x y H Q
theorem ix_U (hu : X.A.units + 64 < cLine) : IxR X (rIxU X.prog X.w X.K) := ix_list.or (ix_tup.or (ix_dn (by omega)))
abbrev rSlU (K : PySem.W.Frag) : V → Option Int → Option Int → Hp → VK → Prop := fun x lo hi H Q => rSlA K x lo hi H Q ∨ rSlL K x lo hi H Q
theorem sl_U : SlR X (rSlU X.K) := sl_tupA.or sl_list
/-- d[k] = v -/
def rSetN (P : Program) (w : World) : TSet := fun o i v H Q => ∃ a k kvs, o = .ref a ∧ KeyK H i k ∧ DNt P w H a kvs ∧ kvs.length < sizeLine ∧ ∀ H', Put P w H a k v kvs H' → Q H'
theorem set_dn (hu : X.A.units + 9 < cLine) : PSet X (rSetN X.prog X.w) := by
  intro pins s σ H o i v ov iv u Q I ro ri rv h
  obtain ⟨a, k, kvs, rfl, ⟨⟨b, rfl⟩, hk, hd⟩, g, hl, q⟩ := h
  cases ro
  cases ri
  exact dn_set hu I g hk hd hl rv fun H' s' p I' => ⟨H', I', q H' p⟩
/-- d[k] = v, k a number -/
def rSetK : TSet := fun o i v H Q => ∃ a, ∃ n : Int, ∃ kvs, o = .ref a ∧ i = .int n ∧ H a = some (.dK kvs) ∧ kvs.length < sizeLine ∧ Q (upd H a (.dK (putK kvs (Sum.inl n) v)))
theorem set_dk (hu : X.A.units + 1 < cLine) : PSet X rSetK := by
  intro pins s σ H o i v ov iv u Q I ro ri rv h
  obtain ⟨a, n, kvs, rfl, rfl, g, hl, q⟩ := h
  cases ro
  exact d_setItem (y := kV (Sum.inl n)) hu I (DPut.k g hl) ri rv fun s' I' => ⟨_, I', q⟩
theorem PSet.or {t t' : TSet} (h : PSet X t) (h' : PSet X t') : PSet X (fun o i v H Q => t o i v H Q ∨ t' o i v H Q) := by
  intro pins s σ H o i v ov iv u Q I ro ri rv q
  rcases q with q | q
  · exact h pins s σ H o i v ov iv u Q I ro ri rv q
  · exact h' pins s σ H o i v ov iv u Q I ro ri rv q
abbrev rSetU (P : Program) (w : World) : TSet := fun o i v H Q => rSetL o i v H Q ∨ rSetN P w o i v H Q ∨ rSetK o i v H Q
theorem set_U (hu : X.A.units + 64 < cLine) : PSet X (rSetU X.prog X.w) := PSet.or set_list (PSet.or (set_dn (by omega)) (set_dk (by omega)))

/-- d.get(k) -/
def tNGet1 (P : Program) (w : World) (td ty : TE) : TE := fun σ H Q => td σ H fun x H1 => ∃ a, x = .ref a ∧ (∃ kvs, DRd P w H1 a kvs) ∧ ty σ H1 fun y H2 => ∃ k kvs, KeyK H2 y k ∧ DRd P w H2 a kvs ∧ Q ((valV kvs k).getD .non) H2
theorem pe_nget1 {o e : Expr} {apos cpos : Pos} {td ty : TE} (hu : X.A.units + 64 < cLine) (ho : PE X o td) (he : PE X e ty) (m : M1 X o "get" apos e cpos) : PE X (.Call (.Attribute o "get" apos) [e] [] cpos) (tNGet1 X.prog X.w td ty) := by
  refine ⟨fun pins s σ H Q I h => ?_⟩
  refine wpAny_Call_method m.base m.few m.line PySem.F.plainAttrs_dict PySem.F.slot_dict_get PySem.F.type_dict_get (thn (ho.run pins s σ H _ I h) fun u s1 ⟨x, H1, I1, rx, a, ex, ⟨kvs, d⟩, q1⟩ => ?_)
  subst ex
  obtain rfl : u = Value.ref a := rx
  obtain ⟨_, _, xs, _, dd⟩ := dn_heap I1 d
  refine ⟨dd.typeIs, fun b q => ?_, ?_⟩
  · cases q
    obtain ⟨ob, _, _, h1, h2, _⟩ := dd
    exact ⟨ob, h1, h2.2.1⟩
  rw [m.trees]
  refine Calls.callWith_builtin rfl (Calls.evalArgs_plain (Calls.spliced_cons (thn (he.run pins s1 σ H1 _ I1 q1) fun iv s2 ⟨y, H2, I2, ry, k, kvs2, ⟨⟨b, ey⟩, hk, hd⟩, g, q2⟩ => Calls.spliced_nil ?_)))
  subst ey
  cases ry
  exact dn_get1 (by omega) I2 g hk hd fun w' s3 I3 rw' => ⟨_, H2, I3, rw', q2⟩

/-- {} to be such a dict -/
def tNNew (P : Program) (w : World) : TE := fun _ H Q => ∀ p H', H p = none → (∃ φ, H' = upd H p (.ext φ)) → DNt P w H' p [] → Q (.ref p) H'
theorem dno_empty {P : Program} {w : World} {H : Hp} (h : Heap) (hb : sysModules < h.objs.size) : ObjOk P w H (h.push { cls := .type "dict", data := .dict #[] }) h.objs.size (DNo P w h.objs.size []) := by
  refine ⟨⟨Nat.zero_le _, beq_eq_false_iff_ne.mpr (Ne.symm (Nat.ne_of_lt hb)), [], .nil, _, #[], 0, Heap.get?_push_size _ rfl, ⟨rfl, rfl, rfl⟩, rfl, rfl, List.nodup_nil⟩, ⟨_, Heap.get?_push_size _ rfl⟩, ?_⟩
  exact fun g1 g2 ⟨y1, y2, y3, y4, yo, yes, yep, y5, y6⟩ st => ⟨y1, y2, y3, y4, yo, yes, yep, st _ y5, y6⟩
theorem pe_nnew {pos : Pos} : PE X (.Dict [] [] pos) (tNNew X.prog X.w) := ⟨fun pins s σ H Q I h => by
  have hn := I.hok.fresh (Nat.le_refl s.heap.objs.size)
  exact wpAny_Dict_empty ⟨.ref s.heap.objs.size, _, I.laid (a := s.heap.objs.size) (o := DNo X.prog X.w s.heap.objs.size []) (t' := s.toks) (fun _ _ q => Heap.get?_push_of_some _ q) (Nat.le_refl _) (dno_empty s.heap I.big), rfl, h _ _ hn ⟨_, rfl⟩ ⟨[], upd_same, fun _ hx => (nomatch hx), rfl⟩⟩⟩
/-- {k: v} -/
def tNDisp1 (P : Program) (w : World) (tk tv : TE) : TE := fun σ H Q => ∀ p H1, H p = none → Same H H1 → DNt P w H1 p [] → tk σ H1 fun y H2 => tv σ H2 fun v H3 => ∃ k, KeyK H3 y k ∧ DNt P w H3 p [] ∧ ∀ H4, Put P w H3 p k v [] H4 → Q (.ref p) H4
theorem pe_ndisp1 {ke ve : Expr} {pos : Pos} {tk tv : TE} (hu : X.A.units + 64 < cLine) (hk : PE X ke tk) (hv : PE X ve tv) : PE X (.Dict [some ke] [ve] pos) (tNDisp1 X.prog X.w tk tv) := by
  refine ⟨fun pins s σ H Q I q => ?_⟩
  have hn := I.hok.fresh (Nat.le_refl s.heap.objs.size)
  have I1 := I.laid (a := s.heap.objs.size) (o := DNo X.prog X.w s.heap.objs.size []) (h' := s.heap.push { cls := .type "dict", data := .dict #[] }) (t' := s.toks) (fun _ _ q => Heap.get?_push_of_some _ q) (Nat.le_refl _) (dno_empty s.heap I.big)
  have hp : PPs X pos [some ke] [ve] [(tk, tv)] := pps_cons hk hv pps_nil
  have hsh : (evalEachOpt [some ke] X.env).zip ((evalEach [ve] X.env).map fun v => do let x ← v; standAt pos; pure x) = (pairTrees [some ke] [ve] X.env pos).map fun p => (some p.1, p.2) := rfl
  rw [arm_eval_Dict, hsh, dictDisplay_pairs (pairTrees [some ke] [ve] X.env pos) (by intro z; cases z) (by show 1 < 17; decide)]
  refine wpAny_bind (wpAny_standAt (wpAny_bind (wpAny_subDictH (knd := nestedKind X.prog X.w) (Q := fun d s' => wpAny (model X.prog X.w) X.A (pure (Value.ref d)) (EP X pins σ Q) X.xe s') (room8' (by omega)) (by show 1 ≤ 15; decide) ?_)))
  have q' := q s.heap.objs.size _ hn (same_new hn) ⟨[], upd_same, fun _ hx => (nomatch hx), rfl⟩
  refine thn (hp.run pins _ σ _ (fun ps H3 => match ps with
    | [(y, v)] => ∃ k, KeyK H3 y k ∧ DNt X.prog X.w H3 s.heap.objs.size [] ∧ ∀ H4, Put X.prog X.w H3 s.heap.objs.size k v [] H4 → Q (.ref s.heap.objs.size) H4
    | _ => False) I1 q') fun ws s2 ⟨ps, H2, I2, rel, q2⟩ => ?_
  match ps, rel, q2 with
  | [(y, v)], rel, q2 =>
    obtain ⟨k, ⟨⟨b, rfl⟩, hkk, hdd⟩, g, q2⟩ := q2
    obtain ⟨kw, vw, rfl, rk, rv⟩ : ∃ kw vw, ws = [(kw, vw)] ∧ RelV (.ref b) kw ∧ RelV v vw := by
      cases rel with
      | cons p t =>
        cases t
        exact ⟨_, _, rfl, p.1, p.2⟩
    cases rk
    obtain ⟨_, hs, xs, ⟨kas, rel0, ekv, _, _⟩, dd⟩ := dn_heap I2 g.rd
    have e0 : kas = [] := by
      cases kas with
      | nil => rfl
      | cons z zs => exact absurd ekv (by simp [kvs3])
    subst e0
    have e1 : xs = [] := by
      have := rel0.length
      exact List.eq_nil_of_length_eq_zero this.symm
    subst e1
    refine ⟨[(k, b, vw)], ⟨rfl, rfl, key_is I2 hkk hdd, trivial⟩, dd, fun h' tk' dd' hsb => wpAny_pure ?_⟩
    obtain ⟨kas0, hr0, hka0, ek0⟩ := id g
    obtain ⟨qo, es, ep, hq, h2, h3, h4, h5, h6⟩ := dd'
    have new : ∀ Hn, ObjOk X.prog X.w Hn h' s.heap.objs.size (DNo X.prog X.w s.heap.objs.size (put3 [] k b v)) := fun Hn =>
      ⟨⟨by show 1 ≤ sizeLine; decide, hs, _, rel0.put k b rv, qo, es, ep, hq, h2, h3, h4, h6⟩, ⟨qo, hq⟩, fun g1 g2 ⟨y1, y2, y3, y4, yo, yes, yep, y5, y6⟩ st => ⟨y1, y2, y3, y4, yo, yes, yep, st _ y5, y6⟩⟩
    refine ⟨.ref s.heap.objs.size, _, I2.write (x := s.heap.objs.size) (e := s.heap.objs.size) (t' := tk') (by rw [hr0]; exact True.intro) (.inl rfl) (fun c qo hc zz => (hsb.2 c hc).trans zz) ⟨qo, hq⟩ (new _), rfl, q2 _ ⟨⟨_, rfl⟩, put3 [] k b v, upd_same, ?_, by rw [kvs3_put]; rfl⟩⟩
    exact (keysAt_put (kas := []) (fun _ hx => (nomatch hx)) hkk hdd).up (Ts.upd hr0 fun _ z => nomatch z)
end
/-! ### the same within a comprehension's block -/
section
variable {X : Cx} {P : Program} {w : World} {K : PySem.W.Frag}
theorem ix_Ux (hP : X.prog = P) (hw : X.w = w) (hK : X.K = K) (hu : X.A.units + 64 < cLine) : IxR X (rIxU P w K) := by
  subst hP hw hK
  exact ix_U hu
theorem sl_Ux (hK : X.K = K) : SlR X (rSlU K) := by
  subst hK
  exact sl_U
theorem op_addUx (hK : X.K = K) : OpR X (binaryOp .Add) (rAddU K) := by
  subst hK
  exact op_addU
theorem op_eqUx (hK : X.K = K) (hu : X.A.units + 64 < cLine) : OpR X (compareOp .Eq) (rEqU K) := by
  subst hK
  exact op_eqU hu
theorem op_neUx (hK : X.K = K) (hu : X.A.units + 64 < cLine) : OpR X (compareOp .NotEq) (rNeU K) := by
  subst hK
  exact op_neU hu
theorem op_notInUx (hP : X.prog = P) (hw : X.w = w) (hK : X.K = K) (hu : X.A.units + 64 < cLine) : OpR X (compareOp .NotIn) (rInU P w K true) := by
  subst hP hw hK
  exact op_notInU hu
def rLenS (K : PySem.W.Frag) : List V → Hp → VK → Prop := fun xs H Q => ∃ p ys, xs = [V.ref p] ∧ (SqL K H p ys ∨ SqT K H p ys) ∧ Q (.int ys.length) H
def rListS (K : PySem.W.Frag) : List V → Hp → VK → Prop := fun xs H Q => ∃ p ys, xs = [V.ref p] ∧ (SqL K H p ys ∨ SqT K H p ys) ∧ ∀ l, H l = none → Q (.ref l) (upd H l (.lst ys))
def rTup (K : PySem.W.Frag) : List V → Hp → VK → Prop := fun xs H Q => ∃ p ys, xs = [V.ref p] ∧ ((SqL K H p ys ∧ ∀ l, H l = none → Q (.ref l) (upd H l (.tup ys))) ∨ (SqT K H p ys ∧ Q (.ref p) H))
theorem cr_lenx (hK : X.K = K) : CallR X (.builtin "len") (rLenS K) := by
  subst hK
  exact call_len_seq
theorem cr_listx (hK : X.K = K) : CallR X (.type "list") (rListS K) := by
  subst hK
  exact call_list_of
theorem cr_tuplex (hK : X.K = K) : CallR X (.type "tuple") (rTup K) := by
  subst hK
  exact call_tuple_of
end
end K49
set_option Elab.async false
set_option linter.all false
set_option maxRecDepth 100000
set_option maxHeartbeats 1000000
set_option autoImplicit false
/-! Walks over the dicts with nested keys; list, sorted, max of them; min of a list of data. -/
namespace K49
open PySem PySem.Spec PyProof.Rows L2

section
variable {X : Cx} {pins : List (Addr × Obj)} {σ : L2.St} {H : Hp} {s : Shared}
/-! ### data as the library reads it -/
mutual
theorem kat_reads (I : Inv X pins σ H s) : ∀ (k : NestedKey) (v : V) (u : Value), KAt H k v → RelV v u → Reads s.heap u k.data []
  | .none, _, _, h, r => by cases h; cases r; exact .none
  | .num i, _, _, h, r => by
    cases h
    obtain ⟨t, rfl⟩ := r
    exact .int i t
  | .text z, _, _, h, r => by
    cases h
    obtain ⟨t, rfl⟩ := r
    exact .str z t
  | .tup ks, _, _, h, r => by
    cases h with
    | @tup a vs _ h1 h2 =>
      cases r
      obtain ⟨its, rv, ⟨o, e, c, n, d⟩, _⟩ := I.tuple (SqT.of h1)
      exact .tuple e c d (by simpa using kats_reads I ks vs its h2 rv)
theorem kats_reads (I : Inv X pins σ H s) : ∀ (ks : List NestedKey) (vs : List V) (us : List Value), KAts H ks vs → Vals vs us → ReadsAll s.heap us (NestedKey.datas ks) []
  | [], _, _, h, r => by cases h; cases r; exact .nil
  | k :: ks, _, _, h, r => by
    cases h with
    | cons h1 h2 =>
      cases r with
      | cons r1 r2 => exact .cons (kat_reads I k _ _ h1 r1) (kats_reads I ks _ _ h2 r2)
end
/-! for == of data: what the layer's own rule asks -/
mutual
theorem kat_dp {K : PySem.W.Frag} : ∀ (k : NestedKey) (v : V), KAt H k v → Dp K H v k.data
  | .none, _, h => by cases h; exact .non
  | .num i, _, h => by cases h; exact .int i
  | .text z, _, h => by cases h; exact .str z
  | .tup ks, _, h => by
    cases h with
    | tup h1 h2 => exact .tup (SqT.of h1) (kats_dp ks _ h2)
theorem kats_dp {K : PySem.W.Frag} : ∀ (ks : List NestedKey) (vs : List V), KAts H ks vs → DpAll K H vs (NestedKey.datas ks)
  | [], _, h => by cases h; exact .nil
  | k :: ks, _, h => by
    cases h with
    | cons h1 h2 => exact .cons (kat_dp k _ h1) (kats_dp ks _ h2)
end

/-! ### for k in d, d locked -/
def ItN (P : Program) (w : World) (d : Addr) (od : Obj) (kas : KE3) : It :=
  ⟨fun i H => H d = some (.frz od (DNo P w d kas)) ∧ i < kas.length, fun i H x H' => H' = H ∧ ∃ k a v, kas[i]? = some (k, a, v) ∧ x = .ref a, fun i H => H d = some (.frz od (DNo P w d kas)) ∧ kas.length ≤ i⟩
theorem frz_dn {d : Addr} {od : Obj} {kas : KE3} (I : Inv X pins σ H s) (h : H d = some (.frz od (DNo X.prog X.w d kas))) : (d == sysModules) = false ∧ ∃ (es : Array DictEntry) (ep : Nat), s.heap.get? d = some od ∧ od.ExactDict ∧ od.data = .dict es ep ∧ es.size = kas.length ∧
    ∀ (i : Nat) (k : NestedKey) (a : Addr) (v : V), kas[i]? = some (k, a, v) → ∃ en : DictEntry, es[i]? = some en ∧ en.key = Value.ref a := by
  obtain ⟨hd, ⟨z, hs, xs, rel, o', es, ep, ho, hx, hdt, he, _⟩, _⟩ := I.hok d _ h
  rw [hd] at ho
  cases ho
  refine ⟨hs, es, ep, hd, hx, hdt, ?_, fun i k a v e => ?_⟩
  · have l1 : es.size = xs.length := size_of_entries he
    rw [l1, rel.length]
  · obtain ⟨b, hb, e1, e2, _⟩ := paired_get rel e
    have q := entry_at he i
    rw [hb] at q
    refine ⟨_, q, ?_⟩
    show Value.ref b.2.1 = _
    rw [← e2]
theorem turn_keysN {tg : Expr} {P : Program} {w : World} {K : PySem.W.Frag} {d : Addr} {od : Obj} {kas : KE3} {es : Array DictEntry} {ep : Nat} (it : Addr) (hod : od.data = .dict es ep) : Turn P w K tg (ItN P w d od kas) [it] it (fun i h => h.IsKeyIter it d i kas.length ep) where
  mem := by simp
  obj := fun i h st b hb => by
    have e : b = it := by simpa using hb
    subst e
    obtain ⟨oi, e, c, dd⟩ := st
    exact ⟨oi, e, fun v z => by rw [dd] at z; cases z⟩
  keep := fun i h h' st k => st.at fun oi e => k it (by simp) oi e
  item := by
    intro X hP hw hK hc i pins s σ H E I hf st hg
    subst hP hw hK
    obtain ⟨hd, hi⟩ := hg
    obtain ⟨f0, f1, f2, f3, f4, f5⟩ := hf it (by simp)
    obtain ⟨hs, es', ep', hgd, hx, hdt, hsz, ent⟩ := frz_dn I hd
    rw [hod] at hdt
    cases hdt
    obtain ⟨⟨k, a, v⟩, hkv⟩ : ∃ p, kas[i]? = some p := ⟨kas[i], List.getElem?_eq_getElem hi⟩
    obtain ⟨en, hen, hkey⟩ := ent i k a v hkv
    refine next_key_item st hgd hod hsz hen fun h' st' sb => ?_
    have I1 : Inv X pins σ H { s with heap := h' } := I.turned (t' := s.toks) (fun b ob hb e => (sb.2 b hb).trans e) f0 f1 f3 f4 f5
    obtain ⟨oi, e, c, dd⟩ := id st'
    exact ⟨en.key, rfl, go_of (s := { s with heap := h' }) e c dd (by decide) ⟨.ref a, H, I1, hkey, ⟨rfl, k, a, v, hkv, rfl⟩, st', fun b hb => (hf b hb).1⟩⟩
  done := by
    intro X hP hw hK hc i pins s σ H E I hf st hg
    subst hP hw hK
    obtain ⟨hd, hi⟩ := hg
    obtain ⟨f0, f1, f2, f3, f4, f5⟩ := hf it (by simp)
    obtain ⟨hs, es', ep', hgd, hx, hdt, hsz, ent⟩ := frz_dn I hd
    rw [hod] at hdt
    cases hdt
    exact next_key_end (I.ok.hd hc) st hgd hod hsz hi fun h' eb => ⟨rfl, I.turned (t' := s.toks) (fun b o hb e => eb b o hb e) f0 f1 f3 f4 f5⟩
  self := fun A i s Q E st h => by
    refine wpAny_pyIter_slot st.typeIs F.slot_dict_keyiterator_iter (wpAny_call_entry F.slot_dict_keyiterator_iter st.typeIs F.entry_dict_keyiterator_iter ?_ (F.args_dict_keyiterator_iter_1 _))
    show wpAny _ _ (ret (.ref it)) _ _ s
    exact wpAny_pure ⟨_, rfl, "dict_keyiterator", _, st.typeIs, F.slot_dict_keyiterator_next.lookup, h⟩
def iKeysN (P : Program) (w : World) (td : TE) : TI := fun σ H R => td σ H fun x H1 => ∃ d od kas, x = .ref d ∧ H1 d = some (.frz od (DNo P w d kas)) ∧ R (ItN P w d od kas) H1
theorem pi_keysN {tg e : Expr} {td : TE} (he : PE X e td) : PI X tg e (iKeysN X.prog X.w td) := by
  refine ⟨fun pins s σ H R I h => ?_⟩
  refine thn (he.run pins s σ H _ I h) fun u s1 ⟨x, H1, I1, rx, d, od, kas, ex, hd, q⟩ => ?_
  subst ex
  cases rx
  obtain ⟨hs, es, ep, hgd, hx, hdt, hsz, ent⟩ := frz_dn I1 hd
  refine iter_keys hs hgd hx hdt (pi_one (tk := s1.toks) I1 _ (turn_keysN _ hdt) ⟨_, Heap.get?_push_size _ rfl, rfl, ?_⟩ q)
  rw [hsz] <;> rfl
/-- a comprehension over the locked dict: Pv by the turn and the heap -/
theorem lc_keysN {P : Program} {w : World} {d : Addr} {od : Obj} {kas : KE3} {g : TG} {tt : TT} {te : TE} {vs : List Nat} {σ : L2.St} {H1 : Hp} {D : Addr} {Qd : Hp → Prop} (Pv : Nat → Hp → Prop) (h0 : Pv 0 (upd H1 D (.lst []))) (hl : ∀ i H, Pv i H → H d = some (.frz od (DNo P w d kas)))
    (hs : ∀ i k a v H, kas[i]? = some (k, a, v) → Pv i H → g (.ref a) (wipe σ vs) H fun σ2 H2 => wipe σ2 vs = wipe σ vs ∧ tt σ2 H2 fun b H3 =>
      if b = true then te σ2 H3 fun y H4 => ∃ acc, H4 D = some (.lst acc) ∧ acc.length < sizeLine ∧ Pv (i + 1) (upd H4 D (.lst (acc ++ [y]))) else Pv (i + 1) H3) (hd : ∀ H, Pv kas.length H → Qd H) :
    ∃ W : Nat → Nat → Hp → Prop, (∃ m, W 0 m (upd H1 D (.lst []))) ∧ ∀ i m H, W i m H →
      ((ItN P w d od kas).stop i H ∧ Qd H) ∨ ((ItN P w d od kas).go i H ∧ ∃ Nx : Hp → Prop, (∀ H', Nx H' → ∃ m', m' < m ∧ W (i + 1) m' H') ∧ ∀ x H', (ItN P w d od kas).yld i H x H' → g x (wipe σ vs) H' fun σ2 H2 => wipe σ2 vs = wipe σ vs ∧ tt σ2 H2 fun b H3 =>
        if b = true then te σ2 H3 fun y H4 => ∃ acc, H4 D = some (.lst acc) ∧ acc.length < sizeLine ∧ Nx (upd H4 D (.lst (acc ++ [y]))) else Nx H3) := by
  refine ⟨fun i m H => m = kas.length - i ∧ i ≤ kas.length ∧ Pv i H, ⟨kas.length, by simp, Nat.zero_le _, h0⟩, ?_⟩
  rintro i m H ⟨rfl, hi, p⟩
  by_cases hlt : i < kas.length
  · refine .inr ⟨⟨hl i H p, hlt⟩, Pv (i + 1), fun H' p' => ⟨kas.length - (i + 1), by omega, rfl, hlt, p'⟩, fun x H' y => ?_⟩
    obtain ⟨e, k, a, v, e1, e2⟩ := y
    subst e
    subst e2
    exact hs i k a v _ e1 p
  · have e : i = kas.length := by omega
    subst e
    exact .inl ⟨⟨hl _ H p, Nat.le_refl _⟩, hd H p⟩

/-! ### list(d) -/
theorem keys3_at : ∀ {us : List Value} {kas : KE3}, us.length = kas.length → (∀ (j : Nat) (v : Value), us[j]? = some v → ∃ k a x, kas[j]? = some (k, a, x) ∧ v = .ref a) → Vals (kas.map fun p => V.ref p.2.1) us
  | [], [], _, _ => .nil
  | u :: us, q :: kas, hl, h => by
    obtain ⟨k, a, x, e1, e2⟩ := h 0 u rfl
    have e1' : q = (k, a, x) := Option.some.inj e1
    subst e1'
    subst e2
    rw [List.map_cons]
    refine .cons rfl (keys3_at (by simpa using hl) fun j v e => ?_)
    obtain ⟨k, a, x, e3, e4⟩ := h (j + 1) v (by simpa using e)
    exact ⟨k, a, x, by simpa using e3, e4⟩
  | [], _ :: _, hl, _ => by simp at hl
  | _ :: _, [], hl, _ => by simp at hl
theorem kats_keys {kas : KE3} (h : KeysAt H kas) : KAts H (kas.map (·.1)) (kas.map fun p => V.ref p.2.1) := by
  induction kas with
  | nil => exact .nil
  | cons x r ih => exact .cons (h x List.mem_cons_self).1 (ih fun y hy => h y (List.mem_cons_of_mem _ hy))
theorem kvs3_keys (kas : KE3) : (kvs3 kas).map (·.1) = kas.map (·.1) := by
  unfold kvs3
  rw [List.map_map]
  rfl
/-- list(d): the keys -/
def rListN (P : Program) (w : World) : List V → Hp → VK → Prop := fun xs H Q => ∃ a kvs, xs = [.ref a] ∧ DRd P w H a kvs ∧ ∀ p vs, H p = none → KAts H (kvs.map (·.1)) vs → Q (.ref p) (upd H p (.lst vs))
theorem call_listN (hc : X.calm = true) : CallR X (.type "list") (rListN X.prog X.w) := by
  intro pins s σ H xs us Q I r q
  obtain ⟨a, kvs, rfl, hd, q⟩ := q
  obtain ⟨u, rfl, rx⟩ := vals1 r
  cases rx
  obtain ⟨z, lo, ys, ⟨kas, rel, ek, hr, hka⟩, dd⟩ := dn_heap I hd
  obtain ⟨es, ep, raw, hsz, ent⟩ := dd.raw
  have lk : kas.length = kvs.length := by rw [← ek]; unfold kvs3; rw [List.length_map]
  have ly : es.size = kas.length := by rw [hsz, rel.length]
  refine PySem.W.kdl_call (KdlSrc.rawDict (d := a) (es := es) (ep := ep) lo) (I.ok.hd hc) raw (by omega) fun h' tk acc c' hk hD hacc => ?_
  have hv : Vals (kas.map fun p => V.ref p.2.1) acc.toList := keys3_at (by rw [Array.length_toList, hacc.1, ly]) fun j v e => by
    obtain ⟨hi, ev⟩ := hacc.2 j v (by rw [← Array.getElem?_toList]; exact e)
    obtain ⟨y, hy, e1, _, _⟩ := ent j hi
    have hj : j < kas.length := by omega
    obtain ⟨b, hb, f1, f2, _⟩ := paired_get rel (List.getElem?_eq_getElem hj)
    rw [hy] at hb
    cases hb
    exact ⟨kas[j].1, kas[j].2.1, kas[j].2.2, List.getElem?_eq_getElem hj, by rw [ev, e1, f2]⟩
  have hn := I.hok.fresh (Nat.le_refl s.heap.objs.size)
  refine ⟨.ref s.heap.objs.size, upd H s.heap.objs.size (.lst (kas.map fun p => V.ref p.2.1)), I.laid (t' := tk) hk (Nat.le_refl _)
    (show ObjOk X.prog X.w _ _ _ (.lst _) from ⟨by rw [List.length_map]; omega, acc.toList, c', hv, by rw [Array.toArray_toList]; exact hD⟩), rfl, q _ _ hn ?_⟩
  rw [← ek, kvs3_keys]
  exact kats_keys hka

/-! ### max(d.values()), the values numbers -/
def valsO (p d : Addr) : HO := .ext fun h => h.IsValuesView p d
/-- d.values() -/
def tNVals (P : Program) (w : World) (td : TE) : TE := fun σ H Q => td σ H fun x H1 => ∃ a kvs, x = .ref a ∧ DRd P w H1 a kvs ∧ ∀ p, H1 p = none → Q (.ref p) (upd H1 p (valsO p a))
theorem pe_nvals {e : Expr} {apos cpos : Pos} {td : TE} (he : PE X e td) (hbase : attributeBase e "values" X.env (eval e X.env) = eval e X.env := by rfl) (hline : (apos.endLine == cpos.line) = true := by rfl) :
    PE X (.Call (.Attribute e "values" apos) [] [] cpos) (tNVals X.prog X.w td) := by
  refine ⟨fun pins s σ H Q I h => ?_⟩
  refine wpAny_Call_method (T := "dict") (id := "dict.values") hbase rfl hline F.plainAttrs_dict F.slot_dict_values F.type_dict_values (thn (he.run pins s σ H _ I h) fun u s1 ⟨x, H1, I1, rx, a, kvs, ex, hd, q⟩ => ?_)
  subst ex
  cases rx
  obtain ⟨z, lo, ys, _, dd⟩ := dn_heap I1 hd
  obtain ⟨es, ep, raw, hsz, ent⟩ := dd.raw
  refine ⟨dd.typeIs, fun b q => ?_, ?_⟩
  · cases q
    obtain ⟨ob, _, _, h1, h2, _⟩ := dd
    exact ⟨ob, h1, h2.2.1⟩
  have hn : H1 s1.heap.objs.size = none := I1.hok.fresh (Nat.le_refl _)
  have fin : EP X pins σ Q (.ref s1.heap.objs.size) { s1 with heap := s1.heap.push { cls := .type "dict_values", data := .fields #[.ref a] } } :=
    ⟨.ref s1.heap.objs.size, upd H1 s1.heap.objs.size (valsO s1.heap.objs.size a), I1.laid (t' := s1.toks) (fun b u e => Heap.get?_push_of_some _ e) (Nat.le_refl _)
      ⟨⟨_, Heap.get?_push_size _ rfl, rfl, rfl⟩, ⟨_, Heap.get?_push_size _ rfl⟩, fun h1 h2 x k => let ⟨o, ho, r⟩ := x; ⟨o, k o ho, r⟩⟩, rfl, q _ hn⟩
  show wpAny _ _ (callWith cpos (.builtin "dict.values") [.ref a] [] []) _ X.xe s1
  exact method_meetsIn F.slot_dict_values F.entry_dict_values rfl (PySem.evalArgs_none ⟨rfl, dd.typeIs, F.args_dict_values_1 _, _, meets_dict_values_raw a lo, ⟨es, ep, raw⟩, fin⟩)
def rMaxVals (P : Program) (w : World) : List V → Hp → VK → Prop := fun xs H Q => ∃ (p a : Addr) (kvs : List (NestedKey × V)) (ns : List Int), xs = [.ref p] ∧ H p = some (valsO p a) ∧ DRd P w H a kvs ∧ kvs.map (·.2) = ns.map V.int ∧ 0 < ns.length ∧ ∀ m ∈ ns, Q (.int m) H
theorem cr_maxVals (hc : X.calm = true) : CallR X (.builtin "max") (rMaxVals X.prog X.w) := by
  intro pins s σ H xs us Q I r q
  obtain ⟨p, a, kvs, ns, rfl, hp, hd, hv, hpos, q⟩ := q
  obtain ⟨u, rfl, rx⟩ := vals1 r
  cases rx
  obtain ⟨z, lo, ys, ⟨kas, rel, ek, hr, hka⟩, dd⟩ := dn_heap I hd
  obtain ⟨es, ep, raw, hsz, ent⟩ := dd.raw
  have view : s.heap.IsValuesView p a := (I.hok p _ hp).1
  have lk : kas.length = kvs.length := by rw [← ek]; unfold kvs3; rw [List.length_map]
  have ly : es.size = kas.length := by rw [hsz, rel.length]
  have ln : kvs.length = ns.length := by
    have e := congrArg List.length hv
    rw [List.length_map, List.length_map] at e
    exact e
  have val : ∀ (i : Nat) (hi : i < es.size), ∃ t, es[i].val = .int (ns.getD i 0) t := fun i hi => by
    obtain ⟨y, hy, _, e2, _⟩ := ent i hi
    have hj : i < kas.length := by omega
    obtain ⟨b, hb, f1, f2, f3⟩ := paired_get rel (List.getElem?_eq_getElem hj)
    rw [hy] at hb
    cases hb
    have e5 : (kvs.map (·.2))[i]? = some kas[i].2.2 := by
      rw [← ek]
      unfold kvs3
      rw [List.map_map, List.getElem?_map, List.getElem?_eq_getElem hj]
      rfl
    rw [hv, List.getElem?_map] at e5
    cases e6 : ns[i]? with
    | none => rw [e6] at e5; cases e5
    | some n =>
      rw [e6] at e5
      have e7 : V.int n = kas[i].2.2 := Option.some.inj e5
      rw [← e7] at f3
      obtain ⟨t, f4⟩ := f3
      refine ⟨t, ?_⟩
      rw [e2, f4]
      congr 1
      rw [List.getD_eq_getElem?_getD, e6]
      rfl
  have hh := I.ok.hd hc
  refine call_max_walkH ?_
  refine wpAny_pyIter_values_raw view raw ?_
  have hne : a ≠ s.heap.objs.size := by
    obtain ⟨o, ho, _⟩ := raw
    exact Nat.ne_of_lt (Heap.lt_size ho)
  have W := (Walks.rawValues (prog := X.prog) (w := X.w) (A := X.A.in1) hh s.heap.objs.size a hne es ep).toS
  refine ⟨_, _, _, _, _, _, _, s.heap, fun i j => decide (ns.getD i 0 > ns.getD j 0), rfl, W, ⟨⟨_, Heap.get?_push_size _ rfl, rfl, rfl⟩, raw.at fun o e => Heap.get?_push_of_some _ e⟩, fun b hb => ?_, by omega, fun b o e hb => ?_, fun b o e => Heap.get?_push_of_some _ e, ?_, ?_⟩
  · have e1 : b = s.heap.objs.size ∨ b = a := by simpa using hb
    have h1 : a < s.heap.objs.size := by
      obtain ⟨o, ho, _⟩ := raw
      exact Heap.lt_size ho
    show b < (s.heap.push _).objs.size
    rw [Heap.size_push]
    rcases e1 with e1 | e1
    · rw [e1]
      exact Nat.lt_succ_self _
    · rw [e1]
      exact Nat.lt_succ_of_lt h1
  · have e1 : b = s.heap.objs.size := by simpa using hb
    have h1 := Heap.lt_size e
    rw [e1] at h1
    exact Nat.lt_irrefl _ h1
  · exact fun i j vi vj s' Q' E' _ hi hj hq => CmpOf.ints_gt (P := fun i v => ∃ hi : i < es.size, v = es[i].val) (fun i => ns.getD i 0) (fun i v ⟨hi, e⟩ => by
      obtain ⟨t, ht⟩ := val i hi
      exact ⟨t, e.trans ht⟩) i j vi vj s' Q' E' hi hj hq
  · rintro v s' ⟨hi, rfl⟩ mv
    generalize hbest : argBest _ (es.size - 1) = best at hi
    obtain ⟨t, ht⟩ := val best hi
    obtain ⟨hg, hgen, hdr, hos, htk⟩ := mv
    have keep : ∀ b o, s.heap.get? b = some o → s'.heap.get? b = some o := fun b o e => by
      refine hg b o (fun hb => ?_) (Heap.get?_push_of_some _ e)
      have e1 : b = s.heap.objs.size := by simpa using hb
      have h1 := Heap.lt_size e
      rw [e1] at h1
      exact Nat.lt_irrefl _ h1
    have hmem : ns.getD best 0 ∈ ns := by
      have hb2 : best < ns.length := by omega
      rw [List.getD_eq_getElem?_getD, List.getElem?_eq_getElem hb2]
      exact List.getElem_mem hb2
    have I2 : Inv X pins σ H s' := by
      have I3 := I.kept (t' := s'.toks) keep
      obtain ⟨h', g', d', t', o'⟩ := s'
      have hgen' : g' = s.gens := hgen
      have hdr' : d' = s.drawn := hdr
      have hos' : o' = s.os := hos
      subst hgen' hdr' hos'
      exact I3
    exact ⟨.int (ns.getD best 0), H, I2, ⟨t, ht⟩, q _ hmem⟩

/-! ### min of a list of data -/
def AlikeK (ks : List NestedKey) : Prop := ∀ k ∈ ks, ∀ k' ∈ ks, PySem.W.alike k.data k'.data = true
theorem datas_map (ks : List NestedKey) : NestedKey.datas ks = ks.map NestedKey.data := by
  induction ks with
  | nil => rfl
  | cons k r ih => rw [NestedKey.datas, List.map_cons, ih]
mutual
theorem depth_data : ∀ k : NestedKey, k.data.depth = k.depth
  | .none => by simp [NestedKey.data, PyData.depth, NestedKey.depth]
  | .num _ => by simp [NestedKey.data, PyData.depth, NestedKey.depth]
  | .text _ => by simp [NestedKey.data, PyData.depth, NestedKey.depth]
  | .tup ks => by
    rw [NestedKey.data, PyData.depth, NestedKey.depth, depth_datas ks]
theorem depth_datas : ∀ ks : List NestedKey, PyData.depthAll (NestedKey.datas ks) = NestedKey.depthAll ks
  | [] => by simp [NestedKey.datas, PyData.depthAll, NestedKey.depthAll]
  | k :: ks => by
    rw [NestedKey.datas, PyData.depthAll, NestedKey.depthAll, depth_data k, depth_datas ks]
end
theorem depthAll_le {ks : List NestedKey} {n : Nat} (h : ∀ k ∈ ks, k.depth ≤ n) : NestedKey.depthAll ks ≤ n := by
  induction ks with
  | nil => exact Nat.zero_le _
  | cons k r ih =>
    rw [NestedKey.depthAll]
    exact Nat.max_le.mpr ⟨h k List.mem_cons_self, ih fun x hx => h x (List.mem_cons_of_mem _ hx)⟩
def rMinK (K : PySem.W.Frag) : List V → Hp → VK → Prop := fun xs H Q => ∃ (a : Addr) (ks : List NestedKey) (vs : List V), xs = [.ref a] ∧ SqL K H a vs ∧ KAts H ks vs ∧ ks ≠ [] ∧ (∀ k ∈ ks, k.depth ≤ 8 ∧ k ≠ .none) ∧ AlikeK ks ∧ ∀ k v, k ∈ ks → KAt H k v → Q v H
theorem cr_minK (hc : X.calm = true) (hu : X.A.units + 64 < cLine) : CallR X (.builtin "min") (rMinK X.K) := by
  intro pins s σ H xs us Q I r q
  obtain ⟨a, ks, vs, rfl, hs, hk, hne, hdp, hal, q⟩ := q
  obtain ⟨u, rfl, rx⟩ := vals1 r
  cases rx
  obtain ⟨its, rv, hl, _⟩ := I.list hs
  have hr := kats_reads I ks vs its hk rv
  cases ks with
  | nil => exact absurd rfl hne
  | cons k0 kr =>
    have e1 : NestedKey.datas (k0 :: kr) = k0.data :: NestedKey.datas kr := by rw [NestedKey.datas]
    have e2 := datas_map (k0 :: kr)
    rw [e1] at e2 hr
    have dep : PyData.depthAll (k0.data :: NestedKey.datas kr) ≤ 8 := by
      rw [← e1, depth_datas]
      exact depthAll_le fun k hk => (hdp k hk).1
    refine PySem.W.min_list_data (A := X.A) (I.ok.hd hc) hl.isList (by simpa using hr) ⟨fun x hx y hy => ?_, fun x hx => ?_⟩ (by omega) fun i v h' tk bs hv _ hkp => ?_
    · rw [e2] at hx hy
      obtain ⟨k, hk1, rfl⟩ := List.mem_map.mp hx
      obtain ⟨k', hk2, rfl⟩ := List.mem_map.mp hy
      exact hal k hk1 k' hk2
    · rw [e2] at hx
      obtain ⟨k, hk1, rfl⟩ := List.mem_map.mp hx
      intro z
      cases k with
      | none => exact (hdp _ hk1).2 rfl
      | num _ => exact nomatch z
      | text _ => exact nomatch z
      | tup _ => exact nomatch z
    · have hv' : its[i]? = some v := by simpa using hv
      have hi : i < its.length := (List.getElem?_eq_some_iff.mp hv').1
      have hlen := rv.length
      have hi2 : i < vs.length := by omega
      obtain ⟨k, hkk, hka⟩ := hk.getV (List.getElem?_eq_getElem hi2)
      obtain ⟨w', hw, rw'⟩ := rv.get (List.getElem?_eq_getElem hi2)
      rw [hv'] at hw
      cases hw
      exact ⟨vs[i], H, I.kept hkp, rw', q k _ (List.mem_of_getElem? hkk) hka⟩

/-- list(xs): of a list, a tuple, such a dict -/
abbrev rListU (P : Program) (w : World) (K : PySem.W.Frag) : List V → Hp → VK → Prop := fun xs H Q => rListS K xs H Q ∨ rListN P w xs H Q
theorem call_listU (hc : X.calm = true) : CallR X (.type "list") (rListU X.prog X.w X.K) := (cr_listx rfl).or (call_listN hc)
/-! ### sorted(d) -/
def rSortedN (P : Program) (w : World) : List V → Hp → VK → Prop := fun xs H Q => ∃ (a : Addr) (kvs : List (NestedKey × V)), xs = [.ref a] ∧ DRd P w H a kvs ∧ AlikeK (kvs.map (·.1)) ∧ (∀ k ∈ kvs.map (·.1), ∃ x r, k = .tup (x :: r)) ∧
  ∀ ks vs p, ks.Perm (kvs.map (·.1)) → H p = none → KAts H ks vs → Q (.ref p) (upd H p (.lst vs))
theorem eachIs_vals {H : Hp} : ∀ {us : List Value} {ks : List NestedKey}, PySem.W.EachIs (fun u k => ∃ v, RelV v u ∧ KAt H k v) us ks → ∃ vs, Vals vs us ∧ KAts H ks vs
  | _, _, .nil => ⟨[], .nil, .nil⟩
  | _, _, .cons ⟨v, r, k⟩ t => by
    obtain ⟨vs, a, b⟩ := eachIs_vals t
    exact ⟨v :: vs, .cons r a, .cons k b⟩
theorem eachIs_of {H : Hp} : ∀ {vs : List V} {us : List Value} {ks : List NestedKey}, Vals vs us → KAts H ks vs → PySem.W.EachIs (fun u k => ∃ v, RelV v u ∧ KAt H k v) us ks
  | _, _, [], r, h => by cases h; cases r; exact .nil
  | _, _, k :: ks, r, h => by
    cases h with
    | cons h1 h2 =>
      cases r with
      | cons r1 r2 => exact .cons ⟨_, r1, h1⟩ (eachIs_of r2 h2)
theorem cr_sortedN (hc : X.calm = true) (hu : X.A.units + 64 < cLine) : CallR X (.builtin "sorted") (rSortedN X.prog X.w) := by
  intro pins s σ H xs us Q I r q
  obtain ⟨a, kvs, rfl, hd, hal, htup, q⟩ := q
  obtain ⟨u, rfl, rx⟩ := vals1 r
  cases rx
  obtain ⟨z, lo, ys, ⟨kas, rel, ek, hr, hka⟩, dd⟩ := dn_heap I hd
  obtain ⟨es, ep, raw, hsz, ent⟩ := dd.raw
  have lk : kas.length = kvs.length := by rw [← ek]; unfold kvs3; rw [List.length_map]
  have ly : es.size = kas.length := by rw [hsz, rel.length]
  refine Calls.call_function_entry PyProof.Rows.kind_sorted PyProof.Rows.plain_sorted PyProof.Rows.entry_sorted (PyProof.Rows.args_sorted1 _) ?_
  unfold Builtin.«sorted»
  refine wpAny_bind (m := checkCount "sorted" 1 1 _) (wpAny_pure ?_)
  refine wpAny_bind (PySem.W.kdu_collect (A := X.A.in1) (KdlSrc.rawDict (d := a) (es := es) (ep := ep) lo) (I.ok.hd hc) raw (by omega) fun h' tk acc hk hacc => ?_)
  have hv : Vals (kas.map fun p => V.ref p.2.1) acc.toList := keys3_at (by rw [Array.length_toList, hacc.1, ly]) fun j v e => by
    obtain ⟨hi, ev⟩ := hacc.2 j v (by rw [← Array.getElem?_toList]; exact e)
    obtain ⟨y, hy, e1, _, _⟩ := ent j hi
    have hj : j < kas.length := by omega
    obtain ⟨b, hb, f1, f2, _⟩ := paired_get rel (List.getElem?_eq_getElem hj)
    rw [hy] at hb
    cases hb
    exact ⟨kas[j].1, kas[j].2.1, kas[j].2.2, List.getElem?_eq_getElem hj, by rw [ev, e1, f2]⟩
  have hkk : KAts H (kvs.map (·.1)) (kas.map fun p => V.ref p.2.1) := by
    rw [← ek, kvs3_keys]
    exact kats_keys hka
  have I1 : Inv X pins σ H { s with heap := h', toks := tk } := I.kept hk
  have hlen : acc.toList.length = kvs.length := by rw [← hv.length, List.length_map, lk]
  refine wpAny_bind (wpAny_newList ?_ (by rw [hlen]; exact z))
  have hoL : (h'.push (seqObj "list" acc.toList.toArray 0)).get? h'.objs.size = some (seqObj "list" acc.toList.toArray 0) := Heap.get?_push_size _ rfl
  have I2 : Inv X pins σ H { s with heap := h'.push (seqObj "list" acc.toList.toArray 0), toks := tk } := I.kept (t' := tk) fun b o e => Heap.get?_push_of_some _ (hk b o e)
  show wpAny _ _ _ _ _ { s with heap := h'.push (seqObj "list" acc.toList.toArray 0), toks := tk }
  have ez : PySem.W.EachIs (fun u k => ∃ v, RelV v u ∧ KAt H k v) acc.toList (kvs.map (·.1)) := eachIs_of hv hkk
  have hbig : h'.objs.size ∉ ([] : List Addr) := fun z => nomatch z
  have er : PySem.W.EachIs (fun u k => ∃ as, Reads (h'.push (seqObj "list" acc.toList.toArray 0)) u (NestedKey.data k) as ∧ h'.objs.size ∉ as) acc.toList (kvs.map (·.1)) := ez.mono fun u k ⟨v, r, kk⟩ => ⟨[], kat_reads I2 k v u kk r, hbig⟩
  refine wpAny_bind (wpAny_holding (PySem.W.list_sort_data (enc := NestedKey.data) (R := fun u k => ∃ v, RelV v u ∧ KAt H k v) (s := { s with heap := h'.push (seqObj "list" acc.toList.toArray 0), toks := tk }) hoL ez er (fun d hd d' hd' => ?_) (.inl fun d hd => ?_) (by rw [List.length_map]; exact z) (fun k hk' => ?_) fun out hol eo => ?_))
  · obtain ⟨k, hk1, rfl⟩ := List.mem_map.mp hd
    obtain ⟨k', hk2, rfl⟩ := List.mem_map.mp hd'
    exact hal k hk1 k' hk2
  · obtain ⟨k, hk1, rfl⟩ := List.mem_map.mp hd
    obtain ⟨x, r, e⟩ := htup k hk1
    subst e
    exact ⟨x.data, NestedKey.datas r, by rw [NestedKey.data, NestedKey.datas]⟩
  · rw [depth_data]
    have hd8 : k.depth ≤ 8 := by
      rw [← ek, kvs3_keys] at hk'
      obtain ⟨y, hy, rfl⟩ := List.mem_map.mp hk'
      exact (hka y hy).2
    show X.A.units + 1 + 1 + k.depth < cLine
    omega
  · obtain ⟨vs, hvs, hks⟩ := eachIs_vals eo
    obtain ⟨e', he'⟩ := PyProof.Rows.sortedHeap_at (vs := acc.toList) (out := out.toArray) hoL
    have hperm : ((kvs.map (·.1)).mergeSort (PySem.W.dataLe false NestedKey.data)).Perm (kvs.map (·.1)) := List.mergeSort_perm _ _
    have hl : vs.length ≤ sizeLine := by
      rw [hks.length, hperm.length_eq, List.length_map]
      exact z
    refine wpAny_pure ⟨_, rfl, .ref h'.objs.size, upd H h'.objs.size (.lst vs), I1.laid (t' := tk) (fun b u e => ?_) (Nat.le_refl _)
      (show ObjOk X.prog X.w _ _ _ (.lst vs) from ⟨hl, out, e', hvs, he'⟩), rfl, q _ vs _ hperm (I1.hok.fresh (Nat.le_refl _)) hks⟩
    have hb : b < h'.objs.size := Heap.lt_size e
    rw [PyProof.Rows.sortedHeap_old (Nat.ne_of_lt hb) (by rw [size_push']; exact Nat.lt_succ_of_lt hb)]
    exact Heap.get?_push_of_some _ e
end
end K49
set_option linter.all false
set_option autoImplicit false
/-! Guessers and their states as plain things; what they guess, what they learn. -/
namespace K49
open PySem

structure Cell where
  g : List Nat
  s : List Nat
  a : List Nat
def nums (l : List Nat) : List NestedKey := l.map fun (x : Nat) => NestedKey.num (x : Int)
def encC (c : Cell) : NestedKey := .tup [.tup (nums c.g), .tup (nums c.s), .tup (nums c.a)]
structure CellOk (c : Cell) : Prop where
  pos : 0 < c.g.length
  few : c.g.length ≤ 8
  ls : c.s.length = c.g.length
  la : c.a.length = c.g.length
  g1 : ∀ x ∈ c.g, x ≤ 1
  sb : ∀ x ∈ c.s, x < c.g.length
  ab : ∀ x ∈ c.a, x < c.g.length
/-- the state behind a way -/
def Cell.step (c : Cell) (w x : Nat) : Nat := if w = 0 then c.s.getD x 0 else c.a.getD x 0
def Cell.tell (c : Cell) (x : Nat) : Nat := c.g.getD x 0

inductive Gs where
  | same (w : Nat)
  | table (n : Nat) (c : Cell)
  | mixed (n l : Nat) (c : Cell)
  | joined (n l : Nat) (c : Cell)
  | own (n l : Nat) (c : Cell)
  | either (x y : Gs) (n : Nat) (c : Cell)
def encG : Gs → NestedKey
  | .same w => .tup [.text "same", .num w]
  | .table n c => .tup [.text "table", .num n, encC c]
  | .mixed n l c => .tup [.text "mixed", .num n, .num l, encC c]
  | .joined n l c => .tup [.text "joined", .num n, .num l, encC c]
  | .own n l c => .tup [.text "own", .num n, .num l, encC c]
  | .either x y n c => .tup [.text "either", encG x, encG y, .num n, encC c]
def GsOk : Gs → Prop
  | .same w => w ≤ 1
  | .table n c => 1 ≤ n ∧ n ≤ 16 ∧ CellOk c
  | .mixed n l c => 1 ≤ n ∧ n ≤ 16 ∧ l ≤ 6 ∧ CellOk c
  | .joined n l c => 1 ≤ n ∧ n ≤ 16 ∧ l ≤ 6 ∧ n * 2 ^ l ≤ 64 ∧ CellOk c
  | .own n l c => 1 ≤ n ∧ n ≤ 16 ∧ l ≤ 6 ∧ CellOk c
  | .either x y n c => GsOk x ∧ GsOk y ∧ 1 ≤ n ∧ n ≤ 16 ∧ CellOk c
def deep : Gs → Nat
  | .either x y _ _ => 1 + max (deep x) (deep y)
  | _ => 1
theorem deep_pos (g : Gs) : 1 ≤ deep g := by
  cases g <;> simp [deep]
/-- how many cells a guesser has itself -/
def alone : Gs → Nat
  | .same _ => 0
  | .table n _ => n
  | .mixed n _ _ => n
  | .joined n l _ => n * 2 ^ l
  | .own _ l _ => 2 ^ l
  | .either _ _ n _ => n
/-- and those within -/
def total : Gs → Nat
  | .either x y n _ => total x + total y + n
  | g => alone g
theorem pow_le {l : Nat} (h : l ≤ 6) : 2 ^ l ≤ 64 := Nat.le_trans (Nat.pow_le_pow_right (by decide) h) (by decide)
theorem alone_le {g : Gs} (h : GsOk g) : alone g ≤ 64 := by
  cases g with
  | same w => exact Nat.zero_le _
  | table n c =>
    have := h.2.1
    show n ≤ 64
    omega
  | mixed n l c =>
    have := h.2.1
    show n ≤ 64
    omega
  | joined n l c => exact h.2.2.2.1
  | own n l c => exact pow_le h.2.2.1
  | either x y n c =>
    have := h.2.2.2.1
    show n ≤ 64
    omega

/-! ### states -/
inductive Sa where
  | one (cs : List Nat)
  | num (k : Nat) (cs : List Nat)
  | nums (ks cs : List Nat)
  | two (x y : Sa) (cs : List Nat)
  deriving DecidableEq
def encS : Sa → NestedKey
  | .one cs => .tup (nums cs)
  | .num k cs => .tup [.num k, .tup (nums cs)]
  | .nums ks cs => .tup [.tup (nums ks), .tup (nums cs)]
  | .two x y cs => .tup [encS x, encS y, .tup (nums cs)]
def below (n m : Nat) (cs : List Nat) : Prop := cs.length = n ∧ ∀ x ∈ cs, x < m
def SaOk : Gs → Sa → Prop
  | .same _, .one cs => cs = []
  | .table n c, .one cs => below n c.g.length cs
  | .mixed n l c, .num k cs => k < 2 ^ l ∧ below n c.g.length cs
  | .joined n l c, .num k cs => k < 2 ^ l ∧ below (n * 2 ^ l) c.g.length cs
  | .own n l c, .nums ks cs => below n (2 ^ l) ks ∧ below (2 ^ l) c.g.length cs
  | .either x y n c, .two sx sy cs => SaOk x sx ∧ SaOk y sy ∧ below n c.g.length cs
  | _, _ => False
def zeros (n : Nat) : List Nat := List.replicate n 0
def first : Gs → Sa
  | .same _ => .one []
  | .table n _ => .one (zeros n)
  | .mixed n _ _ => .num 0 (zeros n)
  | .joined n l _ => .num 0 (zeros (n * 2 ^ l))
  | .own n l _ => .nums (zeros n) (zeros (2 ^ l))
  | .either x y n _ => .two (first x) (first y) (zeros n)
theorem below_zeros {n m : Nat} (h : 0 < m) : below n m (zeros n) := by
  refine ⟨by simp [zeros], fun x hx => ?_⟩
  have := List.eq_of_mem_replicate hx
  omega
theorem first_ok : ∀ {g : Gs}, GsOk g → SaOk g (first g)
  | .same _, _ => rfl
  | .table n c, h => below_zeros h.2.2.pos
  | .mixed n l c, h => ⟨Nat.pow_pos (by decide), below_zeros h.2.2.2.pos⟩
  | .joined n l c, h => ⟨Nat.pow_pos (by decide), below_zeros h.2.2.2.2.pos⟩
  | .own n l c, h => ⟨below_zeros (Nat.pow_pos (by decide)), below_zeros h.2.2.2.pos⟩
  | .either x y n c, h => ⟨first_ok h.1, first_ok h.2.1, below_zeros h.2.2.2.2.pos⟩

/-- the cell that is looked at -/
def spot : Gs → Sa → Nat → Nat
  | .table n _, _, p => p % n
  | .mixed n _ _, .num k _, p => (p + k) % n
  | .joined n l _, .num k _, p => p % n * 2 ^ l + k
  | .own n _ _, .nums ks _, p => ks.getD (p % n) 0
  | .either _ _ n _, _, p => p % n
  | _, _, _ => 0
def cellsOf : Sa → List Nat
  | .one cs => cs
  | .num _ cs => cs
  | .nums _ cs => cs
  | .two _ _ cs => cs
def cellOf : Gs → Cell
  | .same _ => ⟨[], [], []⟩
  | .table _ c => c
  | .mixed _ _ c => c
  | .joined _ _ c => c
  | .own _ _ c => c
  | .either _ _ _ c => c
def isSame : Gs → Bool
  | .same _ => true
  | _ => false
/-- the state of the cell that is looked at -/
def here (g : Gs) (s : Sa) (p : Nat) : Nat := (cellsOf s).getD (spot g s p) 0
def guess : Gs → Sa → Nat → Nat
  | .same w, _, _ => w
  | .either x y n c, .two sx sy cs, p => if c.tell (cs.getD (p % n) 0) = 0 then guess x sx p else guess y sy p
  | g, s, p => (cellOf g).tell (here g s p)
/-- the cells behind a way of the one that is looked at -/
def behindC (g : Gs) (s : Sa) (p w : Nat) : List Nat := (cellsOf s).set (spot g s p) ((cellOf g).step w (here g s p))
def learn : Gs → Sa → Nat → Nat → Sa
  | .table n c, s, p, w => .one (behindC (.table n c) s p w)
  | .mixed n l c, .num k cs, p, w => .num ((2 * k + w) % 2 ^ l) (behindC (.mixed n l c) (.num k cs) p w)
  | .joined n l c, .num k cs, p, w => .num ((2 * k + w) % 2 ^ l) (behindC (.joined n l c) (.num k cs) p w)
  | .own n l c, .nums ks cs, p, w => .nums (ks.set (p % n) ((2 * ks.getD (p % n) 0 + w) % 2 ^ l)) (behindC (.own n l c) (.nums ks cs) p w)
  | .either x y n c, .two sx sy cs, p, w =>
    .two (learn x sx p w) (learn y sy p w) (if decide (guess x sx p = w) ≠ decide (guess y sy p = w) then behindC (.either x y n c) (.two sx sy cs) p (if guess y sy p = w then 1 else 0) else cs)
  | _, s, _, _ => s

theorem getD_lt {l : List Nat} {i m : Nat} (h : ∀ x ∈ l, x < m) (hi : i < l.length) : l.getD i 0 < m := by
  rw [List.getD_eq_getElem?_getD, List.getElem?_eq_getElem hi]
  exact h _ (List.getElem_mem hi)
theorem getD_at {l : List Nat} {i : Nat} (hi : i < l.length) : l[i]? = some (l.getD i 0) := by
  rw [List.getD_eq_getElem?_getD, List.getElem?_eq_getElem hi]
  rfl
theorem joined_lt {p n k q : Nat} (hn : 0 < n) (hk : k < q) : p % n * q + k < n * q := by
  have h := Nat.mod_lt p hn
  have h2 : (p % n + 1) * q ≤ n * q := Nat.mul_le_mul_right q h
  rw [Nat.succ_mul] at h2
  omega
/-- the cell that is looked at is there -/
theorem spot_lt {g : Gs} {s : Sa} (p : Nat) (h : GsOk g) (hs : SaOk g s) (hn : isSame g = false) : spot g s p < (cellsOf s).length := by
  cases g with
  | same w => exact absurd hn (by simp [isSame])
  | table n c =>
    cases s with
    | one cs =>
      show p % n < cs.length
      have := hs.1
      rw [this]
      exact Nat.mod_lt _ h.1
    | _ => exact hs.elim
  | mixed n l c =>
    cases s with
    | num k cs =>
      show (p + k) % n < cs.length
      have := hs.2.1
      rw [this]
      exact Nat.mod_lt _ h.1
    | _ => exact hs.elim
  | joined n l c =>
    cases s with
    | num k cs =>
      show p % n * 2 ^ l + k < cs.length
      have := hs.2.1
      rw [this]
      exact joined_lt h.1 hs.1
    | _ => exact hs.elim
  | own n l c =>
    cases s with
    | nums ks cs =>
      show ks.getD (p % n) 0 < cs.length
      have := hs.2.1
      rw [this]
      exact getD_lt hs.1.2 (by rw [hs.1.1]; exact Nat.mod_lt _ h.1)
    | _ => exact hs.elim
  | either x y n c =>
    cases s with
    | two sx sy cs =>
      show p % n < cs.length
      have := hs.2.2.1
      rw [this]
      exact Nat.mod_lt _ h.2.2.1
    | _ => exact hs.elim
theorem cells_lt {g : Gs} {s : Sa} (hs : SaOk g s) (hn : isSame g = false) : ∀ x ∈ cellsOf s, x < (cellOf g).g.length := by
  cases g <;> cases s <;> first
    | exact hs.elim
    | (cases hn; done)
    | exact hs.2
    | exact hs.2.2
    | exact hs.2.2.2
theorem cellOf_ok {g : Gs} (h : GsOk g) (hn : isSame g = false) : CellOk (cellOf g) := by
  cases g with
  | same w => exact absurd hn (by simp [isSame])
  | table n c => exact h.2.2
  | mixed n l c => exact h.2.2.2
  | joined n l c => exact h.2.2.2.2
  | own n l c => exact h.2.2.2
  | either x y n c => exact h.2.2.2.2
theorem here_lt {g : Gs} {s : Sa} (p : Nat) (h : GsOk g) (hs : SaOk g s) (hn : isSame g = false) : here g s p < (cellOf g).g.length :=
  getD_lt (cells_lt hs hn) (spot_lt p h hs hn)
theorem tell_le {c : Cell} (h : CellOk c) {x : Nat} (hx : x < c.g.length) : c.tell x ≤ 1 := by
  have := getD_lt (l := c.g) (m := 2) (fun y hy => Nat.lt_succ_of_le (h.g1 y hy)) hx
  show c.g.getD x 0 ≤ 1
  omega
theorem step_lt {c : Cell} (h : CellOk c) {x : Nat} (w : Nat) (hx : x < c.g.length) : c.step w x < c.g.length := by
  unfold Cell.step
  split
  · exact getD_lt h.sb (by rw [h.ls]; exact hx)
  · exact getD_lt h.ab (by rw [h.la]; exact hx)
theorem guess_le : ∀ {g : Gs} {s : Sa} (p : Nat), GsOk g → SaOk g s → guess g s p ≤ 1
  | .same w, _, _, h, _ => h
  | .table n c, .one cs, p, h, hs => tell_le (c := c) h.2.2 (here_lt (g := .table n c) p h hs rfl)
  | .mixed n l c, .num k cs, p, h, hs => tell_le (c := c) h.2.2.2 (here_lt (g := .mixed n l c) p h hs rfl)
  | .joined n l c, .num k cs, p, h, hs => tell_le (c := c) h.2.2.2.2 (here_lt (g := .joined n l c) p h hs rfl)
  | .own n l c, .nums ks cs, p, h, hs => tell_le (c := c) h.2.2.2 (here_lt (g := .own n l c) p h hs rfl)
  | .either x y n c, .two sx sy cs, p, h, hs => by
    show (if c.tell (cs.getD (p % n) 0) = 0 then guess x sx p else guess y sy p) ≤ 1
    split
    · exact guess_le p h.1 hs.1
    · exact guess_le p h.2.1 hs.2.1
  | .table _ _, .num _ _, _, _, hs | .table _ _, .nums _ _, _, _, hs | .table _ _, .two _ _ _, _, _, hs => hs.elim
  | .mixed _ _ _, .one _, _, _, hs | .mixed _ _ _, .nums _ _, _, _, hs | .mixed _ _ _, .two _ _ _, _, _, hs => hs.elim
  | .joined _ _ _, .one _, _, _, hs | .joined _ _ _, .nums _ _, _, _, hs | .joined _ _ _, .two _ _ _, _, _, hs => hs.elim
  | .own _ _ _, .one _, _, _, hs | .own _ _ _, .num _ _, _, _, hs | .own _ _ _, .two _ _ _, _, _, hs => hs.elim
  | .either _ _ _ _, .one _, _, _, hs | .either _ _ _ _, .num _ _, _, _, hs | .either _ _ _ _, .nums _ _, _, _, hs => hs.elim
theorem below_set {n m i x : Nat} {cs : List Nat} (h : below n m cs) (hx : x < m) : below n m (cs.set i x) := by
  refine ⟨by rw [List.length_set]; exact h.1, fun y hy => ?_⟩
  rcases List.mem_or_eq_of_mem_set hy with z | z
  · exact h.2 y z
  · rw [z]; exact hx
theorem behindC_below {g : Gs} {s : Sa} {n : Nat} (p w : Nat) (h : GsOk g) (hs : SaOk g s) (hn : isSame g = false) (hb : below n (cellOf g).g.length (cellsOf s)) : below n (cellOf g).g.length (behindC g s p w) :=
  below_set hb (step_lt (cellOf_ok h hn) w (here_lt p h hs hn))
theorem learn_ok : ∀ {g : Gs} {s : Sa} (p w : Nat), GsOk g → SaOk g s → SaOk g (learn g s p w)
  | .same _, .one cs, _, _, _, hs => hs
  | .table n c, .one cs, p, w, h, hs => behindC_below (g := .table n c) (s := .one cs) p w h hs rfl hs
  | .mixed n l c, .num k cs, p, w, h, hs => ⟨Nat.mod_lt _ (Nat.pow_pos (by decide)), behindC_below (g := .mixed n l c) (s := .num k cs) p w h hs rfl hs.2⟩
  | .joined n l c, .num k cs, p, w, h, hs => ⟨Nat.mod_lt _ (Nat.pow_pos (by decide)), behindC_below (g := .joined n l c) (s := .num k cs) p w h hs rfl hs.2⟩
  | .own n l c, .nums ks cs, p, w, h, hs => ⟨below_set hs.1 (Nat.mod_lt _ (Nat.pow_pos (by decide))), behindC_below (g := .own n l c) (s := .nums ks cs) p w h hs rfl hs.2⟩
  | .either x y n c, .two sx sy cs, p, w, h, hs => by
    refine ⟨learn_ok p w h.1 hs.1, learn_ok p w h.2.1 hs.2.1, ?_⟩
    show below n c.g.length (if _ then _ else _)
    split
    · exact behindC_below (g := .either x y n c) (s := .two sx sy cs) p _ h hs rfl hs.2.2
    · exact hs.2.2
  | .same _, .num _ _, _, _, _, hs | .same _, .nums _ _, _, _, _, hs | .same _, .two _ _ _, _, _, _, hs => hs.elim
  | .table _ _, .num _ _, _, _, _, hs | .table _ _, .nums _ _, _, _, _, hs | .table _ _, .two _ _ _, _, _, _, hs => hs.elim
  | .mixed _ _ _, .one _, _, _, _, hs | .mixed _ _ _, .nums _ _, _, _, _, hs | .mixed _ _ _, .two _ _ _, _, _, _, hs => hs.elim
  | .joined _ _ _, .one _, _, _, _, hs | .joined _ _ _, .nums _ _, _, _, _, hs | .joined _ _ _, .two _ _ _, _, _, _, hs => hs.elim
  | .own _ _ _, .one _, _, _, _, hs | .own _ _ _, .num _ _, _, _, _, hs | .own _ _ _, .two _ _ _, _, _, _, hs => hs.elim
  | .either _ _ _ _, .one _, _, _, _, hs | .either _ _ _ _, .num _ _, _, _, _, hs | .either _ _ _ _, .nums _ _, _, _, _, hs => hs.elim

/-! ### as data -/
theorem nums_inj : ∀ {a b : List Nat}, nums a = nums b → a = b
  | [], [], _ => rfl
  | [], _ :: _, h => by simp [nums] at h
  | _ :: _, [], h => by simp [nums] at h
  | x :: a, y :: b, h => by
    have h' : NestedKey.num x :: nums a = NestedKey.num y :: nums b := h
    injection h' with h1 h2
    injection h1 with h1
    rw [nums_inj h2, Int.ofNat.inj h1]
theorem nums_at {l : List Nat} {i : Nat} (hi : i < l.length) : (nums l)[i]? = some (.num (l.getD i 0)) := by
  unfold nums
  rw [List.getElem?_map, getD_at hi]
  rfl
theorem nums_length (l : List Nat) : (nums l).length = l.length := by simp [nums]
theorem nums_set (l : List Nat) (i x : Nat) : nums (l.set i x) = (nums l).set i (.num x) := by simp [nums, List.map_set]
theorem nums_ne_tup : ∀ {a : List Nat} {ks : List NestedKey}, NestedKey.tup ks ∉ nums a := fun {a ks} h => by
  obtain ⟨x, _, e⟩ := List.mem_map.mp h
  exact nomatch e
theorem encS_inj : ∀ {a b : Sa}, encS a = encS b → a = b
  | .one a, .one b, h => by
    injection h with h
    rw [nums_inj h]
  | .num k a, .num l b, h => by
    injection h with h
    injection h with h1 h2
    injection h1 with h1
    injection h2 with h2
    injection h2 with h2
    rw [nums_inj h2, Int.ofNat.inj h1]
  | .nums k a, .nums l b, h => by
    injection h with h
    injection h with h1 h2
    injection h1 with h1
    injection h2 with h2
    injection h2 with h2
    rw [nums_inj h1, nums_inj h2]
  | .two x y a, .two u v b, h => by
    injection h with h
    injection h with h1 h2
    injection h2 with h2 h3
    injection h3 with h3
    injection h3 with h3
    rw [encS_inj h1, encS_inj h2, nums_inj h3]
  | .one a, .num k b, h => by
    injection h with h
    exact absurd (show NestedKey.tup (nums b) ∈ nums a by rw [h]; simp) nums_ne_tup
  | .one a, .nums k b, h => by
    injection h with h
    exact absurd (show NestedKey.tup (nums b) ∈ nums a by rw [h]; simp) nums_ne_tup
  | .one a, .two x y b, h => by
    injection h with h
    exact absurd (show NestedKey.tup (nums b) ∈ nums a by rw [h]; simp) nums_ne_tup
  | .num k b, .one a, h => by
    injection h with h
    exact absurd (show NestedKey.tup (nums b) ∈ nums a by rw [← h]; simp) nums_ne_tup
  | .nums k b, .one a, h => by
    injection h with h
    exact absurd (show NestedKey.tup (nums b) ∈ nums a by rw [← h]; simp) nums_ne_tup
  | .two x y b, .one a, h => by
    injection h with h
    exact absurd (show NestedKey.tup (nums b) ∈ nums a by rw [← h]; simp) nums_ne_tup
  | .num k a, .nums l b, h => by
    injection h with h
    injection h with h1 h2
    exact nomatch h1
  | .nums l b, .num k a, h => by
    injection h with h
    injection h with h1 h2
    exact nomatch h1
  | .num k a, .two x y b, h => by
    injection h with h
    injection h with h1 h2
    injection h2 with h2 h3
    exact nomatch h3
  | .two x y b, .num k a, h => by
    injection h with h
    injection h with h1 h2
    injection h2 with h2 h3
    exact nomatch h3
  | .nums k a, .two x y b, h => by
    injection h with h
    injection h with h1 h2
    injection h2 with h2 h3
    exact nomatch h3
  | .two x y b, .nums k a, h => by
    injection h with h
    injection h with h1 h2
    injection h2 with h2 h3
    exact nomatch h3
abbrev Pr := Sa × Sa
def encP (p : Pr) : NestedKey := .tup [encS p.1, encS p.2]
theorem encP_inj {p q : Pr} (h : encP p = encP q) : p = q := by
  injection h with h
  injection h with h1 h2
  injection h2 with h2
  exact Prod.ext (encS_inj h1) (encS_inj h2)
theorem depth_nums (l : List Nat) : NestedKey.depthAll (nums l) = 0 := by
  induction l with
  | nil => rfl
  | cons x r ih =>
    show max (NestedKey.depth (.num x)) (NestedKey.depthAll (nums r)) = 0
    rw [ih]
    rfl
theorem depth_encS : ∀ {g : Gs} {s : Sa}, SaOk g s → (encS s).depth ≤ deep g + 1
  | .same _, .one cs, _ => by
    show NestedKey.depthAll (nums cs) + 1 ≤ _
    rw [depth_nums]
    exact Nat.succ_le_succ (Nat.zero_le _)
  | .table _ _, .one cs, _ => by
    show NestedKey.depthAll (nums cs) + 1 ≤ _
    rw [depth_nums]
    exact Nat.succ_le_succ (Nat.zero_le _)
  | .mixed _ _ _, .num k cs, _ => by
    show max 0 (max (NestedKey.depthAll (nums cs) + 1) 0) + 1 ≤ 1 + 1
    rw [depth_nums]
    decide
  | .joined _ _ _, .num k cs, _ => by
    show max 0 (max (NestedKey.depthAll (nums cs) + 1) 0) + 1 ≤ 1 + 1
    rw [depth_nums]
    decide
  | .own _ _ _, .nums ks cs, _ => by
    show max (NestedKey.depthAll (nums ks) + 1) (max (NestedKey.depthAll (nums cs) + 1) 0) + 1 ≤ 1 + 1
    rw [depth_nums, depth_nums]
    decide
  | .either x y n c, .two sx sy cs, h => by
    have h1 := depth_encS h.1
    have h2 := depth_encS h.2.1
    show max (encS sx).depth (max (encS sy).depth (max (NestedKey.depthAll (nums cs) + 1) 0)) + 1 ≤ 1 + max (deep x) (deep y) + 1
    rw [depth_nums]
    have := deep_pos x
    omega
  | .same _, .num _ _, hs | .same _, .nums _ _, hs | .same _, .two _ _ _, hs => hs.elim
  | .table _ _, .num _ _, hs | .table _ _, .nums _ _, hs | .table _ _, .two _ _ _, hs => hs.elim
  | .mixed _ _ _, .one _, hs | .mixed _ _ _, .nums _ _, hs | .mixed _ _ _, .two _ _ _, hs => hs.elim
  | .joined _ _ _, .one _, hs | .joined _ _ _, .nums _ _, hs | .joined _ _ _, .two _ _ _, hs => hs.elim
  | .own _ _ _, .one _, hs | .own _ _ _, .num _ _, hs | .own _ _ _, .two _ _ _, hs => hs.elim
  | .either _ _ _ _, .one _, hs | .either _ _ _ _, .num _ _, hs | .either _ _ _ _, .nums _ _, hs => hs.elim
theorem alike_nums : ∀ (a b : List Nat), PySem.W.alikeAll (NestedKey.datas (nums a)) (NestedKey.datas (nums b)) = true
  | [], _ => by
    show PySem.W.alikeAll [] _ = true
    simp [PySem.W.alikeAll]
  | _ :: _, [] => by
    show PySem.W.alikeAll _ [] = true
    simp [PySem.W.alikeAll, NestedKey.datas, nums]
  | x :: a, y :: b => by
    show PySem.W.alikeAll (.int x :: NestedKey.datas (nums a)) (.int y :: NestedKey.datas (nums b)) = true
    rw [PySem.W.alikeAll, alike_nums a b]
    simp [PySem.W.alike]
theorem alike_encS : ∀ {g : Gs} {s t : Sa}, SaOk g s → SaOk g t → PySem.W.alike (encS s).data (encS t).data = true := by
  intro g
  induction g with
  | same w =>
    intro s t hs ht
    cases s <;> first | exact hs.elim | (cases t <;> first | exact ht.elim | (simp only [encS, NestedKey.data, PySem.W.alike]; exact alike_nums _ _))
  | table n c =>
    intro s t hs ht
    cases s <;> first | exact hs.elim | (cases t <;> first | exact ht.elim | (simp only [encS, NestedKey.data, PySem.W.alike]; exact alike_nums _ _))
  | mixed n l c =>
    intro s t hs ht
    cases s <;> first | exact hs.elim | (cases t <;> first | exact ht.elim | (simp only [encS, NestedKey.data, NestedKey.datas, PySem.W.alike, PySem.W.alikeAll, alike_nums]; rfl))
  | joined n l c =>
    intro s t hs ht
    cases s <;> first | exact hs.elim | (cases t <;> first | exact ht.elim | (simp only [encS, NestedKey.data, NestedKey.datas, PySem.W.alike, PySem.W.alikeAll, alike_nums]; rfl))
  | own n l c =>
    intro s t hs ht
    cases s <;> first | exact hs.elim | (cases t <;> first | exact ht.elim | (simp only [encS, NestedKey.data, NestedKey.datas, PySem.W.alike, PySem.W.alikeAll, alike_nums]; rfl))
  | either x y n c ihx ihy =>
    intro s t hs ht
    cases s <;> first
      | exact hs.elim
      | (cases t <;> first
          | exact ht.elim
          | (simp only [encS, NestedKey.data, NestedKey.datas, PySem.W.alike, PySem.W.alikeAll, alike_nums, ihx hs.1 ht.1, ihy hs.2.1 ht.2.1]; rfl))
end K49
set_option Elab.async false
set_option linter.all false
set_option maxRecDepth 100000
set_option maxHeartbeats 1000000
set_option autoImplicit false
/-! What a reading evaluates to, told by data; promises of defs told by data. -/
namespace K49
open PySem PySem.Spec PyProof.Rows L2

/-! ### what is known of a value: data; itself; a list of numbers that is drawn from; a list of data, of truth values -/
inductive AV where
  | k (d : NestedKey)
  | v (x : V)
  | dr (a : Addr)
  | lk (a : Addr) (ds : List NestedKey)
  | lb (a : Addr) (bs : List Bool)
def DR (a : Addr) (H : Hp) : Prop := ∃ ds : List Int, H a = some (.lst (ds.map V.int))
/-- not a list of numbers -/
def NotInts (vs : List V) : Prop := ∃ x ∈ vs, ∀ n, x ≠ V.int n
def AAt (H : Hp) : AV → V → Prop
  | .k d, v => KAt H d v
  | .v x, v => v = x
  | .dr a, v => v = .ref a ∧ DR a H
  | .lk a ds, v => v = .ref a ∧ ∃ vs, H a = some (.lst vs) ∧ KAts H ds vs ∧ NotInts vs
  | .lb a bs, v => v = .ref a ∧ H a = some (.lst (bs.map V.bl)) ∧ NotInts (bs.map V.bl)
theorem AAt.of {H : Hp} {d : NestedKey} {v : V} (h : KAt H d v) : AAt H (.k d) v := h
theorem AAt.val {H : Hp} {x : V} : AAt H (.v x) x := rfl
inductive AAts (H : Hp) : List AV → List V → Prop
  | nil : AAts H [] []
  | cons {a : AV} {v : V} {as : List AV} {vs : List V} : AAt H a v → AAts H as vs → AAts H (a :: as) (v :: vs)
theorem AAts.length {H : Hp} {as : List AV} {vs : List V} (h : AAts H as vs) : vs.length = as.length := by
  induction h with
  | nil => rfl
  | cons _ _ ih => rw [List.length_cons, List.length_cons, ih]
theorem AAts.get {H : Hp} {as : List AV} {vs : List V} (h : AAts H as vs) : ∀ {i : Nat} {a : AV}, as[i]? = some a → ∃ v, vs[i]? = some v ∧ AAt H a v := by
  induction h with
  | nil => intro i a e; simp at e
  | @cons a0 v0 as vs h1 h2 ih =>
    intro i a e
    cases i with
    | zero =>
      have e' : a0 = a := by simpa using e
      subst e'
      exact ⟨v0, rfl, h1⟩
    | succ i =>
      obtain ⟨v, g1, g2⟩ := ih (i := i) (a := a) (by simpa using e)
      exact ⟨v, by simpa using g1, g2⟩
theorem AAts.kats {H : Hp} : ∀ {ds : List NestedKey} {vs : List V}, AAts H (ds.map AV.k) vs → KAts H ds vs
  | [], _, h => by cases h; exact .nil
  | d :: ds, _, h => by
    rw [List.map_cons] at h
    cases h with
    | cons h1 h2 => exact .cons h1 (AAts.kats h2)

/-! ### how the heap may go on -/
structure Evo (R : Hp → Hp → Prop) : Prop where
  refl : ∀ H, R H H
  trans : ∀ {H H1 H2 : Hp}, R H H1 → R H1 H2 → R H H2
  ex : ∀ {H H' : Hp}, Same H H' → R H H'
  ts : ∀ {H H' : Hp}, R H H' → Ts H H'
  dr : ∀ {H H' : Hp} {a : Addr}, R H H' → DR a H → DR a H'
  ls : ∀ {H H' : Hp} {a : Addr} {vs : List V}, R H H' → H a = some (.lst vs) → NotInts vs → H' a = some (.lst vs)
  fr : ∀ {H H' : Hp} {D : Addr} {o : HO}, R H H' → H D = none → R H (upd H' D o)
theorem same_upd {H H' : Hp} {D : Addr} {o : HO} (e : Same H H') (h : H D = none) : Same H (upd H' D o) := fun b u q => by
  rw [upd_ne (ne_of_none q h)]
  exact e b u q
theorem evo_same : Evo Same := ⟨Same.refl, Same.trans, id, Ts.of, fun e ⟨ds, h⟩ => ⟨ds, e _ _ h⟩, fun e h _ => e _ _ h, same_upd⟩
theorem notInts_dr {H : Hp} {a : Addr} {vs : List V} (h : H a = some (.lst vs)) (n : NotInts vs) : ¬ DR a H := fun ⟨ds, e⟩ => by
  rw [h] at e
  have e' : vs = ds.map V.int := by
    injection Option.some.inj e
  obtain ⟨x, hx, hn⟩ := n
  rw [e'] at hx
  obtain ⟨m, _, hm⟩ := List.mem_map.mp hx
  exact hn m hm.symm
/-- all but the drawn list -/
structure Dr (a : Addr) (H H' : Hp) : Prop where
  but : ∀ b o, b ≠ a → H b = some o → H' b = some o
  dr : DR a H → DR a H'
  ts : Ts H H'
  no : ∀ o, H a = some o → ¬ DR a H → H' a = some o
theorem evo_dr (a : Addr) : Evo (Dr a) where
  refl := fun H => ⟨fun _ _ _ h => h, id, Ts.refl H, fun _ h _ => h⟩
  trans := fun {H H1 H2} x y => ⟨fun b o n h => y.but b o n (x.but b o n h), fun h => y.dr (x.dr h), x.ts.trans y.ts, fun o h n => y.no o (x.no o h n) fun ⟨ds, e⟩ => n (by
    rw [x.no o h n] at e
    exact ⟨ds, by rw [h]; exact e⟩)⟩
  ex := fun e => ⟨fun b o _ h => e b o h, fun ⟨ds, h⟩ => ⟨ds, e _ _ h⟩, Ts.of e, fun o h _ => e _ _ h⟩
  ts := fun x => x.ts
  dr := fun {H H' b} x h => by
    by_cases e : b = a
    · subst e
      exact x.dr h
    · obtain ⟨ds, h⟩ := h
      exact ⟨ds, x.but _ _ e h⟩
  ls := fun {H H' b vs} x h n => by
    by_cases e : b = a
    · subst e
      exact x.no _ h (notInts_dr h n)
    · exact x.but _ _ e h
  fr := fun {H H' D o} x h => by
    refine ⟨fun b u n q => ?_, fun ⟨ds, q⟩ => ?_, fun b xs q => ?_, fun u q n => ?_⟩
    · rw [upd_ne (ne_of_none q h)]
      exact x.but b u n q
    · obtain ⟨es, e⟩ := x.dr ⟨ds, q⟩
      exact ⟨es, by rw [upd_ne (ne_of_none q h)]; exact e⟩
    · rw [upd_ne (ne_of_none q h)]
      exact x.ts b xs q
    · rw [upd_ne (ne_of_none q h)]
      exact x.no u q n
section
variable {R : Hp → Hp → Prop} (V_ : Evo R)
include V_
theorem AAt.up {H H' : Hp} {a : AV} {v : V} (h : AAt H a v) (r : R H H') : AAt H' a v := by
  cases a with
  | k d => exact KAt.up h (V_.ts r)
  | v x => exact h
  | dr a => exact ⟨h.1, V_.dr r h.2⟩
  | lk a ds =>
    obtain ⟨e, vs, h1, h2, h3⟩ := h
    exact ⟨e, vs, V_.ls r h1 h3, h2.up (V_.ts r), h3⟩
  | lb a bs => exact ⟨h.1, V_.ls r h.2.1 h.2.2, h.2.2⟩
theorem AAts.up {H H' : Hp} {as : List AV} {vs : List V} (h : AAts H as vs) (r : R H H') : AAts H' as vs := by
  induction h with
  | nil => exact .nil
  | cons h1 _ ih => exact .cons (h1.up V_ r) ih
end

/-! ### the slots -/
abbrev KS := List (Option AV)
structure Mt (κ : KS) (σ : L2.St) (H : Hp) : Prop where
  len : σ.length = κ.length
  at_ : ∀ (i : Nat) (a : AV), κ[i]? = some (some a) → ∃ v, σ[i]? = some (some v) ∧ AAt H a v
theorem Mt.up {R : Hp → Hp → Prop} (V_ : Evo R) {κ : KS} {σ : L2.St} {H H' : Hp} (m : Mt κ σ H) (r : R H H') : Mt κ σ H' :=
  ⟨m.len, fun i a e => let ⟨v, e1, e2⟩ := m.at_ i a e; ⟨v, e1, e2.up V_ r⟩⟩
theorem Mt.set {κ : KS} {σ : L2.St} {H : Hp} {i : Nat} {a : AV} {v : V} (m : Mt κ σ H) (h : AAt H a v) : Mt (κ.set i (some a)) (σ.set i (some v)) H := by
  refine ⟨by rw [List.length_set, List.length_set]; exact m.len, fun j b e => ?_⟩
  by_cases hj : i = j
  · subst hj
    by_cases hi : i < κ.length
    · rw [List.getElem?_set_self hi] at e
      have e' := Option.some.inj (Option.some.inj e)
      subst e'
      exact ⟨v, List.getElem?_set_self (by rw [m.len]; exact hi), h⟩
    · rw [List.getElem?_eq_none (by rw [List.length_set]; omega)] at e
      cases e
  · rw [List.getElem?_set_ne hj] at e
    obtain ⟨w, h1, h2⟩ := m.at_ j b e
    exact ⟨w, by rw [List.getElem?_set_ne hj]; exact h1, h2⟩
def kap (N : List Str) (as : List AV) : KS := as.map some ++ List.replicate (N.length - as.length) none
theorem mt_start {H : Hp} {N : List Str} {as : List AV} {vs : List V} (h : AAts H as vs) : Mt (kap N as) (L2.start N vs) H := by
  refine ⟨?_, fun i a e => ?_⟩
  · unfold kap L2.start
    rw [List.length_append, List.length_append, List.length_map, List.length_map, List.length_replicate, List.length_replicate, h.length]
  · unfold kap at e
    unfold L2.start
    by_cases hi : i < as.length
    · rw [List.getElem?_append_left (by rw [List.length_map]; exact hi), List.getElem?_map] at e
      cases q : as[i]? with
      | none => rw [q] at e; cases e
      | some b =>
        rw [q] at e
        have e' : b = a := Option.some.inj (Option.some.inj e)
        subst e'
        obtain ⟨v, h1, h2⟩ := h.get q
        refine ⟨v, ?_, h2⟩
        rw [List.getElem?_append_left (by rw [List.length_map, h.length]; exact hi), List.getElem?_map, h1]
        rfl
    · rw [List.getElem?_append_right (by rw [List.length_map]; omega)] at e
      have := List.mem_of_getElem? e
      rw [List.mem_replicate] at this
      exact absurd this.2 (by simp)

/-! ### expressions -/
def EvS (R : Hp → Hp → Prop) (te : TE) (κ : KS) (S : AV → Prop) : Prop := ∀ σ H, Mt κ σ H → ∀ Q : VK, (∀ v d H', R H H' → AAt H' d v → S d → Q v H') → te σ H Q
abbrev EvK (R : Hp → Hp → Prop) (te : TE) (κ : KS) (a : AV) : Prop := EvS R te κ (fun d => d = a)
def EvA (R : Hp → Hp → Prop) (ta : TA) (κ : KS) (S : List AV → Prop) : Prop := ∀ σ H, Mt κ σ H → ∀ Q : List V → Hp → Prop, (∀ vs ds H', R H H' → AAts H' ds vs → S ds → Q vs H') → ta σ H Q
abbrev EvL (R : Hp → Hp → Prop) (ta : TA) (κ : KS) (as : List AV) : Prop := EvA R ta κ (fun d => d = as)
def EvT (R : Hp → Hp → Prop) (tt : TT) (κ : KS) (B : Bool → Prop) : Prop := ∀ σ H, Mt κ σ H → ∀ Q : Bool → Hp → Prop, (∀ b H', R H H' → B b → Q b H') → tt σ H Q
abbrev EvB (R : Hp → Hp → Prop) (tt : TT) (κ : KS) (b : Bool) : Prop := EvT R tt κ (fun c => c = b)
/-- a two-place operation by what is known of the operands -/
def RS (R : Hp → Hp → Prop) (r : R2) (x y : AV) (S : AV → Prop) : Prop := ∀ H vx vy, AAt H x vx → AAt H y vy → ∀ Q : VK, (∀ v d H', R H H' → AAt H' d v → S d → Q v H') → r vx vy H Q
abbrev RK (R : Hp → Hp → Prop) (r : R2) (x y z : AV) : Prop := RS R r x y (fun d => d = z)
def US (R : Hp → Hp → Prop) (r : V → Hp → VK → Prop) (x : AV) (S : AV → Prop) : Prop := ∀ H vx, AAt H x vx → ∀ Q : VK, (∀ v d H', R H H' → AAt H' d v → S d → Q v H') → r vx H Q
/-- a call on values -/
def CS (R : Hp → Hp → Prop) (r : List V → Hp → VK → Prop) (as : List AV) (S : AV → Prop) : Prop := ∀ H vs, AAts H as vs → ∀ Q : VK, (∀ v d H', R H H' → AAt H' d v → S d → Q v H') → r vs H Q
section
variable {R : Hp → Hp → Prop} {κ : KS} {ta tb te : TE} {x y z a b : AV} {S Sa Sb : AV → Prop} {K : PySem.W.Frag} {P : Program} {w : World}
theorem EvS.mono {S' : AV → Prop} (h : EvS R te κ S) (m : ∀ d, S d → S' d) : EvS R te κ S' := fun σ H M Q q => h σ H M Q fun v d H' r k s => q v d H' r k (m d s)
theorem ek_var (V_ : Evo R) {i : Nat} (h : κ[i]? = some (some a)) : EvK R (tVar i) κ a := fun σ H M Q q => by
  obtain ⟨v, e, k⟩ := M.at_ i a h
  exact ⟨v, e, q v a H (V_.refl H) k rfl⟩
theorem ek_int (V_ : Evo R) {n : Int} : EvK R (tC (.int n)) κ (.k (.num n)) := fun σ H M Q q => q _ _ H (V_.refl H) (AAt.of (KAt.num n)) rfl
theorem ek_str (V_ : Evo R) {s : Str} : EvK R (tC (.str s)) κ (.k (.text s)) := fun σ H M Q q => q _ _ H (V_.refl H) (AAt.of (KAt.text s)) rfl
theorem ek_non (V_ : Evo R) : EvK R (tC .non) κ (.k .none) := fun σ H M Q q => q _ _ H (V_.refl H) (AAt.of KAt.none) rfl
theorem ek_bl (V_ : Evo R) {c : Bool} : EvK R (tC (.bl c)) κ (.v (.bl c)) := fun σ H M Q q => q _ _ H (V_.refl H) AAt.val rfl
theorem es_op (V_ : Evo R) {r : R2} (ha : EvS R ta κ Sa) (hb : EvS R tb κ Sb) (hr : ∀ x y, Sa x → Sb y → RS R r x y S) : EvS R (tOp r ta tb) κ S := fun σ H M Q q =>
  ha σ H M _ fun vx dx H1 r1 kx sx => hb σ H1 (M.up V_ r1) _ fun vy dy H2 r2 ky sy =>
    hr dx dy sx sy H2 vx vy (kx.up V_ r2) ky Q fun v d H3 r3 k s => q v d H3 (V_.trans r1 (V_.trans r2 r3)) k s
theorem ek_op (V_ : Evo R) {r : R2} (ha : EvK R ta κ x) (hb : EvK R tb κ y) (hr : RK R r x y z) : EvK R (tOp r ta tb) κ z := es_op V_ ha hb fun x' y' e1 e2 => by
  subst e1
  subst e2
  exact hr
theorem es_un (V_ : Evo R) {r : V → Hp → VK → Prop} (ha : EvS R ta κ Sa) (hr : ∀ x, Sa x → US R r x S) : EvS R (tUn r ta) κ S := fun σ H M Q q =>
  ha σ H M _ fun vx dx H1 r1 kx sx => hr dx sx H1 vx kx Q fun v d H2 r2 k s => q v d H2 (V_.trans r1 r2) k s
theorem ek_neg (V_ : Evo R) {n : Int} (ha : EvK R ta κ (.k (.num n))) : EvK R (tUn (rU fun i => .int (-i)) ta) κ (.k (.num (-n))) := es_un V_ ha fun x e => by
  subst e
  intro H vx k Q q
  cases (show KAt H (.num n) vx from k)
  exact ⟨n, rfl, q _ _ H (V_.refl H) (AAt.of (KAt.num _)) rfl⟩
theorem el_nil (V_ : Evo R) : EvL R tNil κ [] := fun σ H M Q q => q [] [] H (V_.refl H) .nil rfl
theorem ea_cons (V_ : Evo R) {tr : TA} {SL SR : List AV → Prop} (h : EvS R ta κ Sa) (hr : EvA R tr κ SR) (m : ∀ d ds, Sa d → SR ds → SL (d :: ds)) : EvA R (tCons ta tr) κ SL := fun σ H M Q q =>
  h σ H M _ fun v d H1 r1 k s => hr σ H1 (M.up V_ r1) _ fun vs ds H2 r2 ks ss => q (v :: vs) (d :: ds) H2 (V_.trans r1 r2) (.cons (k.up V_ r2) ks) (m d ds s ss)
theorem el_cons (V_ : Evo R) {tr : TA} {as : List AV} (h : EvK R ta κ a) (hr : EvL R tr κ as) : EvL R (tCons ta tr) κ (a :: as) := ea_cons V_ h hr fun d ds e1 e2 => by
  subst e1
  subst e2
  rfl
theorem es_tup (V_ : Evo R) {tA : TA} {SL : List AV → Prop} (h : EvA R tA κ SL) (m : ∀ as, SL as → as.length ≤ 1000 ∧ ∃ ds, as = ds.map AV.k ∧ S (.k (.tup ds))) : EvS R (tTup tA) κ S := fun σ H M Q q =>
  h σ H M _ fun vs as H1 r1 ks sl => by
    obtain ⟨hl, ds, e, s⟩ := m as sl
    refine ⟨Nat.le_of_lt (small1000 (by rw [ks.length]; exact hl)), fun p hp => ?_⟩
    refine q _ (.k (.tup ds)) _ (V_.trans r1 (V_.ex (same_new hp))) ?_ s
    subst e
    exact KAt.tup upd_same (ks.kats.up (Ts.new hp))
theorem ek_tup (V_ : Evo R) {tA : TA} {ds : List NestedKey} (h : EvL R tA κ (ds.map AV.k)) (hl : ds.length ≤ 1000) : EvK R (tTup tA) κ (.k (.tup ds)) := es_tup V_ h fun as e => by
  subst e
  exact ⟨by rw [List.length_map]; exact hl, ds, rfl, rfl⟩
theorem es_if (V_ : Evo R) {tt : TT} {B : Bool → Prop} (h : EvT R tt κ B) (h1 : B true → EvS R ta κ S) (h2 : B false → EvS R tb κ S) : EvS R (tIf tt ta tb) κ S := fun σ H M Q q =>
  h σ H M _ fun c H1 r1 sb => by
    cases c with
    | true =>
      show ta σ H1 Q
      exact h1 sb σ H1 (M.up V_ r1) Q fun v d H2 r2 k s => q v d H2 (V_.trans r1 r2) k s
    | false =>
      show tb σ H1 Q
      exact h2 sb σ H1 (M.up V_ r1) Q fun v d H2 r2 k s => q v d H2 (V_.trans r1 r2) k s
theorem es_cb (V_ : Evo R) {r : List V → Hp → VK → Prop} {tA : TA} {SL : List AV → Prop} (h : EvA R tA κ SL) (hr : ∀ as, SL as → CS R r as S) : EvS R (tCB r tA) κ S := fun σ H M Q q =>
  h σ H M _ fun vs as H1 r1 ks sl => hr as sl H1 vs ks Q fun v d H2 r2 k s => q v d H2 (V_.trans r1 r2) k s
/-! tests -/
theorem et_test (V_ : Evo R) {B : Bool → Prop} (h : EvS R te κ (fun d => ∃ b, d = .v (.bl b) ∧ B b)) : EvT R (tTest te) κ B := fun σ H M Q q =>
  h σ H M _ fun v d H1 r1 k ⟨b, e, s⟩ => by
    subst e
    exact ⟨b, k, q b H1 r1 s⟩
theorem eb_test (V_ : Evo R) {c : Bool} (h : EvK R te κ (.v (.bl c))) : EvB R (tTest te) κ c := et_test V_ (h.mono fun d e => ⟨c, e, rfl⟩)
theorem et_B (V_ : Evo R) {B : Bool → Prop} (h : EvS R te κ (fun d => ∃ b, d = .v (.bl b) ∧ B b)) : EvT R (tB te) κ B := fun σ H M Q q =>
  h σ H M _ fun v d H1 r1 k ⟨b, e, s⟩ => by
    subst e
    exact ⟨b, k, q b H1 r1 s⟩
theorem et_and (V_ : Evo R) {t u : TT} {B B1 B2 : Bool → Prop} (h1 : EvT R t κ B1) (h2 : B1 true → EvT R u κ B2) (m1 : B1 true → ∀ b, B2 b → B b) (m2 : B1 false → B false) : EvT R (tAnd t u) κ B := fun σ H M Q q =>
  h1 σ H M _ fun c H1 r1 s => by
    cases c with
    | true =>
      show u σ H1 Q
      exact h2 s σ H1 (M.up V_ r1) Q fun b H2 r2 s2 => q b H2 (V_.trans r1 r2) (m1 s b s2)
    | false =>
      show Q false H1
      exact q false H1 r1 (m2 s)
theorem et_or (V_ : Evo R) {t u : TT} {B B1 B2 : Bool → Prop} (h1 : EvT R t κ B1) (h2 : B1 false → EvT R u κ B2) (m1 : B1 false → ∀ b, B2 b → B b) (m2 : B1 true → B true) : EvT R (tOr t u) κ B := fun σ H M Q q =>
  h1 σ H M _ fun c H1 r1 s => by
    cases c with
    | false =>
      show u σ H1 Q
      exact h2 s σ H1 (M.up V_ r1) Q fun b H2 r2 s2 => q b H2 (V_.trans r1 r2) (m1 s b s2)
    | true =>
      show Q true H1
      exact q true H1 r1 (m2 s)
theorem et_not {t : TT} {B B1 : Bool → Prop} (h : EvT R t κ B1) (m : ∀ b, B1 b → B (!b)) : EvT R (tNot t) κ B := fun σ H M Q q => h σ H M _ fun c H1 r1 s => q _ H1 r1 (m c s)

/-! ### operators on data -/
theorem rk_fin (V_ : Evo R) {H : Hp} {Q : VK} {v : V} (q : ∀ v d H', R H H' → AAt H' d v → d = a → Q v H') (k : AAt H a v) : Q v H := q v a H (V_.refl H) k rfl
theorem kat_num {H : Hp} {n : Int} {v : V} (h : AAt H (.k (.num n)) v) : v = .int n := by
  cases (show KAt H (.num n) v from h)
  rfl
theorem kat_text {H : Hp} {s : Str} {v : V} (h : AAt H (.k (.text s)) v) : v = .str s := by
  cases (show KAt H (.text s) v from h)
  rfl
theorem kat_tup {H : Hp} {ks : List NestedKey} {v : V} (h : AAt H (.k (.tup ks)) v) : ∃ a vs, v = .ref a ∧ H a = some (.tup vs) ∧ KAts H ks vs := by
  cases (show KAt H (.tup ks) v from h) with
  | tup h1 h2 => exact ⟨_, _, rfl, h1, h2⟩
theorem rk_addI (V_ : Evo R) {i j : Int} : RK R (rAddU K) (.k (.num i)) (.k (.num j)) (.k (.num (i + j))) := fun H vx vy kx ky Q q => by
  rw [kat_num kx, kat_num ky]
  exact .inl ⟨i, j, rfl, rfl, rk_fin V_ q (AAt.of (KAt.num _))⟩
theorem rk_addT (V_ : Evo R) {xs ys : List NestedKey} (hl : xs.length + ys.length ≤ 1000) : RK R (rAddU K) (.k (.tup xs)) (.k (.tup ys)) (.k (.tup (xs ++ ys))) := fun H vx vy kx ky Q q => by
  obtain ⟨a, vs, rfl, h1, h2⟩ := kat_tup kx
  obtain ⟨b, ws, rfl, h3, h4⟩ := kat_tup ky
  have l1 := h2.length
  have l2 := h4.length
  refine .inr (.inl ⟨a, b, vs, ws, rfl, rfl, SqT.of h1, SqT.of h3, Nat.le_of_lt (small1000 (by omega)), fun e => ?_, fun _ e => ?_, fun _ _ p hp => ?_⟩)
  · subst e
    cases h2
    exact rk_fin V_ q (AAt.of <| KAt.tup h3 h4)
  · subst e
    cases h4
    rw [List.append_nil] at q
    exact rk_fin V_ q (AAt.of <| KAt.tup h1 h2)
  · exact q _ _ _ (V_.ex (same_new hp)) (AAt.of <| KAt.tup upd_same ((h2.append h4).up (Ts.new hp))) rfl
theorem rk_sub (V_ : Evo R) {i j : Int} : RK R rSub (.k (.num i)) (.k (.num j)) (.k (.num (i - j))) := fun H vx vy kx ky Q q => by
  rw [kat_num kx, kat_num ky]
  exact ⟨i, j, rfl, rfl, rk_fin V_ q (AAt.of (KAt.num _))⟩
theorem rk_mulI (V_ : Evo R) {i j : Int} (h : CMul i j) : RK R rMulU (.k (.num i)) (.k (.num j)) (.k (.num (i * j))) := fun H vx vy kx ky Q q => by
  rw [kat_num kx, kat_num ky]
  exact .inl ⟨i, j, rfl, rfl, h, rk_fin V_ q (AAt.of (KAt.num _))⟩
theorem rk_mulT (V_ : Evo R) {n : Nat} {k : NestedKey} (h : n ≤ 1000) : RK R rMulU (.k (.tup [k])) (.k (.num n)) (.k (.tup (List.replicate n k))) := fun H vx vy kx ky Q q => by
  obtain ⟨a, vs, rfl, h1, h2⟩ := kat_tup kx
  rw [kat_num ky]
  cases h2 with
  | @cons _ v _ ws h3 h4 =>
    cases h4
    refine .inr ⟨a, [v], n, rfl, rfl, h1, by simp, h, (by show 1 ≤ 1000; decide), fun p H' hs hp => ?_⟩
    refine q _ _ _ (V_.ex hs) (AAt.of <| KAt.tup hp ?_) rfl
    have e : (List.replicate n [v]).flatten = List.replicate n v := PyProof.Rows.lm_rep_flat_one v n
    rw [e]
    exact KAts.rep (h3.up (Ts.of hs)) n
theorem rk_mod (V_ : Evo R) {i j : Int} (h : 0 < j) : RK R rMod (.k (.num i)) (.k (.num j)) (.k (.num (i % j))) := fun H vx vy kx ky Q q => by
  rw [kat_num kx, kat_num ky]
  exact ⟨i, j, rfl, rfl, h, rk_fin V_ q (AAt.of (KAt.num _))⟩
theorem rk_div (V_ : Evo R) {i j : Int} (h : CDiv i j) : RK R rDiv (.k (.num i)) (.k (.num j)) (.k (.num (i / j))) := fun H vx vy kx ky Q q => by
  rw [kat_num kx, kat_num ky]
  exact ⟨i, j, rfl, rfl, h, rk_fin V_ q (AAt.of (KAt.num _))⟩
theorem rk_shl (V_ : Evo R) {i j : Int} (h : CPow i j) : RK R rShl (.k (.num i)) (.k (.num j)) (.k (.num (i * 2 ^ j.toNat))) := fun H vx vy kx ky Q q => by
  rw [kat_num kx, kat_num ky]
  exact ⟨i, j, rfl, rfl, h, rk_fin V_ q (AAt.of (KAt.num _))⟩
theorem rk_pow (V_ : Evo R) {i j : Int} (h : CPow i j) : RK R rPow (.k (.num i)) (.k (.num j)) (.k (.num (i ^ j.toNat))) := fun H vx vy kx ky Q q => by
  rw [kat_num kx, kat_num ky]
  exact ⟨i, j, rfl, rfl, h, rk_fin V_ q (AAt.of (KAt.num _))⟩
theorem rk_cmp (V_ : Evo R) {f : Int → Int → Bool} {i j : Int} : RK R (rI0 fun i j => .bl (f i j)) (.k (.num i)) (.k (.num j)) (.v (.bl (f i j))) := fun H vx vy kx ky Q q => by
  rw [kat_num kx, kat_num ky]
  exact ⟨i, j, rfl, rfl, rk_fin V_ q AAt.val⟩
theorem rk_eqI (V_ : Evo R) {i j : Int} : RK R (rEqU K) (.k (.num i)) (.k (.num j)) (.v (.bl (decide (i = j)))) := fun H vx vy kx ky Q q => by
  rw [kat_num kx, kat_num ky]
  refine .inl ⟨rfl, ?_⟩
  have e : decide (V.int i = V.int j) = decide (i = j) := by
    by_cases h : i = j
    · subst h; simp
    · rw [decide_eq_false h, decide_eq_false (fun z => h (V.int.inj z))]
  rw [e]
  exact rk_fin V_ q AAt.val
theorem rk_neI (V_ : Evo R) {i j : Int} : RK R (rNeU K) (.k (.num i)) (.k (.num j)) (.v (.bl (!decide (i = j)))) := fun H vx vy kx ky Q q => by
  rw [kat_num kx, kat_num ky]
  refine .inl ⟨rfl, ?_⟩
  have e : decide (V.int i = V.int j) = decide (i = j) := by
    by_cases h : i = j
    · subst h; simp
    · rw [decide_eq_false h, decide_eq_false (fun z => h (V.int.inj z))]
  rw [e]
  exact rk_fin V_ q AAt.val
theorem rk_eqS (V_ : Evo R) {s t : Str} {b : Bool} (h : decide (s = t) = b) : RK R (rEqU K) (.k (.text s)) (.k (.text t)) (.v (.bl b)) := fun H vx vy kx ky Q q => by
  rw [kat_text kx, kat_text ky]
  refine .inl ⟨rfl, ?_⟩
  have e : decide (V.str s = V.str t) = b := by
    rw [← h]
    by_cases h : s = t
    · subst h; simp
    · rw [decide_eq_false h, decide_eq_false (fun z => h (V.str.inj z))]
  rw [e]
  exact rk_fin V_ q AAt.val
theorem rk_neBl (V_ : Evo R) {s t : Bool} : RK R (rNeU K) (.v (.bl s)) (.v (.bl t)) (.v (.bl (s != t))) := fun H vx vy kx ky Q q => by
  have e1 : vx = .bl s := kx
  have e2 : vy = .bl t := ky
  subst e1
  subst e2
  refine .inl ⟨rfl, ?_⟩
  have e : (!decide (V.bl s = V.bl t)) = (s != t) := by cases s <;> cases t <;> rfl
  rw [e]
  exact rk_fin V_ q AAt.val
theorem atI_len {α β : Type} {xs : List α} {ys : List β} (h : ys.length = xs.length) {i : Int} {v : α} (e : atI xs i = some v) : ∃ j, ixN xs.length i = some j ∧ xs[j]? = some v := by
  unfold atI at e
  cases q : ixN xs.length i with
  | none => rw [q] at e; cases e
  | some j =>
    rw [q] at e
    exact ⟨j, rfl, e⟩
theorem rk_ix (V_ : Evo R) {ks : List NestedKey} {i : Int} {k : NestedKey} (h : atI ks i = some k) : RK R (rIxU P w K) (.k (.tup ks)) (.k (.num i)) (.k k) := fun H vx vy kx ky Q q => by
  obtain ⟨a, vs, rfl, h1, h2⟩ := kat_tup kx
  rw [kat_num ky]
  obtain ⟨j, e1, e2⟩ := atI_len h2.length h
  obtain ⟨v, h3, h4⟩ := h2.get e2
  refine .inr (.inl ⟨a, vs, i, v, rfl, rfl, SqT.of h1, ?_, rk_fin V_ q h4⟩)
  unfold atI
  rw [h2.length, e1]
  exact h3
end
/-- a slice of a tuple -/
def cutK (ks : List NestedKey) (lo hi : Option Int) : List NestedKey := (ks.drop (HT.sIx ks.length 0 lo)).take (HT.sIx ks.length ks.length hi - HT.sIx ks.length 0 lo)
def EvO (R : Hp → Hp → Prop) (to : TO) (κ : KS) (o : Option Int) : Prop := ∀ σ H, Mt κ σ H → ∀ Q : Option Int → Hp → Prop, (∀ H', R H H' → Q o H') → to σ H Q
section
variable {R : Hp → Hp → Prop} {κ : KS} {ta tb te : TE} {x y z a b : AV} {S Sa Sb : AV → Prop} {K : PySem.W.Frag} {P : Program} {w : World}
theorem eo_none (V_ : Evo R) : EvO R tNoPart κ none := fun σ H M Q q => q H (V_.refl H)
theorem eo_some (V_ : Evo R) {n : Int} (h : EvK R te κ (.k (.num n))) : EvO R (tPart te) κ (some n) := fun σ H M Q q => h σ H M _ fun v d H1 r1 k s => by
  subst s
  exact ⟨n, kat_num k, q H1 r1⟩
theorem ek_slice (V_ : Evo R) {ks : List NestedKey} {lo hi : Option Int} {tl th : TO} (h : EvK R te κ (.k (.tup ks))) (hl : EvO R tl κ lo) (hh : EvO R th κ hi) : EvK R (tSl (rSlU K) te tl th) κ (.k (.tup (cutK ks lo hi))) := fun σ H M Q q =>
  h σ H M _ fun v d H1 r1 k s => hl σ H1 (M.up V_ r1) _ fun H2 r2 => hh σ H2 ((M.up V_ r1).up V_ r2) _ fun H3 r3 => by
    subst s
    obtain ⟨a, vs, rfl, h1, h2⟩ := kat_tup (k.up V_ (V_.trans r2 r3))
    have len := h2.length
    have r13 := V_.trans r1 (V_.trans r2 r3)
    refine .inl ⟨a, vs, rfl, SqT.of h1, fun e => ?_, fun _ p hp => ?_⟩
    · have ec : cutK ks lo hi = ks := by
        unfold cutK
        rw [← len, e.1, e.2]
        simp [len]
      rw [ec] at q
      exact q _ _ H3 r13 (AAt.of <| KAt.tup h1 h2) rfl
    · refine q _ _ _ (V_.trans r13 (V_.ex (same_new hp))) (AAt.of <| KAt.tup upd_same ?_) rfl
      unfold cutV cutK
      rw [← len]
      exact ((h2.drop _).take _).up (Ts.new hp)
/-- int(..) -/
theorem cs_intB (V_ : Evo R) {c : Bool} : CS R (fun xs H Q => (∃ i, xs = [V.int i] ∧ Q (.int i) H) ∨ ∃ k, xs = [V.bl k] ∧ Q (.int (if k then 1 else 0)) H) [.v (.bl c)] (fun d => d = .k (.num (if c then 1 else 0))) := fun H vs ks Q q => by
  cases ks with
  | cons h1 h2 =>
    cases h2
    have e := (show _ = V.bl c from h1)
    subst e
    exact .inr ⟨c, rfl, q _ _ H (V_.refl H) (AAt.of (KAt.num _)) rfl⟩
/-- max(i, j), min(i, j) -/
theorem cs_max2 (V_ : Evo R) {i j : Int} : CS R (fun xs H Q => ∃ i j, xs = [V.int i, V.int j] ∧ Q (.int (if j > i then j else i)) H) [.k (.num i), .k (.num j)] (fun d => d = .k (.num (if j > i then j else i))) := fun H vs ks Q q => by
  cases ks with
  | cons h1 h2 =>
    cases h2 with
    | cons h3 h4 =>
      cases h4
      rw [kat_num h1, kat_num h3]
      exact ⟨i, j, rfl, q _ _ H (V_.refl H) (AAt.of (KAt.num _)) rfl⟩
theorem cs_min2 (V_ : Evo R) {i j : Int} : CS R (fun xs H Q => ∃ i j, xs = [V.int i, V.int j] ∧ Q (.int (if j < i then j else i)) H) [.k (.num i), .k (.num j)] (fun d => d = .k (.num (if j < i then j else i))) := fun H vs ks Q q => by
  cases ks with
  | cons h1 h2 =>
    cases h2 with
    | cons h3 h4 =>
      cases h4
      rw [kat_num h1, kat_num h3]
      exact ⟨i, j, rfl, q _ _ H (V_.refl H) (AAt.of (KAt.num _)) rfl⟩
/-- len of a tuple -/
theorem cs_len (V_ : Evo R) {ks : List NestedKey} : CS R (rLenS K) [.k (.tup ks)] (fun d => d = .k (.num ks.length)) := fun H vs hk Q q => by
  cases hk with
  | cons h1 h2 =>
    cases h2
    obtain ⟨a, vs, rfl, h3, h4⟩ := kat_tup h1
    refine ⟨a, vs, rfl, .inr (SqT.of h3), ?_⟩
    rw [h4.length]
    exact q _ _ H (V_.refl H) (AAt.of (KAt.num _)) rfl

/-! ### calls -/
/-- a promise by data -/
def spG (ok : List AV → (Hp → Hp → Prop) → (AV → Prop) → Prop) : Sp := fun vs H Q _ => ∃ as R S, AAts H as vs ∧ ok as R S ∧ ∀ v d H', R H H' → AAt H' d v → S d → Q v H'
theorem es_call (V_ : Evo R) {ok : List AV → (Hp → Hp → Prop) → (AV → Prop) → Prop} {E : XK} {tA : TA} {SL : List AV → Prop} (h : EvA R tA κ SL) (hr : ∀ as, SL as → ∃ R' S', ok as R' S' ∧ (∀ H H', R' H H' → R H H') ∧ ∀ d, S' d → S d) :
    EvS R (tCall (spG ok) [] E tA) κ S := fun σ H M Q q => h σ H M _ fun vs as H1 r1 ks sl => by
  obtain ⟨R', S', h1, h2, h3⟩ := hr as sl
  rw [List.append_nil]
  exact ⟨as, R', S', ks, h1, fun v d H2 r2 k s => q v d H2 (V_.trans r1 (h2 _ _ r2)) k (h3 d s)⟩
theorem ek_call (V_ : Evo R) {ok : List AV → (Hp → Hp → Prop) → (AV → Prop) → Prop} {E : XK} {tA : TA} {as : List AV} (h : EvL R tA κ as) (hr : ok as Same (fun d => d = a)) : EvK R (tCall (spG ok) [] E tA) κ a :=
  es_call V_ h fun as' e => by
    subst e
    exact ⟨Same, _, hr, fun _ _ e => V_.ex e, fun _ s => s⟩

/-! ### blocks that end by a return -/
def RunS (R : Hp → Hp → Prop) (t : TS) (κ : KS) (S : AV → Prop) : Prop := ∀ D σ H, Mt κ σ H → (∀ v d H', R H H' → AAt H' d v → S d → D.rt v H') → t D σ H
abbrev RunK (R : Hp → Hp → Prop) (t : TS) (κ : KS) (a : AV) : Prop := RunS R t κ (fun d => d = a)
theorem rs_ret (h : EvS R te κ S) : RunS R (tRet te) κ S := fun D σ H M q => h σ H M _ q
theorem rs_retS {t2 : TS} (h : EvS R te κ S) : RunS R (tSeq (tRet te) t2) κ S := fun D σ H M q => h σ H M _ q
theorem rs_set (V_ : Evo R) {i : Nat} {t2 : TS} {S0 : AV → Prop} (h : EvS R te κ S0) (k : ∀ d, S0 d → RunS R t2 (κ.set i (some d)) S) : RunS R (tSeq (tAsg te (gName i)) t2) κ S := fun D σ H M q =>
  h σ H M _ fun v d H1 r1 kd s => k d s D _ H1 ((M.up V_ r1).set kd) fun v2 d2 H2 r2 k2 s2 => q v2 d2 H2 (V_.trans r1 r2) k2 s2
theorem rk_set (V_ : Evo R) {i : Nat} {t2 : TS} (h : EvK R te κ a) (k : RunS R t2 (κ.set i (some a)) S) : RunS R (tSeq (tAsg te (gName i)) t2) κ S := rs_set V_ h fun d e => by
  subst e
  exact k
theorem rs_if (V_ : Evo R) {tc : TT} {t u rest : TS} {B : Bool → Prop} (h : EvT R tc κ B) (h1 : B true → RunS R (tSeq t rest) κ S) (h2 : B false → RunS R (tSeq u rest) κ S) : RunS R (tSeq (tIfS tc t u) rest) κ S := fun D σ H M q =>
  h σ H M _ fun c H1 r1 s => by
    cases c with
    | true =>
      show t { D with nx := rest D } σ H1
      exact h1 s D σ H1 (M.up V_ r1) fun v2 d2 H2 r2 k2 s2 => q v2 d2 H2 (V_.trans r1 r2) k2 s2
    | false =>
      show u { D with nx := rest D } σ H1
      exact h2 s D σ H1 (M.up V_ r1) fun v2 d2 H2 r2 k2 s2 => q v2 d2 H2 (V_.trans r1 r2) k2 s2
theorem rs_yes (V_ : Evo R) {tc : TT} {t u rest : TS} (h : EvB R tc κ true) (h1 : RunS R (tSeq t rest) κ S) : RunS R (tSeq (tIfS tc t u) rest) κ S := rs_if V_ h (fun _ => h1) fun e => nomatch e
theorem rs_no (V_ : Evo R) {tc : TT} {t rest : TS} (h : EvB R tc κ false) (h1 : RunS R rest κ S) : RunS R (tSeq (tIfS tc t tNext) rest) κ S := rs_if V_ h (fun e => nomatch e) fun _ => h1
theorem rs_next {t2 : TS} (h : RunS R t2 κ S) : RunS R (tSeq tNext t2) κ S := h
theorem rs_assoc {t1 t2 t3 : TS} (h : RunS R (tSeq t1 (tSeq t2 t3)) κ S) : RunS R (tSeq (tSeq t1 t2) t3) κ S := h
theorem RunS.mono {t : TS} {S' : AV → Prop} (h : RunS R t κ S) (m : ∀ d, S d → S' d) : RunS R t κ S' := fun D σ H M q => h D σ H M fun v d H1 r k s => q v d H1 r k (m d s)
end
theorem body_of {ok : List AV → (Hp → Hp → Prop) → (AV → Prop) → Prop} {t : TS} {N : List Str} {vs : List V} {H : Hp} {Q : VK} {E : XK} {nx : L2.St → Hp → Prop} (h : spG ok vs H Q E) (hrun : ∀ as R S, ok as R S → RunS R t (kap N as) S) : t { nx := nx, rt := Q } (L2.start N vs) H := by
  obtain ⟨as, R, S, hk, ho, q⟩ := h
  exact hrun as R S ho _ _ H (mt_start hk) q
theorem len_of {ok : List AV → (Hp → Hp → Prop) → (AV → Prop) → Prop} {n : Nat} (h : ∀ as R S, ok as R S → as.length = n) (vs : List V) (H : Hp) (Q : VK) (E : XK) (x : spG ok vs H Q E) : vs.length = n := by
  obtain ⟨as, R, S, hk, ho, _⟩ := x
  rw [hk.length]
  exact h as R S ho
/-! ### natural numbers, tuples of so many -/
theorem atI_getElem {α : Type} {xs : List α} {i : Nat} {v : α} (h : xs[i]? = some v) : atI xs (i : Int) = some v := atI_nat h
theorem at_nums {l : List Nat} {i : Nat} (h : i < l.length) : atI (nums l) (i : Int) = some (.num (l.getD i 0)) := atI_nat (nums_at h)
section
variable {R : Hp → Hp → Prop} {κ : KS} {ta tb tc te : TE} {S : AV → Prop} {K : PySem.W.Frag} {P : Program} {w : World}
theorem rk_modN (V_ : Evo R) {i j : Nat} (h : 0 < j) : RK R rMod (.k (.num (i : Int))) (.k (.num (j : Int))) (.k (.num ((i % j : Nat) : Int))) := by
  rw [Int.natCast_emod]
  exact rk_mod V_ (by omega)
theorem rk_addN (V_ : Evo R) {i j : Nat} : RK R (rAddU K) (.k (.num (i : Int))) (.k (.num (j : Int))) (.k (.num ((i + j : Nat) : Int))) := by
  rw [Int.natCast_add]
  exact rk_addI V_
theorem rk_mulN (V_ : Evo R) {i j : Nat} (h : i < 2 ^ 64) : RK R rMulU (.k (.num (i : Int))) (.k (.num (j : Int))) (.k (.num ((i * j : Nat) : Int))) := by
  rw [Int.natCast_mul]
  exact rk_mulI V_ (.inl ⟨by omega, by omega⟩)
theorem rk_shlN (V_ : Evo R) {i j : Nat} (h : i < 2 ^ 64) (hj : j ≤ 1000000) : RK R rShl (.k (.num (i : Int))) (.k (.num (j : Int))) (.k (.num ((i * 2 ^ j : Nat) : Int))) := by
  have e : ((i * 2 ^ j : Nat) : Int) = (i : Int) * 2 ^ (j : Int).toNat := by
    rw [Int.natCast_mul, Int.natCast_pow, Int.toNat_natCast]
    rfl
  rw [e]
  exact rk_shl V_ ⟨by omega, by omega, by omega⟩
theorem rk_shl1 (V_ : Evo R) {j : Nat} (hj : j ≤ 1000000) : RK R rShl (.k (.num 1)) (.k (.num (j : Int))) (.k (.num ((2 ^ j : Nat) : Int))) := by
  have h := rk_shlN V_ (i := 1) (j := j) (by decide) hj
  rw [Nat.one_mul] at h
  exact h
theorem rk_mul2 (V_ : Evo R) {j : Nat} : RK R rMulU (.k (.num 2)) (.k (.num (j : Int))) (.k (.num ((2 * j : Nat) : Int))) := rk_mulN V_ (i := 2) (by decide)
theorem rk_addr1 (V_ : Evo R) {j : Nat} : RK R (rAddU K) (.k (.num (j : Int))) (.k (.num 1)) (.k (.num ((j + 1 : Nat) : Int))) := rk_addN V_ (j := 1)
theorem rk_add1l (V_ : Evo R) {j : Nat} : RK R (rAddU K) (.k (.num 1)) (.k (.num (j : Int))) (.k (.num ((1 + j : Nat) : Int))) := rk_addN V_ (i := 1)
/-- s in (a, b), texts -/
theorem rk_inS2 (V_ : Evo R) {s a b : Str} {c : Bool} (h : (a == s || b == s) = c) : RK R (rInU P w K false) (.k (.text s)) (.k (.tup [.text a, .text b])) (.v (.bl c)) := fun H vx vy kx ky Q q => by
  obtain ⟨p, vs, rfl, h1, h2⟩ := kat_tup ky
  rw [kat_text kx]
  cases h2 with
  | cons g1 g2 =>
    cases g2 with
    | cons g3 g4 =>
      cases g4
      cases g1
      cases g3
      refine .inl ⟨p, _, rfl, .inr (SqT.of h1), rfl, rfl, ?_⟩
      have e : inV (.str s) [V.str a, V.str b] = c := by
        rw [← h]
        show ((a == s) || ((b == s) || false)) = _
        rw [Bool.or_false]
      show Q (.bl (inV (.str s) [V.str a, V.str b])) H
      rw [e]
      exact rk_fin V_ q AAt.val
theorem ek_tup1 (V_ : Evo R) {x : NestedKey} (h1 : EvK R ta κ (.k x)) : EvK R (tTup (tCons ta tNil)) κ (.k (.tup [x])) :=
  ek_tup V_ (ds := [x]) (el_cons V_ h1 (el_nil V_)) (by show 1 ≤ 1000; decide)
theorem ek_tup2 (V_ : Evo R) {x y : NestedKey} (h1 : EvK R ta κ (.k x)) (h2 : EvK R tb κ (.k y)) : EvK R (tTup (tCons ta (tCons tb tNil))) κ (.k (.tup [x, y])) :=
  ek_tup V_ (ds := [x, y]) (el_cons V_ h1 (el_cons V_ h2 (el_nil V_))) (by show 2 ≤ 1000; decide)
theorem ek_tup3 (V_ : Evo R) {x y z : NestedKey} (h1 : EvK R ta κ (.k x)) (h2 : EvK R tb κ (.k y)) (h3 : EvK R tc κ (.k z)) : EvK R (tTup (tCons ta (tCons tb (tCons tc tNil)))) κ (.k (.tup [x, y, z])) :=
  ek_tup V_ (ds := [x, y, z]) (el_cons V_ h1 (el_cons V_ h2 (el_cons V_ h3 (el_nil V_)))) (by show 3 ≤ 1000; decide)
theorem EvK.to {x y : AV} (h : EvK R te κ x) (e : x = y) : EvK R te κ y := by
  subst e
  exact h
theorem RunS.to {t : L2.TS} {x y : AV} (h : RunK R t κ x) (e : x = y) : RunK R t κ y := by
  subst e
  exact h
end
/-! ### slices by natural numbers -/
theorem cutK_take (ks : List NestedKey) (i : Nat) (h : i ≤ ks.length) : cutK ks none (some (i : Int)) = ks.take i := by
  unfold cutK
  have e1 : HT.sIx ks.length 0 none = 0 := rfl
  have e2 : HT.sIx ks.length ks.length (some (i : Int)) = i := by
    rw [HT.sIx_nat]
    exact Nat.min_eq_left h
  rw [e1, e2]
  simp
theorem cutK_drop (ks : List NestedKey) (i : Nat) (h : i ≤ ks.length) : cutK ks (some (i : Int)) none = ks.drop i := by
  unfold cutK
  have e1 : HT.sIx ks.length ks.length none = ks.length := rfl
  have e2 : HT.sIx ks.length 0 (some (i : Int)) = i := by
    rw [HT.sIx_nat]
    exact Nat.min_eq_left h
  rw [e1, e2]
  rw [List.take_of_length_le (by rw [List.length_drop]; omega)]

/-! ### lists -/
section
variable {R : Hp → Hp → Prop} {κ : KS} {ta tb tc te : TE} {S : AV → Prop} {K : PySem.W.Frag} {P : Program} {w : World}
theorem rk_ixLk (V_ : Evo R) {a : Addr} {ds : List NestedKey} {i : Int} {d : NestedKey} (h : atI ds i = some d) : RK R (rIxU P w K) (.lk a ds) (.k (.num i)) (.k d) := fun H vx vy kx ky Q q => by
  obtain ⟨e, vs, h1, h2, _⟩ := kx
  subst e
  rw [kat_num ky]
  obtain ⟨j, e1, e2⟩ := atI_len h2.length h
  obtain ⟨v, h3, h4⟩ := h2.get e2
  refine .inl ⟨a, vs, i, v, rfl, rfl, SqL.of h1, ?_, rk_fin V_ q (AAt.of h4)⟩
  unfold atI
  rw [h2.length, e1]
  exact h3
theorem rk_ixLb (V_ : Evo R) {a : Addr} {bs : List Bool} {i : Int} {b : Bool} (h : atI bs i = some b) : RK R (rIxU P w K) (.lb a bs) (.k (.num i)) (.v (.bl b)) := fun H vx vy kx ky Q q => by
  obtain ⟨e, h1, _⟩ := kx
  subst e
  rw [kat_num ky]
  obtain ⟨j, e1, e2⟩ := atI_len (ys := bs.map V.bl) (List.length_map ..) h
  refine .inl ⟨a, bs.map V.bl, i, .bl b, rfl, rfl, SqL.of h1, ?_, rk_fin V_ q AAt.val⟩
  unfold atI
  rw [List.length_map, e1]
  show (bs.map V.bl)[j]? = _
  rw [List.getElem?_map, e2]
  rfl
/-- [a, b, ..] of data, a tuple among them -/
theorem es_lst (V_ : Evo R) {tA : TA} {ds : List NestedKey} (h : EvL R tA κ (ds.map AV.k)) (hl : ds.length ≤ 1000) (ht : ∃ ks, NestedKey.tup ks ∈ ds) : EvS R (tLst tA) κ (fun d => ∃ a, d = .lk a ds) := fun σ H M Q q =>
  h σ H M _ fun vs as H1 r1 ks e => by
    subst e
    have hk := ks.kats
    refine ⟨Nat.le_of_lt (small1000 (by rw [ks.length, List.length_map]; exact hl)), fun p hp => ?_⟩
    refine q _ (.lk p ds) _ (V_.trans r1 (V_.ex (same_new hp))) ⟨rfl, vs, upd_same, hk.up (Ts.new hp), ?_⟩ ⟨p, rfl⟩
    obtain ⟨ls, hm⟩ := ht
    obtain ⟨i, hi, e⟩ := List.getElem_of_mem hm
    obtain ⟨v, hv, kv⟩ := hk.get (show ds[i]? = some (.tup ls) by rw [List.getElem?_eq_getElem hi, e])
    refine ⟨v, List.mem_of_getElem? hv, fun n z => ?_⟩
    subst z
    cases kv
/-- a list made on the way and read at once -/
theorem es_ixLst (V_ : Evo R) {tA : TA} {ds : List NestedKey} {Sb : AV → Prop} (hk : ∀ a, Sb a → ∃ i d, a = .k (.num i) ∧ atI ds i = some d ∧ S (.k d)) (hK : ∀ σ H, Mt κ σ H → ∀ D, H D = none → ∀ H1 H2 o, R H1 H2 → H1 D = some o → H2 D = some o)
    (h : EvL R tA κ (ds.map AV.k)) (hl : ds.length ≤ 1000) (hb : EvS R tb κ Sb) : EvS R (tOp (rIxU P w K) (tLst tA) tb) κ S := fun σ H M Q q =>
  h σ H M _ fun vs as H1 r1 ks e => by
    subst e
    have hk' := ks.kats
    refine ⟨Nat.le_of_lt (small1000 (by rw [ks.length, List.length_map]; exact hl)), fun p hp => ?_⟩
    have r2 := V_.ex (same_new (o := .lst vs) hp)
    have M1 := (M.up V_ r1)
    refine hb σ _ (M1.up V_ r2) _ fun vy a H2 r3 ky sb => ?_
    obtain ⟨i, d, rfl, e2, s⟩ := hk a sb
    have hp2 := hK σ H1 M1 p hp _ _ _ r3 upd_same
    rw [kat_num ky]
    obtain ⟨j, e3, e4⟩ := atI_len hk'.length e2
    obtain ⟨v, h3, h4⟩ := hk'.get e4
    refine .inl ⟨p, vs, i, v, rfl, rfl, SqL.of hp2, ?_, q v (.k d) _ (V_.trans r1 (V_.trans r2 r3)) (AAt.of ((h4.up (Ts.new hp)).up (V_.ts r3))) s⟩
    unfold atI
    rw [hk'.length, e3]
    exact h3
end

/-! ### comprehensions -/
def flatA : AV → Prop
  | .k _ => True
  | .v _ => True
  | _ => False
theorem AAt.ups {H H' : Hp} {a : AV} {v : V} (h : AAt H a v) (f : flatA a) (t : Ts H H') : AAt H' a v := by
  cases a with
  | k d => exact KAt.up h t
  | v x => exact h
  | dr a => exact f.elim
  | lk a ds => exact f.elim
  | lb a bs => exact f.elim
theorem AAts.ups {H H' : Hp} {as : List AV} {vs : List V} (h : AAts H as vs) (f : ∀ a ∈ as, flatA a) (t : Ts H H') : AAts H' as vs := by
  induction h with
  | nil => exact .nil
  | cons h1 _ ih => exact .cons (h1.ups (f _ List.mem_cons_self) t) (ih fun a ha => f a (List.mem_cons_of_mem _ ha))
theorem AAts.snoc {H : Hp} {as : List AV} {vs : List V} {a : AV} {v : V} (h : AAts H as vs) (g : AAt H a v) : AAts H (as ++ [a]) (vs ++ [v]) := by
  induction h with
  | nil => exact .cons g .nil
  | cons h1 _ ih => exact .cons h1 ih
/-- R leaves what is new at D -/
def Keeps (R : Hp → Hp → Prop) (D : Addr) : Prop := ∀ H1 H2 o, R H1 H2 → H1 D = some o → H2 D = some o
theorem keeps_same (D : Addr) : Keeps Same D := fun _ _ _ e h => e _ _ h
theorem keeps_dr {a D : Addr} (h : D ≠ a) : Keeps (Dr a) D := fun _ _ o e q => e.but _ _ h q
theorem Mt.wipe1 {κ : KS} {σ : L2.St} {H : Hp} {j : Nat} (m : Mt κ σ H) : Mt (κ.set j none) (wipe σ [j]) H := by
  refine ⟨by rw [wipe_length, List.length_set]; exact m.len, fun i a e => ?_⟩
  by_cases hj : j = i
  · subst hj
    by_cases hi : j < κ.length
    · rw [List.getElem?_set_self hi] at e
      cases e
    · rw [List.getElem?_eq_none (by rw [List.length_set]; omega)] at e
      cases e
  · rw [List.getElem?_set_ne hj] at e
    obtain ⟨v, e1, e2⟩ := m.at_ i a e
    refine ⟨v, ?_, e2⟩
    show (σ.set j none)[i]? = _
    rw [List.getElem?_set_ne hj]
    exact e1
theorem wipe_set1 (σ : L2.St) (j : Nat) (o : Option V) : wipe ((wipe σ [j]).set j o) [j] = wipe σ [j] := by
  show ((σ.set j none).set j o).set j none = σ.set j none
  rw [List.set_set, List.set_set]
section
variable {R : Hp → Hp → Prop} {κ : KS} {te : TE} {K : PySem.W.Frag}
/-- what the loop of a comprehension keeps -/
def LcP (R : Hp → Hp → Prop) (H : Hp) (D : Addr) (S : Nat → AV → Prop) (i : Nat) (H' : Hp) : Prop := R H H' ∧ ∃ vs as, H' D = some (.lst vs) ∧ AAts H' as vs ∧ as.length = i ∧ ∀ (n : Nat) (a : AV), as[n]? = some a → S n a
theorem lcP_step (V_ : Evo R) {H H' H4 : Hp} {D : Addr} {S : Nat → AV → Prop} {i : Nat} {y : V} {a : AV} (hD : H D = none) (hk : Keeps R D) (fl : ∀ n a, S n a → flatA a) (hi : i < 100000) (p : LcP R H D S i H') (r : R H' H4) (k : AAt H4 a y) (s : S i a) :
    ∃ acc, H4 D = some (.lst acc) ∧ acc.length < sizeLine ∧ LcP R H D S (i + 1) (upd H4 D (.lst (acc ++ [y]))) := by
  obtain ⟨r0, vs, as, h1, h2, h3, h4⟩ := p
  have h5 := hk _ _ _ r h1
  have fs : ∀ b ∈ as, flatA b := fun b hb => by
    obtain ⟨n, hn, e⟩ := List.getElem_of_mem hb
    exact fl n b (h4 n b (by rw [List.getElem?_eq_getElem hn, e]))
  have t : Ts H4 (upd H4 D (.lst (vs ++ [y]))) := Ts.upd h5 fun _ z => nomatch z
  refine ⟨vs, h5, Nat.lt_of_le_of_lt (Nat.le_of_eq h2.length) (by rw [h3]; exact Nat.lt_of_lt_of_le hi (by decide)), V_.fr (V_.trans r0 r) hD, vs ++ [y], as ++ [a], upd_same, ((h2.up V_ r).ups fs t).snoc (k.ups (fl i a s) t), by rw [List.length_append, h3]; rfl, fun n b e => ?_⟩
  by_cases hn : n < as.length
  · rw [List.getElem?_append_left hn] at e
    exact h4 n b e
  · rw [List.getElem?_append_right (by omega)] at e
    have hn0 : n - as.length = 0 := by
      have := (List.getElem?_eq_some_iff.mp e).1
      rw [List.length_singleton] at this
      omega
    rw [hn0] at e
    have e' : a = b := Option.some.inj e
    have e2 : n = i := by omega
    rw [e2, ← e']
    exact s
/-- [e for x in range(n)] -/
theorem lc_rangeS (V_ : Evo R) {n j : Nat} {S : Nat → AV → Prop} {σ : L2.St} {H : Hp} (M : Mt κ σ H) (hj : j < κ.length) (hn : n < 100000) (fl : ∀ n a, S n a → flatA a) (hk : ∀ D, H D = none → Keeps R D) (he : ∀ i, i < n → EvS R te (κ.set j (some (.k (.num (i : Int))))) (S i))
    {Q : VK} (q : ∀ D vs as H', R H H' → H D = none → H' D = some (.lst vs) → AAts H' as vs → as.length = n → (∀ (i : Nat) (a : AV), as[i]? = some a → S i a) → Q (.ref D) H') :
    ∀ D, H D = none → ∃ W : Nat → Nat → Hp → Prop, (∃ m, W 0 m (upd H D (.lst []))) ∧ ∀ i m H, W i m H →
      ((Itr 0 n).stop i H ∧ Q (.ref D) H) ∨ ((Itr 0 n).go i H ∧ ∃ Nx : Hp → Prop, (∀ H', Nx H' → ∃ m', m' < m ∧ W (i + 1) m' H') ∧ ∀ x H', (Itr 0 n).yld i H x H' → gName j x (wipe σ [j]) H' fun σ2 H2 => wipe σ2 [j] = wipe σ [j] ∧ tYes σ2 H2 fun b H3 =>
        if b = true then te σ2 H3 fun y H4 => ∃ acc, H4 D = some (.lst acc) ∧ acc.length < sizeLine ∧ Nx (upd H4 D (.lst (acc ++ [y]))) else Nx H3) := by
  intro D hD
  refine lc_range (LcP R H D S) ⟨V_.fr (V_.refl H) hD, [], [], upd_same, .nil, rfl, fun n a e => by simp at e⟩ (fun i H' hi p => ⟨wipe_set1 σ j _, ?_⟩) fun H' p => ?_
  · show te _ _ _
    have M' : Mt (κ.set j (some (.k (.num (i : Int))))) ((wipe σ [j]).set j (some (.int (0 + (i : Int))))) H' := by
      have m1 := (M.up V_ p.1).wipe1 (j := j)
      have m2 := m1.set (i := j) (a := .k (.num (i : Int))) (v := .int (0 + (i : Int))) (by rw [Int.zero_add]; exact AAt.of (KAt.num _))
      rw [List.set_set] at m2
      exact m2
    exact he i hi _ _ M' _ fun y a H4 r k s => lcP_step V_ hD (hk D hD) fl (by omega) p r k s
  · obtain ⟨r0, vs, as, h1, h2, h3, h4⟩ := p
    exact q D vs as H' r0 hD h1 h2 h3 h4
/-- [e for x in t], t a tuple of numbers that stands -/
theorem lc_tupS (V_ : Evo R) {b : Addr} {ks : List NestedKey} {ws : List V} {j : Nat} {S : Nat → AV → Prop} {σ : L2.St} {H : Hp} (M : Mt κ σ H) (hj : j < κ.length) (hb : H b = some (.tup ws)) (hw : KAts H ks ws) (hn : ks.length < 100000) (fl : ∀ n a, S n a → flatA a) (hk : ∀ D, H D = none → Keeps R D)
    (he : ∀ (i : Nat) (k : NestedKey), ks[i]? = some k → EvS R te (κ.set j (some (.k k))) (S i))
    {Q : VK} (q : ∀ D vs as H', R H H' → H D = none → H' D = some (.lst vs) → AAts H' as vs → as.length = ks.length → (∀ (i : Nat) (a : AV), as[i]? = some a → S i a) → Q (.ref D) H') :
    ∀ D, H D = none → ∃ W : Nat → Nat → Hp → Prop, (∃ m, W 0 m (upd H D (.lst []))) ∧ ∀ i m H, W i m H →
      ((Itt K b).stop i H ∧ Q (.ref D) H) ∨ ((Itt K b).go i H ∧ ∃ Nx : Hp → Prop, (∀ H', Nx H' → ∃ m', m' < m ∧ W (i + 1) m' H') ∧ ∀ x H', (Itt K b).yld i H x H' → gName j x (wipe σ [j]) H' fun σ2 H2 => wipe σ2 [j] = wipe σ [j] ∧ tYes σ2 H2 fun b H3 =>
        if b = true then te σ2 H3 fun y H4 => ∃ acc, H4 D = some (.lst acc) ∧ acc.length < sizeLine ∧ Nx (upd H4 D (.lst (acc ++ [y]))) else Nx H3) := by
  intro D hD
  refine lc_tup (K := K) (a := b) (xs := ws) (LcP R H D S) ⟨V_.fr (V_.refl H) hD, [], [], upd_same, .nil, rfl, fun n a e => by simp at e⟩ (fun i H' _ p => SqT.of (V_.ts p.1 _ _ hb)) (fun i x H' hi p => ⟨wipe_set1 σ j _, ?_⟩) fun H' p => ?_
  · show te _ _ _
    obtain ⟨k, hk1, hk2⟩ := hw.getV hi
    have M' : Mt (κ.set j (some (.k k))) ((wipe σ [j]).set j (some x)) H' := by
      have m1 := (M.up V_ p.1).wipe1 (j := j)
      have m2 := m1.set (i := j) (a := .k k) (v := x) (AAt.of (hk2.up (V_.ts p.1)))
      rw [List.set_set] at m2
      exact m2
    have hlt := (List.getElem?_eq_some_iff.mp hk1).1
    exact he i k hk1 _ _ M' _ fun y a H4 r k s => lcP_step V_ hD (hk D hD) fl (by omega) p r k s
  · obtain ⟨r0, vs, as, h1, h2, h3, h4⟩ := p
    exact q D vs as H' r0 hD h1 h2 (by rw [h3, hw.length]) h4
/-- the same as expressions; res: what is known of the list -/
theorem es_lcTup (V_ : Evo R) {tl : TE} {ks : List NestedKey} {j : Nat} {S : Nat → AV → Prop} {S' : AV → Prop} (ht : EvK R tl κ (.k (.tup ks))) (hj : j < κ.length) (hn : ks.length < 100000) (fl : ∀ n a, S n a → flatA a) (hk : ∀ σ H, Mt κ σ H → ∀ D, H D = none → Keeps R D)
    (he : ∀ (i : Nat) (k : NestedKey), ks[i]? = some k → EvS R te (κ.set j (some (.k k))) (S i))
    (res : ∀ D as vs H', as.length = ks.length → (∀ (i : Nat) (a : AV), as[i]? = some a → S i a) → H' D = some (.lst vs) → AAts H' as vs → ∃ a, AAt H' a (.ref D) ∧ S' a) :
    EvS R (tLc (iTup K tl) (gName j) tYes te [j]) κ S' := fun σ H M Q q => ht σ H M _ fun v d H1 r1 k s => by
  subst s
  obtain ⟨b, ws, rfl, h1, h2⟩ := kat_tup k
  refine ⟨b, rfl, ⟨ws, SqT.of h1⟩, ?_⟩
  refine lc_tupS V_ (M.up V_ r1) hj h1 h2 hn fl (hk σ H1 (M.up V_ r1)) he fun D vs as H' r2 _ h3 h4 h5 h6 => ?_
  obtain ⟨a, ka, sa⟩ := res D as vs H' h5 h6 h3 h4
  exact q _ a H' (V_.trans r1 r2) ka sa
theorem es_lcRange1 (V_ : Evo R) {ta : TE} {n j : Nat} {S : Nat → AV → Prop} {S' : AV → Prop} (ht : EvK R ta κ (.k (.num (n : Int)))) (hj : j < κ.length) (hn : n < 100000) (fl : ∀ n a, S n a → flatA a) (hk : ∀ σ H, Mt κ σ H → ∀ D, H D = none → Keeps R D)
    (he : ∀ i, i < n → EvS R te (κ.set j (some (.k (.num (i : Int))))) (S i))
    (res : ∀ D as vs H', as.length = n → (∀ (i : Nat) (a : AV), as[i]? = some a → S i a) → H' D = some (.lst vs) → AAts H' as vs → ∃ a, AAt H' a (.ref D) ∧ S' a) :
    EvS R (tLc (iRng1 (tCons ta tNil)) (gName j) tYes te [j]) κ S' := fun σ H M Q q => ht σ H M _ fun v d H1 r1 k s => by
  subst s
  rw [kat_num k]
  refine ⟨n, rfl, by omega, by omega, ?_⟩
  rw [Int.toNat_natCast]
  refine lc_rangeS V_ (M.up V_ r1) hj hn fl (hk σ H1 (M.up V_ r1)) he fun D vs as H' r2 _ h3 h4 h5 h6 => ?_
  obtain ⟨a, ka, sa⟩ := res D as vs H' h5 h6 h3 h4
  exact q _ a H' (V_.trans r1 r2) ka sa
/-- tuple([..]) -/
theorem es_tupRange1 (V_ : Evo R) {ta : TE} {n j : Nat} {S : Nat → NestedKey → Prop} {S' : AV → Prop} (ht : EvK R ta κ (.k (.num (n : Int)))) (hj : j < κ.length) (hn : n < 100000) (hk : ∀ σ H, Mt κ σ H → ∀ D, H D = none → Keeps R D)
    (he : ∀ i, i < n → EvS R te (κ.set j (some (.k (.num (i : Int))))) (fun a => ∃ d, a = .k d ∧ S i d))
    (res : ∀ ds : List NestedKey, ds.length = n → (∀ (i : Nat) (d : NestedKey), ds[i]? = some d → S i d) → S' (.k (.tup ds))) :
    EvS R (tCB (rTup K) (tCons (tLc (iRng1 (tCons ta tNil)) (gName j) tYes te [j]) tNil)) κ S' := fun σ H M Q q => ht σ H M _ fun v d H1 r1 k s => by
  subst s
  rw [kat_num k]
  refine ⟨n, rfl, by omega, by omega, ?_⟩
  rw [Int.toNat_natCast]
  refine lc_rangeS V_ (Q := fun v H' => rTup K [v] H' Q) (S := fun i a => ∃ d, a = .k d ∧ S i d) (M.up V_ r1) hj hn (fun n a ⟨d, e, _⟩ => by subst e; trivial) (hk σ H1 (M.up V_ r1)) he fun D vs as H' r2 _ h3 h4 h5 h6 => ?_
  show rTup K [.ref D] H' Q
  refine ⟨D, vs, rfl, .inl ⟨SqL.of h3, fun l hl => ?_⟩⟩
  have key : ∃ ds : List NestedKey, as = ds.map AV.k ∧ ∀ (i : Nat) (d : NestedKey), ds[i]? = some d → S i d := by
    clear h4 h3 h5
    have gen : ∀ (as : List AV) (o : Nat), (∀ (i : Nat) (a : AV), as[i]? = some a → ∃ d, a = .k d ∧ S (o + i) d) → ∃ ds : List NestedKey, as = ds.map AV.k ∧ ∀ (i : Nat) (d : NestedKey), ds[i]? = some d → S (o + i) d := by
      intro as
      induction as with
      | nil => exact fun _ _ => ⟨[], rfl, fun i d e => by simp at e⟩
      | cons a as ih =>
        intro o h
        obtain ⟨d, e, s⟩ := h 0 a rfl
        obtain ⟨ds, e2, s2⟩ := ih (o + 1) fun i b hb => by
          have := h (i + 1) b (by simpa using hb)
          rw [show o + 1 + i = o + (i + 1) by omega]
          exact this
        refine ⟨d :: ds, by rw [e, e2]; rfl, fun i x hx => ?_⟩
        cases i with
        | zero =>
          have e3 : d = x := by simpa using hx
          rw [← e3]
          exact s
        | succ i =>
          have := s2 i x (by simpa using hx)
          rw [show o + (i + 1) = o + 1 + i by omega]
          exact this
    obtain ⟨ds, e, s⟩ := gen as 0 fun i a e => by
      obtain ⟨d, e1, s⟩ := h6 i a e
      exact ⟨d, e1, by rw [Nat.zero_add]; exact s⟩
    exact ⟨ds, e, fun i d hd => by have := s i d hd; rw [Nat.zero_add] at this; exact this⟩
  obtain ⟨ds, rfl, hs⟩ := key
  rw [List.length_map] at h5
  exact q _ (.k (.tup ds)) _ (V_.trans r1 (V_.trans r2 (V_.ex (same_new hl)))) (AAt.of (KAt.tup upd_same (h4.kats.up (Ts.new hl)))) (res ds h5 hs)
end

/-! ### slots written out -/
theorem mt_nil {H : Hp} : Mt [] [] H := ⟨rfl, fun i a e => by simp at e⟩
theorem mt_some {κ : KS} {σ : L2.St} {H : Hp} {a : AV} {v : V} (k : AAt H a v) (m : Mt κ σ H) : Mt (some a :: κ) (some v :: σ) H := by
  refine ⟨by rw [List.length_cons, List.length_cons, m.len], fun i b e => ?_⟩
  cases i with
  | zero =>
    have e' : a = b := Option.some.inj (Option.some.inj e)
    subst e'
    exact ⟨v, rfl, k⟩
  | succ i =>
    obtain ⟨u, h1, h2⟩ := m.at_ i b (by simpa using e)
    exact ⟨u, by simpa using h1, h2⟩
theorem mt_none {κ : KS} {σ : L2.St} {H : Hp} {o : Option V} (m : Mt κ σ H) : Mt (none :: κ) (o :: σ) H := by
  refine ⟨by rw [List.length_cons, List.length_cons, m.len], fun i b e => ?_⟩
  cases i with
  | zero => cases (Option.some.inj e)
  | succ i =>
    obtain ⟨u, h1, h2⟩ := m.at_ i b (by simpa using e)
    exact ⟨u, by simpa using h1, h2⟩
theorem kats_nil {H : Hp} {vs : List V} (h : KAts H [] vs) : vs = [] := by
  cases h
  rfl
theorem le_line {n : Nat} (h : n ≤ 100000) : n ≤ sizeLine := Nat.le_trans h (by decide)
theorem lt_line {n : Nat} (h : n < 100000) : n < sizeLine := Nat.lt_of_lt_of_le h (by decide)
theorem same_of_upd {H H' : Hp} {D : Addr} {o : HO} (e : Same H H') (h : H D = none) : Same H (upd H' D o) := same_upd e h
/-! a, b = .. -/
section
variable {R : Hp → Hp → Prop} {κ : KS} {te : TE} {S : AV → Prop} {K : PySem.W.Frag}
theorem rs_two (V_ : Evo R) {i j : Nat} {t2 : L2.TS} {x y : NestedKey} (h : EvK R te κ (.k (.tup [x, y]))) (k : RunS R t2 ((κ.set i (some (.k x))).set j (some (.k y))) S) :
    RunS R (tSeq (tAsg te (gTup K 2 (gCons (gName i) (gCons (gName j) gNil)))) t2) κ S := fun D σ H M q => h σ H M _ fun v d H1 r1 kd s => by
  subst s
  obtain ⟨a, vs, rfl, h1, h2⟩ := kat_tup kd
  cases h2 with
  | cons g1 g2 =>
    cases g2 with
    | cons g3 g4 =>
      cases g4
      refine ⟨a, _, rfl, SqT.of h1, rfl, _, _, rfl, _, _, rfl, rfl, ?_⟩
      exact k D _ H1 (((M.up V_ r1).set (AAt.of g1)).set (AAt.of g3)) fun v2 d2 H2 r2 k2 s2 => q v2 d2 H2 (V_.trans r1 r2) k2 s2
end
end K49
set_option Elab.async false
set_option linter.all false
set_option maxRecDepth 100000
set_option maxHeartbeats 1000000
set_option autoImplicit false
/-! Blocks that go on: what is known of the slots behind them. -/
namespace K49
open PySem PySem.Spec PyProof.Rows L2
/-- less is known -/
inductive KSub : KS → KS → Prop
  | nil : KSub [] []
  | keep {o : Option AV} {κ κ' : KS} : KSub κ κ' → KSub (o :: κ) (o :: κ')
  | drop {o : Option AV} {κ κ' : KS} : KSub κ κ' → KSub (o :: κ) (none :: κ')
theorem Mt.sub {κ κ' : KS} (h : KSub κ κ') : ∀ {σ : L2.St} {H : Hp}, Mt κ σ H → Mt κ' σ H := by
  induction h with
  | nil => exact fun m => m
  | @keep o κ κ' _ ih =>
    intro σ H m
    cases σ with
    | nil => exact absurd m.len (by simp)
    | cons v σ =>
      have m' : Mt κ σ H := ⟨by have := m.len; simpa using this, fun i a e => by
        obtain ⟨u, h1, h2⟩ := m.at_ (i + 1) a (by simpa using e)
        exact ⟨u, by simpa using h1, h2⟩⟩
      have m2 := ih m'
      cases o with
      | none => exact mt_none m2
      | some a =>
        obtain ⟨u, h1, h2⟩ := m.at_ 0 a rfl
        have e : v = some u := by simpa using h1
        rw [e]
        exact mt_some h2 m2
  | @drop o κ κ' _ ih =>
    intro σ H m
    cases σ with
    | nil => exact absurd m.len (by simp)
    | cons v σ =>
      have m' : Mt κ σ H := ⟨by have := m.len; simpa using this, fun i a e => by
        obtain ⟨u, h1, h2⟩ := m.at_ (i + 1) a (by simpa using e)
        exact ⟨u, by simpa using h1, h2⟩⟩
      exact mt_none (ih m')
def RunC (R : Hp → Hp → Prop) (t : TS) (κ : KS) (C : KS → Prop) : Prop := ∀ D σ H, Mt κ σ H → (∀ σ' H' κ', R H H' → C κ' → Mt κ' σ' H' → D.nx σ' H') → t D σ H
section
variable {R : Hp → Hp → Prop} {κ : KS} {t u : TS} {te ta : TE} {C C1 : KS → Prop} {S : AV → Prop} {K : PySem.W.Frag} {a : AV}
theorem RunC.mono (h : RunC R t κ C) (m : ∀ κ', C κ' → ∃ κ'', C1 κ'' ∧ KSub κ' κ'') : RunC R t κ C1 := fun D σ H M q => h D σ H M fun σ' H' κ' r c M' =>
  let ⟨κ'', c', s⟩ := m κ' c
  q σ' H' κ'' r c' (M'.sub s)
theorem RunC.sub {κ0 : KS} (h : RunC R t κ C) (s : KSub κ0 κ) : RunC R t κ0 C := fun D σ H M q => h D σ H (M.sub s) q
theorem RunS.sub {κ0 : KS} (h : RunS R t κ S) (s : KSub κ0 κ) : RunS R t κ0 S := fun D σ H M q => h D σ H (M.sub s) q
theorem rs_seqC (V_ : Evo R) (h : RunC R t κ C) (k : ∀ κ', C κ' → RunS R u κ' S) : RunS R (tSeq t u) κ S := fun D σ H M q => by
  refine h { D with nx := u D } σ H M fun σ' H' κ' r c M' => ?_
  exact k κ' c D σ' H' M' fun v d H2 r2 kd s => q v d H2 (V_.trans r r2) kd s
theorem rc_seq (V_ : Evo R) (h : RunC R t κ C1) (k : ∀ κ', C1 κ' → RunC R u κ' C) : RunC R (tSeq t u) κ C := fun D σ H M q => by
  refine h { D with nx := u D } σ H M fun σ' H' κ' r c M' => ?_
  exact k κ' c D σ' H' M' fun σ2 H2 κ2 r2 c2 M2 => q σ2 H2 κ2 (V_.trans r r2) c2 M2
theorem rc_next (V_ : Evo R) (h : C κ) : RunC R tNext κ C := fun D σ H M q => q σ H κ (V_.refl H) h M
theorem rc_set (V_ : Evo R) {i : Nat} {S0 : AV → Prop} (h : EvS R te κ S0) (k : ∀ d, S0 d → C (κ.set i (some d))) : RunC R (tAsg te (gName i)) κ C := fun D σ H M q =>
  h σ H M _ fun v d H1 r1 kd s => q _ H1 _ r1 (k d s) ((M.up V_ r1).set kd)
theorem rc_setK (V_ : Evo R) {i : Nat} (h : EvK R te κ a) (k : C (κ.set i (some a))) : RunC R (tAsg te (gName i)) κ C := rc_set V_ h fun d e => by
  subst e
  exact k
theorem rc_drop (V_ : Evo R) {S0 : AV → Prop} (h : EvS R te κ S0) (k : C κ) : RunC R (tDrop te) κ C := fun D σ H M q => h σ H M _ fun v d H1 r1 kd s => q σ H1 κ r1 k (M.up V_ r1)
theorem rc_two (V_ : Evo R) {i j : Nat} {x y : NestedKey} (h : EvK R te κ (.k (.tup [x, y]))) (k : C ((κ.set i (some (.k x))).set j (some (.k y)))) : RunC R (tAsg te (gTup K 2 (gCons (gName i) (gCons (gName j) gNil)))) κ C := fun D σ H M q => h σ H M _ fun v d H1 r1 kd s => by
  subst s
  obtain ⟨a, vs, rfl, h1, h2⟩ := kat_tup kd
  cases h2 with
  | cons g1 g2 =>
    cases g2 with
    | cons g3 g4 =>
      cases g4
      refine ⟨a, _, rfl, SqT.of h1, rfl, _, _, rfl, _, _, rfl, rfl, ?_⟩
      exact q _ H1 _ r1 k (((M.up V_ r1).set (AAt.of g1)).set (AAt.of g3))
theorem rc_aug (V_ : Evo R) {i : Nat} {x y : Int} (hx : κ[i]? = some (some (.k (.num x)))) (h : EvK R te κ (.k (.num y))) (k : C (κ.set i (some (.k (.num (x + y)))))) : RunC R (tAug i te (ipI fun i j => i + j)) κ C := fun D σ H M q => by
  obtain ⟨v, e, kv⟩ := M.at_ i _ hx
  refine ⟨v, e, h σ H M _ fun vy d H1 r1 kd s => ?_⟩
  subst s
  rw [kat_num kv, kat_num kd]
  exact ⟨x, y, rfl, rfl, q _ H1 _ r1 k ((M.up V_ r1).set (AAt.of (KAt.num _)))⟩
theorem rc_if (V_ : Evo R) {tc : TT} {B : Bool → Prop} (h : EvT R tc κ B) (h1 : B true → RunC R t κ C) (h2 : B false → RunC R u κ C) : RunC R (tIfS tc t u) κ C := fun D σ H M q => h σ H M _ fun c H1 r1 s => by
  cases c with
  | true => exact h1 s D σ H1 (M.up V_ r1) fun σ2 H2 κ2 r2 c2 M2 => q σ2 H2 κ2 (V_.trans r1 r2) c2 M2
  | false => exact h2 s D σ H1 (M.up V_ r1) fun σ2 H2 κ2 r2 c2 M2 => q σ2 H2 κ2 (V_.trans r1 r2) c2 M2
/-- for x in t, t a tuple -/
theorem rc_forTup (V_ : Evo R) {ks : List NestedKey} {j : Nat} (ht : EvK R te κ (.k (.tup ks))) (C : Nat → KS → Prop) (h0 : C 0 κ) (step : ∀ i k, ks[i]? = some k → ∀ κi, C i κi → RunC R t (κi.set j (some (.k k))) (C (i + 1))) : RunC R (tFor (iTup K te) (gName j) t) κ (C ks.length) := fun D σ H M q =>
  ht σ H M _ fun v d H1 r1 kd s => by
    subst s
    obtain ⟨b, ws, rfl, h1, h2⟩ := kat_tup kd
    have len := h2.length
    refine ⟨b, rfl, ⟨ws, SqT.of h1⟩, for_tup (K := K) (a := b) (xs := ws) (fun i σ' H' => R H1 H' ∧ ∃ κi, C i κi ∧ Mt κi σ' H') ⟨V_.refl H1, κ, h0, M.up V_ r1⟩ (fun i σ' H' _ p => SqT.of (V_.ts p.1 _ _ h1)) ?_ ?_⟩
    · rintro i x σ' H' hi ⟨r, κi, c, Mi⟩
      obtain ⟨k, hk1, hk2⟩ := h2.getV hi
      refine step i k hk1 κi c _ _ H' (Mi.set (AAt.of (hk2.up (V_.ts r)))) fun σ2 H2 κ2 r2 c2 M2 => ⟨V_.trans r r2, κ2, c2, M2⟩
    · rintro σ' H' ⟨r, κi, c, Mi⟩
      rw [len] at c
      exact q σ' H' κi (V_.trans r1 r) c Mi
/-- for x in range(n) -/
theorem rc_forRange (V_ : Evo R) {n : Nat} {j : Nat} (ht : EvK R te κ (.k (.num (n : Int)))) (hn : n < 2 ^ 60) (C : Nat → KS → Prop) (h0 : C 0 κ) (step : ∀ i, i < n → ∀ κi, C i κi → RunC R t (κi.set j (some (.k (.num (i : Int))))) (C (i + 1))) : RunC R (tFor (iRng1 (tCons te tNil)) (gName j) t) κ (C n) := fun D σ H M q =>
  ht σ H M _ fun v d H1 r1 kd s => by
    subst s
    rw [kat_num kd]
    refine ⟨n, rfl, by omega, by omega, ?_⟩
    rw [Int.toNat_natCast]
    refine for_range (fun i σ' H' => R H1 H' ∧ ∃ κi, C i κi ∧ Mt κi σ' H') ⟨V_.refl H1, κ, h0, M.up V_ r1⟩ ?_ ?_
    · rintro i σ' H' hi ⟨r, κi, c, Mi⟩
      rw [Int.zero_add]
      exact step i hi κi c _ _ H' (Mi.set (AAt.of (KAt.num _))) fun σ2 H2 κ2 r2 c2 M2 => ⟨V_.trans r r2, κ2, c2, M2⟩
    · rintro σ' H' ⟨r, κi, c, Mi⟩
      exact q σ' H' κi (V_.trans r1 r) c Mi
/-! with one end -/
theorem rc_end {κ1 κ2 : KS} (h : RunC R t κ (Eq κ1)) (c : C κ2) (s : KSub κ1 κ2) : RunC R t κ C := h.mono fun κ' e => by
  subst e
  exact ⟨κ2, c, s⟩
theorem rc_twoE (V_ : Evo R) {i j : Nat} {x y : NestedKey} (h : EvK R te κ (.k (.tup [x, y]))) : RunC R (tAsg te (gTup K 2 (gCons (gName i) (gCons (gName j) gNil)))) κ (Eq ((κ.set i (some (.k x))).set j (some (.k y)))) := rc_two V_ h rfl
theorem rc_setE (V_ : Evo R) {i : Nat} (h : EvK R te κ a) : RunC R (tAsg te (gName i)) κ (Eq (κ.set i (some a))) := rc_setK V_ h rfl
theorem rc_augE (V_ : Evo R) {i : Nat} {x y : Int} (hx : κ[i]? = some (some (.k (.num x)))) (h : EvK R te κ (.k (.num y))) : RunC R (tAug i te (ipI fun i j => i + j)) κ (Eq (κ.set i (some (.k (.num (x + y)))))) := rc_aug V_ hx h rfl
theorem rc_seqE (V_ : Evo R) {κ1 : KS} (h : RunC R t κ (Eq κ1)) (k : RunC R u κ1 C) : RunC R (tSeq t u) κ C := rc_seq V_ h fun κ' e => by
  subst e
  exact k
theorem ksub_refl : ∀ κ : KS, KSub κ κ
  | [] => .nil
  | _ :: κ => .keep (ksub_refl κ)
end
end K49
set_option Elab.async false
set_option linter.all false
set_option maxRecDepth 100000
set_option maxHeartbeats 1000000
set_option autoImplicit false
/-! The text by places; what is known of each def and of the built-in names. -/
namespace K49
open PySem PySem.Spec PyProof.Rows L2
def top (i : Nat) : Stmt := PySem.Challenge.pw_wayguess_k49_whole_ever_more_for_ever.main.body.getD i (.Pass ⟨0, 0, 0, 0⟩)
abbrev s_way_to : Stmt := top 1
theorem sc_way_to : FnScope ["ways", "thing", "marks", "elder", "mark"] ["ways", "thing"] (defScope s_way_to) := ⟨rfl, rfl, rfl, by decide +kernel, rfl, by decide +kernel, by decide +kernel⟩

abbrev s_loop_from : Stmt := top 2
theorem sc_loop_from : FnScope ["ways", "thing", "marks", "here", "elder", "mark"] ["ways", "thing"] (defScope s_loop_from) := ⟨rfl, rfl, rfl, by decide +kernel, rfl, by decide +kernel, by decide +kernel⟩

abbrev s_first_ways : Stmt := top 3
theorem sc_first_ways : FnScope ["steps", "start", "ways", "line", "at", "mark", "there", "number"] ["steps", "start"] (defScope s_first_ways) := ⟨rfl, rfl, rfl, by decide +kernel, rfl, by decide +kernel, by decide +kernel⟩

abbrev s_thing_in_loop : Stmt := top 4
theorem sc_thing_in_loop : FnScope ["ways", "some", "seen", "turn", "thing", "here"] ["ways", "some"] (defScope s_thing_in_loop) := ⟨rfl, rfl, rfl, by decide +kernel, rfl, by decide +kernel, by decide +kernel⟩

abbrev s_climbed : Stmt := top 5
theorem sc_climbed : FnScope ["steps", "start", "sums", "ways", "line", "risen", "here", "thing", "mark", "there", "number"] ["steps", "start"] (defScope s_climbed) := ⟨rfl, rfl, rfl, by decide +kernel, rfl, by decide +kernel, by decide +kernel⟩

abbrev s_cells_alone : Stmt := top 7
theorem sc_cells_alone : FnScope ["guesser"] ["guesser"] (defScope s_cells_alone) := ⟨rfl, rfl, rfl, by decide +kernel, rfl, by decide +kernel, by decide +kernel⟩

abbrev s_first_state : Stmt := top 8
theorem sc_first_state : FnScope ["guesser", "cells"] ["guesser"] (defScope s_first_state) := ⟨rfl, rfl, rfl, by decide +kernel, rfl, by decide +kernel, by decide +kernel⟩

abbrev s_cells_in : Stmt := top 9
theorem sc_cells_in : FnScope ["guesser", "state"] ["guesser", "state"] (defScope s_cells_in) := ⟨rfl, rfl, rfl, by decide +kernel, rfl, by decide +kernel, by decide +kernel⟩

abbrev s_cell_place : Stmt := top 10
theorem sc_cell_place : FnScope ["guesser", "state", "place"] ["guesser", "state", "place"] (defScope s_cell_place) := ⟨rfl, rfl, rfl, by decide +kernel, rfl, by decide +kernel, by decide +kernel⟩

abbrev s_guess : Stmt := top 11
theorem sc_guess : FnScope ["guesser", "state", "place", "told"] ["guesser", "state", "place"] (defScope s_guess) := ⟨rfl, rfl, rfl, by decide +kernel, rfl, by decide +kernel, by decide +kernel⟩

abbrev s_replaced : Stmt := top 12
theorem sc_replaced : FnScope ["row", "at", "thing"] ["row", "at", "thing"] (defScope s_replaced) := ⟨rfl, rfl, rfl, by decide +kernel, rfl, by decide +kernel, by decide +kernel⟩

abbrev s_cells_behind : Stmt := top 13
theorem sc_cells_behind : FnScope ["guesser", "state", "place", "way", "cells", "at"] ["guesser", "state", "place", "way"] (defScope s_cells_behind) := ⟨rfl, rfl, rfl, by decide +kernel, rfl, by decide +kernel, by decide +kernel⟩

abbrev s_one_more : Stmt := top 14
theorem sc_one_more : FnScope ["number", "length", "way"] ["number", "length", "way"] (defScope s_one_more) := ⟨rfl, rfl, rfl, by decide +kernel, rfl, by decide +kernel, by decide +kernel⟩

abbrev s_learned_either : Stmt := top 15
theorem sc_learned_either : FnScope ["guesser", "state", "place", "way", "right", "cells", "side"] ["guesser", "state", "place", "way"] (defScope s_learned_either) := ⟨rfl, rfl, rfl, by decide +kernel, rfl, by decide +kernel, by decide +kernel⟩

abbrev s_learned : Stmt := top 16
theorem sc_learned : FnScope ["guesser", "state", "place", "way", "cells", "row"] ["guesser", "state", "place", "way"] (defScope s_learned) := ⟨rfl, rfl, rfl, by decide +kernel, rfl, by decide +kernel, by decide +kernel⟩

abbrev s_events_at : Stmt := top 18
theorem sc_events_at : FnScope ["places", "found", "place"] ["places"] (defScope s_events_at) := ⟨rfl, rfl, rfl, by decide +kernel, rfl, by decide +kernel, by decide +kernel⟩

abbrev s_pair_behind : Stmt := top 19
theorem sc_pair_behind : FnScope ["one", "other", "pair", "event", "place", "way"] ["one", "other", "pair", "event"] (defScope s_pair_behind) := ⟨rfl, rfl, rfl, by decide +kernel, rfl, by decide +kernel, by decide +kernel⟩

abbrev s_difference : Stmt := top 21
theorem sc_difference : FnScope ["one", "other", "pair", "event", "place", "way"] ["one", "other", "pair", "event"] (defScope s_difference) := ⟨rfl, rfl, rfl, by decide +kernel, rfl, by decide +kernel, by decide +kernel⟩

abbrev s_all_steps : Stmt := top 22
theorem sc_all_steps : FnScope ["one", "other", "places", "steps", "line", "here", "event", "there"] ["one", "other", "places"] (defScope s_all_steps) := ⟨rfl, rfl, rfl, by decide +kernel, rfl, by decide +kernel, by decide +kernel⟩

abbrev s_ahead_by : Stmt := top 23
theorem sc_ahead_by : FnScope ["one", "other", "places", "steps", "first", "most", "best", "paper", "sums", "ways", "thing", "pair"] ["one", "other", "places"] (defScope s_ahead_by) := ⟨rfl, rfl, rfl, by decide +kernel, rfl, by decide +kernel, by decide +kernel⟩

abbrev s_missed : Stmt := top 25
theorem sc_missed : FnScope ["guesser", "run", "found", "state", "place", "way"] ["guesser", "run"] (defScope s_missed) := ⟨rfl, rfl, rfl, by decide +kernel, rfl, by decide +kernel, by decide +kernel⟩

abbrev s_passed_pattern : Stmt := top 28
theorem sc_passed_pattern : FnScope ["guesser", "state", "pattern", "total", "one", "miss", "misses"] ["guesser", "state", "pattern"] (defScope s_passed_pattern) := ⟨rfl, rfl, rfl, by decide +kernel, rfl, by decide +kernel, by decide +kernel⟩

abbrev s_misses_behind : Stmt := top 30
theorem sc_misses_behind : FnScope ["guesser", "ahead", "around", "passes", "misses", "state"] ["guesser", "ahead", "around", "passes"] (defScope s_misses_behind) := ⟨rfl, rfl, rfl, by decide +kernel, rfl, by decide +kernel, by decide +kernel⟩

abbrev s_Passes___init : Stmt := inClass (top 27) 0
theorem sc_Passes___init : FnScope ["self", "guesser", "state", "pattern", "most", "places", "misses", "behind"] ["self", "guesser", "state", "pattern", "most"] (defScope s_Passes___init) := ⟨rfl, rfl, rfl, by decide +kernel, rfl, by decide +kernel, by decide +kernel⟩

abbrev s_Passes_length : Stmt := inClass (top 27) 1
theorem sc_Passes_length : FnScope ["self"] ["self"] (defScope s_Passes_length) := ⟨rfl, rfl, rfl, by decide +kernel, rfl, by decide +kernel, by decide +kernel⟩

abbrev s_Passes_more : Stmt := inClass (top 27) 2
theorem sc_Passes_more : FnScope ["self"] ["self"] (defScope s_Passes_more) := ⟨rfl, rfl, rfl, by decide +kernel, rfl, by decide +kernel, by decide +kernel⟩

abbrev s_Passes_behind : Stmt := inClass (top 27) 3
theorem sc_Passes_behind : FnScope ["self", "number", "place", "rounds", "rest"] ["self", "number"] (defScope s_Passes_behind) := ⟨rfl, rfl, rfl, by decide +kernel, rfl, by decide +kernel, by decide +kernel⟩
abbrev s_l_law_draws : Stmt := top 32
theorem sc_l_law_draws : FnScope ["script", "draws", "k", "rest", "stir", "many"] ["script"] (defScope s_l_law_draws) := ⟨rfl, rfl, rfl, by decide +kernel, rfl, by decide +kernel, by decide +kernel⟩

abbrev s_l_law_take : Stmt := top 33
theorem sc_l_law_take : FnScope ["draws", "many"] ["draws", "many"] (defScope s_l_law_take) := ⟨rfl, rfl, rfl, by decide +kernel, rfl, by decide +kernel, by decide +kernel⟩

abbrev s_l_law_cell : Stmt := top 34
theorem sc_l_law_cell : FnScope ["draws", "many", "guesses", "straight", "k"] ["draws"] (defScope s_l_law_cell) := ⟨rfl, rfl, rfl, by decide +kernel, rfl, by decide +kernel, by decide +kernel⟩

abbrev s_l_law_total : Stmt := top 35
theorem sc_l_law_total : FnScope ["guesser"] ["guesser"] (defScope s_l_law_total) := ⟨rfl, rfl, rfl, by decide +kernel, rfl, by decide +kernel, by decide +kernel⟩

abbrev s_l_law_guesser : Stmt := top 36
theorem sc_l_law_guesser : FnScope ["draws", "deep", "way", "size", "length", "cell", "one", "other", "found"] ["draws", "deep"] (defScope s_l_law_guesser) := ⟨rfl, rfl, rfl, by decide +kernel, rfl, by decide +kernel, by decide +kernel⟩

abbrev s_l_law_near : Stmt := top 37
theorem sc_l_law_near : FnScope ["draws", "guesser", "rows", "at", "row"] ["draws", "guesser"] (defScope s_l_law_near) := ⟨rfl, rfl, rfl, by decide +kernel, rfl, by decide +kernel, by decide +kernel⟩

abbrev s_l_law_copied : Stmt := top 38
theorem sc_l_law_copied : FnScope ["draws", "cell", "many", "base", "rows", "k", "side", "some", "j"] ["draws", "cell"] (defScope s_l_law_copied) := ⟨rfl, rfl, rfl, by decide +kernel, rfl, by decide +kernel, by decide +kernel⟩

abbrev s_l_law_deep : Stmt := top 39
theorem sc_l_law_deep : FnScope ["guesser"] ["guesser"] (defScope s_l_law_deep) := ⟨rfl, rfl, rfl, by decide +kernel, rfl, by decide +kernel, by decide +kernel⟩

abbrev s_l_law_wrapped : Stmt := top 40
theorem sc_l_law_wrapped : FnScope ["draws", "guesser", "room", "size", "side", "some", "cell"] ["draws", "guesser", "room"] (defScope s_l_law_wrapped) := ⟨rfl, rfl, rfl, by decide +kernel, rfl, by decide +kernel, by decide +kernel⟩

abbrev s_l_law_other_form : Stmt := top 41
theorem sc_l_law_other_form : FnScope ["draws", "guesser", "room", "way", "cell", "found"] ["draws", "guesser", "room"] (defScope s_l_law_other_form) := ⟨rfl, rfl, rfl, by decide +kernel, rfl, by decide +kernel, by decide +kernel⟩

abbrev s_l_law_second : Stmt := top 42
theorem sc_l_law_second : FnScope ["draws", "one", "way"] ["draws", "one"] (defScope s_l_law_second) := ⟨rfl, rfl, rfl, by decide +kernel, rfl, by decide +kernel, by decide +kernel⟩

abbrev s_l_law_places : Stmt := top 43
theorem sc_l_law_places : FnScope ["draws", "some", "k"] ["draws"] (defScope s_l_law_places) := ⟨rfl, rfl, rfl, by decide +kernel, rfl, by decide +kernel, by decide +kernel⟩

abbrev s_l_law_cells : Stmt := top 44
theorem sc_l_law_cells : FnScope ["guesser"] ["guesser"] (defScope s_l_law_cells) := ⟨rfl, rfl, rfl, by decide +kernel, rfl, by decide +kernel, by decide +kernel⟩

abbrev s_l_law_begin : Stmt := top 45
theorem sc_l_law_begin : FnScope ["guesser", "cells"] ["guesser"] (defScope s_l_law_begin) := ⟨rfl, rfl, rfl, by decide +kernel, rfl, by decide +kernel, by decide +kernel⟩

abbrev s_l_law_spot : Stmt := top 46
theorem sc_l_law_spot : FnScope ["guesser", "state", "place"] ["guesser", "state", "place"] (defScope s_l_law_spot) := ⟨rfl, rfl, rfl, by decide +kernel, rfl, by decide +kernel, by decide +kernel⟩

abbrev s_l_law_guess : Stmt := top 47
theorem sc_l_law_guess : FnScope ["guesser", "state", "place", "cells", "told"] ["guesser", "state", "place"] (defScope s_l_law_guess) := ⟨rfl, rfl, rfl, by decide +kernel, rfl, by decide +kernel, by decide +kernel⟩

abbrev s_l_law_learn : Stmt := top 48
theorem sc_l_law_learn : FnScope ["guesser", "state", "place", "way", "cells", "at", "right", "inner", "rows", "row", "k"] ["guesser", "state", "place", "way"] (defScope s_l_law_learn) := ⟨rfl, rfl, rfl, by decide +kernel, rfl, by decide +kernel, by decide +kernel⟩

abbrev s_l_law_begun : Stmt := top 49
theorem sc_l_law_begun : FnScope ["draws", "guesser", "cell", "at", "names", "guesses", "straight", "k"] ["draws", "guesser"] (defScope s_l_law_begun) := ⟨rfl, rfl, rfl, by decide +kernel, rfl, by decide +kernel, by decide +kernel⟩

abbrev s_l_law_rival : Stmt := top 50
theorem sc_l_law_rival : FnScope ["draws", "one"] ["draws", "one"] (defScope s_l_law_rival) := ⟨rfl, rfl, rfl, by decide +kernel, rfl, by decide +kernel, by decide +kernel⟩

abbrev s_l_law_events : Stmt := top 51
theorem sc_l_law_events : FnScope ["places", "k"] ["places"] (defScope s_l_law_events) := ⟨rfl, rfl, rfl, by decide +kernel, rfl, by decide +kernel, by decide +kernel⟩

abbrev s_l_law_behind : Stmt := top 52
theorem sc_l_law_behind : FnScope ["one", "other", "pair", "event", "place", "way"] ["one", "other", "pair", "event"] (defScope s_l_law_behind) := ⟨rfl, rfl, rfl, by decide +kernel, rfl, by decide +kernel, by decide +kernel⟩

abbrev s_l_law_pairs : Stmt := top 53
theorem sc_l_law_pairs : FnScope ["one", "other", "places", "most", "first", "runs", "line", "at", "event", "there"] ["one", "other", "places", "most"] (defScope s_l_law_pairs) := ⟨rfl, rfl, rfl, by decide +kernel, rfl, by decide +kernel, by decide +kernel⟩

abbrev s_l_law_pattern : Stmt := top 54
theorem sc_l_law_pattern : FnScope ["run", "parts", "place", "way", "k"] ["run"] (defScope s_l_law_pattern) := ⟨rfl, rfl, rfl, by decide +kernel, rfl, by decide +kernel, by decide +kernel⟩

abbrev s_l_law_difference : Stmt := top 55
theorem sc_l_law_difference : FnScope ["one", "other", "run"] ["one", "other", "run"] (defScope s_l_law_difference) := ⟨rfl, rfl, rfl, by decide +kernel, rfl, by decide +kernel, by decide +kernel⟩

abbrev s_l_law_right : Stmt := top 56
theorem sc_l_law_right : FnScope ["one", "other", "run", "loop", "passes", "begin", "more", "many", "left", "right"] ["one", "other", "run", "loop", "passes"] (defScope s_l_law_right) := ⟨rfl, rfl, rfl, by decide +kernel, rfl, by decide +kernel, by decide +kernel⟩

abbrev s_law : Stmt := top 57
theorem sc_law : FnScope ["script", "draws", "many", "one", "other", "places", "passes", "found"] ["script"] (defScope s_law) := ⟨rfl, rfl, rfl, by decide +kernel, rfl, by decide +kernel, by decide +kernel⟩
/-- a def of the text, by its name -/
structure TD (K : PySem.W.Frag) (mg : Str → Option Value) (x : Str) (st : Stmt) (ps : List Str) : Prop where
  ex : ∃ f fd, FunD K x x (defArgs st) (defBody st) (defScope st) [] [] f fd ∧ mg x = some (.ref f) ∧ Binds K fd ps []
structure Blt (mg : Str → Option Value) : Prop where
  len : mg "len" = none
  int : mg "int" = none
  abs : mg "abs" = none
  min : mg "min" = none
  max : mg "max" = none
  sum : mg "sum" = none
  list : mg "list" = none
  tuple : mg "tuple" = none
  range : mg "range" = none
  sorted : mg "sorted" = none
  divmod : mg "divmod" = none
  enumerate : mg "enumerate" = none
section
variable {P : Program} {w : World} {K : PySem.W.Frag} {mg : Str → Option Value} {base : Heap}
/-- a def's promise by data, from its body -/
theorem cal_of {x : Str} {st : Stmt} {N ps : List Str} {k : Nat} {ok : List AV → (Hp → Hp → Prop) → (AV → Prop) → Prop} (F : TD K mg x st ps) (S : FnScope N ps (defScope st)) (len : ∀ as R S, ok as R S → as.length = ps.length)
    (hbody : ∀ (f : Addr) (cdv : Value) (A : Around) (outer : List Env) (s : Shared) (H : Hp) (E : XK), Room k (A.deeper (envOfC x (defScope st) s.heap.objs.size f cdv)) →
      ∃ t, PSs (cxOf CX0 P w K mg base N x (defScope st) f cdv A outer s H E).nox (defBody st) t ∧ ∀ as R S, ok as R S → RunS R t (kap N as) S) : C8.Cal P w K mg base (k + 1) x (spG ok) [] := by
  obtain ⟨f, fd, F, hm, b⟩ := F.ex
  refine ⟨f, fd, ps, [], F.ok S (len_of len) (fun cdv A outer s H vs Q E hr h => ?_), hm, F.kp, b, .nil⟩
  obtain ⟨t, d, r⟩ := hbody f cdv A outer s H E hr
  exact ⟨t, d.nox, body_of h r⟩
/-- a def's promise, from its body -/
theorem cal_sp {x : Str} {st : Stmt} {N ps : List Str} {k : Nat} {sp : Sp} (F : TD K mg x st ps) (S : FnScope N ps (defScope st)) (len : ∀ vs H Q E, sp vs H Q E → vs.length = ps.length)
    (hbody : ∀ (f : Addr) (cdv : Value) (A : Around) (outer : List Env) (s : Shared) (H0 : Hp) (E0 : XK), Room k (A.deeper (envOfC x (defScope st) s.heap.objs.size f cdv)) →
      ∃ t, PSs (cxOf CX0 P w K mg base N x (defScope st) f cdv A outer s H0 E0).nox (defBody st) t ∧ ∀ vs H Q E, sp vs H Q E → t { nx := fun _ H' => Q .non H', rt := Q } (L2.start N vs) H) : C8.Cal P w K mg base (k + 1) x sp [] := by
  obtain ⟨f, fd, F, hm, b⟩ := F.ex
  refine ⟨f, fd, ps, [], F.ok S len (fun cdv A outer s H vs Q E hr h => ?_), hm, F.kp, b, .nil⟩
  obtain ⟨t, d, r⟩ := hbody f cdv A outer s H E hr
  exact ⟨t, d.nox, r vs H Q E h⟩
end
end K49
set_option Elab.async false
set_option linter.all false
set_option maxRecDepth 100000
set_option maxHeartbeats 2000000
set_option autoImplicit false
/-! The program's guessers. -/
namespace K49
open PySem PySem.Spec PyProof.Rows L2
local macro_rules | `(tactic| walk_at "rk") => `(tactic| first
  | exact rk_eqS ‹_› (by decide)
  | exact rk_ix ‹_› rfl
  | exact rk_inS2 ‹_› (by decide)
  | exact rk_ix ‹_› (at_nums (by assumption))
  | exact rk_modN ‹_› (by first | assumption | omega)
  | exact rk_addN ‹_›
  | exact rk_mul2 ‹_›
  | exact rk_addr1 ‹_›
  | exact rk_add1l ‹_›
  | exact rk_shl1 ‹_› (by omega)
  | exact rk_mulN ‹_› (by omega)
  | exact rk_shlN ‹_› (by omega) (by omega)
  | exact rk_addI ‹_›
  | exact rk_addT ‹_› (by first | decide | (simp only [List.length_append, List.length_cons, List.length_nil, List.length_take, List.length_drop] at *; omega))
  | exact rk_sub ‹_›
  | exact rk_neBl ‹_›
  | exact rk_eqI ‹_›
  | exact rk_neI ‹_›
  | exact rk_cmp ‹_›)
local macro_rules | `(tactic| walk_at "el") => `(tactic| first
  | exact el_nil ‹_›
  | (apply el_cons ‹_›; (focus walk_at "ek"); walk_at "el"))
local macro_rules | `(tactic| walk_at "eo") => `(tactic| first
  | exact eo_none ‹_›
  | (apply eo_some ‹_›; walk_at "ek"))
local macro_rules | `(tactic| walk_at "ek") => `(tactic| first
  | exact ek_var ‹_› rfl
  | exact ek_int ‹_›
  | exact ek_str ‹_›
  | exact ek_non ‹_›
  | exact ek_bl ‹_›
  | (apply ek_op ‹_›; (focus walk_at "ek"); (focus walk_at "ek"); walk_at "rk")
  | (apply ek_neg ‹_›; walk_at "ek")
  | (apply ek_slice ‹_›; (focus walk_at "ek"); (focus walk_at "eo"); walk_at "eo")
  | (apply ek_tup1 ‹_›; walk_at "ek")
  | (apply ek_tup2 ‹_›; (focus walk_at "ek"); walk_at "ek")
  | (apply ek_tup3 ‹_›; (focus walk_at "ek"); (focus walk_at "ek"); walk_at "ek"))
local macro_rules | `(tactic| walk_at "run") => `(tactic| first
  | (refine rs_ret ?_; walk_at "ek")
  | (refine rs_retS ?_; walk_at "ek")
  | (refine rs_yes ‹_› (eb_test ‹_› ?_) ?_; (focus walk_at "ek"); walk_at "run")
  | (refine rs_no ‹_› (eb_test ‹_› ?_) ?_; (focus walk_at "ek"); walk_at "run"))
/-! ### the promises -/
abbrev Ok := List AV → (Hp → Hp → Prop) → (AV → Prop) → Prop
def okAlone : Ok := fun as R S => R = Same ∧ ∃ g, GsOk g ∧ as = [.k (encG g)] ∧ S = fun d => d = .k (.num (alone g))
def okFirst (n : Nat) : Ok := fun as R S => R = Same ∧ ∃ g, GsOk g ∧ deep g ≤ n ∧ as = [.k (encG g)] ∧ S = fun d => d = .k (encS (first g))
def okCells : Ok := fun as R S => R = Same ∧ ∃ g s, SaOk g s ∧ isSame g = false ∧ as = [.k (encG g), .k (encS s)] ∧ S = fun d => d = .k (.tup (nums (cellsOf s)))
def okSpot : Ok := fun as R S => R = Same ∧ ∃ g s, ∃ p : Nat, GsOk g ∧ SaOk g s ∧ isSame g = false ∧ as = [.k (encG g), .k (encS s), .k (.num p)] ∧ S = fun d => d = .k (.num (spot g s p))
def okRepl : Ok := fun as R S => R = Same ∧ ∃ ks d, ∃ i : Nat, i < ks.length ∧ ks.length ≤ 400 ∧ as = [.k (.tup ks), .k (.num i), .k d] ∧ S = fun z => z = .k (.tup (ks.set i d))
def okOneMore : Ok := fun as R S => R = Same ∧ ∃ k l w : Nat, k < 1000000 ∧ l ≤ 6 ∧ w ≤ 1 ∧ as = [.k (.num k), .k (.num l), .k (.num w)] ∧ S = fun d => d = .k (.num ((2 * k + w) % 2 ^ l : Nat))
def okBehindC : Ok := fun as R S => R = Same ∧ ∃ g s, ∃ p w : Nat, w ≤ 1 ∧ GsOk g ∧ SaOk g s ∧ isSame g = false ∧ as = [.k (encG g), .k (encS s), .k (.num p), .k (.num w)] ∧ S = fun d => d = .k (.tup (nums (behindC g s p w)))
def okGuess (n : Nat) : Ok := fun as R S => R = Same ∧ ∃ g s, ∃ p : Nat, GsOk g ∧ SaOk g s ∧ deep g ≤ n ∧ as = [.k (encG g), .k (encS s), .k (.num p)] ∧ S = fun d => d = .k (.num (guess g s p))
def okLearn (n : Nat) : Ok := fun as R S => R = Same ∧ ∃ g s, ∃ p w : Nat, w ≤ 1 ∧ GsOk g ∧ SaOk g s ∧ deep g ≤ n ∧ as = [.k (encG g), .k (encS s), .k (.num p), .k (.num w)] ∧ S = fun d => d = .k (encS (learn g s p w))
section
variable {P : Program} {w : World} {K : PySem.W.Frag} {mg : Str → Option Value} {base : Heap}
theorem one_shl (l : Nat) : (1 : Nat) * 2 ^ l = 2 ^ l := Nat.one_mul _
theorem cal_cells_alone (F : TD K mg "cells_alone" s_cells_alone ["guesser"]) : C8.Cal P w K mg base 1 "cells_alone" (spG okAlone) [] := by
  refine cal_of F sc_cells_alone (fun as R S h => ?_) fun f cdv A outer s H E hr => ⟨_, (pss_cons (ps_if (pt_cmpR (op_eqU hr.units) (pe_ix (ix_U hr.units) (pv 0) pe_int (fun _ _ => rfl)) pe_str (nomark _)) (pss_one (ps_ret pe_int)) pss_nil)
      (pss_cons (ps_if (pt_cmpR (op_eqU hr.units) (pe_ix (ix_U hr.units) (pv 0) pe_int (fun _ _ => rfl)) pe_str (nomark _)) (pss_one (ps_ret (pe_op op_shl (pe_ix (ix_U hr.units) (pv 0) pe_int (fun _ _ => rfl)) (pe_ix (ix_U hr.units) (pv 0) pe_int (fun _ _ => rfl))))) pss_nil)
      (pss_cons (ps_if (pt_cmpR (op_eqU hr.units) (pe_ix (ix_U hr.units) (pv 0) pe_int (fun _ _ => rfl)) pe_str (nomark _)) (pss_one (ps_ret (pe_op op_shl pe_int (pe_ix (ix_U hr.units) (pv 0) pe_int (fun _ _ => rfl))))) pss_nil)
      (pss_cons (ps_if (pt_cmpR (op_eqU hr.units) (pe_ix (ix_U hr.units) (pv 0) pe_int (fun _ _ => rfl)) pe_str (nomark _)) (pss_one (ps_ret (pe_ix (ix_U hr.units) (pv 0) pe_int (fun _ _ => rfl)))) pss_nil)
      (pss_one (ps_ret (pe_ix (ix_U hr.units) (pv 0) pe_int (fun _ _ => rfl)))))))), fun as R S h => ?_⟩
  · obtain ⟨_, g, _, rfl, _⟩ := h
    rfl
  · obtain ⟨rfl, g, hg, rfl, rfl⟩ := h
    have V_ := evo_same
    cases g with
    | same x => walk_at "run"
    | table n c => walk_at "run"
    | mixed n l c => walk_at "run"
    | joined n l c =>
      obtain ⟨h1, h2, h3, h4, h5⟩ := hg
      walk_at "run"
    | own n l c =>
      obtain ⟨h1, h2, h3, h5⟩ := hg
      walk_at "run"
    | either x y n c => walk_at "run"
theorem cal_cells_in (F : TD K mg "cells_in" s_cells_in ["guesser", "state"]) : C8.Cal P w K mg base 1 "cells_in" (spG okCells) [] := by
  refine cal_of F sc_cells_in (fun as R S h => ?_) fun f cdv A outer s H E hr => ⟨_, (pss_cons (ps_if (pt_cmpR (op_eqU hr.units) (pe_ix (ix_U hr.units) (pv 0) pe_int (fun _ _ => rfl)) pe_str (nomark _)) (pss_one (ps_ret (pv 1))) pss_nil)
      (pss_one (ps_ret (pe_ix (ix_U hr.units) (pv 1) (pe_un un_neg pe_int) (fun _ _ => rfl))))), fun as R S h => ?_⟩
  · obtain ⟨_, g, s, _, _, rfl, _⟩ := h
    rfl
  · obtain ⟨rfl, g, s, hs, hn, rfl, rfl⟩ := h
    have V_ := evo_same
    cases g <;> cases s <;> first
      | exact hs.elim
      | (cases hn; done)
      | walk_at "run"
theorem cal_cell_place (F : TD K mg "cell_place" s_cell_place ["guesser", "state", "place"]) : C8.Cal P w K mg base 1 "cell_place" (spG okSpot) [] := by
  refine cal_of F sc_cell_place (fun as R S h => ?_) fun f cdv A outer s H E hr => ⟨_, (pss_cons (ps_if (pt_cmpR (op_eqU hr.units) (pe_ix (ix_U hr.units) (pv 0) pe_int (fun _ _ => rfl)) pe_str (nomark _)) (pss_one (ps_ret (pe_op op_mod (pv 2) (pe_ix (ix_U hr.units) (pv 0) pe_int (fun _ _ => rfl))))) pss_nil)
      (pss_cons (ps_if (pt_cmpR (op_eqU hr.units) (pe_ix (ix_U hr.units) (pv 0) pe_int (fun _ _ => rfl)) pe_str (nomark _)) (pss_one (ps_ret (pe_op op_mod (pe_op op_addU (pv 2) (pe_ix (ix_U hr.units) (pv 1) pe_int (fun _ _ => rfl))) (pe_ix (ix_U hr.units) (pv 0) pe_int (fun _ _ => rfl))))) pss_nil)
      (pss_cons (ps_if (pt_cmpR (op_eqU hr.units) (pe_ix (ix_U hr.units) (pv 0) pe_int (fun _ _ => rfl)) pe_str (nomark _)) (pss_one (ps_ret (pe_op op_addU (pe_op op_shl (pe_op op_mod (pv 2) (pe_ix (ix_U hr.units) (pv 0) pe_int (fun _ _ => rfl))) (pe_ix (ix_U hr.units) (pv 0) pe_int (fun _ _ => rfl))) (pe_ix (ix_U hr.units) (pv 1) pe_int (fun _ _ => rfl))))) pss_nil)
      (pss_cons (ps_if (pt_cmpR (op_eqU hr.units) (pe_ix (ix_U hr.units) (pv 0) pe_int (fun _ _ => rfl)) pe_str (nomark _)) (pss_one (ps_ret (pe_ix (ix_U hr.units) (pe_ix (ix_U hr.units) (pv 1) pe_int (fun _ _ => rfl)) (pe_op op_mod (pv 2) (pe_ix (ix_U hr.units) (pv 0) pe_int (fun _ _ => rfl))) (fun _ _ => rfl)))) pss_nil)
      (pss_one (ps_ret (pe_op op_mod (pv 2) (pe_ix (ix_U hr.units) (pv 0) pe_int (fun _ _ => rfl))))))))), fun as R S h => ?_⟩
  · obtain ⟨_, g, s, p, _, _, _, rfl, _⟩ := h
    rfl
  · obtain ⟨rfl, g, s, p, hg, hs, hn, rfl, rfl⟩ := h
    have V_ := evo_same
    cases g with
    | same x => cases hn
    | table n c =>
      have h1 : 0 < n := hg.1
      cases s <;> first | exact hs.elim | walk_at "run"
    | mixed n l c =>
      have h1 : 0 < n := hg.1
      cases s <;> first | exact hs.elim | walk_at "run"
    | joined n l c =>
      obtain ⟨h1, h2, h3, h4, h5⟩ := hg
      have hm := Nat.mod_lt p h1
      cases s <;> first | exact hs.elim | walk_at "run"
    | own n l c =>
      have h1 : 0 < n := hg.1
      cases s with
      | nums ks cs =>
        have hb : p % n < ks.length := by
          rw [hs.1.1]
          exact Nat.mod_lt _ h1
        walk_at "run"
      | _ => exact hs.elim
    | either x y n c =>
      have h1 : 0 < n := hg.2.2.1
      cases s <;> first | exact hs.elim | walk_at "run"
theorem cal_replaced (F : TD K mg "replaced" s_replaced ["row", "at", "thing"]) : C8.Cal P w K mg base 1 "replaced" (spG okRepl) [] := by
  refine cal_of F sc_replaced (fun as R S h => ?_) fun f cdv A outer s H E hr => ⟨_, (pss_one (ps_ret (pe_op op_addU (pe_op op_addU (pe_slice sl_U (pv 0) po_none (po_some (pv 1))) (pe_tup (pa_cons (pv 2) pa_nil))) (pe_slice sl_U (pv 0) (po_some (pe_op op_addU (pv 1) pe_int)) po_none)))), fun as R S h => ?_⟩
  · obtain ⟨_, ks, d, i, _, _, rfl, _⟩ := h
    rfl
  · obtain ⟨rfl, ks, d, i, hi, hl, rfl, rfl⟩ := h
    have V_ := evo_same
    refine rs_ret (EvK.to (x := .k (.tup (cutK ks none (some (i : Int)) ++ [d] ++ cutK ks (some ((i + 1 : Nat) : Int)) none))) ?_ ?_)
    · have e1 := cutK_take ks i (by omega)
      have e2 := cutK_drop ks (i + 1) (by omega)
      have l1 : (cutK ks none (some (i : Int))).length ≤ ks.length := by rw [e1, List.length_take]; omega
      have l2 : (cutK ks (some ((i + 1 : Nat) : Int)) none).length ≤ ks.length := by rw [e2, List.length_drop]; omega
      refine ek_op V_ (ek_op V_ (by walk_at "ek") (by walk_at "ek") (rk_addT V_ ?_)) (by walk_at "ek") (rk_addT V_ ?_)
      · rw [List.length_singleton]
        omega
      · rw [List.length_append, List.length_singleton]
        omega
    · rw [cutK_take ks i (by omega), cutK_drop ks (i + 1) (by omega), List.set_eq_take_append_cons_drop, if_pos hi, List.append_assoc]
      rfl
theorem cal_one_more (F : TD K mg "one_more" s_one_more ["number", "length", "way"]) : C8.Cal P w K mg base 1 "one_more" (spG okOneMore) [] := by
  refine cal_of F sc_one_more (fun as R S h => ?_) fun f cdv A outer s H E hr => ⟨_, (pss_one (ps_ret (pe_op op_mod (pe_op op_addU (pe_op op_mulU pe_int (pv 0)) (pv 2)) (pe_op op_shl pe_int (pv 1))))), fun as R S h => ?_⟩
  · obtain ⟨_, k, l, w, _, _, _, rfl, _⟩ := h
    rfl
  · obtain ⟨rfl, k, l, w, hk, hl, hw, rfl, rfl⟩ := h
    have V_ := evo_same
    have hp : 0 < 2 ^ l := Nat.pow_pos (by decide)
    walk_at "run"
/-- the parts of a cell -/
theorem encC_at (c : Cell) (w : Nat) (hw : w ≤ 1) : atI [NestedKey.tup (nums c.g), .tup (nums c.s), .tup (nums c.a)] ((1 + w : Nat) : Int) = some (.tup (nums (if w = 0 then c.s else c.a))) := by
  have h : w = 0 ∨ w = 1 := by omega
  rcases h with rfl | rfl
  · exact atI_nat (j := 1) rfl
  · exact atI_nat (j := 2) rfl
theorem last_cell {g : Gs} (hn : isSame g = false) : ∃ ks, encG g = .tup ks ∧ atI ks (-1) = some (encC (cellOf g)) := by
  cases g with
  | same x => cases hn
  | _ => exact ⟨_, rfl, rfl⟩
theorem step_getD (c : Cell) (w x : Nat) : (if w = 0 then c.s else c.a).getD x 0 = c.step w x := by
  unfold Cell.step
  split <;> rfl
theorem cal_cells_behind (F : TD K mg "cells_behind" s_cells_behind ["guesser", "state", "place", "way"]) (c_cells_in : C8.Cal P w K mg base 1 "cells_in" (spG okCells) []) (c_cell_place : C8.Cal P w K mg base 1 "cell_place" (spG okSpot) [])
    (c_replaced : C8.Cal P w K mg base 1 "replaced" (spG okRepl) []) : C8.Cal P w K mg base 2 "cells_behind" (spG okBehindC) [] := by
  refine cal_of F sc_cells_behind (fun as R S h => ?_) fun f cdv A outer s H E hr => ⟨_, (pss_cons (ps_set (i := 4) sc_cells_behind.nd rfl (Or.inl rfl) (C8.pe_c c_cells_in hr (by first | decide | omega) (by rfl) (pa_cons (pv 0) (pa_cons (pv 1) pa_nil))))
      (pss_cons (ps_set (i := 5) sc_cells_behind.nd rfl (Or.inl rfl) (C8.pe_c c_cell_place hr (by first | decide | omega) (by rfl) (pa_cons (pv 0) (pa_cons (pv 1) (pa_cons (pv 2) pa_nil)))))
      (pss_one (ps_ret (C8.pe_c c_replaced hr (by first | decide | omega) (by rfl) (pa_cons (pv 4) (pa_cons (pv 5) (pa_cons (pe_ix (ix_U hr.units) (pe_ix (ix_U hr.units) (pe_ix (ix_U hr.units) (pv 0) (pe_un un_neg pe_int) (fun _ _ => rfl)) (pe_op op_addU pe_int (pv 3)) (fun _ _ => rfl)) (pe_ix (ix_U hr.units) (pv 4) (pv 5) (fun _ _ => rfl)) (fun _ _ => rfl)) pa_nil)))))))), fun as R S h => ?_⟩
  · obtain ⟨_, g, s, p, w, _, _, _, _, rfl, _⟩ := h
    rfl
  · obtain ⟨rfl, g, s, p, w, hw, hg, hs, hn, rfl, rfl⟩ := h
    have V_ := evo_same
    refine rk_set V_ (ek_call V_ (a := .k (.tup (nums (cellsOf s)))) (by walk_at "el") ⟨rfl, g, s, hs, hn, rfl, rfl⟩) ?_
    refine rk_set V_ (ek_call V_ (a := .k (.num (spot g s p))) (by walk_at "el") ⟨rfl, g, s, p, hg, hs, hn, rfl, rfl⟩) ?_
    obtain ⟨ks, e1, e2⟩ := last_cell hn
    have hsp := spot_lt p hg hs hn
    have hh := here_lt p hg hs hn
    have hc := cellOf_ok hg hn
    have h64 : (cellsOf s).length ≤ 64 := by
      cases g <;> cases s <;> first
        | exact hs.elim
        | (cases hn; done)
        | (have := alone_le hg; have h2 := hs.1; show _ ≤ 64; simp only [alone, cellsOf] at *; omega)
        | (have := alone_le hg; have h2 := hs.2.1; show _ ≤ 64; simp only [alone, cellsOf] at *; omega)
        | (have := alone_le hg; have h2 := hs.2.2.1; show _ ≤ 64; simp only [alone, cellsOf] at *; omega)
    refine rs_ret (ek_call V_ (as := [.k (.tup (nums (cellsOf s))), .k (.num (spot g s p)), .k (.num ((cellOf g).step w (here g s p)))]) ?_ ⟨rfl, nums (cellsOf s), .num ((cellOf g).step w (here g s p)), spot g s p, by rw [nums_length]; exact hsp, by rw [nums_length]; omega, rfl, ?_⟩)
    · refine el_cons V_ (by walk_at "ek") (el_cons V_ (by walk_at "ek") (el_cons V_ ?_ (el_nil V_)))
      have hl : here g s p < (if w = 0 then (cellOf g).s else (cellOf g).a).length := by
        split
        · rw [hc.ls]; exact hh
        · rw [hc.la]; exact hh
      rw [← step_getD]
      rw [e1]
      refine ek_op V_ (ek_op V_ (ek_op V_ (ek_var V_ rfl) (by walk_at "ek") (rk_ix V_ e2)) (by walk_at "ek") (rk_ix V_ (encC_at _ w hw))) (ek_op V_ (ek_var V_ rfl) (ek_var V_ rfl) (rk_ix V_ (at_nums hsp))) (rk_ix V_ (at_nums hl))
    · rw [← nums_set]
      rfl
end
end K49
set_option Elab.async false
set_option linter.all false
set_option maxRecDepth 100000
set_option maxHeartbeats 2000000
set_option autoImplicit false
/-! The program's guessers, further: those that call themselves. -/
namespace K49
open PySem PySem.Spec PyProof.Rows L2
local macro_rules | `(tactic| walk_at "rk") => `(tactic| first
  | exact rk_eqS ‹_› (by decide)
  | exact rk_ix ‹_› rfl
  | exact rk_inS2 ‹_› (by decide)
  | exact rk_ix ‹_› (at_nums (by assumption))
  | exact rk_modN ‹_› (by first | assumption | omega)
  | exact rk_addN ‹_›
  | exact rk_mul2 ‹_›
  | exact rk_addr1 ‹_›
  | exact rk_add1l ‹_›
  | exact rk_shl1 ‹_› (by omega)
  | exact rk_mulN ‹_› (by omega)
  | exact rk_shlN ‹_› (by omega) (by omega)
  | exact rk_addI ‹_›
  | exact rk_addT ‹_› (by first | decide | (simp only [List.length_append, List.length_cons, List.length_nil, List.length_take, List.length_drop] at *; omega))
  | exact rk_sub ‹_›
  | exact rk_neBl ‹_›
  | exact rk_eqI ‹_›
  | exact rk_neI ‹_›
  | exact rk_cmp ‹_›)
local macro_rules | `(tactic| walk_at "el") => `(tactic| first
  | exact el_nil ‹_›
  | (apply el_cons ‹_›; (focus walk_at "ek"); walk_at "el"))
local macro_rules | `(tactic| walk_at "eo") => `(tactic| first
  | exact eo_none ‹_›
  | (apply eo_some ‹_›; walk_at "ek"))
local macro_rules | `(tactic| walk_at "ek") => `(tactic| first
  | exact ek_var ‹_› rfl
  | exact ek_int ‹_›
  | exact ek_str ‹_›
  | exact ek_non ‹_›
  | exact ek_bl ‹_›
  | (apply ek_op ‹_›; (focus walk_at "ek"); (focus walk_at "ek"); walk_at "rk")
  | (apply ek_neg ‹_›; walk_at "ek")
  | (apply ek_slice ‹_›; (focus walk_at "ek"); (focus walk_at "eo"); walk_at "eo")
  | (apply ek_tup1 ‹_›; walk_at "ek")
  | (apply ek_tup2 ‹_›; (focus walk_at "ek"); walk_at "ek")
  | (apply ek_tup3 ‹_›; (focus walk_at "ek"); (focus walk_at "ek"); walk_at "ek"))
local macro_rules | `(tactic| walk_at "run") => `(tactic| first
  | (refine rs_ret ?_; walk_at "ek")
  | (refine rs_retS ?_; walk_at "ek")
  | (refine rs_yes ‹_› (eb_test ‹_› ?_) ?_; (focus walk_at "ek"); walk_at "run")
  | (refine rs_no ‹_› (eb_test ‹_› ?_) ?_; (focus walk_at "ek"); walk_at "run"))
section
variable {P : Program} {w : World} {K : PySem.W.Frag} {mg : Str → Option Value} {base : Heap}
theorem zeros_nums (n : Nat) : List.replicate n (NestedKey.num 0) = nums (zeros n) := by
  unfold nums zeros
  rw [List.map_replicate]
  rfl
theorem ek_zeros {R : Hp → Hp → Prop} (V_ : Evo R) {κ : KS} {tb : TE} {n : Nat} (h : n ≤ 1000) (hb : EvK R tb κ (.k (.num (n : Int)))) : EvK R (tOp rMulU (tTup (tCons (tC (.int 0)) tNil)) tb) κ (.k (.tup (nums (zeros n)))) := by
  rw [← zeros_nums]
  exact ek_op V_ (ek_tup1 V_ (ek_int V_)) hb (rk_mulT V_ h)
theorem cal_never {x : Str} {st : Stmt} {N ps : List Str} {k : Nat} {ok : Ok} (F : TD K mg x st ps) (S : FnScope N ps (defScope st)) (no : ∀ as R S, ¬ ok as R S) : C8.Cal P w K mg base (k + 1) x (spG ok) [] :=
  cal_of F S (fun as R S h => (no as R S h).elim) fun f cdv A outer s H E hr => ⟨_, pss_never, fun as R S h => (no as R S h).elim⟩
theorem deep_either {x y : Gs} {n : Nat} {c : Cell} {d : Nat} (h : deep (.either x y n c) ≤ d + 1) : deep x ≤ d ∧ deep y ≤ d := by
  have h' : 1 + max (deep x) (deep y) ≤ d + 1 := h
  omega
theorem cal_first_state (F : TD K mg "first_state" s_first_state ["guesser"]) (c_cells_alone : C8.Cal P w K mg base 1 "cells_alone" (spG okAlone) []) : ∀ d : Nat, C8.Cal P w K mg base (d + 1) "first_state" (spG (okFirst d)) [] := by
  intro d
  induction d with
  | zero =>
    refine cal_never F sc_first_state fun as R S h => ?_
    obtain ⟨_, g, _, hd, _⟩ := h
    have := deep_pos g
    omega
  | succ d c_first_state =>
    refine cal_of F sc_first_state (fun as R S h => ?_) fun f cdv A outer s H E hr => ⟨_, (pss_cons (ps_set (i := 1) sc_first_state.nd rfl (Or.inl rfl) (pe_op op_mulU (pe_tup (pa_cons pe_int pa_nil)) (C8.pe_c c_cells_alone hr (by first | decide | omega) (by rfl) (pa_cons (pv 0) pa_nil))))
      (pss_cons (ps_if (pt_cmpR (op_eqU hr.units) (pe_ix (ix_U hr.units) (pv 0) pe_int (fun _ _ => rfl)) pe_str (nomark _)) (pss_one (ps_ret (pe_tup (pa_cons (C8.pe_c c_first_state hr (by first | decide | omega) (by rfl) (pa_cons (pe_ix (ix_U hr.units) (pv 0) pe_int (fun _ _ => rfl)) pa_nil)) (pa_cons (C8.pe_c c_first_state hr (by first | decide | omega) (by rfl) (pa_cons (pe_ix (ix_U hr.units) (pv 0) pe_int (fun _ _ => rfl)) pa_nil)) (pa_cons (pv 1) pa_nil)))))) pss_nil)
      (pss_cons (ps_if (pt_cmpR (op_inU hr.units) (pe_ix (ix_U hr.units) (pv 0) pe_int (fun _ _ => rfl)) (pe_tup (pa_cons pe_str (pa_cons pe_str pa_nil))) (by rfl)) (pss_one (ps_ret (pe_tup (pa_cons pe_int (pa_cons (pv 1) pa_nil))))) pss_nil)
      (pss_cons (ps_if (pt_cmpR (op_eqU hr.units) (pe_ix (ix_U hr.units) (pv 0) pe_int (fun _ _ => rfl)) pe_str (nomark _)) (pss_one (ps_ret (pe_tup (pa_cons (pe_op op_mulU (pe_tup (pa_cons pe_int pa_nil)) (pe_ix (ix_U hr.units) (pv 0) pe_int (fun _ _ => rfl))) (pa_cons (pv 1) pa_nil))))) pss_nil)
      (pss_one (ps_ret (pv 1))))))), fun as R S h => ?_⟩
    · obtain ⟨_, g, _, _, rfl, _⟩ := h
      rfl
    · obtain ⟨rfl, g, hg, hd, rfl, rfl⟩ := h
      have V_ := evo_same
      have h64 := alone_le hg
      refine rk_set V_ (ek_zeros V_ (n := alone g) (by omega) (ek_call V_ (by walk_at "el") ⟨rfl, g, hg, rfl, rfl⟩)) ?_
      cases g with
      | same x => walk_at "run"
      | table n c => walk_at "run"
      | mixed n l c => walk_at "run"
      | joined n l c => walk_at "run"
      | own n l c =>
        have hn : n ≤ 16 := hg.2.1
        refine rs_no V_ (eb_test V_ (by walk_at "ek")) (rs_no V_ (eb_test V_ (by walk_at "ek")) (rs_yes V_ (eb_test V_ (by walk_at "ek")) (rs_retS ?_)))
        exact ek_tup2 V_ (ek_zeros V_ (n := n) (by omega) (by walk_at "ek")) (by walk_at "ek")
      | either x y n c =>
        obtain ⟨d1, d2⟩ := deep_either hd
        refine rs_yes V_ (eb_test V_ (by walk_at "ek")) (rs_retS ?_)
        exact ek_tup3 V_ (ek_call V_ (as := [.k (encG x)]) (by walk_at "el") ⟨rfl, x, hg.1, d1, rfl, rfl⟩) (ek_call V_ (as := [.k (encG y)]) (by walk_at "el") ⟨rfl, y, hg.2.1, d2, rfl, rfl⟩) (by walk_at "ek")
theorem here_nums {g : Gs} {s : Sa} {p : Nat} (hs : spot g s p < (cellsOf s).length) : atI (nums (cellsOf s)) ((spot g s p : Nat) : Int) = some (.num (here g s p)) := at_nums hs
theorem cal_guess (F : TD K mg "guess" s_guess ["guesser", "state", "place"]) (c_cells_in : C8.Cal P w K mg base 1 "cells_in" (spG okCells) []) (c_cell_place : C8.Cal P w K mg base 1 "cell_place" (spG okSpot) []) :
    ∀ d : Nat, C8.Cal P w K mg base (d + 1) "guess" (spG (okGuess d)) [] := by
  intro d
  induction d with
  | zero =>
    refine cal_never F sc_guess fun as R S h => ?_
    obtain ⟨_, g, _, _, _, _, hd, _⟩ := h
    have := deep_pos g
    omega
  | succ d c_guess =>
    refine cal_of F sc_guess (fun as R S h => ?_) fun f cdv A outer s H E hr => ⟨_, (pss_cons (ps_if (pt_cmpR (op_eqU hr.units) (pe_ix (ix_U hr.units) (pv 0) pe_int (fun _ _ => rfl)) pe_str (nomark _)) (pss_one (ps_ret (pe_ix (ix_U hr.units) (pv 0) pe_int (fun _ _ => rfl)))) pss_nil)
      (pss_cons (ps_set (i := 3) sc_guess.nd rfl (Or.inl rfl) (pe_ix (ix_U hr.units) (pe_ix (ix_U hr.units) (pe_ix (ix_U hr.units) (pv 0) (pe_un un_neg pe_int) (fun _ _ => rfl)) pe_int (fun _ _ => rfl)) (pe_ix (ix_U hr.units) (C8.pe_c c_cells_in hr (by first | decide | omega) (by rfl) (pa_cons (pv 0) (pa_cons (pv 1) pa_nil))) (C8.pe_c c_cell_place hr (by first | decide | omega) (by rfl) (pa_cons (pv 0) (pa_cons (pv 1) (pa_cons (pv 2) pa_nil)))) (fun _ _ => rfl)) (fun _ _ => rfl)))
      (pss_cons (ps_if (pt_cmpR (op_eqU hr.units) (pe_ix (ix_U hr.units) (pv 0) pe_int (fun _ _ => rfl)) pe_str (nomark _)) (pss_one (ps_ret (C8.pe_c c_guess hr (by first | decide | omega) (by rfl) (pa_cons (pe_ix (ix_U hr.units) (pv 0) (pe_op op_addU pe_int (pv 3)) (fun _ _ => rfl)) (pa_cons (pe_ix (ix_U hr.units) (pv 1) (pv 3) (fun _ _ => rfl)) (pa_cons (pv 2) pa_nil)))))) pss_nil)
      (pss_one (ps_ret (pv 3)))))), fun as R S h => ?_⟩
    · obtain ⟨_, g, s, p, _, _, _, rfl, _⟩ := h
      rfl
    · obtain ⟨rfl, g, s, p, hg, hs, hd, rfl, rfl⟩ := h
      have V_ := evo_same
      by_cases hn : isSame g = false
      · obtain ⟨ks, e1, e2⟩ := last_cell hn
        have hsp := spot_lt p hg hs hn
        have hh := here_lt p hg hs hn
        have hc := cellOf_ok hg hn
        -- told
        have told : EvK Same (tOp (rIxU P w K) (tOp (rIxU P w K) (tOp (rIxU P w K) (tVar 0) (tUn (rU fun i => .int (-i)) (tC (.int 1)))) (tC (.int 0)))
            (tOp (rIxU P w K) (tCall (spG okCells) [] E0 (tCons (tVar 0) (tCons (tVar 1) tNil))) (tCall (spG okSpot) [] E0 (tCons (tVar 0) (tCons (tVar 1) (tCons (tVar 2) tNil))))))
            (kap ["guesser", "state", "place", "told"] [AV.k (encG g), .k (encS s), .k (.num p)]) (.k (.num ((cellOf g).tell (here g s p)))) := by
          refine ek_op V_ (ek_op V_ (ek_op V_ (x := .k (.tup ks)) ?_ (by walk_at "ek") (rk_ix V_ e2)) (by walk_at "ek") (rk_ix V_ (k := .tup (nums (cellOf g).g)) rfl))
            (ek_op V_ (ek_call V_ (a := .k (.tup (nums (cellsOf s)))) (by walk_at "el") ⟨rfl, g, s, hs, hn, rfl, rfl⟩) (ek_call V_ (a := .k (.num (spot g s p))) (by walk_at "el") ⟨rfl, g, s, p, hg, hs, hn, rfl, rfl⟩) (rk_ix V_ (here_nums hsp))) (rk_ix V_ (at_nums hh))
          rw [← e1]
          exact ek_var V_ rfl
        have h1 := tell_le hc hh
        cases g with
        | same x => cases hn
        | table n c =>
          refine rs_no V_ (eb_test V_ (by walk_at "ek")) (rk_set V_ told (rs_no V_ (eb_test V_ (by walk_at "ek")) (rs_ret ?_)))
          cases s <;> first | exact hs.elim | walk_at "ek"
        | mixed n l c =>
          refine rs_no V_ (eb_test V_ (by walk_at "ek")) (rk_set V_ told (rs_no V_ (eb_test V_ (by walk_at "ek")) (rs_ret ?_)))
          cases s <;> first | exact hs.elim | walk_at "ek"
        | joined n l c =>
          refine rs_no V_ (eb_test V_ (by walk_at "ek")) (rk_set V_ told (rs_no V_ (eb_test V_ (by walk_at "ek")) (rs_ret ?_)))
          cases s <;> first | exact hs.elim | walk_at "ek"
        | own n l c =>
          refine rs_no V_ (eb_test V_ (by walk_at "ek")) (rk_set V_ told (rs_no V_ (eb_test V_ (by walk_at "ek")) (rs_ret ?_)))
          cases s <;> first | exact hs.elim | walk_at "ek"
        | either x y n c =>
          cases s with
          | two sx sy cs =>
            obtain ⟨d1, d2⟩ := deep_either hd
            refine rs_no V_ (eb_test V_ (by walk_at "ek")) (rk_set V_ told (rs_yes V_ (eb_test V_ (by walk_at "ek")) (rs_retS ?_)))
            have ht : here (.either x y n c) (.two sx sy cs) p = cs.getD (p % n) 0 := rfl
            have hc1 : cellOf (.either x y n c) = c := rfl
            rw [ht, hc1] at h1 ⊢
            have e : guess (.either x y n c) (.two sx sy cs) p = if c.tell (cs.getD (p % n) 0) = 0 then guess x sx p else guess y sy p := rfl
            rw [e]
            generalize c.tell (cs.getD (p % n) 0) = t at h1
            have ht : t = 0 ∨ t = 1 := by omega
            rcases ht with rfl | rfl
            · rw [if_pos rfl]
              exact ek_call V_ (as := [.k (encG x), .k (encS sx), .k (.num p)]) (by walk_at "el") ⟨rfl, x, sx, p, hg.1, hs.1, d1, rfl, rfl⟩
            · rw [if_neg (by decide)]
              exact ek_call V_ (as := [.k (encG y), .k (encS sy), .k (.num p)]) (by walk_at "el") ⟨rfl, y, sy, p, hg.2.1, hs.2.1, d2, rfl, rfl⟩
          | _ => exact hs.elim
      · cases g with
        | same x => walk_at "run"
        | _ => exact absurd rfl hn
end
end K49
set_option Elab.async false
set_option linter.all false
set_option maxRecDepth 100000
set_option maxHeartbeats 2000000
set_option autoImplicit false
/-! The program's guessers, further: what they learn. -/
namespace K49
open PySem PySem.Spec PyProof.Rows L2
local macro_rules | `(tactic| walk_at "rk") => `(tactic| first
  | exact rk_eqS ‹_› (by decide)
  | exact rk_ix ‹_› rfl
  | exact rk_inS2 ‹_› (by decide)
  | exact rk_ix ‹_› (at_nums (by assumption))
  | exact rk_modN ‹_› (by first | assumption | omega)
  | exact rk_addN ‹_›
  | exact rk_mul2 ‹_›
  | exact rk_addr1 ‹_›
  | exact rk_add1l ‹_›
  | exact rk_shl1 ‹_› (by omega)
  | exact rk_mulN ‹_› (by omega)
  | exact rk_shlN ‹_› (by omega) (by omega)
  | exact rk_addI ‹_›
  | exact rk_addT ‹_› (by first | decide | (simp only [List.length_append, List.length_cons, List.length_nil, List.length_take, List.length_drop] at *; omega))
  | exact rk_sub ‹_›
  | exact rk_neBl ‹_›
  | exact rk_eqI ‹_›
  | exact rk_neI ‹_›
  | exact rk_cmp ‹_›)
local macro_rules | `(tactic| walk_at "el") => `(tactic| first
  | exact el_nil ‹_›
  | (apply el_cons ‹_›; (focus walk_at "ek"); walk_at "el"))
local macro_rules | `(tactic| walk_at "eo") => `(tactic| first
  | exact eo_none ‹_›
  | (apply eo_some ‹_›; walk_at "ek"))
local macro_rules | `(tactic| walk_at "ek") => `(tactic| first
  | exact ek_var ‹_› rfl
  | exact ek_int ‹_›
  | exact ek_str ‹_›
  | exact ek_non ‹_›
  | exact ek_bl ‹_›
  | (apply ek_op ‹_›; (focus walk_at "ek"); (focus walk_at "ek"); walk_at "rk")
  | (apply ek_neg ‹_›; walk_at "ek")
  | (apply ek_slice ‹_›; (focus walk_at "ek"); (focus walk_at "eo"); walk_at "eo")
  | (apply ek_tup1 ‹_›; walk_at "ek")
  | (apply ek_tup2 ‹_›; (focus walk_at "ek"); walk_at "ek")
  | (apply ek_tup3 ‹_›; (focus walk_at "ek"); (focus walk_at "ek"); walk_at "ek"))
local macro_rules | `(tactic| walk_at "run") => `(tactic| first
  | (refine rs_ret ?_; walk_at "ek")
  | (refine rs_retS ?_; walk_at "ek")
  | (refine rs_yes ‹_› (eb_test ‹_› ?_) ?_; (focus walk_at "ek"); walk_at "run")
  | (refine rs_no ‹_› (eb_test ‹_› ?_) ?_; (focus walk_at "ek"); walk_at "run"))
section
variable {P : Program} {w : World} {K : PySem.W.Frag} {mg : Str → Option Value} {base : Heap}
theorem atI2 {α : Type} {a b : α} : atI [a, b] 0 = some a ∧ atI [a, b] 1 = some b := ⟨rfl, rfl⟩
/-- right -/
theorem lb_two {S : Nat → AV → Prop} {b0 b1 : Bool} (h0 : ∀ a, S 0 a → a = .v (.bl b0)) (h1 : ∀ a, S 1 a → a = .v (.bl b1)) (D : Addr) (as : List AV) (vs : List V) (H' : Hp) (hl : as.length = 2) (hs : ∀ (i : Nat) (a : AV), as[i]? = some a → S i a) (hD : H' D = some (.lst vs)) (hv : AAts H' as vs) :
    ∃ a, AAt H' a (.ref D) ∧ ∃ D, a = .lb D [b0, b1] := by
  match as, hl with
  | [x, y], _ =>
    have e1 := h0 x (hs 0 x rfl)
    have e2 := h1 y (hs 1 y rfl)
    subst e1
    subst e2
    cases hv with
    | cons g1 g2 =>
      cases g2 with
      | cons g3 g4 =>
        cases g4
        have z1 := (show _ = V.bl b0 from g1)
        have z2 := (show _ = V.bl b1 from g3)
        subst z1
        subst z2
        exact ⟨.lb D [b0, b1], ⟨rfl, hD, .bl b0, List.mem_cons_self, fun n z => nomatch z⟩, D, rfl⟩
def okLearnE (n : Nat) : Ok := fun as R S => R = Same ∧ ∃ x y n' c s, ∃ p w : Nat, w ≤ 1 ∧ GsOk (.either x y n' c) ∧ SaOk (.either x y n' c) s ∧ deep x ≤ n ∧ deep y ≤ n ∧ as = [.k (encG (.either x y n' c)), .k (encS s), .k (.num p), .k (.num w)] ∧ S = fun d => d = .k (encS (learn (.either x y n' c) s p w))
theorem dec_int {a b : Nat} : decide ((a : Int) = (b : Int)) = decide (a = b) := by
  by_cases h : a = b
  · subst h; simp
  · rw [decide_eq_false h, decide_eq_false (by omega)]
theorem cal_learned_either {d g b : Nat} (F : TD K mg "learned_either" s_learned_either ["guesser", "state", "place", "way"]) (B : Blt mg) (hk : d + 1 ≤ g) (h2 : 2 ≤ g) (hb : b ≤ g) (c_guess : C8.Cal P w K mg base (d + 1) "guess" (spG (okGuess d)) [])
    (c_cells_behind : C8.Cal P w K mg base 2 "cells_behind" (spG okBehindC) []) (c_learned : C8.Cal P w K mg base b "learned" (spG (okLearn d)) []) : C8.Cal P w K mg base (g + 1) "learned_either" (spG (okLearnE d)) [] := by
  refine cal_of F sc_learned_either (fun as R S h => ?_) fun f cdv A outer s H E hr => ⟨_, (pss_cons (ps_setLc (i := 4) (own := [("side", 6)]) (by rfl) sc_learned_either.nd rfl rfl (sw_true rfl rfl rfl (by decide +kernel)) (pi_tup (pe_tup (pa_cons pe_int (pa_cons pe_int pa_nil)))) (blkOk_by (own := [("side", 6)]) (N := ["guesser", "state", "place", "way", "right", "cells", "side"]) (sc := defScope s_learned_either) (by decide +kernel)) (fun _ _ _ _ _ => (pg_name (i := 6) sc_learned_either.nd rfl (Or.inl rfl))) (fun _ _ _ _ _ => pts_nil) (fun _ _ _ _ _ => (pe_cmpR (op_eqUx (K := K) rfl hr.units) (C8.pe_c c_guess hr (by first | decide | omega) (by rfl) (pa_cons (pe_ix (ix_Ux (P := P) (w := w) (K := K) rfl rfl rfl hr.units) (pv 0) (pe_op (op_addUx (K := K) rfl) pe_int (pv 6)) (fun _ _ => rfl)) (pa_cons (pe_ix (ix_Ux (P := P) (w := w) (K := K) rfl rfl rfl hr.units) (pv 1) (pv 6) (fun _ _ => rfl)) (pa_cons (pv 2) pa_nil)))) (pv 3) (nomark _))))
      (pss_cons (ps_set (i := 5) sc_learned_either.nd rfl (Or.inl rfl) (pe_ix (ix_U hr.units) (pv 1) pe_int (fun _ _ => rfl)))
      (pss_cons (ps_if (pt_cmpR (op_neU hr.units) (pe_ix (ix_U hr.units) (pv 4) pe_int (fun _ _ => rfl)) (pe_ix (ix_U hr.units) (pv 4) pe_int (fun _ _ => rfl)) (nomark _)) (pss_one (ps_set (i := 5) sc_learned_either.nd rfl (Or.inl rfl) (C8.pe_c c_cells_behind hr (by first | decide | omega) (by rfl) (pa_cons (pv 0) (pa_cons (pv 1) (pa_cons (pv 2) (pa_cons (pe_callTy call_int1 (by rfl) B.int (by decide +kernel) (pa_cons (pe_ix (ix_U hr.units) (pv 4) pe_int (fun _ _ => rfl)) pa_nil)) pa_nil))))))) pss_nil)
      (pss_one (ps_ret (pe_tup (pa_cons (C8.pe_c c_learned hr (by first | decide | omega) (by rfl) (pa_cons (pe_ix (ix_U hr.units) (pv 0) pe_int (fun _ _ => rfl)) (pa_cons (pe_ix (ix_U hr.units) (pv 1) pe_int (fun _ _ => rfl)) (pa_cons (pv 2) (pa_cons (pv 3) pa_nil))))) (pa_cons (C8.pe_c c_learned hr (by first | decide | omega) (by rfl) (pa_cons (pe_ix (ix_U hr.units) (pv 0) pe_int (fun _ _ => rfl)) (pa_cons (pe_ix (ix_U hr.units) (pv 1) pe_int (fun _ _ => rfl)) (pa_cons (pv 2) (pa_cons (pv 3) pa_nil))))) (pa_cons (pv 5) pa_nil))))))))), fun as R S h => ?_⟩
  · obtain ⟨_, x, y, n', c, s, p, w, _, _, _, _, _, rfl, _⟩ := h
    rfl
  · obtain ⟨rfl, x, y, n, c, s, p, wy, hw, hg, hs, d1, d2, rfl, rfl⟩ := h
    have V_ := evo_same
    cases s with
    | two sx sy cs =>
      refine rs_set V_ (S0 := fun d => ∃ D, d = .lb D [decide (guess x sx p = wy), decide (guess y sy p = wy)]) (es_lcTup V_ (ks := [.num 0, .num 1]) (S := fun i a => a = .v (.bl (if i = 0 then decide (guess x sx p = wy) else decide (guess y sy p = wy)))) (by walk_at "ek") (by show 6 < 7; decide) (by decide) (fun n a e => by subst e; trivial)
        (fun _ _ _ D _ => keeps_same D) (fun i k hk => ?_) (lb_two (fun a e => e) (fun a e => e))) ?_
      · have hi : i = 0 ∧ k = .num 0 ∨ i = 1 ∧ k = .num 1 := by
          match i with
          | 0 => exact .inl ⟨rfl, by simpa using hk.symm⟩
          | 1 => exact .inr ⟨rfl, by simpa using hk.symm⟩
          | _ + 2 => simp at hk
        rcases hi with ⟨rfl, rfl⟩ | ⟨rfl, rfl⟩
        · rw [if_pos rfl, ← dec_int]
          exact ek_op V_ (ek_call V_ (as := [.k (encG x), .k (encS sx), .k (.num p)]) (by walk_at "el") ⟨rfl, x, sx, p, hg.1, hs.1, d1, rfl, rfl⟩) (by walk_at "ek") (rk_eqI V_)
        · rw [if_neg (by decide), ← dec_int]
          exact ek_op V_ (ek_call V_ (as := [.k (encG y), .k (encS sy), .k (.num p)]) (by walk_at "el") ⟨rfl, y, sy, p, hg.2.1, hs.2.1, d2, rfl, rfl⟩) (by walk_at "ek") (rk_eqI V_)
      · rintro _ ⟨D, rfl⟩
        refine rk_set V_ (a := .k (.tup (nums cs))) (by walk_at "ek") ?_
        have e : encS (learn (.either x y n c) (.two sx sy cs) p wy) = .tup [encS (learn x sx p wy), encS (learn y sy p wy), .tup (nums (if decide (guess x sx p = wy) ≠ decide (guess y sy p = wy) then behindC (.either x y n c) (.two sx sy cs) p (if guess y sy p = wy then 1 else 0) else cs))] := rfl
        rw [e]
        refine rs_if V_ (B := fun b => b = (decide (guess x sx p = wy) != decide (guess y sy p = wy))) (eb_test V_ (ek_op V_ (ek_op V_ (ek_var V_ rfl) (ek_int V_) (rk_ixLb V_ rfl)) (ek_op V_ (ek_var V_ rfl) (ek_int V_) (rk_ixLb V_ rfl)) (rk_neBl V_))) (fun hb => ?_) (fun hb => ?_)
        · rw [if_pos (fun z => by rw [z] at hb; simp at hb)]
          have ew : (if decide (guess y sy p = wy) = true then (1 : Int) else 0) = ((if guess y sy p = wy then 1 else 0 : Nat) : Int) := by
            by_cases h : guess y sy p = wy
            · rw [if_pos h, if_pos (decide_eq_true h)]; rfl
            · rw [if_neg h, if_neg (by rw [decide_eq_false h]; decide)]; rfl
          refine rk_set V_ (ek_call V_ (a := .k (.tup (nums (behindC (.either x y n c) (.two sx sy cs) p (if guess y sy p = wy then 1 else 0))))) (as := [.k (encG (.either x y n c)), .k (encS (.two sx sy cs)), .k (.num p), .k (.num ((if guess y sy p = wy then 1 else 0 : Nat) : Int))]) ?_ ⟨rfl, _, _, p, _, by split <;> decide, hg, hs, rfl, rfl, rfl⟩) (rs_ret ?_)
          · refine el_cons V_ (by walk_at "ek") (el_cons V_ (by walk_at "ek") (el_cons V_ (by walk_at "ek") (el_cons V_ ?_ (el_nil V_))))
            rw [← ew]
            exact es_cb V_ (el_cons V_ (ek_op V_ (ek_var V_ rfl) (ek_int V_) (rk_ixLb V_ rfl)) (el_nil V_)) fun as e => by
              subst e
              exact cs_intB V_
          · exact ek_tup3 V_ (ek_call V_ (as := [.k (encG x), .k (encS sx), .k (.num p), .k (.num wy)]) (by walk_at "el") ⟨rfl, x, sx, p, wy, hw, hg.1, hs.1, d1, rfl, rfl⟩)
              (ek_call V_ (as := [.k (encG y), .k (encS sy), .k (.num p), .k (.num wy)]) (by walk_at "el") ⟨rfl, y, sy, p, wy, hw, hg.2.1, hs.2.1, d2, rfl, rfl⟩) (ek_var V_ rfl)
        · rw [if_neg (fun z => z (by simpa using hb.symm))]
          exact rs_next (rs_ret (ek_tup3 V_ (ek_call V_ (as := [.k (encG x), .k (encS sx), .k (.num p), .k (.num wy)]) (by walk_at "el") ⟨rfl, x, sx, p, wy, hw, hg.1, hs.1, d1, rfl, rfl⟩)
              (ek_call V_ (as := [.k (encG y), .k (encS sy), .k (.num p), .k (.num wy)]) (by walk_at "el") ⟨rfl, y, sy, p, wy, hw, hg.2.1, hs.2.1, d2, rfl, rfl⟩) (ek_var V_ rfl)))
    | _ => exact hs.elim
theorem cal_learned_step {d b : Nat} (F : TD K mg "learned" s_learned ["guesser", "state", "place", "way"]) (hb : 3 ≤ b) (c_cells_behind : C8.Cal P w K mg base 2 "cells_behind" (spG okBehindC) []) (c_replaced : C8.Cal P w K mg base 1 "replaced" (spG okRepl) [])
    (c_one_more : C8.Cal P w K mg base 1 "one_more" (spG okOneMore) []) (c_learned_either : C8.Cal P w K mg base b "learned_either" (spG (okLearnE d)) []) : C8.Cal P w K mg base (b + 1) "learned" (spG (okLearn (d + 1))) [] := by
  refine cal_of F sc_learned (fun as R S h => ?_) fun f cdv A outer s H E hr => ⟨_, (pss_cons (ps_if (pt_cmpR (op_eqU hr.units) (pe_ix (ix_U hr.units) (pv 0) pe_int (fun _ _ => rfl)) pe_str (nomark _)) (pss_one (ps_ret (pv 1))) pss_nil)
      (pss_cons (ps_if (pt_cmpR (op_eqU hr.units) (pe_ix (ix_U hr.units) (pv 0) pe_int (fun _ _ => rfl)) pe_str (nomark _)) (pss_one (ps_ret (C8.pe_c c_learned_either hr (by first | decide | omega) (by rfl) (pa_cons (pv 0) (pa_cons (pv 1) (pa_cons (pv 2) (pa_cons (pv 3) pa_nil))))))) pss_nil)
      (pss_cons (ps_set (i := 4) sc_learned.nd rfl (Or.inl rfl) (C8.pe_c c_cells_behind hr (by first | decide | omega) (by rfl) (pa_cons (pv 0) (pa_cons (pv 1) (pa_cons (pv 2) (pa_cons (pv 3) pa_nil))))))
      (pss_cons (ps_if (pt_cmpR (op_eqU hr.units) (pe_ix (ix_U hr.units) (pv 0) pe_int (fun _ _ => rfl)) pe_str (nomark _)) (pss_one (ps_ret (pv 4))) pss_nil)
      (pss_cons (ps_if (pt_cmpR (op_eqU hr.units) (pe_ix (ix_U hr.units) (pv 0) pe_int (fun _ _ => rfl)) pe_str (nomark _)) (pss_cons (ps_set (i := 5) sc_learned.nd rfl (Or.inl rfl) (pe_op op_mod (pv 2) (pe_ix (ix_U hr.units) (pv 0) pe_int (fun _ _ => rfl))))
      (pss_one (ps_ret (pe_tup (pa_cons (C8.pe_c c_replaced hr (by first | decide | omega) (by rfl) (pa_cons (pe_ix (ix_U hr.units) (pv 1) pe_int (fun _ _ => rfl)) (pa_cons (pv 5) (pa_cons (C8.pe_c c_one_more hr (by first | decide | omega) (by rfl) (pa_cons (pe_ix (ix_U hr.units) (pe_ix (ix_U hr.units) (pv 1) pe_int (fun _ _ => rfl)) (pv 5) (fun _ _ => rfl)) (pa_cons (pe_ix (ix_U hr.units) (pv 0) pe_int (fun _ _ => rfl)) (pa_cons (pv 3) pa_nil)))) pa_nil)))) (pa_cons (pv 4) pa_nil)))))) pss_nil)
      (pss_one (ps_ret (pe_tup (pa_cons (C8.pe_c c_one_more hr (by first | decide | omega) (by rfl) (pa_cons (pe_ix (ix_U hr.units) (pv 1) pe_int (fun _ _ => rfl)) (pa_cons (pe_ix (ix_U hr.units) (pv 0) pe_int (fun _ _ => rfl)) (pa_cons (pv 3) pa_nil)))) (pa_cons (pv 4) pa_nil)))))))))), fun as R S h => ?_⟩
  · obtain ⟨_, g, s, p, wy, _, _, _, _, rfl, _⟩ := h
    rfl
  · obtain ⟨rfl, g, s, p, wy, hw, hg, hs, hd, rfl, rfl⟩ := h
    have V_ := evo_same
    by_cases hn : isSame g = false
    · have hcb : EvK Same (tCall (spG okBehindC) [] E0 (tCons (tVar 0) (tCons (tVar 1) (tCons (tVar 2) (tCons (tVar 3) tNil))))) (kap ["guesser", "state", "place", "way", "cells", "row"] [AV.k (encG g), .k (encS s), .k (.num p), .k (.num wy)]) (.k (.tup (nums (behindC g s p wy)))) :=
        ek_call V_ (by walk_at "el") ⟨rfl, g, s, p, wy, hw, hg, hs, hn, rfl, rfl⟩
      cases g with
      | same x => cases hn
      | table n c =>
        refine rs_no V_ (eb_test V_ (by walk_at "ek")) (rs_no V_ (eb_test V_ (by walk_at "ek")) (rk_set V_ hcb ?_))
        cases s <;> first | exact hs.elim | walk_at "run"
      | mixed n l c =>
        refine rs_no V_ (eb_test V_ (by walk_at "ek")) (rs_no V_ (eb_test V_ (by walk_at "ek")) (rk_set V_ hcb ?_))
        cases s with
        | num k cs =>
          have hl : l ≤ 6 := hg.2.2.1
          have hk : k < 2 ^ l := hs.1
          have h64 := pow_le hl
          refine rs_no V_ (eb_test V_ (by walk_at "ek")) (rs_no V_ (eb_test V_ (by walk_at "ek")) (rs_ret ?_))
          exact ek_tup2 V_ (ek_call V_ (as := [.k (.num k), .k (.num l), .k (.num wy)]) (by walk_at "el") ⟨rfl, k, l, wy, by omega, hl, hw, rfl, rfl⟩) (ek_var V_ rfl)
        | _ => exact hs.elim
      | joined n l c =>
        refine rs_no V_ (eb_test V_ (by walk_at "ek")) (rs_no V_ (eb_test V_ (by walk_at "ek")) (rk_set V_ hcb ?_))
        cases s with
        | num k cs =>
          have hl : l ≤ 6 := hg.2.2.1
          have hk : k < 2 ^ l := hs.1
          have h64 := pow_le hl
          refine rs_no V_ (eb_test V_ (by walk_at "ek")) (rs_no V_ (eb_test V_ (by walk_at "ek")) (rs_ret ?_))
          exact ek_tup2 V_ (ek_call V_ (as := [.k (.num k), .k (.num l), .k (.num wy)]) (by walk_at "el") ⟨rfl, k, l, wy, by omega, hl, hw, rfl, rfl⟩) (ek_var V_ rfl)
        | _ => exact hs.elim
      | own n l c =>
        refine rs_no V_ (eb_test V_ (by walk_at "ek")) (rs_no V_ (eb_test V_ (by walk_at "ek")) (rk_set V_ hcb ?_))
        cases s with
        | nums ks cs =>
          have hl : l ≤ 6 := hg.2.2.1
          have h0 : 0 < n := hg.1
          have hb : p % n < ks.length := by
            rw [hs.1.1]
            exact Nat.mod_lt _ h0
          have hk : ks.getD (p % n) 0 < 2 ^ l := getD_lt hs.1.2 hb
          have h64 := pow_le hl
          have hk16 : ks.length ≤ 16 := by
            rw [hs.1.1]
            exact hg.2.1
          refine rs_no V_ (eb_test V_ (by walk_at "ek")) (rs_yes V_ (eb_test V_ (by walk_at "ek")) (rk_set V_ (a := .k (.num ((p % n : Nat) : Int))) (by walk_at "ek") (rs_ret ?_)))
          refine ek_tup2 V_ (ek_call V_ (a := .k (.tup (nums (ks.set (p % n) ((2 * ks.getD (p % n) 0 + wy) % 2 ^ l))))) (as := [.k (.tup (nums ks)), .k (.num ((p % n : Nat) : Int)), .k (.num ((2 * ks.getD (p % n) 0 + wy) % 2 ^ l : Nat))]) ?_ ⟨rfl, nums ks, .num ((2 * ks.getD (p % n) 0 + wy) % 2 ^ l : Nat), p % n, by rw [nums_length]; exact hb, by rw [nums_length]; omega, rfl, ?_⟩) (ek_var V_ rfl)
          · refine el_cons V_ (by walk_at "ek") (el_cons V_ (by walk_at "ek") (el_cons V_ ?_ (el_nil V_)))
            exact ek_call V_ (as := [.k (.num ((ks.getD (p % n) 0 : Nat) : Int)), .k (.num l), .k (.num wy)]) (by walk_at "el") ⟨rfl, ks.getD (p % n) 0, l, wy, by omega, hl, hw, rfl, rfl⟩
          · rw [nums_set]
        | _ => exact hs.elim
      | either x y n c =>
        obtain ⟨d1, d2⟩ := deep_either hd
        refine rs_no V_ (eb_test V_ (by walk_at "ek")) (rs_yes V_ (eb_test V_ (by walk_at "ek")) (rs_retS ?_))
        exact ek_call V_ (as := [.k (encG (.either x y n c)), .k (encS s), .k (.num p), .k (.num wy)]) (by walk_at "el") ⟨rfl, x, y, n, c, s, p, wy, hw, hg, hs, d1, d2, rfl, rfl⟩
    · cases g with
      | same x =>
        have e : learn (.same x) s p wy = s := by cases s <;> rfl
        rw [e]
        walk_at "run"
      | _ => exact absurd rfl hn
/-- by how deep the guesser is -/
theorem cal_learned (F : TD K mg "learned" s_learned ["guesser", "state", "place", "way"]) (Fe : TD K mg "learned_either" s_learned_either ["guesser", "state", "place", "way"]) (B : Blt mg) (c_guess : ∀ d : Nat, C8.Cal P w K mg base (d + 1) "guess" (spG (okGuess d)) [])
    (c_cells_behind : C8.Cal P w K mg base 2 "cells_behind" (spG okBehindC) []) (c_replaced : C8.Cal P w K mg base 1 "replaced" (spG okRepl) []) (c_one_more : C8.Cal P w K mg base 1 "one_more" (spG okOneMore) []) :
    ∀ d : Nat, C8.Cal P w K mg base (2 * d + 3) "learned" (spG (okLearn d)) [] := by
  intro d
  induction d with
  | zero =>
    refine cal_never F sc_learned fun as R S h => ?_
    obtain ⟨_, g, _, _, _, _, _, _, hd, _⟩ := h
    have := deep_pos g
    omega
  | succ d c_learned =>
    have ce := cal_learned_either (d := d) (g := 2 * d + 3) (b := 2 * d + 3) Fe B (by omega) (by omega) (by omega) (c_guess d) c_cells_behind c_learned
    exact cal_learned_step (d := d) (b := 2 * d + 4) F (by omega) c_cells_behind c_replaced c_one_more ce
end
end K49
set_option Elab.async false
set_option linter.all false
set_option maxRecDepth 100000
set_option maxHeartbeats 2000000
set_option autoImplicit false
/-! Two guessers: pairs, events, differences; misses in runs. -/
namespace K49
open PySem PySem.Spec PyProof.Rows L2
local macro_rules | `(tactic| walk_at "rk") => `(tactic| first
  | exact rk_eqS ‹_› (by decide)
  | exact rk_ix ‹_› rfl
  | exact rk_inS2 ‹_› (by decide)
  | exact rk_ix ‹_› (at_nums (by assumption))
  | exact rk_modN ‹_› (by first | assumption | omega)
  | exact rk_addN ‹_›
  | exact rk_mul2 ‹_›
  | exact rk_addr1 ‹_›
  | exact rk_add1l ‹_›
  | exact rk_shl1 ‹_› (by omega)
  | exact rk_mulN ‹_› (by omega)
  | exact rk_shlN ‹_› (by omega) (by omega)
  | exact rk_addI ‹_›
  | exact rk_addT ‹_› (by first | decide | (simp only [List.length_append, List.length_cons, List.length_nil, List.length_take, List.length_drop] at *; omega))
  | exact rk_sub ‹_›
  | exact rk_neBl ‹_›
  | exact rk_eqI ‹_›
  | exact rk_neI ‹_›
  | exact rk_cmp ‹_›)
local macro_rules | `(tactic| walk_at "el") => `(tactic| first
  | exact el_nil ‹_›
  | (apply el_cons ‹_›; (focus walk_at "ek"); walk_at "el"))
local macro_rules | `(tactic| walk_at "eo") => `(tactic| first
  | exact eo_none ‹_›
  | (apply eo_some ‹_›; walk_at "ek"))
local macro_rules | `(tactic| walk_at "ek") => `(tactic| first
  | exact ek_var ‹_› rfl
  | exact ek_int ‹_›
  | exact ek_str ‹_›
  | exact ek_non ‹_›
  | exact ek_bl ‹_›
  | (apply ek_op ‹_›; (focus walk_at "ek"); (focus walk_at "ek"); walk_at "rk")
  | (apply ek_neg ‹_›; walk_at "ek")
  | (apply ek_slice ‹_›; (focus walk_at "ek"); (focus walk_at "eo"); walk_at "eo")
  | (apply ek_tup1 ‹_›; walk_at "ek")
  | (apply ek_tup2 ‹_›; (focus walk_at "ek"); walk_at "ek")
  | (apply ek_tup3 ‹_›; (focus walk_at "ek"); (focus walk_at "ek"); walk_at "ek"))
local macro_rules | `(tactic| walk_at "run") => `(tactic| first
  | (refine rs_ret ?_; walk_at "ek")
  | (refine rs_retS ?_; walk_at "ek")
  | (refine rs_yes ‹_› (eb_test ‹_› ?_) ?_; (focus walk_at "ek"); walk_at "run")
  | (refine rs_no ‹_› (eb_test ‹_› ?_) ?_; (focus walk_at "ek"); walk_at "run"))
abbrev Evt := Nat × Nat
def encE (e : Evt) : NestedKey := .tup [.num e.1, .num e.2]
def evsOf (ps : List Nat) : List Evt := ps.flatMap fun p => [(p, 0), (p, 1)]
def miss (g : Gs) (s : Sa) (e : Evt) : Nat := if guess g s e.1 = e.2 then 0 else 1
/-- the graph of the pairs -/
def gr (one other : Gs) (evs : List Evt) : Gr Pr Evt where
  nxt := fun p e => (learn one p.1 e.1 e.2, learn other p.2 e.1 e.2)
  wt := fun p e => (miss one p.1 e : Int) - (miss other p.2 e : Int)
  evs := evs
/-- a pair of states of two guessers -/
def PrOk (one other : Gs) (p : Pr) : Prop := SaOk one p.1 ∧ SaOk other p.2
/-- two guessers at work -/
structure Duo (one other : Gs) : Prop where
  ok1 : GsOk one
  ok2 : GsOk other
  d1 : deep one ≤ 3
  d2 : deep other ≤ 3
def EvOk (e : Evt) : Prop := e.2 ≤ 1
theorem pr_next {one other : Gs} (h : Duo one other) {p : Pr} (hp : PrOk one other p) (e : Evt) (evs : List Evt) : PrOk one other ((gr one other evs).nxt p e) := ⟨learn_ok _ _ h.ok1 hp.1, learn_ok _ _ h.ok2 hp.2⟩
theorem pr_depth {one other : Gs} (h : Duo one other) {p : Pr} (hp : PrOk one other p) : (encP p).depth ≤ 8 := by
  have h1 := depth_encS hp.1
  have h2 := depth_encS hp.2
  have := h.d1
  have := h.d2
  show max (encS p.1).depth (max (encS p.2).depth 0) + 1 ≤ 8
  omega
def okPair : Ok := fun as R S => R = Same ∧ ∃ one other pr, ∃ e : Evt, Duo one other ∧ PrOk one other pr ∧ EvOk e ∧ as = [.k (encG one), .k (encG other), .k (encP pr), .k (encE e)] ∧ S = fun d => d = .k (encP ((gr one other []).nxt pr e))
def okDiff : Ok := fun as R S => R = Same ∧ ∃ one other pr, ∃ e : Evt, Duo one other ∧ PrOk one other pr ∧ EvOk e ∧ as = [.k (encG one), .k (encG other), .k (encP pr), .k (encE e)] ∧ S = fun d => d = .k (.num ((gr one other []).wt pr e))
section
variable {P : Program} {w : World} {K : PySem.W.Frag} {mg : Str → Option Value} {base : Heap}
/-- int(guess(..) != way) -/
theorem ek_miss {R : Hp → Hp → Prop} (V_ : Evo R) {κ : KS} {ta tb : TE} {g : Gs} {s : Sa} {e : Evt} (h : EvK R ta κ (.k (.num (guess g s e.1 : Int)))) (hw : EvK R tb κ (.k (.num (e.2 : Int)))) :
    EvK R (tCB (fun xs H Q => (∃ i, xs = [V.int i] ∧ Q (.int i) H) ∨ ∃ k, xs = [V.bl k] ∧ Q (.int (if k then 1 else 0)) H) (tCons (tOp (rNeU K) ta tb) tNil)) κ (.k (.num (miss g s e : Int))) := by
  have ew : (miss g s e : Int) = (if (!decide ((guess g s e.1 : Int) = (e.2 : Int))) = true then (1 : Int) else 0) := by
    unfold miss
    rw [dec_int]
    by_cases h : guess g s e.1 = e.2
    · rw [if_pos h, if_neg (by rw [decide_eq_true h]; decide)]; rfl
    · rw [if_neg h, if_pos (by rw [decide_eq_false h]; rfl)]; rfl
  rw [ew]
  exact es_cb V_ (el_cons V_ (ek_op V_ h hw (rk_neI V_)) (el_nil V_)) fun as e => by
    subst e
    exact cs_intB V_
theorem cal_pair_behind (F : TD K mg "pair_behind" s_pair_behind ["one", "other", "pair", "event"]) (c_learned : C8.Cal P w K mg base 9 "learned" (spG (okLearn 3)) []) : C8.Cal P w K mg base 10 "pair_behind" (spG okPair) [] := by
  refine cal_of F sc_pair_behind (fun as R S h => ?_) fun f cdv A outer s H E hr => ⟨_, (pss_cons (ps_asg (pv 3) (pg_tup rfl (pgs_cons (pg_name (i := 4) sc_pair_behind.nd rfl (Or.inl rfl)) (pgs_cons (pg_name (i := 5) sc_pair_behind.nd rfl (Or.inl rfl)) pgs_nil))))
      (pss_one (ps_ret (pe_tup (pa_cons (C8.pe_c c_learned hr (by first | decide | omega) (by rfl) (pa_cons (pv 0) (pa_cons (pe_ix (ix_U hr.units) (pv 2) pe_int (fun _ _ => rfl)) (pa_cons (pv 4) (pa_cons (pv 5) pa_nil))))) (pa_cons (C8.pe_c c_learned hr (by first | decide | omega) (by rfl) (pa_cons (pv 1) (pa_cons (pe_ix (ix_U hr.units) (pv 2) pe_int (fun _ _ => rfl)) (pa_cons (pv 4) (pa_cons (pv 5) pa_nil))))) pa_nil)))))), fun as R S h => ?_⟩
  · obtain ⟨_, one, other, pr, e, _, _, _, rfl, _⟩ := h
    rfl
  · obtain ⟨rfl, one, other, pr, e, hd, hp, he, rfl, rfl⟩ := h
    have V_ := evo_same
    refine rs_two V_ (x := .num e.1) (y := .num e.2) (ek_var V_ rfl) (rs_ret (ek_tup2 V_ ?_ ?_))
    · exact ek_call V_ (as := [.k (encG one), .k (encS pr.1), .k (.num e.1), .k (.num e.2)]) (by walk_at "el") ⟨rfl, one, pr.1, e.1, e.2, he, hd.ok1, hp.1, hd.d1, rfl, rfl⟩
    · exact ek_call V_ (as := [.k (encG other), .k (encS pr.2), .k (.num e.1), .k (.num e.2)]) (by walk_at "el") ⟨rfl, other, pr.2, e.1, e.2, he, hd.ok2, hp.2, hd.d2, rfl, rfl⟩
theorem cal_difference (F : TD K mg "difference" s_difference ["one", "other", "pair", "event"]) (B : Blt mg) (c_guess : C8.Cal P w K mg base 4 "guess" (spG (okGuess 3)) []) : C8.Cal P w K mg base 10 "difference" (spG okDiff) [] := by
  refine cal_of F sc_difference (fun as R S h => ?_) fun f cdv A outer s H E hr => ⟨_, (pss_cons (ps_asg (pv 3) (pg_tup rfl (pgs_cons (pg_name (i := 4) sc_difference.nd rfl (Or.inl rfl)) (pgs_cons (pg_name (i := 5) sc_difference.nd rfl (Or.inl rfl)) pgs_nil))))
      (pss_one (ps_ret (pe_op op_sub (pe_callTy call_int1 (by rfl) B.int (by decide +kernel) (pa_cons (pe_cmpR (op_neU hr.units) (C8.pe_c c_guess hr (by first | decide | omega) (by rfl) (pa_cons (pv 0) (pa_cons (pe_ix (ix_U hr.units) (pv 2) pe_int (fun _ _ => rfl)) (pa_cons (pv 4) pa_nil)))) (pv 5) (nomark _)) pa_nil)) (pe_callTy call_int1 (by rfl) B.int (by decide +kernel) (pa_cons (pe_cmpR (op_neU hr.units) (C8.pe_c c_guess hr (by first | decide | omega) (by rfl) (pa_cons (pv 1) (pa_cons (pe_ix (ix_U hr.units) (pv 2) pe_int (fun _ _ => rfl)) (pa_cons (pv 4) pa_nil)))) (pv 5) (nomark _)) pa_nil)))))), fun as R S h => ?_⟩
  · obtain ⟨_, one, other, pr, e, _, _, _, rfl, _⟩ := h
    rfl
  · obtain ⟨rfl, one, other, pr, e, hd, hp, he, rfl, rfl⟩ := h
    have V_ := evo_same
    refine rs_two V_ (x := .num e.1) (y := .num e.2) (ek_var V_ rfl) (rs_ret (ek_op V_ (ek_miss V_ (g := one) (s := pr.1) (e := e) ?_ (by walk_at "ek")) (ek_miss V_ (g := other) (s := pr.2) (e := e) ?_ (by walk_at "ek")) (rk_sub V_)))
    · exact ek_call V_ (as := [.k (encG one), .k (encS pr.1), .k (.num e.1)]) (by walk_at "el") ⟨rfl, one, pr.1, e.1, hd.ok1, hp.1, hd.d1, rfl, rfl⟩
    · exact ek_call V_ (as := [.k (encG other), .k (encS pr.2), .k (.num e.1)]) (by walk_at "el") ⟨rfl, other, pr.2, e.1, hd.ok2, hp.2, hd.d2, rfl, rfl⟩
/-- all events at some places, a new list -/
def spEvents (K : PySem.W.Frag) : Sp := fun vs H Q _ => ∃ a, ∃ ps : List Nat, vs = [.ref a] ∧ SqL K H a (ps.map fun (p : Nat) => V.int (p : Int)) ∧ ps.length ≤ 1000 ∧
  ∀ L ws H', Same H H' → H L = none → H' L = some (.lst ws) → KAts H' ((evsOf ps).map encE) ws → Q (.ref L) H'
theorem evs_take {ps : List Nat} {i : Nat} {p : Nat} (h : ps[i]? = some p) : evsOf (ps.take (i + 1)) = evsOf (ps.take i) ++ [(p, 0), (p, 1)] := by
  unfold evsOf
  rw [List.take_add_one, h, List.flatMap_append]
  rfl
theorem evs_len (ps : List Nat) : (evsOf ps).length = 2 * ps.length := by
  unfold evsOf
  induction ps with
  | nil => rfl
  | cons p r ih =>
    rw [List.flatMap_cons, List.length_append, ih]
    simp only [List.length_cons, List.length_nil]
    omega
theorem cal_events_at (F : TD K mg "events_at" s_events_at ["places"]) : C8.Cal P w K mg base 1 "events_at" (spEvents K) [] := by
  refine cal_sp F sc_events_at (fun vs H Q E h => ?_) fun f cdv A outer s H0 E0 hr => ⟨_, (pss_cons (ps_set (i := 1) sc_events_at.nd rfl (Or.inl rfl) (pe_lst pa_nil))
      (pss_cons (ps_for PassesOwn.never rfl (pi_list (pv 0)) (pg_name (i := 2) sc_events_at.nd rfl (Or.inl rfl)) (pss_one (ps_expr (pe_bm PySem.F.plainAttrs_list PySem.F.slot_list_extend PySem.F.type_list_extend mt_extend (pv 1) (pa_cons (pe_lst (pa_cons (pe_tup (pa_cons (pv 2) (pa_cons pe_int pa_nil))) (pa_cons (pe_tup (pa_cons (pv 2) (pa_cons pe_int pa_nil))) pa_nil))) pa_nil)))))
      (pss_one (ps_ret (pv 1))))), fun vs H Q E h => ?_⟩
  · obtain ⟨a, ps, rfl, _⟩ := h
    rfl
  · obtain ⟨a, ps, rfl, hS, hl, k⟩ := h
    have V_ := evo_same
    refine ⟨Nat.zero_le _, fun L hL => ?_⟩
    have s0 : Same H (upd H L (.lst [])) := same_new hL
    refine ⟨_, rfl, a, rfl, ⟨_, s0.seq hS⟩, for_list (K := K) (a := a) (xs := ps.map fun (p : Nat) => V.int (p : Int)) (fun i σ H' => ∃ v ws, σ = [some (.ref a), some (.ref L), v] ∧ Same H H' ∧ H' L = some (.lst ws) ∧ KAts H' ((evsOf (ps.take i)).map encE) ws)
      ⟨none, [], rfl, s0, upd_same, .nil⟩ (fun i σ H' _ ⟨_, _, _, s1, _⟩ => s1.seq hS) ?_ ?_⟩
    · rintro i x σ H' hi ⟨v, ws, rfl, s1, h1, h2⟩
      rw [List.getElem?_map] at hi
      cases hp : ps[i]? with
      | none => rw [hp] at hi; cases hi
      | some p =>
        rw [hp] at hi
        have e : V.int (p : Int) = x := Option.some.inj hi
        subst e
        have hlt := (List.getElem?_eq_some_iff.mp hp).1
        refine ⟨_, rfl, .inl ⟨rfl, _, SqL.of h1⟩, ?_⟩
        have M : Mt [none, none, some (.k (.num (p : Int)))] [some (.ref a), some (.ref L), some (.int (p : Int))] H' := mt_none (mt_none (mt_some (AAt.of (KAt.num _)) mt_nil))
        have ev : EvL Same (tCons (tTup (tCons (tVar 2) (tCons (tC (.int 0)) tNil))) (tCons (tTup (tCons (tVar 2) (tCons (tC (.int 1)) tNil))) tNil)) [none, none, some (.k (.num (p : Int)))] ([encE (p, 0), encE (p, 1)].map AV.k) := by
          show EvL _ _ _ [.k (encE (p, 0)), .k (encE (p, 1))]
          exact el_cons V_ (by walk_at "ek") (el_cons V_ (by walk_at "ek") (el_nil V_))
        show tLst _ _ _ _
        show tCons (tTup _) _ _ _ _
        refine ev _ _ M _ fun us ds H1 r1 ks ed => ?_
        subst ed
        have hk := ks.kats
        have lu : us.length = 2 := hk.length
        refine ⟨le_line (by omega), fun q hq => ?_⟩
        have h3 : (upd H1 q (.lst us)) L = some (.lst ws) := by
          rw [upd_ne (ne_of_none (r1 _ _ h1) hq)]
          exact r1 _ _ h1
        have lw := h2.length
        rw [List.length_map, evs_len, List.length_take] at lw
        refine ⟨L, q, ws, us, rfl, rfl, h3, upd_same, le_line (by omega), ?_⟩
        have sA : Same H' (upd H1 q (.lst us)) := same_upd r1 (by
          cases z : H' q with
          | none => rfl
          | some o => rw [r1 _ _ z] at hq; cases hq)
        refine ⟨_, _, rfl, same_upd (s1.trans sA) hL, upd_same, ?_⟩
        rw [evs_take hp, List.map_append]
        exact ((h2.up (Ts.of sA)).append (hk.up (Ts.new hq))).up (Ts.upd h3 fun _ z => nomatch z)
    · rintro σ H' ⟨v, ws, rfl, s1, h1, h2⟩
      rw [List.length_map, List.take_length] at h2
      exact ⟨_, rfl, k L ws H' s1 hL h1 h2⟩
end
end K49
set_option Elab.async false
set_option linter.all false
set_option maxRecDepth 100000
set_option maxHeartbeats 1000000
set_option autoImplicit false
/-! Dicts by pairs of states: what a dict stands for; == of data. -/
namespace K49
open PySem PySem.Spec PyProof.Rows L2

/-! ### == of data -/
mutual
theorem eqv_data : ∀ k k' : NestedKey, PyData.eqv k.data k'.data = decide (k = k')
  | .none, .none => by simp [NestedKey.data, PyData.eqv]
  | .none, .num _ => by simp [NestedKey.data, PyData.eqv]
  | .none, .text _ => by simp [NestedKey.data, PyData.eqv]
  | .none, .tup _ => by simp [NestedKey.data, PyData.eqv]
  | .num _, .none => by simp [NestedKey.data, PyData.eqv]
  | .num i, .num j => by
    simp only [NestedKey.data, PyData.eqv, NestedKey.num.injEq]
    by_cases h : i = j <;> simp [h]
  | .num _, .text _ => by simp [NestedKey.data, PyData.eqv]
  | .num _, .tup _ => by simp [NestedKey.data, PyData.eqv]
  | .text _, .none => by simp [NestedKey.data, PyData.eqv]
  | .text _, .num _ => by simp [NestedKey.data, PyData.eqv]
  | .text x, .text y => by
    simp only [NestedKey.data, PyData.eqv, NestedKey.text.injEq]
    by_cases h : x = y <;> simp [h]
  | .text _, .tup _ => by simp [NestedKey.data, PyData.eqv]
  | .tup _, .none => by simp [NestedKey.data, PyData.eqv]
  | .tup _, .num _ => by simp [NestedKey.data, PyData.eqv]
  | .tup _, .text _ => by simp [NestedKey.data, PyData.eqv]
  | .tup ks, .tup ls => by
    simp only [NestedKey.data, PyData.eqv, NestedKey.tup.injEq]
    exact eqvAll_data ks ls
theorem eqvAll_data : ∀ ks ls : List NestedKey, PyData.eqvAll (NestedKey.datas ks) (NestedKey.datas ls) = decide (ks = ls)
  | [], [] => by simp [NestedKey.datas, PyData.eqvAll]
  | [], _ :: _ => by simp [NestedKey.datas, PyData.eqvAll]
  | _ :: _, [] => by simp [NestedKey.datas, PyData.eqvAll]
  | k :: ks, l :: ls => by
    simp only [NestedKey.datas, PyData.eqvAll, List.cons.injEq, eqv_data k l, eqvAll_data ks ls]
    by_cases h1 : k = l <;> by_cases h2 : ks = ls <;> simp [h1, h2]
end
mutual
def leafy : NestedKey → Bool
  | .num _ => true
  | .none => true
  | .text _ => false
  | .tup ks => leafys ks
def leafys : List NestedKey → Bool
  | [] => true
  | k :: ks => leafy k && leafys ks
end
mutual
theorem leafy_lay : ∀ k : NestedKey, leafy k = true → k.data.canLay0 = true
  | .none, _ => by simp [NestedKey.data, PyData.canLay0]
  | .num _, _ => by simp [NestedKey.data, PyData.canLay0]
  | .text _, h => by cases h
  | .tup ks, h => by
    rw [NestedKey.data, PyData.canLay0]
    exact leafys_lay ks h
theorem leafys_lay : ∀ ks : List NestedKey, leafys ks = true → PyData.canLayAll0 (NestedKey.datas ks) = true
  | [], _ => by simp [NestedKey.datas, PyData.canLayAll0]
  | k :: ks, h => by
    rw [leafys, Bool.and_eq_true] at h
    rw [NestedKey.datas, PyData.canLayAll0, leafy_lay k h.1, leafys_lay ks h.2]
    rfl
end
theorem leafys_nums (l : List Nat) : leafys (nums l) = true := by
  induction l with
  | nil => rfl
  | cons x r ih => exact ih
theorem leafy_encS : ∀ s : Sa, leafy (encS s) = true
  | .one cs => leafys_nums cs
  | .num n cs => by
    show (true && (leafys (nums cs) && true)) = true
    rw [leafys_nums]; rfl
  | .nums rs cs => by
    show (leafys (nums rs) && (leafys (nums cs) && true)) = true
    rw [leafys_nums, leafys_nums]; rfl
  | .two x y cs => by
    show (leafy (encS x) && (leafy (encS y) && (leafys (nums cs) && true))) = true
    rw [leafy_encS x, leafy_encS y, leafys_nums]; rfl
theorem leafy_encP (p : Pr) : leafy (encP p) = true := by
  show (leafy (encS p.1) && (leafy (encS p.2) && true)) = true
  rw [leafy_encS, leafy_encS]; rfl
theorem shaped_encP {p : Pr} (h : (encP p).depth ≤ 8) : SeqAt.shaped (encP p).data = true := by
  unfold SeqAt.shaped
  rw [leafy_lay _ (leafy_encP p), depth_data, Bool.true_and]
  exact decide_eq_true (by omega)
theorem encP_iff (p q : Pr) : encP p = encP q ↔ p = q := ⟨encP_inj, fun h => by rw [h]⟩
theorem leafys_map {α : Type} (f : α → NestedKey) (h : ∀ x, leafy (f x) = true) : ∀ l : List α, leafys (l.map f) = true
  | [] => rfl
  | x :: r => by
    rw [List.map_cons, leafys, h x, leafys_map f h r]
    rfl
theorem shaped_list {ks : List NestedKey} (h : leafys ks = true) (hd : NestedKey.depthAll ks ≤ 8) : SeqAt.shaped (.list (NestedKey.datas ks)) = true := by
  unfold SeqAt.shaped
  rw [PyData.canLay0, leafys_lay ks h, PyData.depth, depth_datas, Bool.true_and]
  exact decide_eq_true (by omega)
section
variable {K : PySem.W.Frag} {H : Hp} {Q : VK}
/-- p != q -/
theorem ne_pairs {p q : Pr} {x y : V} (hx : KAt H (encP p) x) (hy : KAt H (encP q) y) (dp : (encP p).depth ≤ 8) (dq : (encP q).depth ≤ 8) (h : Q (.bl (!decide (p = q))) H) : rNeU K x y H Q := by
  refine .inr ⟨_, _, kat_dp _ _ hx, kat_dp _ _ hy, shaped_encP dp, shaped_encP dq, ?_⟩
  rw [eqv_data]
  have e : decide (encP p = encP q) = decide (p = q) := by simp only [encP_iff]
  rw [e]
  exact h
/-- l == [], l != [] -/
theorem list_nil {a b : Addr} {ks : List NestedKey} {vs : List V} (ha : H a = some (.lst vs)) (hk : KAts H ks vs) (hb : H b = some (.lst [])) (hl : leafys ks = true) (hd : NestedKey.depthAll ks ≤ 8) :
    ∃ d e, Dp K H (.ref a) d ∧ Dp K H (.ref b) e ∧ SeqAt.shaped d = true ∧ SeqAt.shaped e = true ∧ PyData.eqv d e = decide (ks = []) := by
  refine ⟨_, _, .lst (SqL.of ha) (kats_dp ks vs hk), .lst (SqL.of hb) .nil, shaped_list hl hd, by decide, ?_⟩
  rw [PyData.eqv]
  exact eqvAll_data ks []
end

/-! ### what a dict by pairs stands for -/
def Mon {β : Type} (Vr : Hp → β → V → Prop) : Prop := ∀ (H H' : Hp) (b : β) (v : V), Ts H H' → Vr H b v → Vr H' b v
structure DV {β : Type} (P : Program) (w : World) (Vr : Hp → β → V → Prop) (H : Hp) (d : Addr) (ks : List Pr) (f : Pr → Option β) : Prop where
  ex : ∃ kvs, DNt P w H d kvs ∧ kvs.map (·.1) = ks.map encP ∧ (∀ p b, f p = some b → ∃ v, valV kvs (encP p) = some v ∧ Vr H b v) ∧ ∀ p, f p = none → valV kvs (encP p) = none
  keys : ∀ p, p ∈ ks ↔ f p ≠ none
  nd : ks.Nodup
def addk (ks : List Pr) (p : Pr) : List Pr := if p ∈ ks then ks else ks ++ [p]
theorem mem_addk {ks : List Pr} {p q : Pr} : q ∈ addk ks p ↔ q ∈ ks ∨ q = p := by
  unfold addk
  by_cases h : p ∈ ks
  · rw [if_pos h]
    exact ⟨.inl, fun z => z.elim id fun e => by rw [e]; exact h⟩
  · rw [if_neg h, List.mem_append, List.mem_singleton]
theorem nodup_addk {ks : List Pr} {p : Pr} (h : ks.Nodup) : (addk ks p).Nodup := by
  unfold addk
  by_cases q : p ∈ ks
  · rw [if_pos q]; exact h
  · rw [if_neg q]
    refine List.nodup_append.mpr ⟨h, by simp, fun a ha b hb e => ?_⟩
    rw [List.mem_singleton.mp hb] at e
    subst e
    exact q ha
theorem putK_keys {kvs : List (NestedKey × V)} {k : NestedKey} {v : V} : (putK kvs k v).map (·.1) = if (valV kvs k).isSome = true then kvs.map (·.1) else kvs.map (·.1) ++ [k] := by
  unfold putK
  rw [valV_any]
  split
  · rw [List.map_map]
    refine List.map_congr_left fun x _ => ?_
    show (if x.1 = k then (x.1, v) else x).1 = x.1
    split <;> rfl
  · rw [List.map_append]
    rfl
section
variable {β : Type} {P : Program} {w : World} {Vr : Hp → β → V → Prop} {H H' : Hp} {d : Addr} {ks : List Pr} {f : Pr → Option β}
theorem DV.up (m : Mon Vr) (h : DV P w Vr H d ks f) (t : Ts H H') (e : ∀ o, H d = some o → H' d = some o) : DV P w Vr H' d ks f := by
  obtain ⟨kvs, h1, h2, h3, h4⟩ := h.ex
  exact ⟨⟨kvs, h1.up t e, h2, fun p b q => let ⟨v, a, c⟩ := h3 p b q; ⟨v, a, m _ _ _ _ t c⟩, h4⟩, h.keys, h.nd⟩
theorem DV.same (m : Mon Vr) (h : DV P w Vr H d ks f) (e : Same H H') : DV P w Vr H' d ks f := h.up m (Ts.of e) fun o q => e _ _ q
theorem DV.obj (h : DV P w Vr H d ks f) : ∃ φ, H d = some (.ext φ) := let ⟨_, h1, _⟩ := h.ex; h1.obj
/-- another object is written -/
theorem DV.other (m : Mon Vr) (h : DV P w Vr H d ks f) {a : Addr} {o u : HO} (ha : H a = some o) (n : ∀ xs, o ≠ .tup xs) (hne : d ≠ a) : DV P w Vr (upd H a u) d ks f := h.up m (Ts.upd ha n) fun o q => by
  rw [upd_ne hne]
  exact q
theorem DV.new (m : Mon Vr) (h : DV P w Vr H d ks f) {a : Addr} {u : HO} (ha : H a = none) : DV P w Vr (upd H a u) d ks f := h.same m (same_new ha)
theorem DV.key (_ : DV P w Vr H d ks f) {p : Pr} {y : V} (hy : KAt H (encP p) y) (hd : (encP p).depth ≤ 8) : KeyK H y (encP p) := by
  refine ⟨?_, hy, hd⟩
  cases hy with
  | tup _ _ => exact ⟨_, rfl⟩
theorem DV.depth (h : DV P w Vr H d ks f) {p : Pr} (e : f p ≠ none) : (encP p).depth ≤ 8 := by
  obtain ⟨kvs, ⟨kas, _, hk, ek⟩, h2, _⟩ := h.ex
  have hm : encP p ∈ kvs.map (·.1) := by
    rw [h2]
    exact List.mem_map_of_mem ((h.keys p).mpr e)
  rw [← ek, kvs3_keys] at hm
  obtain ⟨x, hx, e2⟩ := List.mem_map.mp hm
  rw [← e2]
  exact (hk x hx).2
/-- k in d -/
theorem DV.has (h : DV P w Vr H d ks f) {p : Pr} {y : V} {Q : VK} {neg : Bool} {K : PySem.W.Frag} (hy : KAt H (encP p) y) (hd : (encP p).depth ≤ 8) (q : Q (.bl (if neg then !(f p).isSome else (f p).isSome)) H) : rInU P w K neg y (.ref d) H Q := by
  obtain ⟨kvs, h1, h2, h3, h4⟩ := h.ex
  refine .inr ⟨d, encP p, kvs, rfl, h.key hy hd, h1.rd, ?_⟩
  have e : (valV kvs (encP p)).isSome = (f p).isSome := by
    cases z : f p with
    | none =>
      rw [h4 p z]
      rfl
    | some b =>
      obtain ⟨v, h5, _⟩ := h3 p b z
      rw [h5]
      rfl
  rw [e]
  exact q
/-- d[k], there -/
theorem DV.at_ (h : DV P w Vr H d ks f) {p : Pr} {b : β} {y : V} {Q : VK} {K : PySem.W.Frag} (hy : KAt H (encP p) y) (e : f p = some b) (q : ∀ v, Vr H b v → Q v H) : rIxU P w K (.ref d) y H Q := by
  obtain ⟨kvs, h1, h2, h3, h4⟩ := h.ex
  obtain ⟨v, h5, h6⟩ := h3 p b e
  exact .inr (.inr ⟨d, encP p, kvs, v, rfl, h.key hy (h.depth (by rw [e]; simp)), h1.rd, h5, q v h6⟩)
theorem DV.of_put (m : Mon Vr) (h : DV P w Vr H d ks f) {kvs : List (NestedKey × V)} {p : Pr} {b : β} {v : V} (h1 : DNt P w H d kvs) (h2 : kvs.map (·.1) = ks.map encP) (h3 : ∀ p b, f p = some b → ∃ v, valV kvs (encP p) = some v ∧ Vr H b v) (h4 : ∀ p, f p = none → valV kvs (encP p) = none)
    (hv : Vr H b v) (pt : Put P w H d (encP p) v kvs H') : DV P w Vr H' d (addk ks p) (put f p b) ∧ Ts H H' ∧ ∃ φ, H' = upd H d (.ext φ) := by
  obtain ⟨⟨φ, eφ⟩, dn⟩ := pt
  obtain ⟨φ0, e0⟩ := h1.obj
  have t : Ts H H' := by
    rw [eφ]
    exact Ts.upd e0 fun _ z => nomatch z
  have hs : (valV kvs (encP p)).isSome = decide (p ∈ ks) := by
    cases z : f p with
    | none =>
      rw [h4 p z, decide_eq_false (fun hm => (h.keys p).mp hm z)]
      rfl
    | some b =>
      obtain ⟨v, h5, _⟩ := h3 p b z
      rw [h5, decide_eq_true ((h.keys p).mpr (by rw [z]; simp))]
      rfl
  refine ⟨⟨⟨_, dn, ?_, fun q c e => ?_, fun q e => ?_⟩, fun q => ?_, nodup_addk h.nd⟩, t, φ, eφ⟩
  · rw [putK_keys, hs, h2]
    unfold addk
    by_cases hm : p ∈ ks
    · rw [decide_eq_true hm, if_pos hm, if_pos rfl]
    · rw [decide_eq_false hm, if_neg hm, if_neg (by decide), List.map_append]
      rfl
  · rw [valV_put]
    by_cases z : q = p
    · subst z
      rw [put_same] at e
      cases e
      exact ⟨v, if_pos rfl, m _ _ _ _ t hv⟩
    · rw [put_ne _ _ z] at e
      obtain ⟨u, h5, h6⟩ := h3 q c e
      exact ⟨u, by rw [if_neg (fun x => z (encP_inj x))]; exact h5, m _ _ _ _ t h6⟩
  · rw [valV_put]
    by_cases z : q = p
    · subst z
      rw [put_same] at e
      cases e
    · rw [put_ne _ _ z] at e
      rw [if_neg (fun x => z (encP_inj x))]
      exact h4 q e
  · rw [mem_addk, h.keys q]
    by_cases z : q = p
    · subst z
      rw [put_same]
      simp
    · rw [put_ne _ _ z]
      simp [z]
theorem DV.len (h : DV P w Vr H d ks f) {kvs : List (NestedKey × V)} (h2 : kvs.map (·.1) = ks.map encP) : kvs.length = ks.length := by
  have := congrArg List.length h2
  rw [List.length_map, List.length_map] at this
  exact this
/-- d[k] = v -/
theorem DV.set (m : Mon Vr) (h : DV P w Vr H d ks f) {p : Pr} {b : β} {y v : V} {Q : Hp → Prop} (hy : KAt H (encP p) y) (hd : (encP p).depth ≤ 8) (hl : ks.length < 100000) (hv : Vr H b v)
    (q : ∀ H', Ts H H' → (∃ φ, H' = upd H d (.ext φ)) → DV P w Vr H' d (addk ks p) (put f p b) → Q H') : rSetU P w (.ref d) y v H Q := by
  obtain ⟨kvs, h1, h2, h3, h4⟩ := h.ex
  refine .inr (.inl ⟨d, encP p, kvs, rfl, h.key hy hd, h1, lt_line (by rw [h.len h2]; exact hl), fun H' pt => ?_⟩)
  obtain ⟨a, t, e⟩ := h.of_put m h1 h2 h3 h4 hv pt
  exact q H' t e a
theorem DV.empty (h : DNt P w H d []) : DV P w Vr H d [] (fun _ => none) := ⟨⟨[], h, rfl, fun _ _ e => (nomatch e), fun _ _ => rfl⟩, fun p => by simp, List.nodup_nil⟩
/-- {k: v} -/
theorem DV.disp (m : Mon Vr) {p : Pr} {b : β} {y v : V} {Q : Hp → Prop} (h0 : DNt P w H d []) (hy : KAt H (encP p) y) (hd : (encP p).depth ≤ 8) (hv : Vr H b v)
    (q : ∀ H', Ts H H' → (∃ φ, H' = upd H d (.ext φ)) → DV P w Vr H' d [p] (put (fun _ => none) p b) → Q H') : ∃ k, KeyK H y k ∧ DNt P w H d [] ∧ ∀ H4, Put P w H d k v [] H4 → Q H4 := by
  have h : DV P w Vr H d [] (fun _ => none) := DV.empty h0
  refine ⟨encP p, h.key hy hd, h0, fun H4 pt => ?_⟩
  obtain ⟨a, t, e⟩ := h.of_put m h0 rfl (fun _ _ e => (nomatch e)) (fun _ _ => rfl) hv pt
  exact q H4 t e a
/-- list(d), max(d.values()), sorted(d), for k in d -/
theorem DV.kvs (h : DV P w Vr H d ks f) : ∃ kvs, DNt P w H d kvs ∧ kvs.map (·.1) = ks.map encP ∧ kvs.length = ks.length := by
  obtain ⟨kvs, h1, h2, _⟩ := h.ex
  exact ⟨kvs, h1, h2, h.len h2⟩
end
/-! the values -/
def encW : Option (Pr × Evt) → NestedKey
  | none => .none
  | some (q, e) => .tup [encP q, encE e]
def vW : Hp → Option (Pr × Evt) → V → Prop := fun H o v => KAt H (encW o) v
theorem mon_vW : Mon vW := fun _ _ _ _ t h => KAt.up h t
def vI : Hp → Int → V → Prop := fun _ n v => v = .int n
theorem mon_vI : Mon vI := fun _ _ _ _ _ h => h
def vN : Hp → Nat → V → Prop := fun _ n v => v = .int n
theorem mon_vN : Mon vN := fun _ _ _ _ _ h => h
def vA : Hp → Addr → V → Prop := fun _ a v => v = .ref a
theorem mon_vA : Mon vA := fun _ _ _ _ _ h => h
def vT : Hp → Unit → V → Prop := fun _ _ v => v = .bl true
theorem mon_vT : Mon vT := fun _ _ _ _ _ h => h
end K49
set_option Elab.async false
set_option linter.all false
set_option maxRecDepth 100000
set_option maxHeartbeats 2000000
set_option autoImplicit false
/-! Ways, loops, the climb. -/
namespace K49
open PySem PySem.Spec PyProof.Rows L2
local macro_rules | `(tactic| walk_at "rk") => `(tactic| first
  | exact rk_eqS ‹_› (by decide)
  | exact rk_ix ‹_› rfl
  | exact rk_inS2 ‹_› (by decide)
  | exact rk_ix ‹_› (at_nums (by assumption))
  | exact rk_modN ‹_› (by first | assumption | omega)
  | exact rk_addN ‹_›
  | exact rk_mul2 ‹_›
  | exact rk_addr1 ‹_›
  | exact rk_add1l ‹_›
  | exact rk_shl1 ‹_› (by omega)
  | exact rk_mulN ‹_› (by omega)
  | exact rk_shlN ‹_› (by omega) (by omega)
  | exact rk_addI ‹_›
  | exact rk_addT ‹_› (by first | decide | (simp only [List.length_append, List.length_cons, List.length_nil, List.length_take, List.length_drop] at *; omega))
  | exact rk_sub ‹_›
  | exact rk_neBl ‹_›
  | exact rk_eqI ‹_›
  | exact rk_neI ‹_›
  | exact rk_cmp ‹_›)
local macro_rules | `(tactic| walk_at "el") => `(tactic| first
  | exact el_nil ‹_›
  | (apply el_cons ‹_›; (focus walk_at "ek"); walk_at "el"))
local macro_rules | `(tactic| walk_at "eo") => `(tactic| first
  | exact eo_none ‹_›
  | (apply eo_some ‹_›; walk_at "ek"))
local macro_rules | `(tactic| walk_at "ek") => `(tactic| first
  | exact ek_var ‹_› rfl
  | exact ek_int ‹_›
  | exact ek_str ‹_›
  | exact ek_non ‹_›
  | exact ek_bl ‹_›
  | (apply ek_op ‹_›; (focus walk_at "ek"); (focus walk_at "ek"); walk_at "rk")
  | (apply ek_neg ‹_›; walk_at "ek")
  | (apply ek_slice ‹_›; (focus walk_at "ek"); (focus walk_at "eo"); walk_at "eo")
  | (apply ek_tup1 ‹_›; walk_at "ek")
  | (apply ek_tup2 ‹_›; (focus walk_at "ek"); walk_at "ek")
  | (apply ek_tup3 ‹_›; (focus walk_at "ek"); (focus walk_at "ek"); walk_at "ek"))
local macro_rules | `(tactic| walk_at "run") => `(tactic| first
  | (refine rs_ret ?_; walk_at "ek")
  | (refine rs_retS ?_; walk_at "ek")
  | (refine rs_yes ‹_› (eb_test ‹_› ?_) ?_; (focus walk_at "ek"); walk_at "run")
  | (refine rs_no ‹_› (eb_test ‹_› ?_) ?_; (focus walk_at "ek"); walk_at "run"))
section
variable {P : Program} {w : World} {K : PySem.W.Frag} {mg : Str → Option Value} {base : Heap}
abbrev Wy := PW Pr Evt
def evL (es : List (Pr × Evt)) : List NestedKey := es.map fun x => encE x.2
/-- the marks on the way from the root to a thing, a new list -/
def spWay (P : Program) (w : World) : Sp := fun vs H Q _ => ∃ d y ks, ∃ W : Wy, ∃ v r es, vs = [.ref d, y] ∧ DV P w vW H d ks W ∧ KAt H (encP v) y ∧ Anc W v r es ∧ W r = some none ∧ es.length ≤ 1000 ∧
  ∀ L ws H', Same H H' → H L = none → H' L = some (.lst ws) → KAts H' (evL es) ws → Q (.ref L) H'
theorem kats_rev {H : Hp} : ∀ {ks : List NestedKey} {vs : List V}, KAts H ks vs → KAts H ks.reverse vs.reverse
  | [], _, h => by cases h; exact .nil
  | k :: ks, _, h => by
    cases h with
    | cons h1 h2 =>
      rw [List.reverse_cons, List.reverse_cons]
      exact (kats_rev h2).append (.cons h1 .nil)
theorem cal_way_to (F : TD K mg "way_to" s_way_to ["ways", "thing"]) : C8.Cal P w K mg base 1 "way_to" (spWay P w) [] := by
  refine cal_sp F sc_way_to (fun vs H Q E h => ?_) fun f cdv A outer s H0 E0 hr => ⟨_, (pss_cons (ps_set (i := 2) sc_way_to.nd rfl (Or.inl rfl) (pe_lst pa_nil))
      (pss_cons (ps_while PassesOwn.never (pt_cmpR op_notN (pe_ix (ix_U hr.units) (pv 0) (pv 1) (fun _ _ => rfl)) pe_non (nomark _)) (pss_cons (ps_asg (pe_ix (ix_U hr.units) (pv 0) (pv 1) (fun _ _ => rfl)) (pg_tup rfl (pgs_cons (pg_name (i := 3) sc_way_to.nd rfl (Or.inl rfl)) (pgs_cons (pg_name (i := 4) sc_way_to.nd rfl (Or.inl rfl)) pgs_nil))))
      (pss_cons (ps_expr (pe_bm PySem.F.plainAttrs_list PySem.F.slot_list_append PySem.F.type_list_append mt_append (pv 2) (pa_cons (pv 4) pa_nil)))
      (pss_one (ps_set (i := 1) sc_way_to.nd rfl (Or.inl rfl) (pv 3))))))
      (pss_one (ps_ret (pe_revL (pv 2)))))), fun vs H Q E h => ?_⟩
  · obtain ⟨d, y, ks, W, v, r, es, rfl, _⟩ := h
    rfl
  · obtain ⟨d, y, ks, W, v, r, es, rfl, hd, hv, ha, hr, hl, k⟩ := h
    refine ⟨Nat.zero_le _, fun L hL => ?_⟩
    refine ⟨fun m σ H' => ∃ u fs gs y' e1 e2 ws, σ = [some (.ref d), some y', some (.ref L), e1, e2] ∧ m = fs.length ∧ es = fs ++ gs ∧ Anc W u r fs ∧ KAt H' (encP u) y' ∧ Same H H' ∧ H' L = some (.lst ws) ∧ KAts H' (evL gs).reverse ws, ⟨es.length, v, es, [], y, _, _, [], rfl, rfl, by simp, ha, ?_, same_new hL, upd_same, .nil⟩, ?_⟩
    · exact hv.up (Ts.new hL)
    · rintro m σ H' ⟨u, fs, gs, y', e1, e2, ws, rfl, rfl, hes, ha', hy', s1, h1, h2⟩
      have hd' := hd.same mon_vW s1
      by_cases hf : fs = []
      · subst hf
        have e := ha'.nil
        subst e
        refine ⟨.ref d, rfl, y', rfl, hd'.at_ hy' hr fun x hx => ⟨rfl, false, ?_, ?_⟩⟩
        · cases hx
          rfl
        · refine ⟨.ref L, rfl, L, _, rfl, SqL.of h1, fun p hp => ?_⟩
          refine k p _ _ (s1.trans (same_new hp)) ?_ upd_same ?_
          · cases z : H p with
            | none => rfl
            | some o => rw [s1 _ _ z] at hp; cases hp
          · have e2 : es = gs := by rw [hes]; rfl
            rw [e2]
            have := kats_rev h2
            rw [List.reverse_reverse] at this
            exact this.up (Ts.new hp)
      · obtain ⟨p, e, fs', hw, ha2, hfs⟩ := ha'.inv hf
        subst hfs
        refine ⟨.ref d, rfl, y', rfl, hd'.at_ hy' hw fun x hx => ⟨rfl, true, ?_, ?_⟩⟩
        · cases hx
          rfl
        · refine ⟨_, fun _ _ h => h, ?_⟩
          refine ⟨.ref d, rfl, y', rfl, hd'.at_ hy' hw fun x hx => ?_⟩
          have hx' : KAt H' (.tup [encP p, encE e]) x := hx
          cases hx' with
          | @tup b zs _ g1 g2 =>
            cases g2 with
            | @cons _ z1 _ _ g3 g4 =>
              cases g4 with
              | @cons _ z2 _ _ g5 g6 =>
                cases g6
                have lw := h2.length
                rw [List.length_reverse] at lw
                unfold evL at lw
                rw [List.length_map] at lw
                have le : es.length = (fs' ++ [(p, e)]).length + gs.length := by rw [hes, List.length_append]
                refine ⟨b, _, rfl, SqT.of g1, rfl, _, _, rfl, _, _, rfl, rfl, ?_⟩
                refine ⟨.ref L, rfl, .inl ⟨rfl, _, SqL.of h1⟩, z2, rfl, L, ws, z2, rfl, rfl, h1, lt_line (by omega), ?_⟩
                have t : Ts H' (upd H' L (.lst (ws ++ [z2]))) := Ts.upd h1 fun _ z => nomatch z
                refine ⟨z1, rfl, fs'.length, by rw [List.length_append]; exact Nat.lt_succ_self _, p, fs', (p, e) :: gs, z1, _, _, _, rfl, rfl, by rw [hes]; simp, ha2, g3.up t, same_upd s1 hL, upd_same, ?_⟩
                unfold evL
                rw [List.map_cons, List.reverse_cons]
                exact (h2.up t).append (.cons (g5.up t) .nil)
/-- the marks of a loop that ends at a thing -/
def spLoop (P : Program) (w : World) : Sp := fun vs H Q _ => ∃ d y ks, ∃ W : Wy, ∃ v es, vs = [.ref d, y] ∧ DV P w vW H d ks W ∧ KAt H (encP v) y ∧ Anc W v v es ∧ es ≠ [] ∧ es.length ≤ 1000 ∧
  ∀ L ws gs H', Same H H' → H L = none → H' L = some (.lst ws) → gs ≠ [] → Anc W v v gs → gs.length ≤ es.length → KAts H' (evL gs) ws → Q (.ref L) H'
theorem evL_leafy (es : List (Pr × Evt)) : leafys (evL es).reverse = true := by
  unfold evL
  rw [← List.map_reverse]
  exact leafys_map _ (fun _ => rfl) _
theorem evL_depth (es : List (Pr × Evt)) : NestedKey.depthAll (evL es).reverse ≤ 8 := depthAll_le fun k hk => by
  obtain ⟨x, _, e⟩ := List.mem_map.mp (List.mem_reverse.mp hk)
  subst e
  show max 0 (max 0 0) + 1 ≤ 8
  decide
theorem evL_nil {es : List (Pr × Evt)} : (evL es).reverse = [] ↔ es = [] := by
  unfold evL
  simp
theorem cal_loop_from (F : TD K mg "loop_from" s_loop_from ["ways", "thing"]) : C8.Cal P w K mg base 1 "loop_from" (spLoop P w) [] := by
  refine cal_sp F sc_loop_from (fun vs H Q E h => ?_) fun f cdv A outer s H0 E0 hr => ⟨_, (pss_cons (ps_set (i := 2) sc_loop_from.nd rfl (Or.inl rfl) (pe_lst pa_nil))
      (pss_cons (ps_set (i := 3) sc_loop_from.nd rfl (Or.inl rfl) (pv 1))
      (pss_cons (ps_while PassesOwn.never (PW.pt (pw_or (pt_cmpR (op_eqU hr.units) (pv 2) (pe_lst pa_nil) (nomark _)) (pw_or1 (pt_cmpR (op_neU hr.units) (pv 3) (pv 1) (nomark _))))) (pss_cons (ps_asg (pe_ix (ix_U hr.units) (pv 0) (pv 3) (fun _ _ => rfl)) (pg_tup rfl (pgs_cons (pg_name (i := 4) sc_loop_from.nd rfl (Or.inl rfl)) (pgs_cons (pg_name (i := 5) sc_loop_from.nd rfl (Or.inl rfl)) pgs_nil))))
      (pss_cons (ps_expr (pe_bm PySem.F.plainAttrs_list PySem.F.slot_list_append PySem.F.type_list_append mt_append (pv 2) (pa_cons (pv 5) pa_nil)))
      (pss_one (ps_set (i := 3) sc_loop_from.nd rfl (Or.inl rfl) (pv 4))))))
      (pss_one (ps_ret (pe_revL (pv 2))))))), fun vs H Q E h => ?_⟩
  · obtain ⟨d, y, ks, W, v, es, rfl, _⟩ := h
    rfl
  · obtain ⟨d, y, ks, W, v, es, rfl, hd, hv, ha, hne, hl, k⟩ := h
    refine ⟨Nat.zero_le _, fun L hL => ?_⟩
    refine ⟨y, rfl, ?_⟩
    refine ⟨fun m σ H' => ∃ u fs gs y' e1 e2 ws, σ = [some (.ref d), some y, some (.ref L), some y', e1, e2] ∧ m = fs.length ∧ es = fs ++ gs ∧ Anc W u v fs ∧ Anc W v u gs ∧ KAt H' (encP u) y' ∧ Same H H' ∧ H' L = some (.lst ws) ∧ KAts H' (evL gs).reverse ws, ⟨es.length, v, es, [], y, _, _, [], rfl, rfl, by simp, ha, .refl v, ?_, same_new hL, upd_same, .nil⟩, ?_⟩
    · exact hv.up (Ts.new hL)
    · rintro m σ H' ⟨u, fs, gs, y', e1, e2, ws, rfl, rfl, hes, ha', hb', hy', s1, h1, h2⟩
      have hd' := hd.same mon_vW s1
      have hv' := hv.up (Ts.of s1)
      refine ⟨.ref L, rfl, Nat.zero_le _, fun p0 hp0 => ?_⟩
      have s2 : Same H' (upd H' p0 (.lst [])) := same_new hp0
      obtain ⟨dd, ee, q1, q2, q3, q4, q5⟩ := list_nil (K := K) (a := L) (b := p0) (s2 _ _ h1) (h2.up (Ts.of s2)) upd_same (evL_leafy gs) (evL_depth gs)
      have q6 : PyData.eqv dd ee = decide (gs = []) := by
        rw [q5]
        simp only [evL_nil]
      refine .inr ⟨dd, ee, q1, q2, q3, q4, ?_⟩
      rw [q6]
      refine ⟨decide (gs = []), rfl, ?_⟩
      have hfu : fs = [] → u = v := fun z => by
        subst z
        exact ha'.nil
      have s3 := s1.trans s2
      have hku : W u ≠ none := by
        by_cases hf : fs = []
        · rw [hfu hf]
          obtain ⟨p, e, _, hw, _⟩ := ha.inv hne
          rw [hw]
          simp
        · obtain ⟨p, e, _, hw, _⟩ := ha'.inv hf
          rw [hw]
          simp
      have hkv : W v ≠ none := by
        obtain ⟨p, e, _, hw, _⟩ := ha.inv hne
        rw [hw]
        simp
      by_cases hg : gs = []
      rotate_left
      rw [decide_eq_false hg]
      refine ⟨y', rfl, y, rfl, ne_pairs (hy'.up (Ts.of s2)) (hv'.up (Ts.of s2)) (hd.depth hku) (hd.depth hkv) ⟨_, rfl, ?_⟩⟩
      by_cases hu : u = v
      · rw [decide_eq_true hu]
        refine ⟨.ref L, rfl, L, ws, rfl, SqL.of (s2 _ _ h1), fun p hp => ?_⟩
        have e0 : Same H (upd (upd H' p0 (.lst [])) p (.lst ws.reverse)) := s3.trans (same_new hp)
        refine k p _ gs _ e0 ?_ upd_same hg (by rw [← hu] at hb' ⊢; exact hb') (by rw [hes, List.length_append]; omega) ?_
        · cases z : H p with
          | none => rfl
          | some o => rw [s3 _ _ z] at hp; cases hp
        · have := kats_rev h2
          rw [List.reverse_reverse] at this
          exact (this.up (Ts.of s2)).up (Ts.new hp)
      rw [decide_eq_false hu]
      rotate_left
      rw [decide_eq_true hg]
      all_goals
        have hf : fs ≠ [] := fun z => by
          have e1 := hfu z
          first
            | exact absurd e1 ‹_›
            | (subst z; subst hg; exact hne hes)
        obtain ⟨p, e, fs', hw, ha2, hfs⟩ := ha'.inv hf
        subst hfs
        refine ⟨_, fun _ _ h => h, ?_⟩
        refine ⟨.ref d, rfl, y', rfl, (hd'.same mon_vW s2).at_ (hy'.up (Ts.of s2)) hw fun x hx => ?_⟩
        have hx' : KAt (upd H' p0 (.lst [])) (.tup [encP p, encE e]) x := hx
        cases hx' with
        | @tup b zs _ g1 g2 =>
          cases g2 with
          | @cons _ z1 _ _ g3 g4 =>
            cases g4 with
            | @cons _ z2 _ _ g5 g6 =>
              cases g6
              have lw := h2.length
              rw [List.length_reverse] at lw
              unfold evL at lw
              rw [List.length_map] at lw
              have le : es.length = (fs' ++ [(p, e)]).length + gs.length := by rw [hes, List.length_append]
              refine ⟨b, _, rfl, SqT.of g1, rfl, _, _, rfl, _, _, rfl, rfl, ?_⟩
              refine ⟨.ref L, rfl, .inl ⟨rfl, _, SqL.of (s2 _ _ h1)⟩, z2, rfl, L, ws, z2, rfl, rfl, s2 _ _ h1, lt_line (by omega), ?_⟩
              have t : Ts (upd H' p0 (.lst [])) (upd (upd H' p0 (.lst [])) L (.lst (ws ++ [z2]))) := Ts.upd (s2 _ _ h1) fun _ z => nomatch z
              refine ⟨z1, rfl, fs'.length, by rw [List.length_append]; exact Nat.lt_succ_self _, p, fs', (p, e) :: gs, z1, _, _, _, rfl, rfl, by rw [hes]; simp, ha2, hb'.up hw, g3.up t, same_upd s3 hL, upd_same, ?_⟩
              unfold evL
              rw [List.map_cons, List.reverse_cons]
              exact ((h2.up (Ts.of s2)).up t).append (.cons (g5.up t) .nil)
end
end K49
set_option Elab.async false
set_option linter.all false
set_option maxRecDepth 100000
set_option maxHeartbeats 4000000
set_option autoImplicit false
/-! The steps of all pairs; the first ways; a thing in a loop; the climb. -/
namespace K49
open PySem PySem.Spec PyProof.Rows L2
local macro_rules | `(tactic| walk_at "rk") => `(tactic| first
  | exact rk_eqS ‹_› (by decide)
  | exact rk_ix ‹_› rfl
  | exact rk_inS2 ‹_› (by decide)
  | exact rk_ix ‹_› (at_nums (by assumption))
  | exact rk_modN ‹_› (by first | assumption | omega)
  | exact rk_addN ‹_›
  | exact rk_mul2 ‹_›
  | exact rk_addr1 ‹_›
  | exact rk_add1l ‹_›
  | exact rk_shl1 ‹_› (by omega)
  | exact rk_mulN ‹_› (by omega)
  | exact rk_shlN ‹_› (by omega) (by omega)
  | exact rk_addI ‹_›
  | exact rk_addT ‹_› (by first | decide | (simp only [List.length_append, List.length_cons, List.length_nil, List.length_take, List.length_drop] at *; omega))
  | exact rk_sub ‹_›
  | exact rk_neBl ‹_›
  | exact rk_eqI ‹_›
  | exact rk_neI ‹_›
  | exact rk_cmp ‹_›)
local macro_rules | `(tactic| walk_at "el") => `(tactic| first
  | exact el_nil ‹_›
  | (apply el_cons ‹_›; (focus walk_at "ek"); walk_at "el"))
local macro_rules | `(tactic| walk_at "eo") => `(tactic| first
  | exact eo_none ‹_›
  | (apply eo_some ‹_›; walk_at "ek"))
local macro_rules | `(tactic| walk_at "ek") => `(tactic| first
  | exact ek_var ‹_› rfl
  | exact ek_int ‹_›
  | exact ek_str ‹_›
  | exact ek_non ‹_›
  | exact ek_bl ‹_›
  | (apply ek_op ‹_›; (focus walk_at "ek"); (focus walk_at "ek"); walk_at "rk")
  | (apply ek_neg ‹_›; walk_at "ek")
  | (apply ek_slice ‹_›; (focus walk_at "ek"); (focus walk_at "eo"); walk_at "eo")
  | (apply ek_tup1 ‹_›; walk_at "ek")
  | (apply ek_tup2 ‹_›; (focus walk_at "ek"); walk_at "ek")
  | (apply ek_tup3 ‹_›; (focus walk_at "ek"); (focus walk_at "ek"); walk_at "ek"))
local macro_rules | `(tactic| walk_at "run") => `(tactic| first
  | (refine rs_ret ?_; walk_at "ek")
  | (refine rs_retS ?_; walk_at "ek")
  | (refine rs_yes ‹_› (eb_test ‹_› ?_) ?_; (focus walk_at "ek"); walk_at "run")
  | (refine rs_no ‹_› (eb_test ‹_› ?_) ?_; (focus walk_at "ek"); walk_at "run"))
def encT (g : Gr Pr Evt) (p : Pr) (e : Evt) : NestedKey := .tup [encE e, encP (g.nxt p e), .num (g.wt p e)]
def start2 (one other : Gs) : Pr := (first one, first other)
/-- what is known of the guessers and of the places -/
structure Site (one other : Gs) (evs : List Evt) (L : List Pr) : Prop where
  duo : Duo one other
  ev : ∀ e ∈ evs, EvOk e
  clo : Clo (gr one other evs) (start2 one other) L
  few : L.length ≤ 200
  fewE : evs.length ≤ 200
theorem Site.reach {one other : Gs} {evs : List Evt} {L : List Pr} (S : Site one other evs L) {p : Pr} (h : (gr one other evs).Reach (start2 one other) p) : PrOk one other p :=
  h.closed ⟨first_ok S.duo.ok1, first_ok S.duo.ok2⟩ fun v e hv _ => pr_next S.duo hv e evs
theorem Site.depth {one other : Gs} {evs : List Evt} {L : List Pr} (S : Site one other evs L) {p : Pr} (h : (gr one other evs).Reach (start2 one other) p) : (encP p).depth ≤ 8 := pr_depth S.duo (S.reach h)
theorem Site.unit {one other : Gs} {evs : List Evt} {L : List Pr} (_ : Site one other evs L) : UnitWt (gr one other evs) := fun v e => by
  show -1 ≤ (miss one v.1 e : Int) - (miss other v.2 e : Int) ∧ (miss one v.1 e : Int) - (miss other v.2 e : Int) ≤ 1
  have h1 : miss one v.1 e ≤ 1 := by unfold miss; split <;> decide
  have h2 : miss other v.2 e ≤ 1 := by unfold miss; split <;> decide
  omega
/-- the dict of all steps -/
structure Stp (P : Program) (w : World) (one other : Gs) (evs : List Evt) (H : Hp) (d : Addr) (ks : List Pr) (f : Pr → Option Addr) : Prop where
  dv : DV P w vA H d ks f
  ls : ∀ p a, f p = some a → ∃ ws, H a = some (.lst ws) ∧ KAts H (evs.map (encT (gr one other evs) p)) ws
  all : ∀ p, (gr one other evs).Reach (start2 one other) p → f p ≠ none
theorem Stp.same {P : Program} {w : World} {one other : Gs} {evs : List Evt} {H H' : Hp} {d : Addr} {ks : List Pr} {f : Pr → Option Addr} (h : Stp P w one other evs H d ks f) (e : Same H H') : Stp P w one other evs H' d ks f :=
  ⟨h.dv.same mon_vA e, fun p a q => let ⟨ws, x, y⟩ := h.ls p a q; ⟨ws, e _ _ x, y.up (Ts.of e)⟩, h.all⟩
theorem Clo.few' {g : Gr Pr Evt} {s0 : Pr} {L : List Pr} (F : Clo g s0 L) {l : List Pr} (hn : l.Nodup) (h : ∀ v ∈ l, g.Reach s0 v) : l.length ≤ L.length := F.size hn h
theorem none_of_same {H H' : Hp} {p : Addr} (e : Same H H') (h : H' p = none) : H p = none := by
  cases z : H p with
  | none => rfl
  | some o => rw [e _ _ z] at h; cases h
section
variable {P : Program} {w : World} {K : PySem.W.Frag} {mg : Str → Option Value} {base : Heap}
theorem ix_lst {H : Hp} {a : Addr} {ks : List NestedKey} {vs : List V} {i : Nat} {k : NestedKey} {Q : VK} (ha : H a = some (.lst vs)) (hk : KAts H ks vs) (e : ks[i]? = some k) (q : ∀ v, vs[i]? = some v → KAt H k v → Q v H) : rIxU P w K (.ref a) (.int (i : Int)) H Q := by
  obtain ⟨v, h1, h2⟩ := hk.get e
  exact .inl ⟨a, vs, i, v, rfl, rfl, SqL.of ha, atI_nat h1, q v h1 h2⟩
/-- the ways that were found first -/
def spFirst (P : Program) (w : World) : Sp := fun vs H Q _ => ∃ d y ks f one other evs L, vs = [.ref d, y] ∧ Site one other evs L ∧ Stp P w one other evs H d ks f ∧ KAt H (encP (start2 one other)) y ∧
  ∀ d2 ks2, ∀ W : Wy, ∀ H', Same H H' → H d2 = none → DV P w vW H' d2 ks2 W → FInv (gr one other evs) (start2 one other) W → (∀ v, (gr one other evs).Reach (start2 one other) v → W v ≠ none) → Q (.ref d2) H'
/-- the line is the keys of the ways -/
structure FwI (P : Program) (w : World) (one other : Gs) (evs : List Evt) (H0 H : Hp) (d2 l : Addr) (ks : List Pr) (W : Wy) (ws : List V) : Prop where
  same : Same H0 H
  dv : DV P w vW H d2 ks W
  fi : FInv (gr one other evs) (start2 one other) W
  ln : H l = some (.lst ws)
  ka : KAts H (ks.map encP) ws
  ne : d2 ≠ l
theorem FwI.size {one other : Gs} {evs : List Evt} {L : List Pr} {H0 H : Hp} {d2 l : Addr} {ks : List Pr} {W : Wy} {ws : List V} (I : FwI P w one other evs H0 H d2 l ks W ws) (S : Site one other evs L) : ks.length ≤ L.length :=
  S.clo.size I.dv.nd fun v hv => I.fi.reach v ((I.dv.keys v).mp hv)
theorem cal_first_ways (F : TD K mg "first_ways" s_first_ways ["steps", "start"]) (B : Blt mg) : C8.Cal P w K mg base 1 "first_ways" (spFirst P w) [] := by
  refine cal_sp F sc_first_ways (fun vs H Q E h => ?_) fun f cdv A outer s H0 E0 hr => ⟨_, (pss_cons (ps_set (i := 2) sc_first_ways.nd rfl (Or.inl rfl) (pe_ndisp1 hr.units (pv 1) pe_non))
      (pss_cons (ps_set (i := 3) sc_first_ways.nd rfl (Or.inl rfl) (pe_lst (pa_cons (pv 1) pa_nil)))
      (pss_cons (ps_set (i := 4) sc_first_ways.nd rfl (Or.inl rfl) pe_int)
      (pss_cons (ps_while PassesOwn.never (pt_cmpR op_lt (pv 4) (pe_callB (cr_lenx rfl) (by rfl) B.len PySem.boot_len (pa_cons (pv 3) pa_nil)) (nomark _)) (pss_cons (ps_for PassesOwn.never rfl (pi_list (pe_ix (ix_U hr.units) (pv 0) (pe_ix (ix_U hr.units) (pv 3) (pv 4) (fun _ _ => rfl)) (fun _ _ => rfl))) (pg_tup rfl (pgs_cons (pg_name (i := 5) sc_first_ways.nd rfl (Or.inl rfl)) (pgs_cons (pg_name (i := 6) sc_first_ways.nd rfl (Or.inl rfl)) (pgs_cons (pg_name (i := 7) sc_first_ways.nd rfl (Or.inl rfl)) pgs_nil)))) (pss_one (ps_if (pt_cmpR (op_notInU hr.units) (pv 6) (pv 2) (by rfl)) (pss_cons (ps_asg (pe_tup (pa_cons (pe_ix (ix_U hr.units) (pv 3) (pv 4) (fun _ _ => rfl)) (pa_cons (pv 5) pa_nil))) (pg_sub (pv 2) (pv 6) (set_U hr.units)))
      (pss_one (ps_expr (pe_bm PySem.F.plainAttrs_list PySem.F.slot_list_append PySem.F.type_list_append mt_append (pv 3) (pa_cons (pv 6) pa_nil))))) pss_nil)))
      (pss_one (ps_aug (i := 4) sc_first_ways.nd rfl (Or.inl rfl) pe_int ip_add))))
      (pss_one (ps_ret (pv 2))))))), fun vs H Q E h => ?_⟩
  · obtain ⟨d, y, ks, f, one, other, evs, L, rfl, _⟩ := h
    rfl
  · obtain ⟨d, y, ks, f, one, other, evs, L, rfl, S, hs, hy, k⟩ := h
    refine fun d2 H1 hd2 sa h0 => ?_
    have dep0 := S.depth (p := start2 one other) .base
    refine ⟨y, rfl, DV.disp mon_vW (b := none) h0 (hy.up (Ts.of sa)) dep0 KAt.none fun H2 t2 eφ dv2 => ?_⟩
    obtain ⟨φ, eφ⟩ := eφ
    have s2 : Same H H2 := by
      rw [eφ]
      exact same_upd sa hd2
    refine ⟨y, rfl, (by show 1 ≤ sizeLine; decide), fun l hl => ?_⟩
    have hne : d2 ≠ l := fun e => by
      subst e
      rw [eφ, upd_same] at hl
      cases hl
    have s3 : Same H2 (upd H2 l (.lst [y])) := same_new hl
    have hl0 := none_of_same s2 hl
    refine ⟨fun m σ H' => ∃ at_ ks2 W ws e1 e2 e3, σ = [some (.ref d), some y, some (.ref d2), some (.ref l), some (.int (at_ : Nat)), e1, e2, e3] ∧ m = L.length - at_ ∧ at_ ≤ ks2.length ∧ FwI P w one other evs H H' d2 l ks2 W ws ∧ ∀ q ∈ ks2.take at_, ∀ e ∈ evs, W ((gr one other evs).nxt q e) ≠ none,
      ⟨L.length, 0, [start2 one other], _, [y], _, _, _, rfl, rfl, Nat.zero_le _, ⟨s2.trans s3, dv2.new mon_vW hl, finv_start _ _, upd_same, .cons (hy.up ((Ts.of s2).trans (Ts.new hl))) .nil, hne⟩, fun q hq => (nomatch hq)⟩, ?_⟩
    rintro m σ H' ⟨at_, ks2, W, ws, e1, e2, e3, rfl, rfl, hat, I, hcl⟩
    have lw : ws.length = ks2.length := by rw [I.ka.length, List.length_map]
    have lk := I.size S
    have few := S.few
    refine ⟨_, rfl, .ref l, rfl, l, ws, rfl, .inl (SqL.of I.ln), at_, ws.length, rfl, rfl, _, rfl, ?_⟩
    by_cases hlt : at_ < ks2.length
    · have eb : decide ((at_ : Int) < (ws.length : Int)) = true := decide_eq_true (by omega)
      rw [eb]
      refine ⟨_, fun _ _ h => h, ?_⟩
      have hu : ks2[at_]? = some ks2[at_] := List.getElem?_eq_getElem hlt
      generalize ks2[at_] = u at hu
      have ku : W u ≠ none := (I.dv.keys u).mp (List.mem_of_getElem? hu)
      have hs' := hs.same I.same
      have hdu : f u ≠ none := hs.all u (I.fi.reach u ku)
      cases hfu : f u with
      | none => exact absurd hfu hdu
      | some al =>
      obtain ⟨ss, hss, kss⟩ := hs'.ls u al hfu
      have huk : (ks2.map encP)[at_]? = some (encP u) := by rw [List.getElem?_map, hu]; rfl
      refine ⟨.ref d, rfl, .ref l, rfl, .int at_, rfl, ix_lst I.ln I.ka huk fun v0 hv0 kv0 => hs'.dv.at_ kv0 hfu fun x hx => ?_⟩
      have hx' : x = .ref al := hx
      subst hx'
      obtain ⟨ss0, hss0, _⟩ := hs.ls u al hfu
      have ess : ∀ {H4 : Hp}, Same H H4 → SqL K H4 al ss := fun {H4} s4 => by
        have h5 := I.same _ _ hss0
        rw [hss] at h5
        have h6 : ss = ss0 := by cases h5; rfl
        rw [h6]
        exact SqL.of (s4 _ _ hss0)
      refine ⟨al, rfl, ⟨ss, SqL.of hss⟩, for_list (K := K) (a := al) (xs := ss) (fun i σ H4 => ∃ ks3 W3 ws3 e1 e2 e3, σ = [some (.ref d), some y, some (.ref d2), some (.ref l), some (.int (at_ : Nat)), e1, e2, e3] ∧ ks3[at_]? = some u ∧ ks3.take at_ = ks2.take at_ ∧ FwI P w one other evs H H4 d2 l ks3 W3 ws3 ∧
        (∀ q ∈ ks3.take at_, ∀ e ∈ evs, W3 ((gr one other evs).nxt q e) ≠ none) ∧ ∀ e ∈ evs.take i, W3 ((gr one other evs).nxt u e) ≠ none)
        ⟨ks2, W, ws, e1, e2, e3, rfl, hu, rfl, I, hcl, fun e he => (nomatch he)⟩ (fun i σ H4 _ ⟨_, _, _, _, _, _, _, _, _, I4, _⟩ => ess I4.same) ?_ ?_⟩
      · rintro i x σ H4 hi ⟨ks3, W3, ws3, e1, e2, e3, rfl, hu3, htk, I4, hc1, hc2⟩
        obtain ⟨kk, hkk, kx⟩ := (kss.up (Ts.refl _)).getV hi
        rw [List.getElem?_map] at hkk
        cases hev : evs[i]? with
        | none => rw [hev] at hkk; cases hkk
        | some ev =>
        rw [hev] at hkk
        have ekk : encT (gr one other evs) u ev = kk := Option.some.inj hkk
        subst ekk
        have hem : ev ∈ evs := List.mem_of_getElem? hev
        obtain ⟨ka, ka1, kx1⟩ := (hs.ls u al hfu)
        have kx4 : KAt H4 (encT (gr one other evs) u ev) x := by
          have h6 : ss = ss0 := by
            have h5 := I.same _ _ hss0
            rw [hss] at h5
            cases h5; rfl
          rw [ka1] at hss0
          have h7 : ka = ss0 := by cases hss0; rfl
          rw [h6, ← h7] at hi
          obtain ⟨kk, hkk, kx⟩ := kx1.getV hi
          rw [List.getElem?_map, hev] at hkk
          have ekk : encT (gr one other evs) u ev = kk := Option.some.inj hkk
          subst ekk
          exact kx.up (Ts.of I4.same)
        clear kx
        unfold encT at kx4
        cases kx4 with
        | @tup b zs _ g1 g2 =>
        cases g2 with
        | @cons _ z1 _ _ g3 g4 =>
        cases g4 with
        | @cons _ z2 _ _ g5 g6 =>
        cases g6 with
        | @cons _ z3 _ _ g7 g8 =>
        cases g8
        have rn := Gr.Reach.step (I4.fi.reach u ((I4.dv.keys u).mp (List.mem_of_getElem? hu3))) hem
        refine ⟨b, _, rfl, SqT.of g1, rfl, _, _, rfl, _, _, rfl, _, _, rfl, rfl, ?_⟩
        refine ⟨z2, rfl, .ref d2, rfl, I4.dv.has g5 (S.depth rn) ⟨_, rfl, ?_⟩⟩
        have lw4 := I4.size S
        have lk4 : ws3.length = ks3.length := by rw [I4.ka.length, List.length_map]
        have huk3 : (ks3.map encP)[at_]? = some (encP u) := by rw [List.getElem?_map, hu3]; rfl
        cases hW : W3 ((gr one other evs).nxt u ev) with
        | some o =>
          refine ⟨ks3, W3, ws3, _, _, _, rfl, hu3, htk, I4, hc1, fun e he => ?_⟩
          rw [List.take_add_one, hev] at he
          rcases List.mem_append.mp he with h | h
          · exact hc2 e h
          · rw [List.mem_singleton.mp h, hW]
            simp
        | none =>
          refine ⟨.ref l, rfl, .int at_, rfl, ix_lst I4.ln I4.ka huk3 fun v4 hv4 kv4 => ⟨z1, rfl, (by show 2 ≤ sizeLine; decide), fun p hp => ?_⟩⟩
          have s5 : Same H4 (upd H4 p (.tup [v4, z1])) := same_new hp
          have dv5 := I4.dv.same mon_vW s5
          refine ⟨.ref d2, rfl, z2, rfl, dv5.set mon_vW (b := some (u, ev)) (g5.up (Ts.of s5)) (S.depth rn) (by omega) ?_ fun H6 t6 eφ6 dv6 => ?_⟩
          · exact KAt.tup upd_same ((KAts.cons kv4 (.cons g3 .nil)).up (Ts.of s5))
          · obtain ⟨φ6, eφ6⟩ := eφ6
            have hl6 : H6 l = some (.lst ws3) := by
              rw [eφ6, upd_ne (Ne.symm I4.ne)]
              exact s5 _ _ I4.ln
            have sam6 : Same H H6 := by
              rw [eφ6]
              exact same_upd (I4.same.trans s5) hd2
            refine ⟨.ref l, rfl, .inl ⟨rfl, _, SqL.of hl6⟩, z2, rfl, l, ws3, z2, rfl, rfl, hl6, lt_line (by omega), ?_⟩
            have t7 : Ts H6 (upd H6 l (.lst (ws3 ++ [z2]))) := Ts.upd hl6 fun _ z => nomatch z
            have hnk : (gr one other evs).nxt u ev ∉ ks3 := fun z => ((I4.dv.keys _).mp z) hW
            have eadd : addk ks3 ((gr one other evs).nxt u ev) = ks3 ++ [(gr one other evs).nxt u ev] := if_neg hnk
            have at3 : at_ < ks3.length := (List.getElem?_eq_some_iff.mp hu3).1
            rw [eadd] at dv6
            refine ⟨_, _, _, _, _, _, rfl, ?_, ?_, ⟨same_upd sam6 hl0, dv6.other mon_vW hl6 (fun _ z => nomatch z) I4.ne, I4.fi.add ((I4.dv.keys u).mp (List.mem_of_getElem? hu3)) hem hW, upd_same, ?_, I4.ne⟩, fun q hq e he => ?_, fun e he => ?_⟩
            · rw [List.getElem?_append_left at3]; exact hu3
            · rw [List.take_append_of_le_length (Nat.le_of_lt at3)]; exact htk
            · rw [List.map_append]
              exact ((I4.ka.up (Ts.of s5)).up (t6.trans t7)).append (.cons (((g5.up (Ts.of s5)).up t6).up t7) .nil)
            · rw [List.take_append_of_le_length (Nat.le_of_lt at3)] at hq
              by_cases z : (gr one other evs).nxt q e = (gr one other evs).nxt u ev
              · rw [z, put_same]; simp
              · rw [put_ne _ _ z]; exact hc1 q hq e he
            · by_cases z : (gr one other evs).nxt u e = (gr one other evs).nxt u ev
              · rw [z, put_same]; simp
              · rw [put_ne _ _ z]
                rw [List.take_add_one, hev] at he
                rcases List.mem_append.mp he with h | h
                · exact hc2 e h
                · rw [List.mem_singleton.mp h] at z
                  exact absurd rfl z
      · rintro σ H4 ⟨ks3, W3, ws3, e1, e2, e3, rfl, hu3, htk, I4, hc1, hc2⟩
        have lss := kss.length
        rw [List.length_map] at lss
        rw [lss, List.take_length] at hc2
        have at3 : at_ < ks3.length := (List.getElem?_eq_some_iff.mp hu3).1
        have lw4 := I4.size S
        refine ⟨_, rfl, _, _, rfl, rfl, L.length - (at_ + 1), by omega, at_ + 1, ks3, W3, ws3, _, _, _, rfl, rfl, at3, I4, fun q hq e he => ?_⟩
        rw [List.take_add_one, hu3] at hq
        rcases List.mem_append.mp hq with h | h
        · exact hc1 q h e he
        · rw [List.mem_singleton.mp h]
          exact hc2 e he
    · have eb : decide ((at_ : Int) < (ws.length : Int)) = false := decide_eq_false (by omega)
      rw [eb]
      refine ⟨_, rfl, k d2 ks2 W H' I.same hd2 I.dv I.fi fun v rv => ?_⟩
      refine rv.closed (D := fun v => W v ≠ none) I.fi.st fun q e hq he => hcl q ?_ e he
      rw [List.take_of_length_le (by omega)]
      exact (I.dv.keys q).mpr hq
end
end K49
set_option Elab.async false
set_option linter.all false
set_option maxRecDepth 100000
set_option maxHeartbeats 4000000
set_option autoImplicit false
/-! A thing in a loop; the climb. -/
namespace K49
open PySem PySem.Spec PyProof.Rows L2
local macro_rules | `(tactic| walk_at "rk") => `(tactic| first
  | exact rk_eqS ‹_› (by decide)
  | exact rk_ix ‹_› rfl
  | exact rk_inS2 ‹_› (by decide)
  | exact rk_ix ‹_› (at_nums (by assumption))
  | exact rk_modN ‹_› (by first | assumption | omega)
  | exact rk_addN ‹_›
  | exact rk_mul2 ‹_›
  | exact rk_addr1 ‹_›
  | exact rk_add1l ‹_›
  | exact rk_shl1 ‹_› (by omega)
  | exact rk_mulN ‹_› (by omega)
  | exact rk_shlN ‹_› (by omega) (by omega)
  | exact rk_addI ‹_›
  | exact rk_addT ‹_› (by first | decide | (simp only [List.length_append, List.length_cons, List.length_nil, List.length_take, List.length_drop] at *; omega))
  | exact rk_sub ‹_›
  | exact rk_neBl ‹_›
  | exact rk_eqI ‹_›
  | exact rk_neI ‹_›
  | exact rk_cmp ‹_›)
local macro_rules | `(tactic| walk_at "el") => `(tactic| first
  | exact el_nil ‹_›
  | (apply el_cons ‹_›; (focus walk_at "ek"); walk_at "el"))
local macro_rules | `(tactic| walk_at "eo") => `(tactic| first
  | exact eo_none ‹_›
  | (apply eo_some ‹_›; walk_at "ek"))
local macro_rules | `(tactic| walk_at "ek") => `(tactic| first
  | exact ek_var ‹_› rfl
  | exact ek_int ‹_›
  | exact ek_str ‹_›
  | exact ek_non ‹_›
  | exact ek_bl ‹_›
  | (apply ek_op ‹_›; (focus walk_at "ek"); (focus walk_at "ek"); walk_at "rk")
  | (apply ek_neg ‹_›; walk_at "ek")
  | (apply ek_slice ‹_›; (focus walk_at "ek"); (focus walk_at "eo"); walk_at "eo")
  | (apply ek_tup1 ‹_›; walk_at "ek")
  | (apply ek_tup2 ‹_›; (focus walk_at "ek"); walk_at "ek")
  | (apply ek_tup3 ‹_›; (focus walk_at "ek"); (focus walk_at "ek"); walk_at "ek"))
local macro_rules | `(tactic| walk_at "run") => `(tactic| first
  | (refine rs_ret ?_; walk_at "ek")
  | (refine rs_retS ?_; walk_at "ek")
  | (refine rs_yes ‹_› (eb_test ‹_› ?_) ?_; (focus walk_at "ek"); walk_at "run")
  | (refine rs_no ‹_› (eb_test ‹_› ?_) ?_; (focus walk_at "ek"); walk_at "run"))
/-- for i, x in enumerate(l) -/
theorem for_enum {K : PySem.W.Frag} {a : Addr} {xs : List V} {g : TG} {tb : L2.TS} {D : Ends} {σ : L2.St} {H : Hp} (Pv : Nat → L2.St → Hp → Prop) (h0 : Pv 0 σ H) (hl : ∀ i σ H, Pv i σ H → SqL K H a xs)
    (hs : ∀ (i : Nat) x σ H T, xs[i]? = some x → Pv i σ H → H T = none → g (.ref T) σ (upd H T (.tup [.int (i : Nat), x])) fun σ2 H2 => tb { D with nx := Pv (i + 1), ct := Pv (i + 1), bk := D.nx } σ2 H2) (hd : ∀ σ H, Pv xs.length σ H → D.nx σ H) :
    ∃ W : Nat → Nat → L2.St → Hp → Prop, (∃ m, W 0 m σ H) ∧ ∀ i m σ H, W i m σ H →
      ((Ite K a).stop i H ∧ D.nx σ H) ∨ ((Ite K a).go i H ∧ ∃ N : L2.St → Hp → Prop, (∀ σ' H', N σ' H' → ∃ m', m' < m ∧ W (i + 1) m' σ' H') ∧ ∀ x H', (Ite K a).yld i H x H' → g x σ H' fun σ2 H2 => tb { D with nx := N, ct := N, bk := D.nx } σ2 H2) := by
  refine ⟨fun i m σ H => m = xs.length - i ∧ i ≤ xs.length ∧ Pv i σ H, ⟨xs.length, by simp, Nat.zero_le _, h0⟩, ?_⟩
  rintro i m σ H ⟨rfl, hi, p⟩
  have q := hl i σ H p
  by_cases hlt : i < xs.length
  · refine .inr ⟨⟨xs, xs[i], q, List.getElem?_eq_getElem hlt⟩, Pv (i + 1), fun σ' H' p' => ⟨xs.length - (i + 1), by omega, rfl, hlt, p'⟩, ?_⟩
    rintro v H' ⟨T, x, rfl, hT, rfl, hx⟩
    exact hs i x σ H T (hx xs q) p hT
  · have e : i = xs.length := by omega
    subst e
    exact .inl ⟨⟨xs, q, Nat.le_refl _⟩, hd σ H p⟩
/-- how long the ways back are -/
def Lens (W : Wy) (seen : Pr → Option Nat) (i : Nat) (here : Pr) (n : Nat) : Prop := ∀ x, seen x = some i → ∃ es, es ≠ [] ∧ Anc W x here es ∧ es.length ≤ n
theorem Lens.step {W : Wy} {seen : Pr → Option Nat} {i n : Nat} {here p : Pr} {e : Evt} (I : Lens W seen i here n) (hp : W here = some (some (p, e))) : Lens W (put seen here i) i p (n + 1) := fun x h => by
  have one : Anc W here p [(p, e)] := Anc.step (es := []) hp (.refl p)
  by_cases q : x = here
  · subst q
    exact ⟨_, by simp, one, Nat.succ_le_succ (Nat.zero_le n)⟩
  · rw [put_ne _ _ q] at h
    obtain ⟨es, h1, h2, h3⟩ := I x h
    exact ⟨_, by simp, h2.up hp, Nat.succ_le_succ h3⟩
section
variable {P : Program} {w : World} {K : PySem.W.Frag} {mg : Str → Option Value} {base : Heap}
/-- a thing in a loop, or None -/
def spThing (P : Program) (w : World) : Sp := fun vs H Q _ => ∃ d l ks, ∃ W : Wy, ∃ ws, ∃ rs : List Pr, vs = [.ref d, .ref l] ∧ DV P w vW H d ks W ∧ H l = some (.lst ws) ∧ KAts H (rs.map encP) ws ∧ (∀ r ∈ rs, W r ≠ none) ∧ (∀ v p e, W v = some (some (p, e)) → W p ≠ none) ∧ ks.length ≤ 1000 ∧
  ∀ v H', Same H H' → ((v = .non ∧ ∀ r ∈ rs, Rooted W r) ∨ ∃ t es, KAt H' (encP t) v ∧ W t ≠ none ∧ es ≠ [] ∧ Anc W t t es ∧ es.length ≤ 1000) → Q v H'
theorem cal_thing_in_loop (F : TD K mg "thing_in_loop" s_thing_in_loop ["ways", "some"]) (B : Blt mg) : C8.Cal P w K mg base 1 "thing_in_loop" (spThing P w) [] := by
  refine cal_sp F sc_thing_in_loop (fun vs H Q E h => ?_) fun f cdv A outer s H0 E0 hr => ⟨_, (pss_cons (ps_set (i := 2) sc_thing_in_loop.nd rfl (Or.inl rfl) pe_nnew)
      (pss_cons (ps_for PassesOwn.never rfl (pi_enum (by rfl) B.enumerate (pa_cons (pv 1) pa_nil)) (pg_tup rfl (pgs_cons (pg_name (i := 3) sc_thing_in_loop.nd rfl (Or.inl rfl)) (pgs_cons (pg_name (i := 4) sc_thing_in_loop.nd rfl (Or.inl rfl)) pgs_nil))) (pss_cons (ps_set (i := 5) sc_thing_in_loop.nd rfl (Or.inl rfl) (pv 4))
      (pss_cons (ps_while PassesOwn.never (PW.pt (pw_and (pt_cmpR (op_notInU hr.units) (pv 5) (pv 2) (by rfl)) (pw_and1 (pt_cmpR op_notN (pe_ix (ix_U hr.units) (pv 0) (pv 5) (fun _ _ => rfl)) pe_non (nomark _))))) (pss_cons (ps_asg (pv 3) (pg_sub (pv 2) (pv 5) (set_U hr.units)))
      (pss_one (ps_set (i := 5) sc_thing_in_loop.nd rfl (Or.inl rfl) (pe_ix (ix_U hr.units) (pe_ix (ix_U hr.units) (pv 0) (pv 5) (fun _ _ => rfl)) pe_int (fun _ _ => rfl))))))
      (pss_one (ps_if (PW.pt (pw_and (pt_cmpR (op_inU hr.units) (pv 5) (pv 2) (by rfl)) (pw_and1 (pt_cmpR (op_eqU hr.units) (pe_ix (ix_U hr.units) (pv 2) (pv 5) (fun _ _ => rfl)) (pv 3) (nomark _))))) (pss_one (ps_ret (pv 5))) pss_nil)))))
      (pss_one (ps_ret pe_non)))), fun vs H Q E h => ?_⟩
  · obtain ⟨d, l, ks, W, ws, rs, rfl, _⟩ := h
    rfl
  · obtain ⟨d, l, ks, W, ws, rs, rfl, hd, hln, hka, hrs, hpar, hks, k⟩ := h
    refine fun d2 H1 hd2 eφ h0 => ?_
    obtain ⟨φ, eφ⟩ := eφ
    have s1 : Same H H1 := by
      rw [eφ]
      exact same_new hd2
    have lrs : ws.length = rs.length := by rw [hka.length, List.length_map]
    refine ⟨.ref l, rfl, l, ws, rfl, SqL.of (s1 _ _ hln), ?_⟩
    refine for_enum (K := K) (a := l) (xs := ws) (fun i σ H' => ∃ seen ksn v3 v4 v5, σ = [some (.ref d), some (.ref l), some (.ref d2), v3, v4, v5] ∧ Same H H' ∧ DV P w vN H' d2 ksn seen ∧ Turns W seen i ∧ ∀ r ∈ rs.take i, Rooted W r)
      ⟨_, [], _, _, _, rfl, s1, DV.empty h0, fun x t h => (nomatch h), fun r hr => (nomatch hr)⟩ (fun i σ H' ⟨_, _, _, _, _, _, s2, _⟩ => SqL.of (s2 _ _ hln)) ?_ ?_
    · rintro i x σ H' T hi ⟨seen, ksn, v3, v4, v5, rfl, s2, dn, hT, hroot⟩ hTn
      obtain ⟨kk, hkk, kx⟩ := hka.getV hi
      rw [List.getElem?_map] at hkk
      cases hr : rs[i]? with
      | none => rw [hr] at hkk; cases hkk
      | some thing =>
      rw [hr] at hkk
      have ekk : encP thing = kk := Option.some.inj hkk
      subst ekk
      have s3 : Same H' (upd H' T (.tup [.int (i : Nat), x])) := same_new hTn
      have hth := hrs thing (List.mem_of_getElem? hr)
      refine ⟨T, _, rfl, SqT.of upd_same, rfl, _, _, rfl, _, _, rfl, rfl, x, rfl, ?_⟩
      refine ⟨fun m σ H' => ∃ seen ksn here y5, σ = [some (.ref d), some (.ref l), some (.ref d2), some (.int (i : Nat)), some x, some y5] ∧ m = ks.length - ksn.length ∧ Same H H' ∧ DV P w vN H' d2 ksn seen ∧ Seek W seen i thing here ∧ Lens W seen i here ksn.length ∧ KAt H' (encP here) y5,
        ⟨_, seen, ksn, thing, x, rfl, rfl, s2.trans s3, dn.same mon_vN s3, Seek.start hT hth, fun x h => absurd (hT x i h).1 (Nat.lt_irrefl _), kx.up (Ts.of (s2.trans s3))⟩, ?_⟩
      clear seen ksn v3 v4 v5 dn hT s2 s3 hTn H'
      rintro m σ H' ⟨seen, ksn, here, y5, rfl, rfl, s2, dn, sk, ln, ky⟩
      have hd' := hd.same mon_vW s2
      have dep := hd.depth sk.hk
      have lks : ksn.length ≤ ks.length := nodup_le dn.nd fun x hx => by
        cases z : seen x with
        | none => exact absurd z ((dn.keys x).mp hx)
        | some t => exact (hd.keys x).mpr (sk.sk x t z)
      refine ⟨y5, rfl, .ref d2, rfl, dn.has ky dep ⟨_, rfl, ?_⟩⟩
      have nextTurn : ((∃ t, seen here = some t ∧ t ≠ i) ∨ W here = some none) → Turns W seen (i + 1) ∧ ∀ r ∈ rs.take (i + 1), Rooted W r := fun h => by
        obtain ⟨h1, h2⟩ := sk.go h
        refine ⟨h1, fun r hr2 => ?_⟩
        rw [List.take_add_one, hr] at hr2
        rcases List.mem_append.mp hr2 with z | z
        · exact hroot r z
        · rw [List.mem_singleton.mp z]
          exact h2
      cases hsn : seen here with
      | some t =>
        refine ⟨y5, rfl, .ref d2, rfl, dn.has ky dep ⟨_, rfl, ?_⟩⟩
        rw [hsn]
        refine ⟨.ref d2, rfl, y5, rfl, dn.at_ ky hsn fun v hv => ?_⟩
        have hv' : v = .int t := hv
        subst hv'
        refine ⟨_, rfl, .inl ⟨rfl, _, rfl, ?_⟩⟩
        by_cases ht : t = i
        · subst ht
          rw [decide_eq_true rfl]
          refine ⟨y5, rfl, ?_⟩
          obtain ⟨es, h1, h2, h3⟩ := ln here hsn
          exact k y5 H' s2 (.inr ⟨here, es, ky, sk.hk, h1, h2, by omega⟩)
        · rw [decide_eq_false (fun z => ht (by have := V.int.inj z; omega))]
          obtain ⟨h1, h2⟩ := nextTurn (.inl ⟨t, hsn, ht⟩)
          exact ⟨seen, ksn, _, _, _, rfl, s2, dn, h1, h2⟩
      | none =>
        cases hW : W here with
        | none => exact absurd hW sk.hk
        | some o =>
        cases o with
        | none =>
          refine ⟨.ref d, rfl, y5, rfl, hd'.at_ ky hW fun x hx => ⟨rfl, false, ?_, ?_⟩⟩
          · cases hx
            rfl
          · refine ⟨y5, rfl, .ref d2, rfl, dn.has ky dep ⟨_, rfl, ?_⟩⟩
            rw [hsn]
            obtain ⟨h1, h2⟩ := nextTurn (.inr hW)
            exact ⟨seen, ksn, _, _, _, rfl, s2, dn, h1, h2⟩
        | some o =>
          obtain ⟨p, e⟩ := o
          refine ⟨.ref d, rfl, y5, rfl, hd'.at_ ky hW fun x hx => ⟨rfl, true, ?_, ?_⟩⟩
          · cases hx
            rfl
          · refine ⟨_, fun _ _ h => h, ?_⟩
            have hnk : here ∉ ksn := fun z => ((dn.keys _).mp z) hsn
            have lks2 : ksn.length + 1 ≤ ks.length := by
              have := nodup_le (l := ksn ++ [here]) (m := ks) (List.nodup_append.mpr ⟨dn.nd, by simp, fun a ha b hb z => by
                rw [List.mem_singleton.mp hb] at z
                subst z
                exact hnk ha⟩) fun x hx => by
                rcases List.mem_append.mp hx with z | z
                · cases q : seen x with
                  | none => exact absurd q ((dn.keys x).mp z)
                  | some t => exact (hd.keys x).mpr (sk.sk x t q)
                · rw [List.mem_singleton.mp z]
                  exact (hd.keys here).mpr sk.hk
              rw [List.length_append] at this
              exact this
            refine ⟨_, rfl, .ref d2, rfl, y5, rfl, dn.set mon_vN (b := i) ky dep (by omega) rfl fun H6 t6 eφ6 dn6 => ?_⟩
            obtain ⟨φ6, eφ6⟩ := eφ6
            have s6 : Same H H6 := by
              rw [eφ6]
              exact same_upd s2 hd2
            rw [show addk ksn here = ksn ++ [here] from if_neg hnk] at dn6
            refine ⟨.ref d, rfl, y5, rfl, (hd.same mon_vW s6).at_ (ky.up t6) hW fun x2 hx2 => ?_⟩
            have hx2' : KAt H6 (.tup [encP p, encE e]) x2 := hx2
            cases hx2' with
            | @tup b zs _ g1 g2 =>
            cases g2 with
            | @cons _ z1 _ _ g3 g4 =>
            refine .inr (.inl ⟨b, _, 0, z1, rfl, rfl, SqT.of g1, atI_nat (j := 0) rfl, ?_⟩)
            refine ⟨ks.length - (ksn.length + 1), by omega, _, _, p, z1, rfl, ?_, s6, dn6, sk.step hW (hpar here p e hW), ?_, g3⟩
            · rw [List.length_append]; rfl
            · rw [List.length_append]
              exact ln.step hW
    · rintro σ H' ⟨seen, ksn, v3, v4, v5, rfl, s2, dn, hT, hroot⟩
      rw [lrs, List.take_length] at hroot
      exact k .non H' s2 (.inl ⟨rfl, hroot⟩)
end
end K49
set_option Elab.async false
set_option linter.all false
set_option maxRecDepth 100000
set_option maxHeartbeats 4000000
set_option autoImplicit false
/-! The climb. -/
namespace K49
open PySem PySem.Spec PyProof.Rows L2
local macro_rules | `(tactic| walk_at "rk") => `(tactic| first
  | exact rk_eqS ‹_› (by decide)
  | exact rk_ix ‹_› rfl
  | exact rk_inS2 ‹_› (by decide)
  | exact rk_ix ‹_› (at_nums (by assumption))
  | exact rk_modN ‹_› (by first | assumption | omega)
  | exact rk_addN ‹_›
  | exact rk_mul2 ‹_›
  | exact rk_addr1 ‹_›
  | exact rk_add1l ‹_›
  | exact rk_shl1 ‹_› (by omega)
  | exact rk_mulN ‹_› (by omega)
  | exact rk_shlN ‹_› (by omega) (by omega)
  | exact rk_addI ‹_›
  | exact rk_addT ‹_› (by first | decide | (simp only [List.length_append, List.length_cons, List.length_nil, List.length_take, List.length_drop] at *; omega))
  | exact rk_sub ‹_›
  | exact rk_neBl ‹_›
  | exact rk_eqI ‹_›
  | exact rk_neI ‹_›
  | exact rk_cmp ‹_›)
local macro_rules | `(tactic| walk_at "el") => `(tactic| first
  | exact el_nil ‹_›
  | (apply el_cons ‹_›; (focus walk_at "ek"); walk_at "el"))
local macro_rules | `(tactic| walk_at "eo") => `(tactic| first
  | exact eo_none ‹_›
  | (apply eo_some ‹_›; walk_at "ek"))
local macro_rules | `(tactic| walk_at "ek") => `(tactic| first
  | exact ek_var ‹_› rfl
  | exact ek_int ‹_›
  | exact ek_str ‹_›
  | exact ek_non ‹_›
  | exact ek_bl ‹_›
  | (apply ek_op ‹_›; (focus walk_at "ek"); (focus walk_at "ek"); walk_at "rk")
  | (apply ek_neg ‹_›; walk_at "ek")
  | (apply ek_slice ‹_›; (focus walk_at "ek"); (focus walk_at "eo"); walk_at "eo")
  | (apply ek_tup1 ‹_›; walk_at "ek")
  | (apply ek_tup2 ‹_›; (focus walk_at "ek"); walk_at "ek")
  | (apply ek_tup3 ‹_›; (focus walk_at "ek"); (focus walk_at "ek"); walk_at "ek"))
local macro_rules | `(tactic| walk_at "run") => `(tactic| first
  | (refine rs_ret ?_; walk_at "ek")
  | (refine rs_retS ?_; walk_at "ek")
  | (refine rs_yes ‹_› (eb_test ‹_› ?_) ?_; (focus walk_at "ek"); walk_at "run")
  | (refine rs_no ‹_› (eb_test ‹_› ?_) ?_; (focus walk_at "ek"); walk_at "run"))
abbrev Sm := Pr → Option Int
theorem isSome_ne {α : Type} {o : Option α} (h : o ≠ none) : o.isSome = true := by
  cases o with
  | none => exact absurd rfl h
  | some _ => rfl
section
variable {P : Program} {w : World} {K : PySem.W.Frag} {mg : Str → Option Value} {base : Heap}
/-- within a round -/
structure ClI (P : Program) (w : World) (one other : Gs) (evs : List Evt) (L : List Pr) (H0 H : Hp) (dS dW dR : Addr) (S0 : Sm) (W0 : Wy) (S : Sm) (W : Wy) (R : List Pr) : Prop where
  same : Same H0 H
  ds : ∃ ks, DV P w vI H dS ks S
  dw : ∃ ks, DV P w vW H dW ks W
  dr : ∃ f, DV P w vT H dR R f
  rd : Round (gr one other evs) (start2 one other) L S0 W0 S W R
  n1 : dS ≠ dW
  n2 : dS ≠ dR
  n3 : dW ≠ dR
  f1 : H0 dS = none
  f2 : H0 dW = none
  f3 : H0 dR = none
theorem ClI.next {one other : Gs} {evs : List Evt} {L : List Pr} {H0 H H' : Hp} {dS dW dR : Addr} {S0 S : Sm} {W0 W : Wy} {R : List Pr} (I : ClI P w one other evs L H0 H dS dW dR S0 W0 S W R) (e : Same H H') : ClI P w one other evs L H0 H' dS dW dR S0 W0 S W R :=
  ⟨I.same.trans e, let ⟨ks, h⟩ := I.ds; ⟨ks, h.same mon_vI e⟩, let ⟨ks, h⟩ := I.dw; ⟨ks, h.same mon_vW e⟩, let ⟨ks, h⟩ := I.dr; ⟨ks, h.same mon_vT e⟩, I.rd, I.n1, I.n2, I.n3, I.f1, I.f2, I.f3⟩
theorem ClI.size {one other : Gs} {evs : List Evt} {L : List Pr} {H0 H : Hp} {dS dW dR : Addr} {S0 S : Sm} {W0 W : Wy} {R : List Pr} (I : ClI P w one other evs L H0 H dS dW dR S0 W0 S W R) (T : Site one other evs L) {ks : List Pr} (hn : ks.Nodup) (h : ∀ v ∈ ks, S v ≠ none) : ks.length ≤ L.length :=
  T.clo.size hn fun v hv => by
    cases z : S v with
    | none => exact absurd z (h v hv)
    | some a => exact I.rd.inv.reach v a z
/-- what the climb gives -/
def ClimbEnd (one other : Gs) (evs : List Evt) (L : List Pr) (H : Hp) (S : Sm) (W : Wy) (v : V) : Prop :=
  (v = .non ∧ Head (gr one other evs) (start2 one other) L S W) ∨ ∃ t es, KAt H (encP t) v ∧ W t ≠ none ∧ es ≠ [] ∧ Anc W t t es ∧ es.length ≤ 1000
def spClimb (P : Program) (w : World) : Sp := fun vs H Q _ => ∃ d y ks f one other evs L, vs = [.ref d, y] ∧ Site one other evs L ∧ Stp P w one other evs H d ks f ∧ KAt H (encP (start2 one other)) y ∧
  ∀ T v dS dW ks1 ks2 H', ∀ S : Sm, ∀ W : Wy, Same H H' → H' T = some (.tup [.ref dS, .ref dW, v]) → DV P w vI H' dS ks1 S → DV P w vW H' dW ks2 W → CInv (gr one other evs) (start2 one other) L S W → ClimbEnd one other evs L H' S W v → Q (.ref T) H'
theorem cal_climbed (F : TD K mg "climbed" s_climbed ["steps", "start"]) (B : Blt mg) (c_thing_in_loop : C8.Cal P w K mg base 1 "thing_in_loop" (spThing P w) []) : C8.Cal P w K mg base 2 "climbed" (spClimb P w) [] := by
  refine cal_sp F sc_climbed (fun vs H Q E h => ?_) fun f cdv A outer s H0 E0 hr => ⟨_, (pss_cons (ps_set (i := 2) sc_climbed.nd rfl (Or.inl rfl) (pe_ndisp1 hr.units (pv 1) pe_int))
      (pss_cons (ps_set (i := 3) sc_climbed.nd rfl (Or.inl rfl) (pe_ndisp1 hr.units (pv 1) pe_non))
      (pss_cons (ps_set (i := 4) sc_climbed.nd rfl (Or.inl rfl) (pe_lst (pa_cons (pv 1) pa_nil)))
      (pss_cons (ps_while PassesOwn.never (pt_cmpR (op_neU hr.units) (pv 4) (pe_lst pa_nil) (nomark _)) (pss_cons (ps_set (i := 5) sc_climbed.nd rfl (Or.inl rfl) pe_nnew)
      (pss_cons (ps_for PassesOwn.never rfl (pi_list (pv 4)) (pg_name (i := 6) sc_climbed.nd rfl (Or.inl rfl)) (pss_one (ps_for PassesOwn.never rfl (pi_list (pe_ix (ix_U hr.units) (pv 0) (pv 6) (fun _ _ => rfl))) (pg_tup rfl (pgs_cons (pg_name (i := 8) sc_climbed.nd rfl (Or.inl rfl)) (pgs_cons (pg_name (i := 9) sc_climbed.nd rfl (Or.inl rfl)) (pgs_cons (pg_name (i := 10) sc_climbed.nd rfl (Or.inl rfl)) pgs_nil)))) (pss_one (ps_if (PW.pt (pw_or (pt_cmpR (op_notInU hr.units) (pv 9) (pv 2) (by rfl)) (pw_or1 (pt_cmpR op_lt (pe_ix (ix_U hr.units) (pv 2) (pv 9) (fun _ _ => rfl)) (pe_op op_addU (pe_ix (ix_U hr.units) (pv 2) (pv 6) (fun _ _ => rfl)) (pv 10)) (nomark _))))) (pss_cons (ps_asg (pe_op op_addU (pe_ix (ix_U hr.units) (pv 2) (pv 6) (fun _ _ => rfl)) (pv 10)) (pg_sub (pv 2) (pv 9) (set_U hr.units)))
      (pss_cons (ps_asg (pe_tup (pa_cons (pv 6) (pa_cons (pv 8) pa_nil))) (pg_sub (pv 3) (pv 9) (set_U hr.units)))
      (pss_one (ps_asg pe_bl (pg_sub (pv 5) (pv 9) (set_U hr.units)))))) pss_nil)))))
      (pss_cons (ps_set (i := 4) sc_climbed.nd rfl (Or.inl rfl) (pe_callTy (call_listU rfl) (by rfl) B.list (by decide +kernel) (pa_cons (pv 5) pa_nil)))
      (pss_cons (ps_set (i := 7) sc_climbed.nd rfl (Or.inl rfl) (C8.pe_c c_thing_in_loop hr (by first | decide | omega) (by rfl) (pa_cons (pv 3) (pa_cons (pv 4) pa_nil))))
      (pss_one (ps_if (pt_cmpR op_notN (pv 7) pe_non (nomark _)) (pss_one (ps_ret (pe_tup (pa_cons (pv 2) (pa_cons (pv 3) (pa_cons (pv 7) pa_nil)))))) pss_nil)))))))
      (pss_one (ps_ret (pe_tup (pa_cons (pv 2) (pa_cons (pv 3) (pa_cons pe_non pa_nil)))))))))), fun vs H Q E h => ?_⟩
  · obtain ⟨d, y, ks, f, one, other, evs, L, rfl, _⟩ := h
    rfl
  · obtain ⟨d, y, ks, f, one, other, evs, L, rfl, T, hs, hy, k⟩ := h
    have dep0 := T.depth (p := start2 one other) .base
    refine fun dS H1 hdS sa h0 => ?_
    refine ⟨y, rfl, DV.disp mon_vI (b := 0) h0 (hy.up (Ts.of sa)) dep0 rfl fun H2 t2 eφ dv2 => ?_⟩
    obtain ⟨φ, eφ⟩ := eφ
    have s2 : Same H H2 := by
      rw [eφ]
      exact same_upd sa hdS
    refine fun dW H3 hdW sb h3 => ?_
    refine ⟨y, rfl, DV.disp mon_vW (b := none) h3 (hy.up (Ts.of (s2.trans sb))) dep0 KAt.none fun H4 t4 eψ dv4 => ?_⟩
    obtain ⟨ψ, eψ⟩ := eψ
    have s4 : Same H2 H4 := by
      rw [eψ]
      exact same_upd sb hdW
    have n1 : dS ≠ dW := fun e => by
      subst e
      obtain ⟨_, z⟩ := dv2.obj
      rw [z] at hdW
      cases hdW
    have f2 : H dW = none := none_of_same s2 hdW
    refine ⟨y, rfl, (by show 1 ≤ sizeLine; decide), fun l hl => ?_⟩
    have s5 : Same H4 (upd H4 l (.lst [y])) := same_new hl
    have n4 : dS ≠ l := fun e => by
      subst e
      obtain ⟨_, z⟩ := dv2.obj
      have z4 := s4 _ _ z
      rw [hl] at z4
      cases z4
    have n5 : dW ≠ l := fun e => by
      subst e
      rw [eψ, upd_same] at hl
      cases hl
    refine ⟨fun m σ H' => ∃ S W ks1 ks2 rs lA ws e1 e2 e3 e4 e5 e6, σ = [some (.ref d), some y, some (.ref dS), some (.ref dW), some (.ref lA), e1, e2, e3, e4, e5, e6] ∧ m = 2 * meas L S + (if rs = [] then 0 else 1) ∧ Same H H' ∧ DV P w vI H' dS ks1 S ∧ DV P w vW H' dW ks2 W ∧ H' lA = some (.lst ws) ∧ KAts H' (rs.map encP) ws ∧
        Head (gr one other evs) (start2 one other) L S W ∧ ∀ r ∈ rs, S r ≠ none,
      ⟨_, _, _, _, _, [start2 one other], l, [y], _, _, _, _, _, _, rfl, rfl, s2.trans (s4.trans s5), (dv2.same mon_vI s4).same mon_vI s5, dv4.same mon_vW s5, upd_same, .cons (hy.up (Ts.of (s2.trans (s4.trans s5)))) .nil, head_start _ _ _ T.clo.st, fun r hr => ?_⟩, ?_⟩
    · rw [List.mem_singleton.mp hr, put_same]
      simp
    clear s5 n4 n5 hl l s4 dv4 eψ ψ t4 h3 sb hdW H4 H3 dv2 s2 eφ φ t2 h0 sa H2
    rintro m σ H' ⟨S, W, ks1, ks2, rs, lA, ws, e1, e2, e3, e4, e5, e6, rfl, rfl, s1, dv1, dv2, hlA, kl, hd, hrs⟩
    refine ⟨.ref lA, rfl, Nat.zero_le _, fun p0 hp0 => ?_⟩
    have sp : Same H' (upd H' p0 (.lst [])) := same_new hp0
    have hdep : ∀ k ∈ rs.map encP, k.depth ≤ 8 := fun k hk => by
      obtain ⟨r, hr, rfl⟩ := List.mem_map.mp hk
      exact dv1.depth (hrs r hr)
    obtain ⟨dd, ee, q1, q2, q3, q4, q5⟩ := list_nil (K := K) (a := lA) (b := p0) (sp _ _ hlA) (kl.up (Ts.of sp)) upd_same (leafys_map _ leafy_encP rs) (depthAll_le hdep)
    refine .inr ⟨dd, ee, q1, q2, q3, q4, ?_⟩
    have q6 : decide (rs.map encP = []) = decide (rs = []) := by
      simp
    rw [q5, q6]
    refine ⟨_, rfl, ?_⟩
    have s2 := s1.trans sp
    by_cases hn : rs = []
    · rw [decide_eq_true hn]
      refine ⟨.ref dS, rfl, .ref dW, rfl, (by show 3 ≤ sizeLine; decide), fun p hp => ?_⟩
      have s3 : Same (upd H' p0 (.lst [])) (upd (upd H' p0 (.lst [])) p (.tup [.ref dS, .ref dW, .non])) := same_new hp
      exact k p .non dS dW ks1 ks2 _ S W (s2.trans s3) upd_same ((dv1.same mon_vI sp).same mon_vI s3) ((dv2.same mon_vW sp).same mon_vW s3) hd.inv (.inl ⟨rfl, hd⟩)
    · rw [decide_eq_false hn]
      refine ⟨_, fun _ _ h => h, ?_⟩
      refine fun dR H6 hdR eφ hdn => ?_
      obtain ⟨φ, eφ⟩ := eφ
      have s6 : Same (upd H' p0 (.lst [])) H6 := by
        rw [eφ]
        exact same_new hdR
      have nR : ∀ {a : Addr} {o : HO}, (upd H' p0 (.lst [])) a = some o → a ≠ dR := fun {a o} z e => by
        subst e
        rw [hdR] at z
        cases z
      obtain ⟨φ1, ob1⟩ := dv1.obj
      obtain ⟨φ2, ob2⟩ := dv2.obj
      have m1 : dS ≠ dR := nR (sp _ _ ob1)
      have m2 : dW ≠ dR := nR (sp _ _ ob2)
      have m3 : lA ≠ dR := nR (sp _ _ hlA)
      have m4 : lA ≠ dS := fun e => by
        subst e
        rw [ob1] at hlA
        cases hlA
      have m5 : lA ≠ dW := fun e => by
        subst e
        rw [ob2] at hlA
        cases hlA
      have C0 : ClI P w one other evs L H H6 dS dW dR S W S W [] := ⟨s2.trans s6, ⟨ks1, (dv1.same mon_vI sp).same mon_vI s6⟩, ⟨ks2, (dv2.same mon_vW sp).same mon_vW s6⟩, ⟨_, DV.empty hdn⟩, .start hd.inv, n1, m1, m2, hdS, f2, none_of_same s2 hdR⟩
      have hlA6 : H6 lA = some (.lst ws) := s6 _ _ (sp _ _ hlA)
      refine ⟨.ref lA, rfl, lA, rfl, ⟨ws, SqL.of hlA6⟩, for_list (K := K) (a := lA) (xs := ws) (fun i σ H4 => ∃ S4 W4 R e3 e4 e5 e6 e7, σ = [some (.ref d), some y, some (.ref dS), some (.ref dW), some (.ref lA), some (.ref dR), e3, e4, e5, e6, e7] ∧ ClI P w one other evs L H H4 dS dW dR S W S4 W4 R ∧ H4 lA = some (.lst ws) ∧ Ts H6 H4)
        ⟨S, W, [], _, _, _, _, _, rfl, C0, hlA6, Ts.refl _⟩ (fun i σ H4 _ ⟨_, _, _, _, _, _, _, _, _, _, z, _⟩ => SqL.of z) ?_ ?_⟩
      · rintro i x σ H4 hi ⟨S4, W4, R, e3, e4, e5, e6, e7, rfl, C4, h4l, t4⟩
        obtain ⟨kk, hkk, kx⟩ := kl.getV hi
        rw [List.getElem?_map] at hkk
        cases hr : rs[i]? with
        | none => rw [hr] at hkk; cases hkk
        | some u =>
        rw [hr] at hkk
        have ekk : encP u = kk := Option.some.inj hkk
        subst ekk
        have hum := List.mem_of_getElem? hr
        have knownU : ∀ {S5 : Sm} {W5 : Wy} {R5 : List Pr}, Round (gr one other evs) (start2 one other) L S W S5 W5 R5 → ∃ b, S5 u = some b := fun {S5 W5 R5} r5 => by
          cases z : S u with
          | none => exact absurd z (hrs u hum)
          | some a =>
            obtain ⟨a', h, _⟩ := r5.le u a z
            exact ⟨a', h⟩
        obtain ⟨b0, hb0⟩ := knownU C4.rd
        have hfu0 := hs.all u (C4.rd.inv.reach u b0 hb0)
        cases hfu : f u with
        | none => exact absurd hfu hfu0
        | some al =>
        obtain ⟨ss, hss, kss⟩ := hs.ls u al hfu
        have kx4 : KAt H4 (encP u) x := kx.up ((Ts.of (sp.trans s6)).trans t4)
        refine ⟨.ref d, rfl, x, rfl, (hs.same C4.same).dv.at_ kx4 hfu fun x2 hx2 => ?_⟩
        have hx2' : x2 = .ref al := hx2
        subst hx2'
        refine ⟨al, rfl, ⟨ss, SqL.of (C4.same _ _ hss)⟩, for_list (K := K) (a := al) (xs := ss) (fun i σ H5 => ∃ S5 W5 R5 e4 e5 e6 e7, σ = [some (.ref d), some y, some (.ref dS), some (.ref dW), some (.ref lA), some (.ref dR), some x, e4, e5, e6, e7] ∧ ClI P w one other evs L H H5 dS dW dR S W S5 W5 R5 ∧ H5 lA = some (.lst ws) ∧ Ts H6 H5 ∧ KAt H5 (encP u) x)
          ⟨S4, W4, R, _, _, _, _, rfl, C4, h4l, t4, kx4⟩ (fun i σ H5 _ ⟨_, _, _, _, _, _, _, _, z, _⟩ => SqL.of (z.same _ _ hss)) ?_ ?_⟩
        · clear hkk hi kx4 t4 h4l C4 hb0 S4 W4 R hfu0
          rintro j x3 σ H5 hj ⟨S5, W5, R5, e4, e5, e6, e7, rfl, C5, h5l, t5, kx5⟩
          obtain ⟨kk, hkk, kx3⟩ := kss.getV hj
          rw [List.getElem?_map] at hkk
          cases hev : evs[j]? with
          | none => rw [hev] at hkk; cases hkk
          | some ev =>
          rw [hev] at hkk
          have ekk : encT (gr one other evs) u ev = kk := Option.some.inj hkk
          subst ekk
          have hem : ev ∈ evs := List.mem_of_getElem? hev
          have kx5' : KAt H5 (encT (gr one other evs) u ev) x3 := kx3.up (Ts.of C5.same)
          clear kx3
          unfold encT at kx5'
          obtain ⟨b, hb⟩ := knownU C5.rd
          have rn := Gr.Reach.step (C5.rd.inv.reach u b hb) hem
          have depn := T.depth rn
          obtain ⟨ka, dvS⟩ := C5.ds
          obtain ⟨kb, dvW⟩ := C5.dw
          obtain ⟨fR, dvR⟩ := C5.dr
          have szS : ka.length ≤ L.length := C5.size T dvS.nd fun v hv => (dvS.keys v).mp hv
          have szW : kb.length ≤ L.length := C5.size T dvW.nd fun v hv z => (dvW.keys v).mp hv ((C5.rd.inv.dom v).mp z)
          have szR : R5.length ≤ L.length := C5.size T dvR.nd fun v hv => by
            obtain ⟨a', h, _⟩ := C5.rd.lt v hv
            rw [h]
            simp
          have few := T.few
          cases kx5' with
          | @tup c zs _ g1 g2 =>
          cases g2 with
          | @cons _ z1 _ _ g3 g4 =>
          cases g4 with
          | @cons _ z2 _ _ g5 g6 =>
          cases g6 with
          | @cons _ z3 _ _ g7 g8 =>
          cases g8
          cases g7
          refine ⟨c, _, rfl, SqT.of g1, rfl, _, _, rfl, _, _, rfl, _, _, rfl, rfl, ?_⟩
          refine ⟨z2, rfl, .ref dS, rfl, dvS.has g5 depn ⟨_, rfl, ?_⟩⟩
          by_cases hSn : S5 ((gr one other evs).nxt u ev) = none
          rotate_left
          rw [isSome_ne hSn]
          obtain ⟨a, hSa⟩ := Option.ne_none_iff_exists'.mp hSn
          refine ⟨.ref dS, rfl, z2, rfl, dvS.at_ g5 hSa fun v hv => ⟨.ref dS, rfl, x, rfl, dvS.at_ kx5 hb fun v2 hv2 => ⟨_, rfl, .inl ⟨b, _, hv2, rfl, ⟨a, _, hv, rfl, _, rfl, ?_⟩⟩⟩⟩⟩
          by_cases hlt : a < b + (gr one other evs).wt u ev
          rotate_left
          · rw [decide_eq_false hlt]
            exact ⟨S5, W5, R5, _, _, _, _, rfl, C5, h5l, t5, kx5⟩
          rw [hSn]
          rotate_left
          rw [decide_eq_true hlt]
          all_goals
            have hcond : S5 ((gr one other evs).nxt u ev) = none ∨ ∃ a, S5 ((gr one other evs).nxt u ev) = some a ∧ a < b + (gr one other evs).wt u ev := by
              first
                | exact .inr ⟨_, ‹_›, ‹_›⟩
                | exact .inl ‹_›
            refine ⟨.ref dS, rfl, x, rfl, dvS.at_ kx5 hb fun v2 hv2 => ⟨_, rfl, .inl ⟨b, _, hv2, rfl, .ref dS, rfl, z2, rfl, dvS.set mon_vI (b := b + (gr one other evs).wt u ev) g5 depn (by omega) rfl fun H7 t7 eφ7 dvS7 => ?_⟩⟩⟩
            obtain ⟨φ7, rfl⟩ := eφ7
            obtain ⟨_, obS⟩ := dvS.obj
            have dvW7 := dvW.other (u := .ext φ7) mon_vW obS (fun _ z => nomatch z) (Ne.symm C5.n1)
            have dvR7 := dvR.other (u := .ext φ7) mon_vT obS (fun _ z => nomatch z) (Ne.symm C5.n2)
            have l7 : (upd H5 dS (.ext φ7)) lA = some (.lst ws) := by rw [upd_ne m4]; exact h5l
            refine ⟨x, rfl, z1, rfl, (by show 2 ≤ sizeLine; decide), fun p hp => ?_⟩
            have s8 : Same (upd H5 dS (.ext φ7)) (upd (upd H5 dS (.ext φ7)) p (.tup [x, z1])) := same_new hp
            have t8 := t7.trans (Ts.of s8)
            refine ⟨.ref dW, rfl, z2, rfl, (dvW7.same mon_vW s8).set mon_vW (b := some (u, ev)) (g5.up t8) depn (by omega) ?_ fun H9 t9 eφ9 dvW9 => ?_⟩
            · exact KAt.tup upd_same (.cons (kx5.up t8) (.cons (g3.up t8) .nil))
            obtain ⟨φ9, rfl⟩ := eφ9
            obtain ⟨_, obW⟩ := (dvW7.same mon_vW s8).obj
            have dvS9 := (dvS7.same mon_vI s8).other (u := .ext φ9) mon_vI obW (fun _ z => nomatch z) C5.n1
            have dvR9 := (dvR7.same mon_vT s8).other (u := .ext φ9) mon_vT obW (fun _ z => nomatch z) (Ne.symm C5.n3)
            have t9' := t8.trans t9
            refine ⟨.ref dR, rfl, z2, rfl, dvR9.set mon_vT (b := ()) (g5.up t9') depn (by omega) rfl fun H10 t10 eφ10 dvR10 => ?_⟩
            obtain ⟨φ10, rfl⟩ := eφ10
            obtain ⟨_, obR⟩ := dvR9.obj
            refine ⟨_, _, addk R5 ((gr one other evs).nxt u ev), _, _, _, _, rfl, ⟨same_upd (same_upd ((same_upd C5.same C5.f1).trans s8) C5.f2) C5.f3, ⟨_, dvS9.other mon_vI obR (fun _ z => nomatch z) C5.n2⟩, ⟨_, dvW9.other mon_vW obR (fun _ z => nomatch z) C5.n3⟩, ⟨_, dvR10⟩, C5.rd.relax T.clo T.unit hb hem hcond fun q => mem_addk, C5.n1, C5.n2, C5.n3, C5.f1, C5.f2, C5.f3⟩, ?_, t5.trans (t9'.trans t10), kx5.up (t9'.trans t10)⟩
            rw [upd_ne m3, upd_ne m5]
            exact s8 _ _ l7
        · rintro σ H5 ⟨S5, W5, R5, e4, e5, e6, e7, rfl, C5, h5l, t5, kx5⟩
          exact ⟨S5, W5, R5, _, _, _, _, _, rfl, C5, h5l, t5⟩
      · rintro σ H4 ⟨S4, W4, R, e3, e4, e5, e6, e7, rfl, C4, h4l, t4⟩
        obtain ⟨ka, dvS⟩ := C4.ds
        obtain ⟨kb, dvW⟩ := C4.dw
        obtain ⟨fR, dvR⟩ := C4.dr
        obtain ⟨kvs, hkv, ekv, lkv⟩ := dvR.kvs
        have knownR : ∀ v ∈ R, S4 v ≠ none := fun v hv => by
          obtain ⟨a', h, _⟩ := C4.rd.lt v hv
          rw [h]
          simp
        have szW : kb.length ≤ L.length := C4.size T dvW.nd fun v hv z => (dvW.keys v).mp hv ((C4.rd.inv.dom v).mp z)
        have few := T.few
        refine ⟨.ref dR, rfl, .inr ⟨dR, kvs, rfl, hkv.rd, fun p vs hp kv => ?_⟩⟩
        rw [ekv] at kv
        have s8 : Same H4 (upd H4 p (.lst vs)) := same_new hp
        refine ⟨.ref dW, rfl, .ref p, rfl, ⟨dW, p, kb, W4, vs, R, rfl, dvW.same mon_vW s8, upd_same, kv.up (Ts.of s8), fun r hr z => knownR r hr ((C4.rd.inv.dom r).mpr z), fun v q e h z => ?_, by omega, fun v H9 s9 hv => ?_⟩⟩
        · obtain ⟨_, b, _, hb, _⟩ := (C4.rd.inv.edge v q e h).2.2
          rw [(C4.rd.inv.dom q).mpr z] at hb
          cases hb
        · have dS9 := (dvS.same mon_vI s8).same mon_vI s9
          have dW9 := (dvW.same mon_vW s8).same mon_vW s9
          have sa := (C4.same.trans s8).trans s9
          rcases hv with ⟨rfl, hroot⟩ | ⟨t, es, kt, wt, hne, ha, hle⟩
          · refine ⟨.non, rfl, rfl, false, rfl, ?_⟩
            refine ⟨2 * meas L S4 + (if R = [] then 0 else 1), ?_, S4, W4, ka, kb, R, p, vs, _, _, _, _, _, _, rfl, rfl, sa, dS9, dW9, s9 _ _ upd_same, (kv.up (Ts.of s8)).up (Ts.of s9), C4.rd.head hd hroot, knownR⟩
            rw [if_neg hn]
            by_cases hR : R = []
            · rw [if_pos hR]
              have := meas_le C4.rd
              omega
            · rw [if_neg hR]
              have := meas_lt hd C4.rd T.clo T.unit hR
              omega
          · refine ⟨v, rfl, rfl, true, ?_, ?_⟩
            · have : v ≠ .non := fun e => by
                subst e
                cases kt
              rw [decide_eq_false this]
              rfl
            · refine ⟨.ref dS, rfl, .ref dW, rfl, v, rfl, (by show 3 ≤ sizeLine; decide), fun p2 hp2 => ?_⟩
              have s10 : Same H9 (upd H9 p2 (.tup [.ref dS, .ref dW, v])) := same_new hp2
              exact k p2 v dS dW _ _ _ S4 W4 (sa.trans s10) upd_same (dS9.same mon_vI s10) (dW9.same mon_vW s10) C4.rd.inv (.inr ⟨t, es, kt.up (Ts.of s10), wt, hne, ha, hle⟩)
end
end K49
set_option Elab.async false
set_option linter.all false
set_option maxRecDepth 100000
set_option maxHeartbeats 4000000
set_option autoImplicit false
/-! The dict of all steps. -/
namespace K49
open PySem PySem.Spec PyProof.Rows L2
local macro_rules | `(tactic| walk_at "rk") => `(tactic| first
  | exact rk_eqS ‹_› (by decide)
  | exact rk_ix ‹_› rfl
  | exact rk_inS2 ‹_› (by decide)
  | exact rk_ix ‹_› (at_nums (by assumption))
  | exact rk_modN ‹_› (by first | assumption | omega)
  | exact rk_addN ‹_›
  | exact rk_mul2 ‹_›
  | exact rk_addr1 ‹_›
  | exact rk_add1l ‹_›
  | exact rk_shl1 ‹_› (by omega)
  | exact rk_mulN ‹_› (by omega)
  | exact rk_shlN ‹_› (by omega) (by omega)
  | exact rk_addI ‹_›
  | exact rk_addT ‹_› (by first | decide | (simp only [List.length_append, List.length_cons, List.length_nil, List.length_take, List.length_drop] at *; omega))
  | exact rk_sub ‹_›
  | exact rk_neBl ‹_›
  | exact rk_eqI ‹_›
  | exact rk_neI ‹_›
  | exact rk_cmp ‹_›)
local macro_rules | `(tactic| walk_at "el") => `(tactic| first
  | exact el_nil ‹_›
  | (apply el_cons ‹_›; (focus walk_at "ek"); walk_at "el"))
local macro_rules | `(tactic| walk_at "eo") => `(tactic| first
  | exact eo_none ‹_›
  | (apply eo_some ‹_›; walk_at "ek"))
local macro_rules | `(tactic| walk_at "ek") => `(tactic| first
  | exact ek_var ‹_› rfl
  | exact ek_int ‹_›
  | exact ek_str ‹_›
  | exact ek_non ‹_›
  | exact ek_bl ‹_›
  | (apply ek_op ‹_›; (focus walk_at "ek"); (focus walk_at "ek"); walk_at "rk")
  | (apply ek_neg ‹_›; walk_at "ek")
  | (apply ek_slice ‹_›; (focus walk_at "ek"); (focus walk_at "eo"); walk_at "eo")
  | (apply ek_tup1 ‹_›; walk_at "ek")
  | (apply ek_tup2 ‹_›; (focus walk_at "ek"); walk_at "ek")
  | (apply ek_tup3 ‹_›; (focus walk_at "ek"); (focus walk_at "ek"); walk_at "ek"))
local macro_rules | `(tactic| walk_at "run") => `(tactic| first
  | (refine rs_ret ?_; walk_at "ek")
  | (refine rs_retS ?_; walk_at "ek")
  | (refine rs_yes ‹_› (eb_test ‹_› ?_) ?_; (focus walk_at "ek"); walk_at "run")
  | (refine rs_no ‹_› (eb_test ‹_› ?_) ?_; (focus walk_at "ek"); walk_at "run"))
section
variable {P : Program} {w : World} {K : PySem.W.Frag} {mg : Str → Option Value} {base : Heap}
def spSteps (P : Program) (w : World) (K : PySem.W.Frag) : Sp := fun vs H Q _ => ∃ x y a one other L, ∃ ps : List Nat, vs = [x, y, .ref a] ∧ KAt H (encG one) x ∧ KAt H (encG other) y ∧ SqL K H a (ps.map fun (p : Nat) => V.int (p : Int)) ∧ ps.length ≤ 100 ∧ Site one other (evsOf ps) L ∧
  ∀ d ks f H', Same H H' → Stp P w one other (evsOf ps) H' d ks f → Q (.ref d) H'
structure AsI (P : Program) (w : World) (one other : Gs) (evs : List Evt) (H0 H : Hp) (d l : Addr) (ks : List Pr) (f : Pr → Option Addr) (rs : List Pr) (ws : List V) : Prop where
  same : Same H0 H
  dv : DV P w vA H d ks f
  ln : H l = some (.lst ws)
  ka : KAts H (rs.map encP) ws
  rk : ∀ p ∈ ks, (gr one other evs).Reach (start2 one other) p
  rr : ∀ p ∈ rs, (gr one other evs).Reach (start2 one other) p
  dl : d ≠ l
  fd : H0 d = none
  fl : H0 l = none
  fr : ∀ p a, f p = some a → a ≠ d ∧ a ≠ l ∧ H0 a = none
def Lst (g : Gr Pr Evt) (H : Hp) (a : Addr) (p : Pr) (es : List Evt) : Prop := ∃ ws, H a = some (.lst ws) ∧ KAts H (es.map (encT g p)) ws
theorem Lst.up {g : Gr Pr Evt} {H H' : Hp} {a : Addr} {p : Pr} {es : List Evt} (h : Lst g H a p es) (t : Ts H H') (e : ∀ o, H a = some o → H' a = some o) : Lst g H' a p es := let ⟨ws, x, y⟩ := h; ⟨ws, e _ x, y.up t⟩
theorem okEv_of {ps : List Nat} {e : Evt} (h : e ∈ evsOf ps) : EvOk e := by
  obtain ⟨p, _, h⟩ := List.mem_flatMap.mp h
  show e.2 ≤ 1
  rcases List.mem_cons.mp h with e1 | h
  · rw [e1]; exact Nat.zero_le _
  · rw [List.mem_singleton.mp h]; exact Nat.le_refl _
theorem cal_all_steps (F : TD K mg "all_steps" s_all_steps ["one", "other", "places"]) (c_first_state : C8.Cal P w K mg base 4 "first_state" (spG (okFirst 3)) []) (c_events_at : C8.Cal P w K mg base 1 "events_at" (spEvents K) [])
    (c_pair_behind : C8.Cal P w K mg base 10 "pair_behind" (spG okPair) []) (c_difference : C8.Cal P w K mg base 10 "difference" (spG okDiff) []) : C8.Cal P w K mg base 11 "all_steps" (spSteps P w K) [] := by
  refine cal_sp F sc_all_steps (fun vs H Q E h => ?_) fun f0 cdv A outer s H0 E0 hr => ⟨_, (pss_cons (ps_set (i := 3) sc_all_steps.nd rfl (Or.inl rfl) pe_nnew)
      (pss_cons (ps_set (i := 4) sc_all_steps.nd rfl (Or.inl rfl) (pe_lst (pa_cons (pe_tup (pa_cons (C8.pe_c c_first_state hr (by first | decide | omega) (by rfl) (pa_cons (pv 0) pa_nil)) (pa_cons (C8.pe_c c_first_state hr (by first | decide | omega) (by rfl) (pa_cons (pv 1) pa_nil)) pa_nil))) pa_nil)))
      (pss_cons (ps_while PassesOwn.never (pt_cmpR (op_neU hr.units) (pv 4) (pe_lst pa_nil) (nomark _)) (pss_cons (ps_set (i := 5) sc_all_steps.nd rfl (Or.inl rfl) (pe_bm0 PySem.F.plainAttrs_list PySem.F.slot_list_pop PySem.F.type_list_pop mt_pop (pv 4)))
      (pss_one (ps_if (pt_cmpR (op_notInU hr.units) (pv 5) (pv 3) (by rfl)) (pss_cons (ps_asg (pe_lst pa_nil) (pg_sub (pv 3) (pv 5) (set_U hr.units)))
      (pss_one (ps_for PassesOwn.never rfl (pi_list (C8.pe_c c_events_at hr (by first | decide | omega) (by rfl) (pa_cons (pv 2) pa_nil))) (pg_name (i := 6) sc_all_steps.nd rfl (Or.inl rfl)) (pss_cons (ps_set (i := 7) sc_all_steps.nd rfl (Or.inl rfl) (C8.pe_c c_pair_behind hr (by first | decide | omega) (by rfl) (pa_cons (pv 0) (pa_cons (pv 1) (pa_cons (pv 5) (pa_cons (pv 6) pa_nil))))))
      (pss_cons (ps_expr (pe_bm PySem.F.plainAttrs_list PySem.F.slot_list_append PySem.F.type_list_append mt_append (pe_ix (ix_U hr.units) (pv 3) (pv 5) (fun _ _ => rfl)) (pa_cons (pe_tup (pa_cons (pv 6) (pa_cons (pv 7) (pa_cons (C8.pe_c c_difference hr (by first | decide | omega) (by rfl) (pa_cons (pv 0) (pa_cons (pv 1) (pa_cons (pv 5) (pa_cons (pv 6) pa_nil))))) pa_nil)))) pa_nil)))
      (pss_one (ps_expr (pe_bm PySem.F.plainAttrs_list PySem.F.slot_list_append PySem.F.type_list_append mt_append (pv 4) (pa_cons (pv 7) pa_nil))))))))) pss_nil))))
      (pss_one (ps_ret (pv 3)))))), fun vs H Q E h => ?_⟩
  · obtain ⟨x, y, a, one, other, L, ps, rfl, _⟩ := h
    rfl
  · obtain ⟨x, y, a, one, other, L, ps, rfl, kx, ky, ha, hl, T, k⟩ := h
    refine fun d H1 hd eφ h0 => ?_
    obtain ⟨φ, rfl⟩ := eφ
    have s1 : Same H (upd H d (.ext φ)) := same_new hd
    have V_ := evo_same
    have pk0 : (encP (start2 one other)) = .tup [encS (first one), encS (first other)] := rfl
    refine ⟨x, rfl, [.k (encG one)], Same, _, .cons (AAt.of (kx.up (Ts.of s1))) .nil, ⟨rfl, one, T.duo.ok1, T.duo.d1, rfl, rfl⟩, fun v1 dd1 H2 r2 k2 sd2 => ?_⟩
    subst sd2
    refine ⟨y, rfl, [.k (encG other)], Same, _, .cons (AAt.of (ky.up (Ts.of (s1.trans r2)))) .nil, ⟨rfl, other, T.duo.ok2, T.duo.d2, rfl, rfl⟩, fun v2 dd2 H3 r3 k3 sd3 => ?_⟩
    subst sd3
    refine ⟨(by show 2 ≤ sizeLine; decide), fun p hp => ⟨(by show 1 ≤ sizeLine; decide), fun l hl => ?_⟩⟩
    have s2 : Same (upd H d (.ext φ)) (upd H3 p (.tup [v1, v2])) := (r2.trans r3).trans (same_new hp)
    have k2' : KAt H2 (encS (first one)) v1 := k2
    have k3' : KAt H3 (encS (first other)) v2 := k3
    have k0 : KAt (upd H3 p (.tup [v1, v2])) (encP (start2 one other)) (.ref p) := KAt.tup upd_same (.cons ((k2'.up (Ts.of r3)).up (Ts.new hp)) (.cons (k3'.up (Ts.new hp)) .nil))
    generalize upd H3 p (.tup [v1, v2]) = H2 at *
    have s3 : Same H2 (upd H2 l (.lst [.ref p])) := same_new hl
    have dv0 : DV P w vA (upd H d (.ext φ)) d [] (fun _ => none) := DV.empty h0
    have hdl : d ≠ l := fun e => by
      subst e
      rw [s2 _ _ upd_same] at hl
      cases hl
    have I0 : AsI P w one other (evsOf ps) H (upd H2 l (.lst [.ref p])) d l [] (fun _ => none) [start2 one other] [.ref p] :=
      ⟨s1.trans (s2.trans s3), (dv0.same mon_vA s2).same mon_vA s3, upd_same, .cons (k0.up (Ts.new hl)) .nil, fun p hp => (nomatch hp), fun p hp => (by rw [List.mem_singleton.mp hp]; exact .base), hdl, hd, none_of_same (s1.trans s2) hl, fun p a e => (nomatch e)⟩
    refine ⟨fun m σ H' => ∃ ks f rs ws e1 e2 e3, σ = [some x, some y, some (.ref a), some (.ref d), some (.ref l), e1, e2, e3] ∧ m = (L.length - ks.length) * ((evsOf ps).length + 1) + rs.length ∧ AsI P w one other (evsOf ps) H H' d l ks f rs ws ∧
        (∀ p q, f p = some q → Lst (gr one other (evsOf ps)) H' q p (evsOf ps)) ∧ rs.length ≤ 1 + ks.length * (evsOf ps).length ∧ (start2 one other ∈ ks ∨ start2 one other ∈ rs) ∧ (∀ p ∈ ks, ∀ e ∈ evsOf ps, (gr one other (evsOf ps)).nxt p e ∈ ks ∨ (gr one other (evsOf ps)).nxt p e ∈ rs),
      ⟨_, [], _, [start2 one other], [.ref p], _, _, _, rfl, rfl, I0, fun p q e => (nomatch e), by simp, .inr List.mem_cons_self, fun p hp => (nomatch hp)⟩, ?_⟩
    clear I0 hdl dv0 s3 hl k0 s2 s1 h0 hd
    rintro m σ H' ⟨ks, f, rs, ws, e1, e2, e3, rfl, rfl, I, hls, hrl, hst, hcl⟩
    refine ⟨.ref l, rfl, Nat.zero_le _, fun p0 hp0 => ?_⟩
    have sp : Same H' (upd H' p0 (.lst [])) := same_new hp0
    have hdep : ∀ k ∈ rs.map encP, k.depth ≤ 8 := fun k hk => by
      obtain ⟨r, hr, rfl⟩ := List.mem_map.mp hk
      exact T.depth (I.rr r hr)
    obtain ⟨dd, ee, q1, q2, q3, q4, q5⟩ := list_nil (K := K) (a := l) (b := p0) (sp _ _ I.ln) (I.ka.up (Ts.of sp)) upd_same (leafys_map _ leafy_encP rs) (depthAll_le hdep)
    refine .inr ⟨dd, ee, q1, q2, q3, q4, ?_⟩
    have q6 : decide (rs.map encP = []) = decide (rs = []) := by simp
    rw [q5, q6]
    refine ⟨_, rfl, ?_⟩
    have lks : ks.length ≤ L.length := T.clo.size I.dv.nd I.rk
    have few := T.few
    have fewE := T.fewE
    have lrs := I.ka.length
    rw [List.length_map] at lrs
    by_cases hn : rs = []
    · rw [decide_eq_true hn]
      subst hn
      refine ⟨.ref d, rfl, k d ks f _ (I.same.trans sp) ⟨I.dv.same mon_vA sp, fun p q e => (hls p q e).up (Ts.of sp) fun o z => sp _ _ z, fun p rp => ?_⟩⟩
      have all : ∀ p, (gr one other (evsOf ps)).Reach (start2 one other) p → p ∈ ks := fun p rp => rp.closed (hst.elim id fun z => (nomatch z)) fun v e hv he => (hcl v hv e he).elim id fun z => (nomatch z)
      exact (I.dv.keys p).mp (all p rp)
    · rw [decide_eq_false hn]
      refine ⟨_, fun _ _ h => h, ?_⟩
      obtain ⟨u, hu⟩ : ∃ u, rs[rs.length - 1]? = some u := by
        cases rs with
        | nil => exact absurd rfl hn
        | cons r t => exact ⟨_, List.getElem?_eq_getElem (Nat.lt_succ_self _)⟩
      have hum := List.mem_of_getElem? hu
      have hdl2 : ∀ q ∈ rs, q ∈ rs.dropLast ∨ q = u := fun q hq => by
        have e := List.dropLast_concat_getLast hn
        rw [← e] at hq
        rcases List.mem_append.mp hq with z | z
        · exact .inl z
        · refine .inr ?_
          rw [List.mem_singleton.mp z]
          rw [List.getLast_eq_getElem]
          rw [List.getElem?_eq_getElem (by cases rs with | nil => exact absurd rfl hn | cons _ _ => exact Nat.lt_succ_self _)] at hu
          exact Option.some.inj hu
      have hdm : ∀ q ∈ rs.dropLast, q ∈ rs := fun q hq => (List.dropLast_sublist rs).subset hq
      obtain ⟨yu, hyu, kyu⟩ := I.ka.get (i := rs.length - 1) (k := encP u) (by rw [List.getElem?_map, hu]; rfl)
      have kdl : KAts H' (rs.dropLast.map encP) ws.dropLast := by
        rw [List.dropLast_eq_take, List.dropLast_eq_take, lrs, List.map_take]
        exact I.ka.take _
      have ln1 := sp _ _ I.ln
      have t1 : Ts (upd H' p0 (.lst [])) (upd (upd H' p0 (.lst [])) l (.lst ws.dropLast)) := Ts.upd ln1 fun _ z => nomatch z
      have t1' := (Ts.of sp).trans t1
      refine ⟨.ref l, rfl, .inl ⟨rfl, _, SqL.of ln1⟩, l, ws, yu, rfl, rfl, ln1, by rw [lrs]; exact hyu, ?_⟩
      have I1 : AsI P w one other (evsOf ps) H (upd (upd H' p0 (.lst [])) l (.lst ws.dropLast)) d l ks f rs.dropLast ws.dropLast :=
        ⟨same_upd (I.same.trans sp) I.fl, (I.dv.same mon_vA sp).other mon_vA ln1 (fun _ z => nomatch z) I.dl, upd_same, kdl.up t1', I.rk, fun p hp => I.rr p (hdm p hp), I.dl, I.fd, I.fl, I.fr⟩
      have hls1 : ∀ p q, f p = some q → Lst (gr one other (evsOf ps)) (upd (upd H' p0 (.lst [])) l (.lst ws.dropLast)) q p (evsOf ps) := fun p q e => (hls p q e).up t1' fun o z => by
        rw [upd_ne (I.fr p q e).2.1]
        exact sp _ _ z
      have kyu1 := kyu.up t1'
      have ldr : rs.dropLast.length = rs.length - 1 := List.length_dropLast
      have prs : 0 < rs.length := List.length_pos_iff.mpr hn
      generalize (upd (upd H' p0 (.lst [])) l (.lst ws.dropLast)) = H5 at *
      have ru := I.rr u hum
      have depu := T.depth ru
      refine ⟨yu, rfl, .ref d, rfl, I1.dv.has kyu1 depu ⟨_, rfl, ?_⟩⟩
      cases hfu : f u with
      | some a0 =>
        have huk : u ∈ ks := (I.dv.keys u).mpr (by rw [hfu]; simp)
        refine ⟨_, ?_, ks, f, rs.dropLast, ws.dropLast, _, _, _, rfl, rfl, I1, hls1, by omega, ?_, fun p hp e he => ?_⟩
        · omega
        · rcases hst with z | z
          · exact .inl z
          · rcases hdl2 _ z with z | z
            · exact .inr z
            · rw [z]; exact .inl huk
        · rcases hcl p hp e he with z | z
          · exact .inl z
          · rcases hdl2 _ z with z | z
            · exact .inr z
            · rw [z]; exact .inl huk
      | none =>
        have hnk : u ∉ ks := fun z => ((I.dv.keys _).mp z) hfu
        have lks2 : ks.length + 1 ≤ L.length := by
          have := T.clo.size (l := ks ++ [u]) (List.nodup_append.mpr ⟨I.dv.nd, by simp, fun a ha b hb z => by
            rw [List.mem_singleton.mp hb] at z
            subst z
            exact hnk ha⟩) fun x hx => by
            rcases List.mem_append.mp hx with z | z
            · exact I.rk x z
            · rw [List.mem_singleton.mp z]
              exact ru
          rw [List.length_append] at this
          exact this
        refine ⟨Nat.zero_le _, fun aL haL => ?_⟩
        have s6 : Same H5 (upd H5 aL (.lst [])) := same_new haL
        refine ⟨.ref d, rfl, yu, rfl, (I1.dv.same mon_vA s6).set mon_vA (b := aL) (kyu1.up (Ts.of s6)) depu (by omega) rfl fun H7 t7 eφ dv7 => ?_⟩
        obtain ⟨φ7, rfl⟩ := eφ
        rw [show addk ks u = ks ++ [u] from if_neg hnk] at dv7
        obtain ⟨_, obd⟩ := (I1.dv.same mon_vA s6).obj
        obtain ⟨_, obd5⟩ := I1.dv.obj
        have hne1 : aL ≠ d := fun e => by
          subst e
          rw [obd5] at haL
          cases haL
        have hne2 : aL ≠ l := fun e => by
          subst e
          rw [I1.ln] at haL
          cases haL
        have hne3 : ∀ p q, f p = some q → q ≠ aL := fun p q e z => by
          subst z
          obtain ⟨_, z, _⟩ := hls1 p q e
          rw [z] at haL
          cases haL
        have I7 : AsI P w one other (evsOf ps) H (upd (upd H5 aL (.lst [])) d (.ext φ7)) d l (ks ++ [u]) (put f u aL) rs.dropLast ws.dropLast :=
          ⟨same_upd (I1.same.trans s6) I.fd, dv7, (by rw [upd_ne (Ne.symm I.dl)]; exact s6 _ _ I1.ln), I1.ka.up ((Ts.of s6).trans t7), fun p hp => by
            rcases List.mem_append.mp hp with z | z
            · exact I.rk p z
            · rw [List.mem_singleton.mp z]; exact ru, I1.rr, I.dl, I.fd, I.fl, fun p q e => by
            by_cases z : p = u
            · subst z
              rw [put_same] at e
              cases e
              exact ⟨hne1, hne2, none_of_same I1.same haL⟩
            · rw [put_ne _ _ z] at e
              exact I.fr p q e⟩
        have haL7 : (upd (upd H5 aL (.lst [])) d (.ext φ7)) aL = some (.lst []) := by
          rw [upd_ne hne1]
          exact upd_same
        have hls7 : ∀ p q, f p = some q → Lst (gr one other (evsOf ps)) (upd (upd H5 aL (.lst [])) d (.ext φ7)) q p (evsOf ps) := fun p q e => (hls1 p q e).up ((Ts.of s6).trans t7) fun o z => by
          rw [upd_ne (I.fr p q e).1]
          exact s6 _ _ z
        have kyu7 := kyu1.up ((Ts.of s6).trans t7)
        generalize (upd (upd H5 aL (.lst [])) d (.ext φ7)) = H7 at *
        refine ⟨.ref a, rfl, a, ps, rfl, I7.same.seq ha, by omega, fun Le wse H8 s8 hLe hLe2 kae => ?_⟩
        have hLd : Le ≠ d := fun e => by
          subst e
          obtain ⟨_, z⟩ := I7.dv.obj
          rw [z] at hLe
          cases hLe
        have hLl : Le ≠ l := fun e => by
          subst e
          rw [I7.ln] at hLe
          cases hLe
        have hLa : Le ≠ aL := fun e => by
          subst e
          rw [haL7] at hLe
          cases hLe
        have haH : H aL = none := (I7.fr u aL (put_same _ _ _)).2.2
        refine ⟨Le, rfl, ⟨wse, SqL.of hLe2⟩, for_list (K := K) (a := Le) (xs := wse) (fun i σ H9 => ∃ rws e2 e3, σ = [some x, some y, some (.ref a), some (.ref d), some (.ref l), some yu, e2, e3] ∧
            AsI P w one other (evsOf ps) H H9 d l (ks ++ [u]) (put f u aL) (rs.dropLast ++ ((evsOf ps).take i).map ((gr one other (evsOf ps)).nxt u)) rws ∧ Lst (gr one other (evsOf ps)) H9 aL u ((evsOf ps).take i) ∧
            (∀ p q, f p = some q → Lst (gr one other (evsOf ps)) H9 q p (evsOf ps)) ∧ H9 Le = some (.lst wse) ∧ Ts H8 H9)
          ⟨ws.dropLast, _, _, rfl, ⟨I7.same.trans s8, I7.dv.same mon_vA s8, s8 _ _ I7.ln, ?_, I7.rk, ?_, I.dl, I.fd, I.fl, I7.fr⟩, ⟨[], s8 _ _ haL7, .nil⟩, fun p q e => (hls7 p q e).up (Ts.of s8) fun o z => s8 _ _ z, hLe2, Ts.refl _⟩ (fun i σ H9 _ ⟨_, _, _, _, _, _, _, z, _⟩ => SqL.of z) ?_ ?_⟩
        · rw [List.take_zero, List.map_nil, List.append_nil]
          exact I7.ka.up (Ts.of s8)
        · rw [List.take_zero, List.map_nil, List.append_nil]
          exact I7.rr
        · rintro j xe σ H9 hj ⟨rws, e2, e3, rfl, I9, hu9, hls9, hLe9, t9⟩
          obtain ⟨kk, hkk, kx0⟩ := kae.getV hj
          rw [List.getElem?_map] at hkk
          cases hev : (evsOf ps)[j]? with
          | none => rw [hev] at hkk; cases hkk
          | some ev =>
          rw [hev] at hkk
          have ekk : encE ev = kk := Option.some.inj hkk
          subst ekk
          have hem : ev ∈ evsOf ps := List.mem_of_getElem? hev
          have kxe := kx0.up t9
          have kyu9 := (kyu7.up (Ts.of s8)).up t9
          refine ⟨x, rfl, y, rfl, yu, rfl, xe, rfl, [.k (encG one), .k (encG other), .k (encP u), .k (encE ev)], Same, _, .cons (AAt.of (kx.up (Ts.of I9.same))) (.cons (AAt.of (ky.up (Ts.of I9.same))) (.cons (AAt.of kyu9) (.cons (AAt.of kxe) .nil))), ⟨rfl, one, other, u, ev, T.duo, T.reach ru, okEv_of hem, rfl, rfl⟩, fun vt dd3 H10 s10 kt sd => ?_⟩
          subst sd
          have kt' : KAt H10 (encP ((gr one other (evsOf ps)).nxt u ev)) vt := kt
          refine ⟨.ref d, rfl, yu, rfl, (I9.dv.same mon_vA s10).at_ (kyu9.up (Ts.of s10)) (put_same _ _ _) fun x2 hx2 => ?_⟩
          have hx2' : x2 = .ref aL := hx2
          subst hx2'
          obtain ⟨wsu, hwu, kwu⟩ := hu9
          have hwu10 := s10 _ _ hwu
          have s910 := I9.same.trans s10
          refine ⟨.inl ⟨rfl, _, SqL.of hwu10⟩, xe, rfl, vt, rfl, x, rfl, y, rfl, yu, rfl, xe, rfl, [.k (encG one), .k (encG other), .k (encP u), .k (encE ev)], Same, _, .cons (AAt.of (kx.up (Ts.of s910))) (.cons (AAt.of (ky.up (Ts.of s910))) (.cons (AAt.of (kyu9.up (Ts.of s10))) (.cons (AAt.of (kxe.up (Ts.of s10))) .nil))), ⟨rfl, one, other, u, ev, T.duo, T.reach ru, okEv_of hem, rfl, rfl⟩, fun vd dd4 H11 s11 kd sd => ?_⟩
          subst sd
          have kd' : KAt H11 (.num ((gr one other (evsOf ps)).wt u ev)) vd := kd
          refine ⟨(by show 3 ≤ sizeLine; decide), fun p hp => ?_⟩
          have s12 : Same H11 (upd H11 p (.tup [xe, vt, vd])) := same_new hp
          have s912 := s10.trans (s11.trans s12)
          have k12 : KAt (upd H11 p (.tup [xe, vt, vd])) (encT (gr one other (evsOf ps)) u ev) (.ref p) := KAt.tup upd_same (.cons (kxe.up (Ts.of s912)) (.cons (kt'.up (Ts.of (s11.trans s12))) (.cons (kd'.up (Ts.of s12)) .nil)))
          generalize (upd H11 p (.tup [xe, vt, vd])) = H12 at *
          have lwu := kwu.length
          rw [List.length_map, List.length_take] at lwu
          refine ⟨aL, wsu, .ref p, rfl, rfl, s912 _ _ hwu, lt_line (by omega), ?_⟩
          have t13 : Ts H12 (upd H12 aL (.lst (wsu ++ [.ref p]))) := Ts.upd (s912 _ _ hwu) fun _ z => nomatch z
          have ln13 : (upd H12 aL (.lst (wsu ++ [.ref p]))) l = some (.lst rws) := by
            rw [upd_ne (Ne.symm hne2)]
            exact s912 _ _ I9.ln
          have lrw := I9.ka.length
          rw [List.length_map, List.length_append, List.length_map, List.length_take] at lrw
          have hmul : ks.length * (evsOf ps).length ≤ 200 * 200 := Nat.mul_le_mul (by omega) fewE
          refine ⟨.ref l, rfl, .inl ⟨rfl, _, SqL.of ln13⟩, vt, rfl, l, rws, vt, rfl, rfl, ln13, lt_line (by omega), ?_⟩
          have t14 : Ts (upd H12 aL (.lst (wsu ++ [.ref p]))) (upd (upd H12 aL (.lst (wsu ++ [.ref p]))) l (.lst (rws ++ [vt]))) := Ts.upd ln13 fun _ z => nomatch z
          have tall : Ts H9 (upd (upd H12 aL (.lst (wsu ++ [.ref p]))) l (.lst (rws ++ [vt]))) := (Ts.of s912).trans (t13.trans t14)
          have etake : (evsOf ps).take (j + 1) = (evsOf ps).take j ++ [ev] := by rw [List.take_add_one, hev]; rfl
          have em : ((evsOf ps).take (j + 1)).map ((gr one other (evsOf ps)).nxt u) = ((evsOf ps).take j).map ((gr one other (evsOf ps)).nxt u) ++ [(gr one other (evsOf ps)).nxt u ev] := by
            rw [etake, List.map_append]
            rfl
          refine ⟨_, _, _, rfl, ⟨same_upd (same_upd (I9.same.trans s912) haH) I.fl, ((I9.dv.same mon_vA s912).other mon_vA (s912 _ _ hwu) (fun _ z => nomatch z) (Ne.symm hne1)).other mon_vA ln13 (fun _ z => nomatch z) I.dl, upd_same, ?_, I9.rk, ?_, I.dl, I.fd, I.fl, I9.fr⟩, ⟨wsu ++ [.ref p], ?_, ?_⟩, fun p2 q e => (hls9 p2 q e).up tall fun o z => ?_, ?_, t9.trans tall⟩
          · rw [em, ← List.append_assoc, List.map_append]
            exact (I9.ka.up tall).append (.cons (kt'.up ((Ts.of (s11.trans s12)).trans (t13.trans t14))) .nil)
          · intro q hq
            rw [em, ← List.append_assoc] at hq
            rcases List.mem_append.mp hq with z | z
            · exact I9.rr q z
            · rw [List.mem_singleton.mp z]
              exact .step ru hem
          · rw [upd_ne hne2]
            exact upd_same
          · rw [etake, List.map_append]
            exact (kwu.up tall).append (.cons (k12.up (t13.trans t14)) .nil)
          · rw [upd_ne (I.fr p2 q e).2.1, upd_ne (hne3 p2 q e)]
            exact s912 _ _ z
          · rw [upd_ne hLl, upd_ne hLa]
            exact s912 _ _ hLe9
        · rintro σ H9 ⟨rws, e2, e3, rfl, I9, hu9, hls9, hLe9, t9⟩
          have lwe := kae.length
          rw [List.length_map] at lwe
          rw [lwe, List.take_length] at I9 hu9
          have lkk : (ks ++ [u]).length = ks.length + 1 := List.length_append
          have lrr : (rs.dropLast ++ (evsOf ps).map ((gr one other (evsOf ps)).nxt u)).length = rs.length - 1 + (evsOf ps).length := by
            rw [List.length_append, List.length_map, ldr]
          have hm1 : (L.length - ks.length) * ((evsOf ps).length + 1) = (L.length - (ks.length + 1)) * ((evsOf ps).length + 1) + ((evsOf ps).length + 1) := by
            rw [show L.length - ks.length = (L.length - (ks.length + 1)) + 1 by omega, Nat.add_mul, Nat.one_mul]
          have hm2 : (ks.length + 1) * (evsOf ps).length = ks.length * (evsOf ps).length + (evsOf ps).length := by
            rw [Nat.add_mul, Nat.one_mul]
          refine ⟨_, ?_, ks ++ [u], put f u aL, _, rws, _, _, _, rfl, rfl, I9, fun p q e => ?_, ?_, ?_, fun p hp e he => ?_⟩
          · rw [lkk, lrr, hm1]
            omega
          · by_cases z : p = u
            · subst z
              rw [put_same] at e
              cases e
              exact hu9
            · rw [put_ne _ _ z] at e
              exact hls9 p q e
          · rw [lkk, lrr, hm2]
            omega
          · rcases hst with z | z
            · exact .inl (List.mem_append.mpr (.inl z))
            · rcases hdl2 _ z with z | z
              · exact .inr (List.mem_append.mpr (.inl z))
              · rw [z]; exact .inl (List.mem_append.mpr (.inr (List.mem_singleton.mpr rfl)))
          · rcases List.mem_append.mp hp with hp | hp
            · rcases hcl p hp e he with z | z
              · exact .inl (List.mem_append.mpr (.inl z))
              · rcases hdl2 _ z with z | z
                · exact .inr (List.mem_append.mpr (.inl z))
                · rw [z]; exact .inl (List.mem_append.mpr (.inr (List.mem_singleton.mpr rfl)))
            · rw [List.mem_singleton.mp hp]
              exact .inr (List.mem_append.mpr (.inr (List.mem_map_of_mem he)))
end
end K49
set_option Elab.async false
set_option linter.all false
set_option maxRecDepth 100000
set_option maxHeartbeats 4000000
set_option autoImplicit false
/-! ahead_by. -/
namespace K49
open PySem PySem.Spec PyProof.Rows L2
local macro_rules | `(tactic| walk_at "rk") => `(tactic| first
  | exact rk_eqS ‹_› (by decide)
  | exact rk_ix ‹_› rfl
  | exact rk_inS2 ‹_› (by decide)
  | exact rk_ix ‹_› (at_nums (by assumption))
  | exact rk_modN ‹_› (by first | assumption | omega)
  | exact rk_addN ‹_›
  | exact rk_mul2 ‹_›
  | exact rk_addr1 ‹_›
  | exact rk_add1l ‹_›
  | exact rk_shl1 ‹_› (by omega)
  | exact rk_mulN ‹_› (by omega)
  | exact rk_shlN ‹_› (by omega) (by omega)
  | exact rk_addI ‹_›
  | exact rk_addT ‹_› (by first | decide | (simp only [List.length_append, List.length_cons, List.length_nil, List.length_take, List.length_drop] at *; omega))
  | exact rk_sub ‹_›
  | exact rk_neBl ‹_›
  | exact rk_eqI ‹_›
  | exact rk_neI ‹_›
  | exact rk_cmp ‹_›)
local macro_rules | `(tactic| walk_at "el") => `(tactic| first
  | exact el_nil ‹_›
  | (apply el_cons ‹_›; (focus walk_at "ek"); walk_at "el"))
local macro_rules | `(tactic| walk_at "eo") => `(tactic| first
  | exact eo_none ‹_›
  | (apply eo_some ‹_›; walk_at "ek"))
local macro_rules | `(tactic| walk_at "ek") => `(tactic| first
  | exact ek_var ‹_› rfl
  | exact ek_int ‹_›
  | exact ek_str ‹_›
  | exact ek_non ‹_›
  | exact ek_bl ‹_›
  | (apply ek_op ‹_›; (focus walk_at "ek"); (focus walk_at "ek"); walk_at "rk")
  | (apply ek_neg ‹_›; walk_at "ek")
  | (apply ek_slice ‹_›; (focus walk_at "ek"); (focus walk_at "eo"); walk_at "eo")
  | (apply ek_tup1 ‹_›; walk_at "ek")
  | (apply ek_tup2 ‹_›; (focus walk_at "ek"); walk_at "ek")
  | (apply ek_tup3 ‹_›; (focus walk_at "ek"); (focus walk_at "ek"); walk_at "ek"))
local macro_rules | `(tactic| walk_at "run") => `(tactic| first
  | (refine rs_ret ?_; walk_at "ek")
  | (refine rs_retS ?_; walk_at "ek")
  | (refine rs_yes ‹_› (eb_test ‹_› ?_) ?_; (focus walk_at "ek"); walk_at "run")
  | (refine rs_no ‹_› (eb_test ‹_› ?_) ?_; (focus walk_at "ek"); walk_at "run"))
theorem anc_few {g : Gr Pr Evt} {s0 : Pr} {L : List Pr} (C : Clo g s0 L) {W : Wy} (hw : ∀ v, W v ≠ none → g.Reach s0 v) {v r : Pr} {es : List (Pr × Evt)} (a : Anc W v r es) (hr : W r = some none) : es.length ≤ L.length := by
  have h1 := (List.nodup_append.mp (a.nodup hr)).1
  have h2 := C.size h1 fun x hx => by
    obtain ⟨fs, hs, _, _, ax⟩ := a.mem hx
    refine hw x ?_
    by_cases hf : fs = []
    · subst hf
      rw [ax.nil, hr]
      simp
    · obtain ⟨p, e, _, hwx, _⟩ := ax.inv hf
      rw [hwx]
      simp
  rw [List.length_map] at h2
  exact h2
theorem evL_eq (es : List (Pr × Evt)) : evL es = (es.map (·.2)).map encE := by
  unfold evL
  rw [List.map_map]
  rfl
theorem alike_encP {one other : Gs} {p q : Pr} (hp : PrOk one other p) (hq : PrOk one other q) : PySem.W.alike (encP p).data (encP q).data = true := by
  have h1 := alike_encS hp.1 hq.1
  have h2 := alike_encS hp.2 hq.2
  simp only [encP, NestedKey.data, NestedKey.datas, PySem.W.alike, PySem.W.alikeAll, h1, h2, Bool.and_self]
theorem valV_mem {kvs : List (NestedKey × V)} (hn : (kvs.map (·.1)).Nodup) {k : NestedKey} {v : V} (h : (k, v) ∈ kvs) : valV kvs k = some v := by
  induction kvs with
  | nil => exact nomatch h
  | cons p r ih =>
    rw [List.map_cons] at hn
    obtain ⟨h1, h2⟩ := List.nodup_cons.mp hn
    rcases List.mem_cons.mp h with e | h
    · subst e
      exact valV_pos rfl
    · rw [valV_neg (fun e => h1 (by rw [e]; exact List.mem_map_of_mem (f := (·.1)) h))]
      exact ih h2 h
theorem nodup_encP {ks : List Pr} (h : ks.Nodup) : (ks.map encP).Nodup := by
  induction ks with
  | nil => exact List.nodup_nil
  | cons p r ih =>
    obtain ⟨h1, h2⟩ := List.nodup_cons.mp h
    rw [List.map_cons]
    refine List.nodup_cons.mpr ⟨fun hm => ?_, ih h2⟩
    obtain ⟨q, hq, e⟩ := List.mem_map.mp hm
    rw [encP_inj e] at hq
    exact h1 hq
theorem vals_ints {kvs : List (NestedKey × V)} {ks : List Pr} {F : Pr → Int} (e : kvs.map (·.1) = ks.map encP) (hn : ks.Nodup) (h : ∀ q ∈ ks, valV kvs (encP q) = some (.int (F q))) : kvs.map (·.2) = (ks.map F).map V.int := by
  have nd : (kvs.map (·.1)).Nodup := by rw [e]; exact nodup_encP hn
  have len : kvs.length = ks.length := by
    have := congrArg List.length e
    rw [List.length_map, List.length_map] at this
    exact this
  refine List.ext_getElem (by simp [len]) fun i h1 h2 => ?_
  rw [List.length_map] at h1
  have h3 : i < ks.length := by omega
  have e1 : kvs[i].1 = encP ks[i] := by
    have := congrArg (fun l => l[i]?) e
    simp only [List.getElem?_map, List.getElem?_eq_getElem h1, List.getElem?_eq_getElem h3, Option.map_some] at this
    exact Option.some.inj this
  have e2 := valV_mem nd (k := kvs[i].1) (v := kvs[i].2) (List.getElem_mem h1)
  rw [e1, h _ (List.getElem_mem h3)] at e2
  simp only [List.getElem_map]
  exact (Option.some.inj e2).symm
/-- an answer of the climb: a run, and a loop on which the one gains -/
structure Gain (one other : Gs) (evs : List Evt) (run loop : List Evt) : Prop where
  evr : ∀ e ∈ run, e ∈ evs
  evl : ∀ e ∈ loop, e ∈ evs
  back : (gr one other evs).run ((gr one other evs).run (start2 one other) run) loop = (gr one other evs).run (start2 one other) run
  gain : 0 < (gr one other evs).dif ((gr one other evs).run (start2 one other) run) loop
  ne : loop ≠ []
section
variable {P : Program} {w : World} {K : PySem.W.Frag} {mg : Str → Option Value} {base : Heap}
def spAhead (K : PySem.W.Frag) : Sp := fun vs H Q _ => ∃ x y a one other L, ∃ ps : List Nat, vs = [x, y, .ref a] ∧ KAt H (encG one) x ∧ KAt H (encG other) y ∧ SqL K H a (ps.map fun (p : Nat) => V.int (p : Int)) ∧ ps.length ≤ 100 ∧ Site one other (evsOf ps) L ∧
  (∀ T v1 v2 v3 H', Same H H' → H' T = some (.tup [.str "at most", v1, v2, v3]) → Q (.ref T) H') ∧
  ∀ T r l rw lw run loop H', Same H H' → H' T = some (.tup [.str "ever more", .ref r, .ref l]) → H' r = some (.lst rw) → KAts H' (run.map encE) rw → H' l = some (.lst lw) → KAts H' (loop.map encE) lw → Gain one other (evsOf ps) run loop → Q (.ref T) H'
theorem cal_ahead_by (F : TD K mg "ahead_by" s_ahead_by ["one", "other", "places"]) (B : Blt mg) (c_first_state : C8.Cal P w K mg base 4 "first_state" (spG (okFirst 3)) []) (c_all_steps : C8.Cal P w K mg base 11 "all_steps" (spSteps P w K) []) (c_climbed : C8.Cal P w K mg base 2 "climbed" (spClimb P w) [])
    (c_way_to : C8.Cal P w K mg base 1 "way_to" (spWay P w) []) (c_loop_from : C8.Cal P w K mg base 1 "loop_from" (spLoop P w) []) (c_first_ways : C8.Cal P w K mg base 1 "first_ways" (spFirst P w) []) : C8.Cal P w K mg base 12 "ahead_by" (spAhead K) [] := by
  refine cal_sp F sc_ahead_by (fun vs H Q E h => ?_) fun f0 cdv A outer s H0 E0 hr => ⟨_, (pss_cons (ps_set (i := 3) sc_ahead_by.nd rfl (Or.inl rfl) (C8.pe_c c_all_steps hr (by first | decide | omega) (by rfl) (pa_cons (pv 0) (pa_cons (pv 1) (pa_cons (pv 2) pa_nil)))))
      (pss_cons (ps_set (i := 4) sc_ahead_by.nd rfl (Or.inl rfl) (pe_tup (pa_cons (C8.pe_c c_first_state hr (by first | decide | omega) (by rfl) (pa_cons (pv 0) pa_nil)) (pa_cons (C8.pe_c c_first_state hr (by first | decide | omega) (by rfl) (pa_cons (pv 1) pa_nil)) pa_nil))))
      (pss_cons (ps_asg (C8.pe_c c_climbed hr (by first | decide | omega) (by rfl) (pa_cons (pv 3) (pa_cons (pv 4) pa_nil))) (pg_tup rfl (pgs_cons (pg_name (i := 8) sc_ahead_by.nd rfl (Or.inr rfl)) (pgs_cons (pg_name (i := 9) sc_ahead_by.nd rfl (Or.inl rfl)) (pgs_cons (pg_name (i := 10) sc_ahead_by.nd rfl (Or.inl rfl)) pgs_nil)))))
      (pss_cons (ps_if (pt_cmpR op_notN (pv 10) pe_non (nomark _)) (pss_one (ps_ret (pe_tup (pa_cons pe_str (pa_cons (C8.pe_c c_way_to hr (by first | decide | omega) (by rfl) (pa_cons (C8.pe_c c_first_ways hr (by first | decide | omega) (by rfl) (pa_cons (pv 3) (pa_cons (pv 4) pa_nil))) (pa_cons (pv 10) pa_nil))) (pa_cons (C8.pe_c c_loop_from hr (by first | decide | omega) (by rfl) (pa_cons (pv 9) (pa_cons (pv 10) pa_nil))) pa_nil)))))) pss_nil)
      (pss_cons (ps_set (i := 5) sc_ahead_by.nd rfl (Or.inr rfl) (pe_callB (cr_maxVals rfl) (by rfl) B.max (by decide +kernel) (pa_cons (pe_nvals (pv 8)) pa_nil)))
      (pss_cons (ps_set (i := 6) sc_ahead_by.nd rfl (Or.inl rfl) (pe_callB (cr_minK rfl hr.units) (by rfl) B.min (by decide +kernel) (pa_cons (pe_lock (pe_lc (own := [("pair", 11)]) (by rfl) sc_ahead_by.nd (pi_keysN (pv 8)) (blkOk_by (own := [("pair", 11)]) (N := ["one", "other", "places", "steps", "first", "most", "best", "paper", "sums", "ways", "thing", "pair"]) (sc := defScope s_ahead_by) (by decide +kernel)) (fun _ _ _ _ _ => (pg_name (i := 11) sc_ahead_by.nd rfl (Or.inl rfl))) (fun _ _ _ _ _ => (pts_one (pt_cmpR (op_eqUx (K := K) rfl hr.units) (pe_ix (ix_Ux (P := P) (w := w) (K := K) rfl rfl rfl hr.units) (pv 8) (pv 11) (fun _ _ => rfl)) (pv 5) (nomark _)))) (fun _ _ _ _ _ => (pv 11)))) pa_nil)))
      (pss_cons (ps_setLc (i := 7) (own := [("pair", 11)]) (by rfl) sc_ahead_by.nd rfl rfl (sw_true rfl rfl rfl (by decide +kernel)) (pi_list (pe_callB (cr_sortedN rfl hr.units) (by rfl) B.sorted (by decide +kernel) (pa_cons (pv 8) pa_nil))) (blkOk_by (own := [("pair", 11)]) (N := ["one", "other", "places", "steps", "first", "most", "best", "paper", "sums", "ways", "thing", "pair"]) (sc := defScope s_ahead_by) (by decide +kernel)) (fun _ _ _ _ _ => (pg_name (i := 11) sc_ahead_by.nd rfl (Or.inl rfl))) (fun _ _ _ _ _ => pts_nil) (fun _ _ _ _ _ => (pe_tup (pa_cons (pe_ix (ix_Ux (P := P) (w := w) (K := K) rfl rfl rfl hr.units) (pv 11) pe_int (fun _ _ => rfl)) (pa_cons (pe_ix (ix_Ux (P := P) (w := w) (K := K) rfl rfl rfl hr.units) (pv 11) pe_int (fun _ _ => rfl)) (pa_cons (pe_ix (ix_Ux (P := P) (w := w) (K := K) rfl rfl rfl hr.units) (pv 8) (pv 11) (fun _ _ => rfl)) pa_nil))))))
      (pss_one (ps_ret (pe_tup (pa_cons pe_str (pa_cons (pv 5) (pa_cons (C8.pe_c c_way_to hr (by first | decide | omega) (by rfl) (pa_cons (pv 9) (pa_cons (pv 6) pa_nil))) (pa_cons (pv 7) pa_nil)))))))))))))), fun vs H Q E h => ?_⟩
  · obtain ⟨x, y, a, one, other, L, ps, rfl, _⟩ := h
    rfl
  · obtain ⟨x, y, a, one, other, L, ps, rfl, kx, ky, ha, hl, T, k1, k2⟩ := h
    have few := T.few
    refine ⟨x, rfl, y, rfl, .ref a, rfl, x, y, a, one, other, L, ps, rfl, kx, ky, ha, hl, T, fun d ks f H1 s1 hs => ?_⟩
    refine ⟨x, rfl, [.k (encG one)], Same, _, .cons (AAt.of (kx.up (Ts.of s1))) .nil, ⟨rfl, one, T.duo.ok1, T.duo.d1, rfl, rfl⟩, fun v1 dd1 H2 r2 kv1 sd1 => ?_⟩
    subst sd1
    refine ⟨y, rfl, [.k (encG other)], Same, _, .cons (AAt.of (ky.up (Ts.of (s1.trans r2)))) .nil, ⟨rfl, other, T.duo.ok2, T.duo.d2, rfl, rfl⟩, fun v2 dd2 H3 r3 kv2 sd2 => ?_⟩
    subst sd2
    refine ⟨(by show 2 ≤ sizeLine; decide), fun p hp => ?_⟩
    have r4 : Same H3 (upd H3 p (.tup [v1, v2])) := same_new hp
    have kv1' : KAt H2 (encS (first one)) v1 := kv1
    have kv2' : KAt H3 (encS (first other)) v2 := kv2
    have k0 : KAt (upd H3 p (.tup [v1, v2])) (encP (start2 one other)) (.ref p) := KAt.tup upd_same (.cons ((kv1'.up (Ts.of r3)).up (Ts.new hp)) (.cons (kv2'.up (Ts.new hp)) .nil))
    have s4 : Same H1 (upd H3 p (.tup [v1, v2])) := r2.trans (r3.trans r4)
    generalize (upd H3 p (.tup [v1, v2])) = H4 at *
    refine ⟨.ref d, rfl, .ref p, rfl, d, .ref p, ks, f, one, other, evsOf ps, L, rfl, T, hs.same s4, k0, fun T5 v dS dW ka kb H5 S W s5 hT5 dvS dvW ci ce => ?_⟩
    refine ⟨T5, _, rfl, SqT.of hT5, rfl, _, _, rfl, _, _, rfl, _, _, rfl, rfl, ?_⟩
    have s15 := s1.trans (s4.trans s5)
    refine ⟨v, rfl, rfl, ?_⟩
    rcases ce with ⟨rfl, hd⟩ | ⟨t, es, kt, hWt, hne, hanc, hle⟩
    · refine ⟨false, rfl, ?_⟩
      obtain ⟨kvs, hkvs, ekvs, hval, hnon⟩ := dvS.ex
      obtain ⟨kas, hkas, kat, ekas⟩ := id hkvs
      have eint : kvs.map (·.2) = (ka.map fun q => (S q).getD 0).map V.int := vals_ints ekvs dvS.nd fun q hq => by
        cases z : S q with
        | none => exact absurd z ((dvS.keys q).mp hq)
        | some n =>
          obtain ⟨u, h1, h2⟩ := hval q n z
          have h2' : u = .int n := h2
          rw [h1, h2']
          rfl
      have hs0 : start2 one other ∈ ka := (dvS.keys _).mpr ci.st
      refine ⟨.ref dS, rfl, dS, kvs, rfl, hkvs.rd, fun pv hpv => ?_⟩
      have s6 : Same H5 (upd H5 pv (valsO pv dS)) := same_new hpv
      refine ⟨pv, dS, kvs, _, rfl, upd_same, (hkvs.same s6).rd, eint, ?_, fun most hm => ?_⟩
      · rw [List.length_map]
        exact List.length_pos_of_mem hs0
      obtain ⟨qm, hqm, eqm⟩ := List.mem_map.mp hm
      have hkas6 := s6 _ _ hkas
      have dvS6 := dvS.same mon_vI s6
      have dvW6 := dvW.same mon_vW s6
      have kat6 := kat.up (Ts.of s6)
      have s16 := s15.trans s6
      generalize (upd H5 pv (valsO pv dS)) = H6 at *
      refine ⟨dS, DNo P w dS kas, hkas6, trivial, fun od => ?_⟩
      refine ⟨.ref dS, rfl, dS, od, kas, rfl, upd_same, fun D hD => ?_⟩
      have tL : Ts H6 (upd H6 dS (.frz od (DNo P w dS kas))) := Ts.upd hkas6 fun _ z => nomatch z
      have katL := kat6.up tL
      have frL : (upd H6 dS (.frz od (DNo P w dS kas))) dS = some (.frz od (DNo P w dS kas)) := upd_same
      have back : ∀ {H' : Hp}, Same (upd H6 dS (.frz od (DNo P w dS kas))) H' → Same H6 (upd H' dS (DNo P w dS kas)) := fun {H'} e b o q => by
        by_cases z : b = dS
        · subst z
          rw [upd_same]
          rw [hkas6] at q
          exact q
        · rw [upd_ne z]
          refine e b o ?_
          rw [upd_ne z]
          exact q
      generalize (upd H6 dS (.frz od (DNo P w dS kas))) = HL at *
      have lenk : kas.length = ka.length := by
        have h1 := congrArg List.length ekas
        have h2 := congrArg List.length ekvs
        unfold kvs3 at h1
        rw [List.length_map] at h1
        rw [List.length_map, List.length_map] at h2
        omega
      have keyAt : ∀ (i : Nat) (k : NestedKey) (a : Addr) (v : V), kas[i]? = some (k, a, v) → ∃ q, ka[i]? = some q ∧ k = encP q ∧ KAt HL (encP q) (.ref a) ∧ (encP q).depth ≤ 8 := fun i k a v e => by
        have h1 : (kvs.map (·.1))[i]? = some k := by
          rw [← ekas, kvs3_keys, List.getElem?_map, e]
          rfl
        rw [ekvs, List.getElem?_map] at h1
        cases z : ka[i]? with
        | none => rw [z] at h1; cases h1
        | some q =>
          rw [z] at h1
          have e2 : encP q = k := Option.some.inj h1
          obtain ⟨h3, h4⟩ := katL _ (List.mem_of_getElem? e)
          subst e2
          exact ⟨q, rfl, rfl, h3, h4⟩
      have lka : ka.length ≤ L.length := T.clo.size dvS.nd fun q hq => by
        obtain ⟨n, hn⟩ := Option.ne_none_iff_exists'.mp ((dvS.keys q).mp hq)
        exact ci.reach q n hn
      refine lc_keysN (P := P) (w := w) (d := dS) (od := od) (kas := kas) (fun i H' => Same HL H' ∧ ∃ acc, H' D = some (.lst acc) ∧ acc.length ≤ i ∧ KAts H' (((ka.take i).filter fun q => decide (S q = some most)).map encP) acc)
        ⟨same_new hD, [], upd_same, Nat.le_refl _, .nil⟩ (fun i H' p => p.1 _ _ frL) ?_ ?_
      · rintro i k a0 v0 H' hi ⟨sH, acc, hacc, lacc, kacc⟩
        obtain ⟨q, hq, ek, kq, dq⟩ := keyAt i k a0 v0 hi
        subst ek
        have hqm2 := List.mem_of_getElem? hq
        obtain ⟨n, hn⟩ := Option.ne_none_iff_exists'.mp ((dvS.keys q).mp hqm2)
        obtain ⟨u, hu1, hu2⟩ := hval q n hn
        have hu2' : u = .int n := hu2
        subst hu2'
        refine ⟨rfl, .ref dS, rfl, .ref a0, rfl, .inr (.inr ⟨dS, encP q, kvs, .int n, rfl, ⟨⟨_, rfl⟩, kq.up (Ts.of sH), dq⟩, ⟨kas, .inr ⟨od, sH _ _ frL⟩, katL.up (Ts.of sH), ekas⟩, hu1, ?_⟩)⟩
        refine ⟨_, rfl, .inl ⟨rfl, _, rfl, ?_⟩⟩
        have etk : ka.take (i + 1) = ka.take i ++ [q] := by rw [List.take_add_one, hq]; rfl
        have hik : i < ka.length := (List.getElem?_eq_some_iff.mp hq).1
        by_cases hnm : n = most
        · rw [decide_eq_true (by rw [hnm])]
          have tD : Ts H' (upd H' D (.lst (acc ++ [.ref a0]))) := Ts.upd hacc fun _ z => nomatch z
          refine ⟨.ref a0, rfl, acc, hacc, lt_line (by omega), same_upd sH hD, acc ++ [.ref a0], upd_same, ?_, ?_⟩
          · rw [List.length_append]
            show acc.length + 1 ≤ i + 1
            omega
          · rw [etk, List.filter_append, List.map_append]
            have e1 : [q].filter (fun q => decide (S q = some most)) = [q] := by
              rw [List.filter_cons_of_pos (by rw [hn, hnm]; simp)]
              rfl
            rw [e1]
            exact (kacc.up tD).append (.cons ((kq.up (Ts.of sH)).up tD) .nil)
        · rw [decide_eq_false (fun z => hnm (V.int.inj z))]
          refine ⟨sH, acc, hacc, by omega, ?_⟩
          rw [etk, List.filter_append]
          have e1 : [q].filter (fun q => decide (S q = some most)) = [] := by
            rw [List.filter_cons_of_neg (by rw [hn]; simp [hnm])]
            rfl
          rw [e1, List.append_nil]
          exact kacc
      · rintro H' ⟨sH, acc, hacc, lacc, kacc⟩
        rw [lenk, List.take_length] at kacc
        refine ⟨sH _ _ frL, ?_⟩
        have s7 := back sH
        have hDS : D ≠ dS := fun e => by
          subst e
          rw [sH _ _ frL] at hacc
          cases hacc
        have t7 : Ts H' (upd H' dS (DNo P w dS kas)) := Ts.upd (sH _ _ frL) fun _ z => nomatch z
        have hacc7 : (upd H' dS (DNo P w dS kas)) D = some (.lst acc) := by
          rw [upd_ne hDS]
          exact hacc
        have kacc7 := kacc.up t7
        generalize (upd H' dS (DNo P w dS kas)) = H7 at *
        have hin : ∀ q ∈ ka.filter (fun q => decide (S q = some most)), q ∈ ka ∧ S q = some most := fun q hq => by
          obtain ⟨h1, h2⟩ := List.mem_filter.mp hq
          exact ⟨h1, of_decide_eq_true h2⟩
        have prAll : ∀ q ∈ ka, PrOk one other q := fun q hq => by
          obtain ⟨n, hn⟩ := Option.ne_none_iff_exists'.mp ((dvS.keys q).mp hq)
          exact T.reach (ci.reach q n hn)
        have alk : ∀ {l : List Pr}, (∀ q ∈ l, q ∈ ka) → AlikeK (l.map encP) := fun {l} h k hk k' hk' => by
          obtain ⟨q, hq, rfl⟩ := List.mem_map.mp hk
          obtain ⟨q', hq', rfl⟩ := List.mem_map.mp hk'
          exact alike_encP (prAll q (h q hq)) (prAll q' (h q' hq'))
        have hmem0 : qm ∈ ka.filter (fun q => decide (S q = some most)) := by
          refine List.mem_filter.mpr ⟨hqm, decide_eq_true ?_⟩
          obtain ⟨n, hn⟩ := Option.ne_none_iff_exists'.mp ((dvS.keys qm).mp hqm)
          rw [hn] at eqm ⊢
          rw [← eqm]
          rfl
        refine ⟨D, _, acc, rfl, SqL.of hacc7, kacc7, fun z => ?_, fun k hk => ?_, alk fun q hq => (hin q hq).1, fun k vb hk kvb => ?_⟩
        · rw [List.map_eq_nil_iff] at z
          rw [z] at hmem0
          cases hmem0
        · obtain ⟨q, hq, rfl⟩ := List.mem_map.mp hk
          exact ⟨dvS.depth ((dvS.keys q).mp (hin q hq).1), fun z => nomatch z⟩
        · obtain ⟨qb, hqb, rfl⟩ := List.mem_map.mp hk
          have dvS7 := dvS6.same mon_vI s7
          have dvW7 := dvW6.same mon_vW s7
          have hkv7 : DNt P w H7 dS kvs := ⟨kas, s7 _ _ hkas6, kat6.up (Ts.of s7), ekas⟩
          refine ⟨.ref dS, rfl, dS, kvs, rfl, hkv7.rd, by rw [ekvs]; exact alk fun q hq => hq, fun k hk => ?_, fun ks3 vs3 pS perm hpS kats3 => ?_⟩
          · rw [ekvs] at hk
            obtain ⟨q, _, rfl⟩ := List.mem_map.mp hk
            exact ⟨_, _, rfl⟩
          rw [ekvs] at perm
          have s8 : Same H7 (upd H7 pS (.lst vs3)) := same_new hpS
          refine ⟨pS, rfl, ⟨vs3, SqL.of upd_same⟩, fun D2 hD2 => ?_⟩
          have kats8 := kats3.up (Ts.of s8)
          have hp8 : (upd H7 pS (.lst vs3)) pS = some (.lst vs3) := upd_same
          have dvS8 := dvS7.same mon_vI s8
          generalize (upd H7 pS (.lst vs3)) = H8 at *
          have lv3 : vs3.length = ka.length := by rw [kats3.length, perm.length_eq, List.length_map]
          refine lc_list (K := K) (a := pS) (xs := vs3) (fun i H' => Same H8 H' ∧ ∃ acc, H' D2 = some (.lst acc) ∧ acc.length ≤ i) ⟨same_new hD2, [], upd_same, Nat.le_refl _⟩ (fun i H' _ p => SqL.of (p.1 _ _ hp8)) ?_ ?_
          · rintro i xp H' hi ⟨sH2, acc, hacc, lacc⟩
            obtain ⟨kk, hkk, kxp⟩ := kats8.getV hi
            obtain ⟨q, hq, rfl⟩ := List.mem_map.mp (perm.mem_iff.mp (List.mem_of_getElem? hkk))
            obtain ⟨n, hn⟩ := Option.ne_none_iff_exists'.mp ((dvS.keys q).mp hq)
            have kxp2 : KAt H' (encP q) xp := kxp.up (Ts.of sH2)
            have kxp3 := kxp2
            unfold encP at kxp3
            have hik : i < vs3.length := (List.getElem?_eq_some_iff.mp hi).1
            cases kxp3 with
            | @tup b zs _ g1 g2 =>
            cases g2 with
            | @cons _ z1 _ _ g3 g4 =>
            cases g4 with
            | @cons _ z2 _ _ g5 g6 =>
            cases g6
            refine ⟨rfl, .ref b, rfl, .inr (.inl ⟨b, _, 0, z1, rfl, rfl, SqT.of g1, atI_nat (j := 0) rfl, .ref b, rfl, .inr (.inl ⟨b, _, 1, z2, rfl, rfl, SqT.of g1, atI_nat (j := 1) rfl, .ref dS, rfl, .ref b, rfl, (dvS8.same mon_vI sH2).at_ kxp2 hn fun u hu => ⟨(by show 3 ≤ sizeLine; decide), fun pt hpt => ?_⟩⟩)⟩)⟩
            have hD3 : D2 ≠ pt := fun e => by
              subst e
              rw [hacc] at hpt
              cases hpt
            refine ⟨acc, (by rw [upd_ne hD3]; exact hacc), lt_line (by omega), same_upd (sH2.trans (same_new hpt)) hD2, _, upd_same, ?_⟩
            rw [List.length_append]
            show acc.length + 1 ≤ i + 1
            omega
          · rintro H' ⟨sH2, acc, hacc, lacc⟩
            obtain ⟨r, esb, anb, hrb⟩ := hd.rooted qb (fun z => (by
              have := (dvS.keys qb).mp (hin qb hqb).1
              exact this ((ci.dom qb).mpr z)))
            have leb := anc_few T.clo (W := W) (fun v hv => by
              obtain ⟨n, hn⟩ := ci.known hv
              exact ci.reach v n hn) anb hrb
            have sz := s8.trans sH2
            refine ⟨_, rfl, .ref dW, rfl, vb, rfl, dW, vb, kb, W, qb, r, esb, rfl, dvW7.same mon_vW sz, kvb.up (Ts.of sz), anb, hrb, by omega, fun Lr wr H9 s9 hLr hLr2 kr => ?_⟩
            refine ⟨_, rfl, (by show 4 ≤ sizeLine; decide), fun pT hpT => ?_⟩
            exact k1 pT _ _ _ _ (s16.trans (s7.trans (sz.trans (s9.trans (same_new hpT))))) upd_same
    · refine ⟨true, ?_, ?_⟩
      · have : v ≠ .non := fun e => by
          subst e
          cases kt
        rw [decide_eq_false this]
        rfl
      · refine ⟨.ref d, rfl, .ref p, rfl, d, .ref p, ks, f, one, other, evsOf ps, L, rfl, T, (hs.same s4).same s5, k0.up (Ts.of s5), fun d2 ks2 W2 H6 s6 hd2 dv2 fi all => ?_⟩
        have rt : (gr one other (evsOf ps)).Reach (start2 one other) t := by
          obtain ⟨b, hb⟩ := ci.known hWt
          exact ci.reach t b hb
        obtain ⟨r, es2, an2, hr2⟩ := fi.rooted t (all t rt)
        have le2 := anc_few T.clo fi.reach an2 hr2
        obtain ⟨way1, way2⟩ := fi.way an2 hr2
        refine ⟨v, rfl, d2, v, ks2, W2, t, r, es2, rfl, dv2, kt.up (Ts.of s6), an2, hr2, by omega, fun Lr wr H7 s7 hLr hLr2 kr => ?_⟩
        have s67 := s6.trans s7
        refine ⟨.ref dW, rfl, v, rfl, dW, v, kb, W, t, es, rfl, dvW.same mon_vW s67, kt.up (Ts.of s67), hanc, hne, hle, fun Ll wl gs H8 s8 hLl hLl2 hgn ga hgl kl => ?_⟩
        refine ⟨(by show 3 ≤ sizeLine; decide), fun q hq => ?_⟩
        have s9 : Same H8 (upd H8 q (.tup [.str "ever more", .ref Lr, .ref Ll])) := same_new hq
        obtain ⟨lp1, lp2, lp3, lp4⟩ := ci.loop ga hgn
        rw [evL_eq] at kr kl
        refine k2 q Lr Ll wr wl (es2.map (·.2)) (gs.map (·.2)) _ (s15.trans (s67.trans (s8.trans s9))) upd_same (s9 _ _ (s8 _ _ hLr2)) (kr.up (Ts.of (s8.trans s9))) (s9 _ _ hLl2) (kl.up (Ts.of s9)) ⟨way2, lp4, ?_, ?_, lp3⟩
        · rw [way1]
          exact lp1
        · rw [way1]
          exact lp2
end
end K49
set_option Elab.async false
set_option linter.all false
set_option maxRecDepth 100000
set_option maxHeartbeats 4000000
set_option autoImplicit false
/-! Misses in a run; patterns. -/
namespace K49
open PySem PySem.Spec PyProof.Rows L2
local macro_rules | `(tactic| walk_at "rk") => `(tactic| first
  | exact rk_eqS ‹_› (by decide)
  | exact rk_ix ‹_› rfl
  | exact rk_inS2 ‹_› (by decide)
  | exact rk_ix ‹_› (at_nums (by assumption))
  | exact rk_modN ‹_› (by first | assumption | omega)
  | exact rk_addN ‹_›
  | exact rk_mul2 ‹_›
  | exact rk_addr1 ‹_›
  | exact rk_add1l ‹_›
  | exact rk_shl1 ‹_› (by omega)
  | exact rk_mulN ‹_› (by omega)
  | exact rk_shlN ‹_› (by omega) (by omega)
  | exact rk_addI ‹_›
  | exact rk_addT ‹_› (by first | decide | (simp only [List.length_append, List.length_cons, List.length_nil, List.length_take, List.length_drop] at *; omega))
  | exact rk_sub ‹_›
  | exact rk_neBl ‹_›
  | exact rk_eqI ‹_›
  | exact rk_neI ‹_›
  | exact rk_cmp ‹_›)
local macro_rules | `(tactic| walk_at "el") => `(tactic| first
  | exact el_nil ‹_›
  | (apply el_cons ‹_›; (focus walk_at "ek"); walk_at "el"))
local macro_rules | `(tactic| walk_at "eo") => `(tactic| first
  | exact eo_none ‹_›
  | (apply eo_some ‹_›; walk_at "ek"))
local macro_rules | `(tactic| walk_at "ek") => `(tactic| first
  | exact ek_var ‹_› rfl
  | exact ek_int ‹_›
  | exact ek_str ‹_›
  | exact ek_non ‹_›
  | exact ek_bl ‹_›
  | (apply ek_op ‹_›; (focus walk_at "ek"); (focus walk_at "ek"); walk_at "rk")
  | (apply ek_neg ‹_›; walk_at "ek")
  | (apply ek_slice ‹_›; (focus walk_at "ek"); (focus walk_at "eo"); walk_at "eo")
  | (apply ek_tup1 ‹_›; walk_at "ek")
  | (apply ek_tup2 ‹_›; (focus walk_at "ek"); walk_at "ek")
  | (apply ek_tup3 ‹_›; (focus walk_at "ek"); (focus walk_at "ek"); walk_at "ek"))
local macro_rules | `(tactic| walk_at "run") => `(tactic| first
  | (refine rs_ret ?_; walk_at "ek")
  | (refine rs_retS ?_; walk_at "ek")
  | (refine rs_yes ‹_› (eb_test ‹_› ?_) ?_; (focus walk_at "ek"); walk_at "run")
  | (refine rs_no ‹_› (eb_test ‹_› ?_) ?_; (focus walk_at "ek"); walk_at "run"))
def walk (g : Gs) : Sa → List Evt → Sa
  | s, [] => s
  | s, e :: r => walk g (learn g s e.1 e.2) r
def missN (g : Gs) : Sa → List Evt → Nat
  | _, [] => 0
  | s, e :: r => miss g s e + missN g (learn g s e.1 e.2) r
def missL (g : Gs) : Sa → List Evt → List Nat
  | _, [] => []
  | s, e :: r => miss g s e :: missL g (learn g s e.1 e.2) r
theorem walk_app (g : Gs) : ∀ (s : Sa) (a b : List Evt), walk g s (a ++ b) = walk g (walk g s a) b
  | _, [], _ => rfl
  | s, e :: r, b => walk_app g _ r b
theorem missN_app (g : Gs) : ∀ (s : Sa) (a b : List Evt), missN g s (a ++ b) = missN g s a + missN g (walk g s a) b
  | _, [], _ => by simp [missN, walk]
  | s, e :: r, b => by
    show miss g s e + missN g _ (r ++ b) = miss g s e + missN g _ r + missN g (walk g _ r) b
    rw [missN_app g _ r b]
    omega
theorem missL_app (g : Gs) : ∀ (s : Sa) (a b : List Evt), missL g s (a ++ b) = missL g s a ++ missL g (walk g s a) b
  | _, [], _ => rfl
  | s, e :: r, b => by
    show miss g s e :: missL g _ (r ++ b) = _
    rw [missL_app g _ r b]
    rfl
theorem missL_len (g : Gs) : ∀ (s : Sa) (a : List Evt), (missL g s a).length = a.length
  | _, [] => rfl
  | s, e :: r => by
    show (missL g _ r).length + 1 = r.length + 1
    rw [missL_len g _ r]
theorem Mt.ts5 {κ : KS} {σ : L2.St} {H H' : Hp} (m : Mt κ σ H) (f : ∀ (i : Nat) a, κ[i]? = some (some a) → flatA a) (t : Ts H H') : Mt κ σ H' := ⟨m.len, fun i a e => let ⟨v, e1, e2⟩ := m.at_ i a e; ⟨v, e1, e2.ups (f i a e) t⟩⟩
theorem missL_sum (g : Gs) : ∀ (s : Sa) (a : List Evt), (missL g s a).sum = missN g s a
  | _, [] => rfl
  | s, e :: r => by
    show (miss g s e :: missL g _ r).sum = miss g s e + missN g _ r
    rw [List.sum_cons, missL_sum g _ r]
theorem walk_ok {g : Gs} (hg : GsOk g) : ∀ (es : List Evt) {s : Sa}, SaOk g s → SaOk g (walk g s es)
  | [], _, h => h
  | e :: r, _, h => walk_ok hg r (learn_ok _ _ hg h)
theorem missN_le (g : Gs) : ∀ (s : Sa) (es : List Evt), missN g s es ≤ es.length
  | _, [] => Nat.le_refl _
  | s, e :: r => by
    have h1 : miss g s e ≤ 1 := by unfold miss; split <;> decide
    have h2 := missN_le g (learn g s e.1 e.2) r
    show miss g s e + missN g _ r ≤ r.length + 1
    omega
/-- a pair's run, guesser by guesser -/
theorem run_walk (one other : Gs) (evs : List Evt) : ∀ (p : Pr) (es : List Evt), (gr one other evs).run p es = (walk one p.1 es, walk other p.2 es)
  | _, [] => rfl
  | p, e :: r => run_walk one other evs ((gr one other evs).nxt p e) r
theorem dif_miss (one other : Gs) (evs : List Evt) : ∀ (p : Pr) (es : List Evt), (gr one other evs).dif p es = (missN one p.1 es : Int) - (missN other p.2 es : Int)
  | _, [] => by simp [Gr.dif, missN]
  | p, e :: r => by
    show (gr one other evs).wt p e + (gr one other evs).dif ((gr one other evs).nxt p e) r = _
    rw [dif_miss one other evs _ r]
    show ((miss one p.1 e : Int) - (miss other p.2 e : Int)) + ((missN one (learn one p.1 e.1 e.2) r : Int) - (missN other (learn other p.2 e.1 e.2) r : Int)) = ((miss one p.1 e + missN one (learn one p.1 e.1 e.2) r : Nat) : Int) - ((miss other p.2 e + missN other (learn other p.2 e.1 e.2) r : Nat) : Int)
    omega

/-! ### patterns -/
inductive Pt where
  | way (e : Evt)
  | row (ps : List Pt)
mutual
def encPt : Pt → NestedKey
  | .way e => .tup [.text "way", .num e.1, .num e.2]
  | .row ps => .tup [.text "row", .tup (encPts ps)]
def encPts : List Pt → List NestedKey
  | [] => []
  | p :: r => encPt p :: encPts r
end
mutual
def flat : Pt → List Evt
  | .way e => [e]
  | .row ps => flats ps
def flats : List Pt → List Evt
  | [] => []
  | p :: r => flat p ++ flats r
end
mutual
def pdeep : Pt → Nat
  | .way _ => 1
  | .row ps => 1 + pdeeps ps
def pdeeps : List Pt → Nat
  | [] => 0
  | p :: r => max (pdeep p) (pdeeps r)
end
theorem encPts_map (l : List Pt) : encPts l = l.map encPt := by
  induction l with
  | nil => rfl
  | cons p r ih => rw [encPts, ih]; rfl
theorem flats_flat (l : List Pt) : flats l = l.flatMap flat := by
  induction l with
  | nil => rfl
  | cons p r ih => rw [flats, ih]; rfl
theorem pdeeps_le {l : List Pt} {n : Nat} (h : pdeeps l ≤ n) : ∀ p ∈ l, pdeep p ≤ n := by
  induction l with
  | nil => exact fun _ z => nomatch z
  | cons q r ih =>
    intro p hp
    rw [pdeeps] at h
    rcases List.mem_cons.mp hp with e | z
    · rw [e]; omega
    · exact ih (by omega) p z
theorem pdeep_pos (p : Pt) : 1 ≤ pdeep p := by
  cases p <;> simp [pdeep]
def okPassed (n : Nat) : Ok := fun as R S => R = Same ∧ ∃ g s p, GsOk g ∧ SaOk g s ∧ deep g ≤ 3 ∧ pdeep p ≤ n ∧ (∀ e ∈ flat p, EvOk e) ∧ as = [.k (encG g), .k (encS s), .k (encPt p)] ∧ S = fun d => d = .k (.tup [.num (missN g s (flat p)), encS (walk g s (flat p))])
section
variable {P : Program} {w : World} {K : PySem.W.Frag} {mg : Str → Option Value} {base : Heap}
theorem pe_never {X : Cx} {e : Expr} : PE X e (fun _ _ _ => False) := ⟨fun _ _ _ _ _ _ h => h.elim⟩
/-- 1 for each miss, 0 for each hit -/
def spMissed (K : PySem.W.Frag) : Sp := fun vs H Q _ => ∃ x a g es ws, vs = [x, .ref a] ∧ KAt H (encG g) x ∧ GsOk g ∧ deep g ≤ 3 ∧ H a = some (.lst ws) ∧ KAts H (es.map encE) ws ∧ es.length ≤ 1000 ∧ (∀ e ∈ es, EvOk e) ∧
  ∀ L H', Same H H' → H L = none → H' L = some (.lst ((missL g (first g) es).map fun (n : Nat) => V.int (n : Int))) → Q (.ref L) H'
theorem cal_missed (F : TD K mg "missed" s_missed ["guesser", "run"]) (B : Blt mg) (c_first_state : C8.Cal P w K mg base 4 "first_state" (spG (okFirst 3)) []) (c_guess : C8.Cal P w K mg base 4 "guess" (spG (okGuess 3)) []) (c_learned : C8.Cal P w K mg base 9 "learned" (spG (okLearn 3)) []) : C8.Cal P w K mg base 10 "missed" (spMissed K) [] := by
  refine cal_sp F sc_missed (fun vs H Q E h => ?_) fun f0 cdv A outer s H0 E0 hr => ⟨_, (pss_cons (ps_set (i := 2) sc_missed.nd rfl (Or.inl rfl) (pe_lst pa_nil))
      (pss_cons (ps_set (i := 3) sc_missed.nd rfl (Or.inl rfl) (C8.pe_c c_first_state hr (by first | decide | omega) (by rfl) (pa_cons (pv 0) pa_nil)))
      (pss_cons (ps_for PassesOwn.never rfl (pi_list (pv 1)) (pg_tup rfl (pgs_cons (pg_name (i := 4) sc_missed.nd rfl (Or.inl rfl)) (pgs_cons (pg_name (i := 5) sc_missed.nd rfl (Or.inl rfl)) pgs_nil))) (pss_cons (ps_expr (pe_bm PySem.F.plainAttrs_list PySem.F.slot_list_append PySem.F.type_list_append mt_append (pv 2) (pa_cons (pe_callTy call_int1 (by rfl) B.int (by decide +kernel) (pa_cons (pe_cmpR (op_neU hr.units) (C8.pe_c c_guess hr (by first | decide | omega) (by rfl) (pa_cons (pv 0) (pa_cons (pv 3) (pa_cons (pv 4) pa_nil)))) (pv 5) (nomark _)) pa_nil)) pa_nil)))
      (pss_one (ps_set (i := 3) sc_missed.nd rfl (Or.inl rfl) (C8.pe_c c_learned hr (by first | decide | omega) (by rfl) (pa_cons (pv 0) (pa_cons (pv 3) (pa_cons (pv 4) (pa_cons (pv 5) pa_nil)))))))))
      (pss_one (ps_ret (pv 2)))))), fun vs H Q E h => ?_⟩
  · obtain ⟨x, a, g, es, ws, rfl, _⟩ := h
    rfl
  · obtain ⟨x, a, g, es, ws, rfl, kx, hg, hd, ha, ka, hl, hev, k⟩ := h
    have V_ := evo_same
    refine ⟨Nat.zero_le _, fun l hln => ?_⟩
    have s1 : Same H (upd H l (.lst [])) := same_new hln
    refine ⟨x, rfl, [.k (encG g)], Same, _, .cons (AAt.of (kx.up (Ts.of s1))) .nil, ⟨rfl, g, hg, hd, rfl, rfl⟩, fun v0 d0 H2 s2 k0 e0 => ?_⟩
    subst e0
    have s12 := s1.trans s2
    refine ⟨.ref a, rfl, a, rfl, ⟨ws, SqL.of (s12 _ _ ha)⟩, for_list (K := K) (a := a) (xs := ws) (fun i σ H' => ∃ v e1 e2, σ = [some x, some (.ref a), some (.ref l), some v, e1, e2] ∧ Same H H' ∧ KAt H' (encS (walk g (first g) (es.take i))) v ∧ H' l = some (.lst ((missL g (first g) (es.take i)).map fun (n : Nat) => V.int (n : Int))))
      ⟨v0, _, _, rfl, s12, k0, s2 _ _ upd_same⟩ (fun i σ H' _ ⟨_, _, _, _, z, _⟩ => SqL.of (z _ _ ha)) ?_ ?_⟩
    · rintro i z σ H' hi ⟨v, e1, e2, rfl, s3, kv, hl3⟩
      obtain ⟨kk, hkk, kz⟩ := ka.getV hi
      rw [List.getElem?_map] at hkk
      cases he : es[i]? with
      | none => rw [he] at hkk; cases hkk
      | some ev =>
      rw [he] at hkk
      have ekk : encE ev = kk := Option.some.inj hkk
      subst ekk
      have kz' := kz.up (Ts.of s3)
      have hem := List.mem_of_getElem? he
      have hlt := (List.getElem?_eq_some_iff.mp he).1
      have etk : es.take (i + 1) = es.take i ++ [ev] := by rw [List.take_add_one, he]; rfl
      have hw := walk_ok hg (es.take i) (first_ok hg)
      generalize hst : walk g (first g) (es.take i) = st at *
      unfold encE at kz'
      cases kz' with
      | @tup c zs _ g1 g2 =>
      cases g2 with
      | @cons _ z1 _ _ g3 g4 =>
      cases g4 with
      | @cons _ z2 _ _ g5 g6 =>
      cases g6
      refine ⟨c, _, rfl, SqT.of g1, rfl, _, _, rfl, _, _, rfl, rfl, ?_⟩
      have M : Mt [some (.k (encG g)), none, none, some (.k (encS st)), some (.k (.num ev.1)), some (.k (.num ev.2))] [some x, some (.ref a), some (.ref l), some v, some z1, some z2] H' := mt_some (AAt.of (kx.up (Ts.of s3))) (mt_none (mt_none (mt_some (AAt.of kv) (mt_some (AAt.of g3) (mt_some (AAt.of g5) mt_nil)))))
      refine ⟨.ref l, rfl, .inl ⟨rfl, _, SqL.of hl3⟩, ?_⟩
      show tCons (tCB _ _) _ _ _ _
      refine el_cons V_ (ek_miss V_ (g := g) (s := st) (e := ev) (ek_call V_ (as := [.k (encG g), .k (encS st), .k (.num ev.1)]) (by walk_at "el") ⟨rfl, g, st, ev.1, hg, hw, hd, rfl, rfl⟩) (by walk_at "ek")) (el_nil V_) _ _ M _ fun vs4 ds4 H4 s4 ks4 ed => ?_
      subst ed
      cases ks4 with
      | cons km kn =>
      cases kn
      rw [kat_num km]
      have hl4 := s4 _ _ hl3
      refine ⟨l, _, _, rfl, rfl, hl4, lt_line (by rw [List.length_map, missL_len, List.length_take]; omega), ?_⟩
      have t5 : Ts H' (upd H4 l (.lst ((missL g (first g) (es.take i)).map (fun (n : Nat) => V.int (n : Int)) ++ [V.int (miss g st ev)]))) := (Ts.of s4).trans (Ts.upd hl4 fun _ z => nomatch z)
      refine ⟨x, rfl, v, rfl, z1, rfl, z2, rfl, [.k (encG g), .k (encS st), .k (.num ev.1), .k (.num ev.2)], Same, _, .cons (AAt.of ((kx.up (Ts.of s3)).up t5)) (.cons (AAt.of (kv.up t5)) (.cons (AAt.of (g3.up t5)) (.cons (AAt.of (g5.up t5)) .nil))), ⟨rfl, g, st, ev.1, ev.2, hev ev hem, hg, hw, hd, rfl, rfl⟩, fun v6 d6 H6 s6 k6 e6 => ?_⟩
      subst e6
      refine ⟨v6, _, _, rfl, (same_upd (s3.trans s4) hln).trans s6, ?_, ?_⟩
      · rw [etk, walk_app, hst]
        exact k6
      · rw [etk, missL_app, hst, List.map_append]
        exact s6 _ _ upd_same
    · rintro σ H' ⟨v, e1, e2, rfl, s3, kv, hl3⟩
      have len := ka.length
      rw [List.length_map] at len
      rw [len, List.take_length] at hl3
      exact ⟨_, rfl, k l H' s3 hln hl3⟩
theorem cal_passed (F : TD K mg "passed_pattern" s_passed_pattern ["guesser", "state", "pattern"]) (B : Blt mg) (c_guess : C8.Cal P w K mg base 4 "guess" (spG (okGuess 3)) []) (c_learned : C8.Cal P w K mg base 9 "learned" (spG (okLearn 3)) []) :
    ∀ d : Nat, C8.Cal P w K mg base (d + 9) "passed_pattern" (spG (okPassed d)) [] := by
  intro d
  induction d with
  | zero =>
    refine cal_never F sc_passed_pattern fun as R S h => ?_
    obtain ⟨_, g, s, p, _, _, _, hd, _⟩ := h
    have := pdeep_pos p
    omega
  | succ d c_passed_pattern =>
    refine cal_of F sc_passed_pattern (fun as R S h => ?_) fun f cdv A outer s H E hr => ⟨_, (pss_cons (ps_if (pt_cmpR (op_eqU hr.units) (pe_ix (ix_U hr.units) (pv 2) pe_int (fun _ _ => rfl)) pe_str (nomark _)) (pss_cons (ps_set (i := 5) sc_passed_pattern.nd rfl (Or.inl rfl) (pe_callTy call_int1 (by rfl) B.int (by decide +kernel) (pa_cons (pe_cmpR (op_neU hr.units) (C8.pe_c c_guess hr (by first | decide | omega) (by rfl) (pa_cons (pv 0) (pa_cons (pv 1) (pa_cons (pe_ix (ix_U hr.units) (pv 2) pe_int (fun _ _ => rfl)) pa_nil)))) (pe_ix (ix_U hr.units) (pv 2) pe_int (fun _ _ => rfl)) (nomark _)) pa_nil)))
      (pss_one (ps_ret (pe_tup (pa_cons (pv 5) (pa_cons (C8.pe_c c_learned hr (by first | decide | omega) (by rfl) (pa_cons (pv 0) (pa_cons (pv 1) (pa_cons (pe_ix (ix_U hr.units) (pv 2) pe_int (fun _ _ => rfl)) (pa_cons (pe_ix (ix_U hr.units) (pv 2) pe_int (fun _ _ => rfl)) pa_nil))))) pa_nil)))))) pss_nil)
      (pss_cons (ps_if (pt_cmpR (op_eqU hr.units) (pe_ix (ix_U hr.units) (pv 2) pe_int (fun _ _ => rfl)) pe_str (nomark _)) (pss_one (ps_ret pe_never)) pss_nil)
      (pss_cons (ps_set (i := 3) sc_passed_pattern.nd rfl (Or.inl rfl) pe_int)
      (pss_cons (ps_for PassesOwn.never rfl (pi_tup (pe_ix (ix_U hr.units) (pv 2) pe_int (fun _ _ => rfl))) (pg_name (i := 4) sc_passed_pattern.nd rfl (Or.inl rfl)) (pss_cons (ps_asg (C8.pe_c c_passed_pattern hr (by first | decide | omega) (by rfl) (pa_cons (pv 0) (pa_cons (pv 1) (pa_cons (pv 4) pa_nil)))) (pg_tup rfl (pgs_cons (pg_name (i := 6) sc_passed_pattern.nd rfl (Or.inl rfl)) (pgs_cons (pg_name (i := 1) sc_passed_pattern.nd rfl (Or.inl rfl)) pgs_nil))))
      (pss_one (ps_aug (i := 3) sc_passed_pattern.nd rfl (Or.inl rfl) (pv 6) ip_add))))
      (pss_one (ps_ret (pe_tup (pa_cons (pv 3) (pa_cons (pv 1) pa_nil))))))))), fun as R S h => ?_⟩
    · obtain ⟨_, g, s, p, _, _, _, _, _, rfl, _⟩ := h
      rfl
    · obtain ⟨rfl, g, st, p, hg, hs, hd, hp, hev, rfl, rfl⟩ := h
      have V_ := evo_same
      cases p with
      | way e =>
        have he : EvOk e := hev e List.mem_cons_self
        refine rs_yes V_ (eb_test V_ (by walk_at "ek")) (rs_assoc (rk_set V_ (a := .k (.num (miss g st e))) ?_ (rs_retS (ek_tup2 V_ (by walk_at "ek") ?_))))
        · exact ek_miss V_ (g := g) (s := st) (e := e) (ek_call V_ (as := [.k (encG g), .k (encS st), .k (.num e.1)]) (by walk_at "el") ⟨rfl, g, st, e.1, hg, hs, hd, rfl, rfl⟩) (by walk_at "ek")
        · exact ek_call V_ (as := [.k (encG g), .k (encS st), .k (.num e.1), .k (.num e.2)]) (by walk_at "el") ⟨rfl, g, st, e.1, e.2, he, hg, hs, hd, rfl, rfl⟩
      | row ps =>
        refine rs_no V_ (eb_test V_ (by walk_at "ek")) (rs_no V_ (eb_test V_ (by walk_at "ek")) (rk_set V_ (ek_int V_) ?_))
        have hpd : pdeeps ps ≤ d := by
          have h1 : 1 + pdeeps ps ≤ d + 1 := hp
          omega
        refine rs_seqC V_ (rc_forTup V_ (ks := encPts ps) (by walk_at "ek") (fun i κ => κ = [some (.k (encG g)), some (.k (encS (walk g st (flats (ps.take i))))), some (.k (encPt (.row ps))), some (.k (.num ((missN g st (flats (ps.take i)) : Nat) : Int))), none, none, none]) rfl ?_) fun κ' hc => ?_
        · rintro i k hk κi rfl
          rw [encPts_map, List.getElem?_map] at hk
          cases hq : ps[i]? with
          | none => rw [hq] at hk; cases hk
          | some q =>
          rw [hq] at hk
          have ek0 : encPt q = k := Option.some.inj hk
          subst ek0
          have hqm := List.mem_of_getElem? hq
          have etk : flats (ps.take (i + 1)) = flats (ps.take i) ++ flat q := by
            rw [List.take_add_one, hq, flats_flat, flats_flat, List.flatMap_append]
            show _ ++ (flat q ++ []) = _
            rw [List.append_nil]
          have hsw := walk_ok hg (flats (ps.take i)) hs
          have hevq : ∀ e ∈ flat q, EvOk e := fun e he => hev e (by
            show e ∈ flats ps
            rw [flats_flat]
            exact List.mem_flatMap.mpr ⟨q, hqm, he⟩)
          rw [etk, walk_app, missN_app]
          generalize walk g st (flats (ps.take i)) = sw at *
          generalize missN g st (flats (ps.take i)) = mw at *
          refine rc_seqE V_ (rc_twoE V_ (i := 6) (j := 1) (x := .num ((missN g sw (flat q) : Nat) : Int)) (y := encS (walk g sw (flat q))) ?_) (rc_end (rc_augE V_ rfl (ek_var V_ rfl)) rfl ?_)
          · exact ek_call V_ (as := [.k (encG g), .k (encS sw), .k (encPt q)]) (by walk_at "el") ⟨rfl, g, sw, q, hg, hsw, hd, pdeeps_le hpd q hqm, hevq, rfl, rfl⟩
          · rw [Int.natCast_add]
            exact .keep (.keep (.keep (.keep (.drop (.keep (.drop .nil))))))
        · subst hc
          have el : (encPts ps).length = ps.length := by rw [encPts_map, List.length_map]
          rw [el, List.take_length]
          exact rs_ret (ek_tup2 V_ (by walk_at "ek") (by walk_at "ek"))
end
end K49
set_option Elab.async false
set_option linter.all false
set_option maxRecDepth 100000
set_option maxHeartbeats 4000000
set_option autoImplicit false
/-! Passes of a pattern. -/
namespace K49
open PySem PySem.Spec PyProof.Rows L2
local macro_rules | `(tactic| walk_at "rk") => `(tactic| first
  | exact rk_eqS ‹_› (by decide)
  | exact rk_ix ‹_› rfl
  | exact rk_inS2 ‹_› (by decide)
  | exact rk_ix ‹_› (at_nums (by assumption))
  | exact rk_modN ‹_› (by first | assumption | omega)
  | exact rk_addN ‹_›
  | exact rk_mul2 ‹_›
  | exact rk_addr1 ‹_›
  | exact rk_add1l ‹_›
  | exact rk_shl1 ‹_› (by omega)
  | exact rk_mulN ‹_› (by omega)
  | exact rk_shlN ‹_› (by omega) (by omega)
  | exact rk_addI ‹_›
  | exact rk_addT ‹_› (by first | decide | (simp only [List.length_append, List.length_cons, List.length_nil, List.length_take, List.length_drop] at *; omega))
  | exact rk_sub ‹_›
  | exact rk_neBl ‹_›
  | exact rk_eqI ‹_›
  | exact rk_neI ‹_›
  | exact rk_cmp ‹_›)
local macro_rules | `(tactic| walk_at "el") => `(tactic| first
  | exact el_nil ‹_›
  | (apply el_cons ‹_›; (focus walk_at "ek"); walk_at "el"))
local macro_rules | `(tactic| walk_at "eo") => `(tactic| first
  | exact eo_none ‹_›
  | (apply eo_some ‹_›; walk_at "ek"))
local macro_rules | `(tactic| walk_at "ek") => `(tactic| first
  | exact ek_var ‹_› rfl
  | exact ek_int ‹_›
  | exact ek_str ‹_›
  | exact ek_non ‹_›
  | exact ek_bl ‹_›
  | (apply ek_op ‹_›; (focus walk_at "ek"); (focus walk_at "ek"); walk_at "rk")
  | (apply ek_neg ‹_›; walk_at "ek")
  | (apply ek_slice ‹_›; (focus walk_at "ek"); (focus walk_at "eo"); walk_at "eo")
  | (apply ek_tup1 ‹_›; walk_at "ek")
  | (apply ek_tup2 ‹_›; (focus walk_at "ek"); walk_at "ek")
  | (apply ek_tup3 ‹_›; (focus walk_at "ek"); (focus walk_at "ek"); walk_at "ek"))
local macro_rules | `(tactic| walk_at "run") => `(tactic| first
  | (refine rs_ret ?_; walk_at "ek")
  | (refine rs_retS ?_; walk_at "ek")
  | (refine rs_yes ‹_› (eb_test ‹_› ?_) ?_; (focus walk_at "ek"); walk_at "run")
  | (refine rs_no ‹_› (eb_test ‹_› ?_) ?_; (focus walk_at "ek"); walk_at "run"))
/-- a method of a class; a class that may be made -/
structure MDef (K : PySem.W.Frag) (C : Addr) (m qual : Str) (st : Stmt) (ps : List Str) : Prop where
  ex : ∃ f fd, FunD K m qual (defArgs st) (defBody st) (defScope st) [] [] f fd ∧ Meth K C m f ∧ Binds K fd ps []
structure IDef (K : PySem.W.Frag) (mg : Str → Option Value) (C : Addr) (x qual : Str) (st : Stmt) (ps : List Str) : Prop where
  ex : ∃ f fd, FunD K "__init__" qual (defArgs st) (defBody st) (defScope st) [] [] f fd ∧ Mk K C f ∧ mg x = some (.ref C) ∧ Binds K fd ps []
/-- what is known of the class -/
structure PasC (K : PySem.W.Frag) (C : Addr) : Prop where
  cls : Cls K C
  n1 : NoAttr K C "states"
  n2 : NoAttr K C "totals"
  n3 : NoAttr K C "first"
section
variable {P : Program} {w : World} {K : PySem.W.Frag} {mg : Str → Option Value} {base : Heap} {C : Addr}
theorem met_sp {m qual : Str} {st : Stmt} {N ps : List Str} {k : Nat} {sp : Sp} (F : MDef K C m qual st ps) (c : Cls K C) (S : FnScope N ps (defScope st)) (len : ∀ vs H Q E, sp vs H Q E → vs.length = ps.length)
    (hbody : ∀ (f : Addr) (cdv : Value) (A : Around) (outer : List Env) (s : Shared) (H0 : Hp) (E0 : XK), Room k (A.deeper (envOfC qual (defScope st) s.heap.objs.size f cdv)) →
      ∃ t, PSs (cxOf CX0 P w K mg base N qual (defScope st) f cdv A outer s H0 E0).nox (defBody st) t ∧ ∀ vs H Q E, sp vs H Q E → t { nx := fun _ H' => Q .non H', rt := Q } (L2.start N vs) H) : C8.Met P w K mg base (k + 1) C m sp [] := by
  obtain ⟨f, fd, F, me, b⟩ := F.ex
  refine ⟨f, fd, ps, [], c, me, F.ok S len (fun cdv A outer s H vs Q E hr h => ?_), b, .nil⟩
  obtain ⟨t, d, r⟩ := hbody f cdv A outer s H E hr
  exact ⟨t, d.nox, r vs H Q E h⟩
theorem mak_sp {x qual : Str} {st : Stmt} {N ps : List Str} {k : Nat} {sp : Sp} (F : IDef K mg C x qual st ps) (S : FnScope N ps (defScope st)) (len : ∀ vs H Q E, sp vs H Q E → vs.length = ps.length)
    (hbody : ∀ (f : Addr) (cdv : Value) (A : Around) (outer : List Env) (s : Shared) (H0 : Hp) (E0 : XK), Room k (A.deeper (envOfC qual (defScope st) s.heap.objs.size f cdv)) →
      ∃ t, PSs (cxOf CX0 P w K mg base N qual (defScope st) f cdv A outer s H0 E0).nox (defBody st) t ∧ ∀ vs H Q E, sp vs H Q E → t { nx := fun _ H' => Q .non H', rt := Q } (L2.start N vs) H) : C8.Mak P w K mg base (k + 1) x C sp [] := by
  obtain ⟨f, fd, F, me, hm, b⟩ := F.ex
  refine ⟨f, fd, ps, [], me, F.ok S len (fun cdv A outer s H vs Q E hr h => ?_), hm, b, .nil⟩
  obtain ⟨t, d, r⟩ := hbody f cdv A outer s H E hr
  exact ⟨t, d.nox, r vs H Q E h⟩
def fsP (lS lT : Addr) (v : V) : List (Str × V) := [("states", .ref lS), ("totals", .ref lT), ("first", v)]
def spLength (C : Addr) : Sp := fun vs H Q _ => ∃ a dx lS lT y, ∃ i : Int, vs = [.ref a] ∧ H a = some (.ins C dx (fsP lS lT (.int i))) ∧ H lS = some (.lst [y]) ∧ Q (.int (1 - i)) H
def spMore (C : Addr) : Sp := fun vs H Q _ => ∃ a dx lS lT, ∃ m : Int, vs = [.ref a] ∧ H a = some (.ins C dx (fsP lS lT (.int 0))) ∧ H lT = some (.lst [.int 0, .int m]) ∧ Q (.int m) H
def spBehind (C : Addr) : Sp := fun vs H Q _ => ∃ a dx lS lT v y, ∃ n m : Int, vs = [.ref a, .int n] ∧ H a = some (.ins C dx (fsP lS lT v)) ∧ H lS = some (.lst [y]) ∧
  ((n = 0 ∧ H lT = some (.lst [.int 0])) ∨ (1 ≤ n ∧ n < 2 ^ 64 ∧ v = .int 0 ∧ H lT = some (.lst [.int 0, .int m]))) ∧ ∀ T H', Same H H' → H' T = some (.tup [.int (n * m), y]) → Q (.ref T) H'
theorem met_length (F : MDef K C "length" "Passes.length" s_Passes_length ["self"]) (c : PasC K C) (B : Blt mg) : C8.Met P w K mg base 1 C "length" (spLength C) [] := by
  refine met_sp F c.cls sc_Passes_length (fun vs H Q E h => ?_) fun f0 cdv A outer s H0 E0 hr => ⟨_, (pss_one (ps_ret (pe_op op_sub (pe_callB (cr_lenx rfl) (by rfl) B.len PySem.boot_len (pa_cons (pe_fld (pv 0) rfl) pa_nil)) (pe_fld (pv 0) rfl)))), fun vs H Q E h => ?_⟩
  · obtain ⟨a, dx, lS, lT, y, i, rfl, _⟩ := h
    rfl
  · obtain ⟨a, dx, lS, lT, y, i, rfl, ha, hS, q⟩ := h
    refine ⟨.ref a, rfl, a, C, dx, _, .ref lS, rfl, ha, c.cls, c.n1, rfl, lS, _, rfl, .inl (SqL.of hS), ?_⟩
    exact ⟨.ref a, rfl, a, C, dx, _, .int i, rfl, ha, c.cls, c.n3, rfl, _, _, rfl, rfl, q⟩
theorem met_more (F : MDef K C "more" "Passes.more" s_Passes_more ["self"]) (c : PasC K C) (B : Blt mg) : C8.Met P w K mg base 1 C "more" (spMore C) [] := by
  refine met_sp F c.cls sc_Passes_more (fun vs H Q E h => ?_) fun f0 cdv A outer s H0 E0 hr => ⟨_, (pss_one (ps_ret (pe_op op_sub (pe_ix (ix_U hr.units) (pe_fld (pv 0) rfl) (pe_un un_neg pe_int) (fun _ _ => rfl)) (pe_ix (ix_U hr.units) (pe_fld (pv 0) rfl) (pe_fld (pv 0) rfl) (fun _ _ => rfl))))), fun vs H Q E h => ?_⟩
  · obtain ⟨a, dx, lS, lT, m, rfl, _⟩ := h
    rfl
  · obtain ⟨a, dx, lS, lT, m, rfl, ha, hT, q⟩ := h
    refine ⟨.ref a, rfl, a, C, dx, _, .ref lT, rfl, ha, c.cls, c.n2, rfl, _, rfl, .inl ⟨lT, _, -1, .int m, rfl, rfl, SqL.of hT, rfl, ?_⟩⟩
    refine ⟨.ref a, rfl, a, C, dx, _, .ref lT, rfl, ha, c.cls, c.n2, rfl, .ref a, rfl, a, C, dx, _, .int 0, rfl, ha, c.cls, c.n3, rfl, .inl ⟨lT, _, 0, .int 0, rfl, rfl, SqL.of hT, rfl, m, 0, rfl, rfl, ?_⟩⟩
    show Q (.int (m - 0)) H
    rw [Int.sub_zero]
    exact q
theorem met_behind (F : MDef K C "behind" "Passes.behind" s_Passes_behind ["self", "number"]) (c : PasC K C) (B : Blt mg) (c_length : C8.Met P w K mg base 1 C "length" (spLength C) []) (c_more : C8.Met P w K mg base 1 C "more" (spMore C) []) : C8.Met P w K mg base 2 C "behind" (spBehind C) [] := by
  refine met_sp F c.cls sc_Passes_behind (fun vs H Q E h => ?_) fun f0 cdv A outer s H0 E0 hr => ⟨_, (pss_cons (ps_if (pt_cmpR op_lt (pv 1) (pe_callB (cr_lenx rfl) (by rfl) B.len PySem.boot_len (pa_cons (pe_fld (pv 0) rfl) pa_nil)) (nomark _)) (pss_one (ps_ret (pe_tup (pa_cons (pe_ix (ix_U hr.units) (pe_fld (pv 0) rfl) (pv 1) (fun _ _ => rfl)) (pa_cons (pe_ix (ix_U hr.units) (pe_fld (pv 0) rfl) (pv 1) (fun _ _ => rfl)) pa_nil))))) pss_nil)
      (pss_cons (ps_asg (pe_callB call_divmod (by rfl) B.divmod (by decide +kernel) (pa_cons (pe_op op_sub (pv 1) (pe_fld (pv 0) rfl)) (pa_cons (C8.pe_mt0 c_length hr (by decide) (pv 0)) pa_nil))) (pg_tup rfl (pgs_cons (pg_name (i := 3) sc_Passes_behind.nd rfl (Or.inl rfl)) (pgs_cons (pg_name (i := 4) sc_Passes_behind.nd rfl (Or.inl rfl)) pgs_nil))))
      (pss_cons (ps_set (i := 2) sc_Passes_behind.nd rfl (Or.inl rfl) (pe_op op_addU (pe_fld (pv 0) rfl) (pv 4)))
      (pss_one (ps_ret (pe_tup (pa_cons (pe_op op_addU (pe_ix (ix_U hr.units) (pe_fld (pv 0) rfl) (pv 2) (fun _ _ => rfl)) (pe_op op_mulU (pv 3) (C8.pe_mt0 c_more hr (by decide) (pv 0)))) (pa_cons (pe_ix (ix_U hr.units) (pe_fld (pv 0) rfl) (pv 2) (fun _ _ => rfl)) pa_nil)))))))), fun vs H Q E h => ?_⟩
  · obtain ⟨a, dx, lS, lT, v, y, n, m, rfl, _⟩ := h
    rfl
  · obtain ⟨a, dx, lS, lT, v, y, n, m, rfl, ha, hS, hcase, q⟩ := h
    refine ⟨.int n, rfl, .ref a, rfl, a, C, dx, _, .ref lS, rfl, ha, c.cls, c.n1, rfl, lS, _, rfl, .inl (SqL.of hS), n, _, rfl, rfl, _, rfl, ?_⟩
    rcases hcase with ⟨rfl, hT⟩ | ⟨h1, h2, rfl, hT⟩
    · refine ⟨.ref a, rfl, a, C, dx, _, .ref lT, rfl, ha, c.cls, c.n2, rfl, .int 0, rfl, .inl ⟨lT, _, 0, .int 0, rfl, rfl, SqL.of hT, rfl, ?_⟩⟩
      refine ⟨.ref a, rfl, a, C, dx, _, .ref lS, rfl, ha, c.cls, c.n1, rfl, .int 0, rfl, .inl ⟨lS, _, 0, y, rfl, rfl, SqL.of hS, rfl, (by show 2 ≤ sizeLine; decide), fun p hp => ?_⟩⟩
      refine q p _ (same_new hp) ?_
      rw [upd_same, Int.zero_mul]
    · have e : decide (n < (([y] : List V).length : Int)) = false := decide_eq_false (by show ¬ n < 1; omega)
      rw [e]
      refine ⟨.int n, rfl, .ref a, rfl, a, C, dx, _, .int 0, rfl, ha, c.cls, c.n3, rfl, n, 0, rfl, rfl, ?_⟩
      refine ⟨.ref a, rfl, a, dx, _, rfl, ha, rfl, a, dx, lS, lT, y, 0, rfl, ha, hS, ?_⟩
      refine ⟨_, _, rfl, ⟨by omega, by omega⟩, fun p hp => ?_⟩
      have s1 : Same H (upd H p (.tup [.int ((n - 0) / (1 - 0)), .int ((n - 0) % (1 - 0))])) := same_new hp
      refine ⟨p, _, rfl, SqT.of upd_same, rfl, _, _, rfl, _, _, rfl, rfl, ?_⟩
      have e1 : (n - 0) / (1 - 0) = n := by rw [Int.sub_zero]; exact Int.ediv_one n
      have e2 : (n - 0) % (1 - 0) = 0 := by rw [Int.sub_zero]; exact Int.emod_one n
      rw [e1, e2] at s1 ⊢
      generalize (upd H p (.tup [.int n, .int 0])) = H1 at *
      have ha1 := s1 _ _ ha
      have hS1 := s1 _ _ hS
      have hT1 := s1 _ _ hT
      refine ⟨.ref a, rfl, a, C, dx, _, .int 0, rfl, ha1, c.cls, c.n3, rfl, .int 0, rfl, .inl ⟨0, 0, rfl, rfl, ?_⟩⟩
      refine ⟨.ref a, rfl, a, C, dx, _, .ref lT, rfl, ha1, c.cls, c.n2, rfl, .int 0, rfl, .inl ⟨lT, _, 0, .int 0, rfl, rfl, SqL.of hT1, rfl, ?_⟩⟩
      refine ⟨.int n, rfl, .ref a, rfl, a, dx, _, rfl, ha1, rfl, a, dx, lS, lT, m, rfl, ha1, hT1, ?_⟩
      refine .inl ⟨n, m, rfl, rfl, .inl ⟨by omega, h2⟩, .inl ⟨0, n * m, rfl, rfl, ?_⟩⟩
      refine ⟨.ref a, rfl, a, C, dx, _, .ref lS, rfl, ha1, c.cls, c.n1, rfl, .int 0, rfl, .inl ⟨lS, _, 0, y, rfl, rfl, SqL.of hS1, rfl, (by show 2 ≤ sizeLine; decide), fun p2 hp2 => ?_⟩⟩
      refine q p2 _ (s1.trans (same_new hp2)) ?_
      rw [upd_same]
      show some (HO.tup [.int (0 + n * m), y]) = _
      rw [Int.zero_add]
def Bu (a : Addr) (H H' : Hp) : Prop := ∀ b o, b ≠ a → H b = some o → H' b = some o
theorem Bu.new {a D : Addr} {H H' : Hp} {o : HO} (e : Bu a H H') (h : H D = none) : Bu a H (upd H' D o) := fun b u n q => by
  rw [upd_ne (ne_of_none q h)]
  exact e b u n q
theorem Bu.own {a : Addr} {H H' : Hp} {o : HO} (e : Bu a H H') : Bu a H (upd H' a o) := fun b u n q => by
  rw [upd_ne n]
  exact e b u n q
theorem Bu.same {a : Addr} {H H' H2 : Hp} (e : Bu a H H') (s : Same H' H2) : Bu a H H2 := fun b u n q => s b u (e b u n q)
theorem Bu.ts {a : Addr} {H H' : Hp} {o : HO} (e : Bu a H H') (h : H a = some o) (n : ∀ xs, o ≠ .tup xs) : Ts H H' := fun b xs q => by
  refine e b _ (fun z => ?_) q
  subst z
  rw [h] at q
  exact n xs (Option.some.inj q)
/-- self, guesser, state, pattern, most -/
def spInit (C : Addr) : Sp := fun vs H Q _ => ∃ a dx xg ys yp n g s p, vs = [.ref a, xg, ys, yp, .int n] ∧ H a = some (.ins C dx []) ∧ KAt H (encG g) xg ∧ KAt H (encS s) ys ∧ KAt H (encPt p) yp ∧ GsOk g ∧ deep g ≤ 3 ∧ SaOk g s ∧ pdeep p ≤ 5 ∧ (∀ e ∈ flat p, EvOk e) ∧ walk g s (flat p) = s ∧ 0 ≤ n ∧
  ∀ H' lS lT v y, Bu a H H' → H' a = some (.ins C dx (fsP lS lT v)) → H' lS = some (.lst [y]) → ((n = 0 ∧ H' lT = some (.lst [.int 0])) ∨ (1 ≤ n ∧ v = .int 0 ∧ H' lT = some (.lst [.int 0, .int (missN g s (flat p))]))) → Q .non H'
theorem depthS {g : Gs} {s : Sa} (hs : SaOk g s) (hd : deep g ≤ 3) : (encS s).depth ≤ 8 := by
  have := depth_encS hs
  omega
theorem keyS {H : Hp} {s : Sa} {y : V} (h : KAt H (encS s) y) (hd : (encS s).depth ≤ 8) : KeyK H y (encS s) := by
  refine ⟨?_, h, hd⟩
  cases s with
  | one cs => cases h with | tup _ _ => exact ⟨_, rfl⟩
  | num k cs => cases h with | tup _ _ => exact ⟨_, rfl⟩
  | nums ks cs => cases h with | tup _ _ => exact ⟨_, rfl⟩
  | two x y cs => cases h with | tup _ _ => exact ⟨_, rfl⟩
theorem mak_Passes (F : IDef K mg C "Passes" "Passes.__init__" s_Passes___init ["self", "guesser", "state", "pattern", "most"]) (c : PasC K C) (B : Blt mg) (c_passed_pattern : C8.Cal P w K mg base 14 "passed_pattern" (spG (okPassed 5)) []) : C8.Mak P w K mg base 15 "Passes" C (spInit C) [] := by
  refine mak_sp F sc_Passes___init (fun vs H Q E h => ?_) fun f0 cdv A outer s0 H0 E0 hr => ⟨_, (pss_cons (ps_fld (pv 0) (pe_lst (pa_cons (pv 2) pa_nil)) rfl)
      (pss_cons (ps_fld (pv 0) (pe_lst (pa_cons pe_int pa_nil)) rfl)
      (pss_cons (ps_fld (pv 0) pe_non rfl)
      (pss_cons (ps_set (i := 5) sc_Passes___init.nd rfl (Or.inl rfl) (pe_ndisp1 hr.units (pv 2) pe_int))
      (pss_one (ps_while PassesOwn.never (PW.pt (pw_and (pt_cmpR op_isN (pe_fld (pv 0) rfl) pe_non (nomark _)) (pw_and1 (PW.pt (pw_or (pt_cmpR op_isN (pv 4) pe_non (nomark _)) (pw_or1 (pt_cmpR op_le (pe_callB (cr_lenx rfl) (by rfl) B.len PySem.boot_len (pa_cons (pe_fld (pv 0) rfl) pa_nil)) (pv 4) (nomark _)))))))) (pss_cons (ps_asg (C8.pe_c c_passed_pattern hr (by first | decide | omega) (by rfl) (pa_cons (pv 1) (pa_cons (pe_ix (ix_U hr.units) (pe_fld (pv 0) rfl) (pe_un un_neg pe_int) (fun _ _ => rfl)) (pa_cons (pv 3) pa_nil)))) (pg_tup rfl (pgs_cons (pg_name (i := 6) sc_Passes___init.nd rfl (Or.inl rfl)) (pgs_cons (pg_name (i := 7) sc_Passes___init.nd rfl (Or.inl rfl)) pgs_nil))))
      (pss_cons (ps_expr (pe_bm PySem.F.plainAttrs_list PySem.F.slot_list_append PySem.F.type_list_append mt_append (pe_fld (pv 0) rfl) (pa_cons (pe_op op_addU (pe_ix (ix_U hr.units) (pe_fld (pv 0) rfl) (pe_un un_neg pe_int) (fun _ _ => rfl)) (pv 6)) pa_nil)))
      (pss_cons (ps_fld (pv 0) (pe_nget1 hr.units (pv 5) (pv 7) ⟨rfl, rfl, rfl, rfl⟩) rfl)
      (pss_one (ps_if (pt_cmpR op_isN (pe_fld (pv 0) rfl) pe_non (nomark _)) (pss_cons (ps_asg (pe_callB (cr_lenx rfl) (by rfl) B.len PySem.boot_len (pa_cons (pe_fld (pv 0) rfl) pa_nil)) (pg_sub (pv 5) (pv 7) (set_U hr.units)))
      (pss_one (ps_expr (pe_bm PySem.F.plainAttrs_list PySem.F.slot_list_append PySem.F.type_list_append mt_append (pe_fld (pv 0) rfl) (pa_cons (pv 7) pa_nil))))) pss_nil))))))))))), fun vs H Q E h => ?_⟩
  · obtain ⟨a, dx, xg, ys, yp, n, g, s, p, rfl, _⟩ := h
    rfl
  · obtain ⟨a, dx, xg, ys, yp, n, g, s, p, rfl, ha, kx, ks, kp, hg, hd, hs, hp, hev, hwalk, hn, k⟩ := h
    have hins : ∀ xs, HO.ins C dx [] ≠ .tup xs := fun _ z => nomatch z
    refine ⟨ys, rfl, (by show 1 ≤ sizeLine; decide), fun lS hlS => ?_⟩
    have aS : a ≠ lS := fun e => by
      subst e
      rw [ha] at hlS
      cases hlS
    refine ⟨.ref a, rfl, a, C, dx, [], rfl, (by rw [upd_ne aS]; exact ha), c.cls, c.n1, by decide, ?_⟩
    have b1 : Bu a H (upd (upd H lS (.lst [ys])) a (.ins C dx (putF "states" (.ref lS) []))) := (Bu.new (fun _ _ _ h => h) hlS).own
    have hS1 : (upd (upd H lS (.lst [ys])) a (.ins C dx (putF "states" (.ref lS) []))) lS = some (.lst [ys]) := by
      rw [upd_ne (Ne.symm aS), upd_same]
    have ha1 : (upd (upd H lS (.lst [ys])) a (.ins C dx (putF "states" (.ref lS) []))) a = some (.ins C dx (putF "states" (.ref lS) [])) := upd_same
    generalize (upd (upd H lS (.lst [ys])) a (.ins C dx (putF "states" (.ref lS) []))) = H1 at *
    refine ⟨(by show 1 ≤ sizeLine; decide), fun lT hlT => ?_⟩
    have aT : a ≠ lT := fun e => by
      subst e
      rw [ha1] at hlT
      cases hlT
    have ST : lS ≠ lT := fun e => by
      subst e
      rw [hS1] at hlT
      cases hlT
    have hlT0 : H lT = none := by
      cases z : H lT with
      | none => rfl
      | some o =>
        rw [b1 _ _ (Ne.symm aT) z] at hlT
        cases hlT
    refine ⟨.ref a, rfl, a, C, dx, _, rfl, (by rw [upd_ne aT]; exact ha1), c.cls, c.n2, (by show 1 < 1000; decide), ?_⟩
    refine ⟨.ref a, rfl, a, C, dx, _, rfl, upd_same, c.cls, c.n3, (by show 2 < 1000; decide), ?_⟩
    have b2 : ∀ {o1 o2 o3 : HO}, Bu a H (upd (upd (upd H1 lT o1) a o2) a o3) := fun {o1 o2 o3} => ((b1.new hlT0).own).own
    have hS2 : ∀ {o1 o2 o3 : HO}, (upd (upd (upd H1 lT o1) a o2) a o3) lS = some (.lst [ys]) := fun {o1 o2 o3} => by
      rw [upd_ne (Ne.symm aS), upd_ne (Ne.symm aS), upd_ne ST]
      exact hS1
    have hT2 : ∀ {o1 o2 o3 : HO}, (upd (upd (upd H1 lT o1) a o2) a o3) lT = some o1 := fun {o1 o2 o3} => by
      rw [upd_ne (Ne.symm aT), upd_ne (Ne.symm aT), upd_same]
    have ha2 : ∀ {o1 o2 : HO} {fs : List (Str × V)}, (upd (upd (upd H1 lT o1) a o2) a (.ins C dx fs)) a = some (.ins C dx fs) := fun {o1 o2 fs} => upd_same
    refine fun dP H3 hdP s3 h0 => ?_
    have b3 := b2.same s3
    have hS3 := s3 _ _ hS2
    have hT3 := s3 _ _ hT2
    have ha3 := s3 _ _ ha2
    have dps := depthS hs hd
    refine ⟨ys, rfl, encS s, keyS (ks.up (b3.ts ha hins)) dps, h0, fun H4 pt => ?_⟩
    obtain ⟨⟨φ, rfl⟩, dn⟩ := pt
    have hdP0 : H dP = none := by
      cases z : H dP with
      | none => rfl
      | some o =>
        by_cases e : dP = a
        · subst e
          rw [ha2] at hdP
          cases hdP
        · rw [b2 _ _ e z] at hdP
          cases hdP
    have nP : ∀ {b : Addr} {o : HO}, (upd (upd (upd H1 lT (.lst [.int 0])) a (.ins C dx (putF "totals" (.ref lT) (putF "states" (.ref lS) [])))) a (.ins C dx (putF "first" .non (putF "totals" (.ref lT) (putF "states" (.ref lS) []))))) b = some o → b ≠ dP := fun {b o} z e => by
      subst e
      rw [hdP] at z
      cases z
    have nS := nP hS2
    have nT := nP hT2
    have nA := nP ha2
    refine ⟨fun m σ H' => ∃ e1 e2 v lt, σ = [some (.ref a), some xg, some ys, some yp, some (.int n), some (.ref dP), e1, e2] ∧ Bu a H H' ∧ H' a = some (.ins C dx (fsP lS lT v)) ∧ H' lS = some (.lst [ys]) ∧ H' lT = some (.lst lt) ∧
        ((m = 1 ∧ v = .non ∧ lt = [.int 0] ∧ DNt P w H' dP [(encS s, .int 0)]) ∨ (m = 0 ∧ 1 ≤ n ∧ v = .int 0 ∧ lt = [.int 0, .int (missN g s (flat p))])),
      ⟨1, _, _, .non, _, rfl, b3.new hdP0, by rw [upd_ne nA]; exact ha3, by rw [upd_ne nS]; exact hS3, by rw [upd_ne nT]; exact hT3, .inl ⟨rfl, rfl, rfl, dn⟩⟩, ?_⟩
    clear dn h0 ha3 hT3 hS3 b3 s3 H3 hdP ha2 hT2 hS2 b2 hlT hS1 b1 ha1 hlS
    rintro m σ H' ⟨e1, e2, v, lt, rfl, b1, h1, h2, h3, hst⟩
    refine ⟨.ref a, rfl, a, C, dx, _, v, rfl, h1, c.cls, c.n3, rfl, rfl, _, rfl, ?_⟩
    rcases hst with ⟨rfl, rfl, rfl, hdn⟩ | ⟨rfl, hn1, rfl, rfl⟩
    · refine ⟨.int n, rfl, rfl, _, rfl, ?_⟩
      refine ⟨.ref a, rfl, a, C, dx, _, .ref lT, rfl, h1, c.cls, c.n2, rfl, lT, _, rfl, .inl (SqL.of h3), .int n, rfl, _, _, rfl, rfl, _, rfl, ?_⟩
      by_cases hz : n = 0
      · subst hz
        exact k H' lS lT .non ys b1 h1 h2 (.inl ⟨rfl, h3⟩)
      · have e : decide ((([V.int 0] : List V).length : Int) ≤ n) = true := decide_eq_true (by show (1 : Int) ≤ n; omega)
        rw [e]
        refine ⟨_, fun _ _ h => h, ?_⟩
        have t1 := b1.ts ha hins
        refine ⟨xg, rfl, .ref a, rfl, a, C, dx, _, .ref lS, rfl, h1, c.cls, c.n1, rfl, _, rfl, .inl ⟨lS, _, -1, ys, rfl, rfl, SqL.of h2, rfl, ?_⟩⟩
        refine ⟨yp, rfl, [.k (encG g), .k (encS s), .k (encPt p)], Same, _, .cons (AAt.of (kx.up t1)) (.cons (AAt.of (ks.up t1)) (.cons (AAt.of (kp.up t1)) .nil)), ⟨rfl, g, s, p, hg, hs, hd, hp, hev, rfl, rfl⟩, fun vr dr H5 s5 kr er => ?_⟩
        subst er
        obtain ⟨cT, ws, rfl, g1, g2⟩ := kat_tup kr
        cases g2 with
        | @cons _ z1 _ _ g3 g4 =>
        cases g4 with
        | @cons _ z2 _ _ g5 g6 =>
        cases g6
        rw [hwalk] at g5
        cases g3
        refine ⟨cT, _, rfl, SqT.of g1, rfl, _, _, rfl, _, _, rfl, rfl, ?_⟩
        have b5 := b1.same s5
        have h15 := s5 _ _ h1
        have h25 := s5 _ _ h2
        have h35 := s5 _ _ h3
        have dn5 := hdn.same s5
        refine ⟨.ref a, rfl, a, C, dx, _, .ref lT, rfl, h15, c.cls, c.n2, rfl, .inl ⟨rfl, _, SqL.of h35⟩, .ref a, rfl, a, C, dx, _, .ref lT, rfl, h15, c.cls, c.n2, rfl, _, rfl, .inl ⟨lT, _, -1, .int 0, rfl, rfl, SqL.of h35, rfl, _, rfl, .inl ⟨0, _, rfl, rfl, lT, _, _, rfl, rfl, h35, (by show 1 < sizeLine; decide), ?_⟩⟩⟩
        have t6 : ∀ {o : HO}, Ts H5 (upd H5 lT o) := fun {o} => Ts.upd h35 fun _ z => nomatch z
        have g5' : KAt H5 (encS s) z2 := g5
        have dn6 := dn5.up t6 (fun o z => by rw [upd_ne (Ne.symm nT)]; exact z) (H' := upd H5 lT (.lst ([V.int 0] ++ [V.int (0 + (missN g s (flat p) : Nat))])))
        refine ⟨.ref dP, rfl, dP, rfl, ⟨_, dn6.rd⟩, z2, rfl, encS s, _, keyS (g5'.up t6) dps, dn6.rd, .ref a, rfl, a, C, dx, _, rfl, (by rw [upd_ne aT]; exact h15), c.cls, c.n3, (by show 3 < 1000; decide), ?_⟩
        have ev : (valV [(encS s, V.int 0)] (encS s)).getD .non = .int 0 := by
          rw [valV_pos rfl]
          rfl
        rw [ev]
        refine ⟨.ref a, rfl, a, C, dx, _, .int 0, rfl, upd_same, c.cls, c.n3, rfl, rfl, _, rfl, ?_⟩
        refine ⟨0, Nat.lt_succ_self _, _, _, .int 0, [.int 0, .int (missN g s (flat p))], rfl, (b5.new hlT0).own, upd_same, ?_, ?_, .inr ⟨rfl, by omega, rfl, rfl⟩⟩
        · rw [upd_ne (Ne.symm aS), upd_ne ST]
          exact h25
        · rw [upd_ne (Ne.symm aT), upd_same]
          show some (HO.lst ([V.int 0] ++ [V.int (0 + (missN g s (flat p) : Int))])) = _
          rw [Int.zero_add]
          rfl
    · exact k H' lS lT _ ys b1 h1 h2 (.inr ⟨hn1, rfl, h3⟩)
/-- misses behind a run and n loops that lead back -/
def okBehindM : Ok := fun as R S => R = Same ∧ ∃ g pa pr, ∃ n : Int, GsOk g ∧ deep g ≤ 3 ∧ pdeep pa ≤ 5 ∧ pdeep pr ≤ 5 ∧ (∀ e ∈ flat pa, EvOk e) ∧ (∀ e ∈ flat pr, EvOk e) ∧ walk g (walk g (first g) (flat pa)) (flat pr) = walk g (first g) (flat pa) ∧ 0 ≤ n ∧ n < 2 ^ 64 ∧
  as = [.k (encG g), .k (encPt pa), .k (encPt pr), .k (.num n)] ∧ S = fun d => d = .k (.num ((missN g (first g) (flat pa) : Int) + n * (missN g (walk g (first g) (flat pa)) (flat pr) : Int)))
theorem cal_misses_behind (F : TD K mg "misses_behind" s_misses_behind ["guesser", "ahead", "around", "passes"]) (c_first_state : C8.Cal P w K mg base 4 "first_state" (spG (okFirst 3)) []) (c_passed_pattern : C8.Cal P w K mg base 14 "passed_pattern" (spG (okPassed 5)) [])
    (c_Passes : C8.Mak P w K mg base 15 "Passes" C (spInit C) []) (c_behind : C8.Met P w K mg base 2 C "behind" (spBehind C) []) : C8.Cal P w K mg base 17 "misses_behind" (spG okBehindM) [] := by
  refine cal_of F sc_misses_behind (fun as R S h => ?_) fun f cdv A outer s H E hr => ⟨_, (pss_cons (ps_asg (C8.pe_c c_passed_pattern hr (by first | decide | omega) (by rfl) (pa_cons (pv 0) (pa_cons (C8.pe_c c_first_state hr (by first | decide | omega) (by rfl) (pa_cons (pv 0) pa_nil)) (pa_cons (pv 1) pa_nil)))) (pg_tup rfl (pgs_cons (pg_name (i := 4) sc_misses_behind.nd rfl (Or.inl rfl)) (pgs_cons (pg_name (i := 5) sc_misses_behind.nd rfl (Or.inl rfl)) pgs_nil))))
      (pss_one (ps_ret (pe_op op_addU (pv 4) (pe_ix (ix_U hr.units) (C8.pe_mt c_behind hr (by decide) (C8.pe_mk c_Passes hr (by decide) (by rfl) (pa_cons (pv 0) (pa_cons (pv 5) (pa_cons (pv 2) (pa_cons (pv 3) pa_nil))))) (pa_cons (pv 3) pa_nil)) pe_int (fun _ _ => rfl)))))), fun as R S h => ?_⟩
  · obtain ⟨_, g, pa, pr, n, _, _, _, _, _, _, _, _, _, rfl, _⟩ := h
    rfl
  · obtain ⟨rfl, g, pa, pr, n, hg, hd, hpa, hpr, eva, evr, hw, hn, hn2, rfl, rfl⟩ := h
    have V_ := evo_same
    have hs1 := walk_ok hg (flat pa) (first_ok hg)
    refine rs_two V_ (i := 4) (j := 5) (x := .num ((missN g (first g) (flat pa) : Nat) : Int)) (y := encS (walk g (first g) (flat pa))) ?_ (rs_ret (ek_op V_ (x := .k (.num _)) (y := .k (.num (n * (missN g (walk g (first g) (flat pa)) (flat pr) : Int)))) (ek_var V_ rfl) ?_ (rk_addI V_)))
    · exact ek_call V_ (as := [.k (encG g), .k (encS (first g)), .k (encPt pa)]) (el_cons V_ (ek_var V_ rfl) (el_cons V_ (ek_call V_ (as := [.k (encG g)]) (by walk_at "el") ⟨rfl, g, hg, hd, rfl, rfl⟩) (by walk_at "el"))) ⟨rfl, g, first g, pa, hg, first_ok hg, hd, hpa, eva, rfl, rfl⟩
    · intro σ H1 M Q q
      show tMeth _ _ _ _ _ _ _ _ _ _
      show tMake _ _ _ _ _ _ _ _
      show tCons (tVar 0) _ _ _ _
      refine (show EvL Same _ _ [.k (encG g), .k (encS (walk g (first g) (flat pa))), .k (encPt pr), .k (.num n)] from by walk_at "el") σ H1 M _ fun vs ds H2 r2 ks ed => ?_
      subst ed
      obtain ⟨vn, hvn, kvn⟩ := M.at_ 3 (.k (.num n)) rfl
      rw [kat_num kvn] at hvn
      cases ks with
      | @cons _ xg _ _ k1 ks =>
      cases ks with
      | @cons _ ys _ _ k2 ks =>
      cases ks with
      | @cons _ yp _ _ k3 ks =>
      cases ks with
      | @cons _ z _ _ k4 ks =>
      cases ks
      rw [kat_num k4]
      intro x dx hx hdx hne
      have sN : Same H2 (upd (upd H2 dx (.own x)) x (.ins C dx [])) := fun b o z => by
        rw [upd_ne (ne_of_none z hx), upd_ne (ne_of_none z hdx)]
        exact z
      refine ⟨x, dx, xg, ys, yp, n, g, walk g (first g) (flat pa), pr, rfl, upd_same, KAt.up k1 (Ts.of sN), KAt.up k2 (Ts.of sN), KAt.up k3 (Ts.of sN), hg, hd, hs1, hpr, evr, hw, hn, fun H' lS lT v y bu ha hS hcase => ⟨rfl, ?_⟩⟩
      have sM : Same H2 H' := fun b o z => bu b o (ne_of_none z hx) (sN b o z)
      refine ⟨x, dx, _, rfl, ha, rfl, .int n, hvn, x, dx, lS, lT, v, y, n, ((missN g (walk g (first g) (flat pa)) (flat pr) : Nat) : Int), rfl, ha, hS, ?_, fun T H3 s3 hT => ?_⟩
      · rcases hcase with ⟨h1, h2⟩ | ⟨h1, h2, h3⟩
        · exact .inl ⟨h1, h2⟩
        · exact .inr ⟨h1, hn2, h2, h3⟩
      · exact .inr (.inl ⟨T, _, 0, _, rfl, rfl, SqT.of hT, rfl, q _ _ _ (r2.trans (sM.trans s3)) (AAt.of (KAt.num _)) rfl⟩)
end
end K49
set_option Elab.async false
set_option linter.all false
set_option maxRecDepth 100000
set_option maxHeartbeats 4000000
set_option autoImplicit false
/-! The law: draws, cells. -/
namespace K49
open PySem PySem.Spec PyProof.Rows L2
local macro_rules | `(tactic| walk_at "rk") => `(tactic| first
  | exact rk_eqS ‹_› (by decide)
  | exact rk_ix ‹_› rfl
  | exact rk_inS2 ‹_› (by decide)
  | exact rk_ix ‹_› (at_nums (by assumption))
  | exact rk_modN ‹_› (by first | assumption | omega)
  | exact rk_addN ‹_›
  | exact rk_mul2 ‹_›
  | exact rk_addr1 ‹_›
  | exact rk_add1l ‹_›
  | exact rk_shl1 ‹_› (by omega)
  | exact rk_mulN ‹_› (by omega)
  | exact rk_shlN ‹_› (by omega) (by omega)
  | exact rk_addI ‹_›
  | exact rk_addT ‹_› (by first | decide | (simp only [List.length_append, List.length_cons, List.length_nil, List.length_take, List.length_drop] at *; omega))
  | exact rk_sub ‹_›
  | exact rk_neBl ‹_›
  | exact rk_eqI ‹_›
  | exact rk_neI ‹_›
  | exact rk_cmp ‹_›)
local macro_rules | `(tactic| walk_at "el") => `(tactic| first
  | exact el_nil ‹_›
  | (apply el_cons ‹_›; (focus walk_at "ek"); walk_at "el"))
local macro_rules | `(tactic| walk_at "eo") => `(tactic| first
  | exact eo_none ‹_›
  | (apply eo_some ‹_›; walk_at "ek"))
local macro_rules | `(tactic| walk_at "ek") => `(tactic| first
  | exact ek_var ‹_› rfl
  | exact ek_int ‹_›
  | exact ek_str ‹_›
  | exact ek_non ‹_›
  | exact ek_bl ‹_›
  | (apply ek_op ‹_›; (focus walk_at "ek"); (focus walk_at "ek"); walk_at "rk")
  | (apply ek_neg ‹_›; walk_at "ek")
  | (apply ek_slice ‹_›; (focus walk_at "ek"); (focus walk_at "eo"); walk_at "eo")
  | (apply ek_tup1 ‹_›; walk_at "ek")
  | (apply ek_tup2 ‹_›; (focus walk_at "ek"); walk_at "ek")
  | (apply ek_tup3 ‹_›; (focus walk_at "ek"); (focus walk_at "ek"); walk_at "ek"))
local macro_rules | `(tactic| walk_at "run") => `(tactic| first
  | (refine rs_ret ?_; walk_at "ek")
  | (refine rs_retS ?_; walk_at "ek")
  | (refine rs_yes ‹_› (eb_test ‹_› ?_) ?_; (focus walk_at "ek"); walk_at "run")
  | (refine rs_no ‹_› (eb_test ‹_› ?_) ?_; (focus walk_at "ek"); walk_at "run"))
def numB (m : Nat) : AV → Prop := fun d => ∃ x : Nat, d = .k (.num (x : Int)) ∧ x < m
def okTake : Ok := fun as R S => ∃ a, ∃ m : Nat, 1 ≤ m ∧ R = Dr a ∧ as = [.dr a, .k (.num (m : Int))] ∧ S = numB m
def okCell : Ok := fun as R S => ∃ a, R = Dr a ∧ as = [.dr a] ∧ S = fun d => ∃ c, CellOk c ∧ d = .k (encC c)
def okTotal (n : Nat) : Ok := fun as R S => R = Same ∧ ∃ g, GsOk g ∧ deep g ≤ n ∧ as = [.k (encG g)] ∧ S = fun d => d = .k (.num (total g : Int))
def okDeep (n : Nat) : Ok := fun as R S => R = Same ∧ ∃ g, GsOk g ∧ deep g ≤ n ∧ as = [.k (encG g)] ∧ S = fun d => d = .k (.num (deep g : Int))
section
variable {P : Program} {w : World} {K : PySem.W.Frag} {mg : Str → Option Value} {base : Heap}
theorem dpInts {H : Hp} : ∀ ds : List Int, DpAll K H (ds.map V.int) (ds.map PyData.int)
  | [] => .nil
  | d :: ds => .cons (.int d) (dpInts ds)
/-- l == [] for a list of numbers -/
theorem ints_nil {H : Hp} {a b : Addr} {ds : List Int} (ha : H a = some (.lst (ds.map V.int))) (hb : H b = some (.lst [])) :
    ∃ d e, Dp K H (.ref a) d ∧ Dp K H (.ref b) e ∧ SeqAt.shaped d = true ∧ SeqAt.shaped e = true ∧ PyData.eqv d e = decide (ds = []) := by
  refine ⟨.list (ds.map PyData.int), .list [], .lst (SqL.of ha) (dpInts ds), .lst (SqL.of hb) .nil, PySem.W.ke_shaped_ints ds, by decide, ?_⟩
  cases ds with
  | nil => decide
  | cons d r =>
    rw [PyData.eqv, List.map_cons, PyData.eqvAll]
    simp
theorem dr_write {a : Addr} {H H' : Hp} {ds es : List Int} (e : Same H H') (h : H a = some (.lst (ds.map V.int))) : Dr a H (upd H' a (.lst (es.map V.int))) where
  but := fun b o n q => by
    rw [upd_ne n]
    exact e _ _ q
  dr := fun _ => ⟨es, upd_same⟩
  ts := (Ts.of e).trans (Ts.upd (e _ _ h) fun _ z => nomatch z)
  no := fun o q n => absurd ⟨ds, h⟩ n
theorem cal_take (F : TD K mg "_law_take" s_l_law_take ["draws", "many"]) : C8.Cal P w K mg base 1 "_law_take" (spG okTake) [] := by
  refine cal_of F sc_l_law_take (fun as R S h => ?_) fun f cdv A outer s H E hr => ⟨_, (pss_cons (ps_if (pt_cmpR (op_eqU hr.units) (pv 0) (pe_lst pa_nil) (nomark _)) (pss_one (ps_ret pe_int)) pss_nil)
      (pss_one (ps_ret (pe_op op_mod (pe_bm PySem.F.plainAttrs_list PySem.F.slot_list_pop PySem.F.type_list_pop mt_popAt (pv 0) (pa_cons pe_int pa_nil)) (pv 1))))), fun as R S h => ?_⟩
  · obtain ⟨a, m, _, _, rfl, _⟩ := h
    rfl
  · obtain ⟨a, m, hm, rfl, rfl, rfl⟩ := h
    have V_ := evo_dr a
    intro D σ H1 M q
    obtain ⟨v0, hv0, kv0⟩ := M.at_ 0 (.dr a) rfl
    obtain ⟨v1, hv1, kv1⟩ := M.at_ 1 (.k (.num (m : Int))) rfl
    rw [kat_num kv1] at hv1
    obtain ⟨e0, ds, hds⟩ := kv0
    subst e0
    refine ⟨.ref a, hv0, Nat.zero_le _, fun p hp => ?_⟩
    have s1 : Same H1 (upd H1 p (.lst [])) := same_new hp
    obtain ⟨dd, ee, q1, q2, q3, q4, q5⟩ := ints_nil (K := K) (a := a) (b := p) (s1 _ _ hds) upd_same
    refine .inr ⟨dd, ee, q1, q2, q3, q4, ?_⟩
    rw [q5]
    refine ⟨_, rfl, ?_⟩
    have hds1 := s1 _ _ hds
    cases ds with
    | nil => exact q _ _ _ (V_.ex s1) (AAt.of (KAt.num 0)) ⟨0, rfl, hm⟩
    | cons x r =>
      refine ⟨.ref a, hv0, .inl ⟨rfl, _, SqL.of hds1⟩, a, _, 0, 0, .int x, rfl, rfl, hds1, by decide, by decide, ?_, rfl, .int m, hv1, x, m, rfl, rfl, by omega, ?_⟩
      · show seqIndex? 0 (((x :: r).map V.int).length) = some 0
        rw [List.length_map, List.length_cons]
        unfold seqIndex?
        simp
      · refine q _ _ _ (dr_write s1 hds) (AAt.of (KAt.num _)) ⟨(x % m).toNat, ?_, ?_⟩
        · rw [Int.toNat_of_nonneg (Int.emod_nonneg _ (by omega))]
        · have h1 := Int.emod_lt_of_pos x (show (0 : Int) < m by omega)
          have h2 := Int.emod_nonneg x (show (m : Int) ≠ 0 by omega)
          omega
theorem ek_if {R : Hp → Hp → Prop} (V_ : Evo R) {κ : KS} {tt : TT} {ta tb : TE} {c : Bool} {S : AV → Prop} (h : EvB R tt κ c) (h1 : c = true → EvS R ta κ S) (h2 : c = false → EvS R tb κ S) : EvS R (tIf tt ta tb) κ S :=
  es_if V_ h (fun e => h1 e.symm) fun e => h2 e.symm
theorem cal_total (F : TD K mg "_law_total" s_l_law_total ["guesser"]) : ∀ d : Nat, C8.Cal P w K mg base (d + 1) "_law_total" (spG (okTotal d)) [] := by
  intro d
  induction d with
  | zero =>
    refine cal_never F sc_l_law_total fun as R S h => ?_
    obtain ⟨_, g, _, hd, _⟩ := h
    have := deep_pos g
    omega
  | succ d c_l_law_total =>
    refine cal_of F sc_l_law_total (fun as R S h => ?_) fun f cdv A outer s H E hr => ⟨_, (pss_cons (ps_if (pt_cmpR (op_eqU hr.units) (pe_ix (ix_U hr.units) (pv 0) pe_int (fun _ _ => rfl)) pe_str (nomark _)) (pss_one (ps_ret (pe_op op_addU (pe_op op_addU (C8.pe_c c_l_law_total hr (by first | decide | omega) (by rfl) (pa_cons (pe_ix (ix_U hr.units) (pv 0) pe_int (fun _ _ => rfl)) pa_nil)) (C8.pe_c c_l_law_total hr (by first | decide | omega) (by rfl) (pa_cons (pe_ix (ix_U hr.units) (pv 0) pe_int (fun _ _ => rfl)) pa_nil))) (pe_ix (ix_U hr.units) (pv 0) pe_int (fun _ _ => rfl))))) pss_nil)
      (pss_cons (ps_if (pt_cmpR (op_eqU hr.units) (pe_ix (ix_U hr.units) (pv 0) pe_int (fun _ _ => rfl)) pe_str (nomark _)) (pss_one (ps_ret pe_int)) pss_nil)
      (pss_cons (ps_if (pt_cmpR (op_eqU hr.units) (pe_ix (ix_U hr.units) (pv 0) pe_int (fun _ _ => rfl)) pe_str (nomark _)) (pss_one (ps_ret (pe_op op_shl (pe_ix (ix_U hr.units) (pv 0) pe_int (fun _ _ => rfl)) (pe_ix (ix_U hr.units) (pv 0) pe_int (fun _ _ => rfl))))) pss_nil)
      (pss_one (ps_ret (pe_ifExp (pt_cmpR (op_eqU hr.units) (pe_ix (ix_U hr.units) (pv 0) pe_int (fun _ _ => rfl)) pe_str (nomark _)) (pe_op op_shl pe_int (pe_ix (ix_U hr.units) (pv 0) pe_int (fun _ _ => rfl))) (pe_ix (ix_U hr.units) (pv 0) pe_int (fun _ _ => rfl)))))))), fun as R S h => ?_⟩
    · obtain ⟨_, g, _, _, rfl, _⟩ := h
      rfl
    · obtain ⟨rfl, g, hg, hd, rfl, rfl⟩ := h
      have V_ := evo_same
      cases g with
      | same x => walk_at "run"
      | table n c =>
        refine rs_no V_ (eb_test V_ (by walk_at "ek")) (rs_no V_ (eb_test V_ (by walk_at "ek")) (rs_no V_ (eb_test V_ (by walk_at "ek")) (rs_ret (ek_if V_ (c := false) (eb_test V_ (by walk_at "ek")) (fun e => nomatch e) fun _ => (by walk_at "ek")))))
      | mixed n l c =>
        refine rs_no V_ (eb_test V_ (by walk_at "ek")) (rs_no V_ (eb_test V_ (by walk_at "ek")) (rs_no V_ (eb_test V_ (by walk_at "ek")) (rs_ret (ek_if V_ (c := false) (eb_test V_ (by walk_at "ek")) (fun e => nomatch e) fun _ => (by walk_at "ek")))))
      | joined n l c =>
        have hn : n ≤ 16 := hg.2.1
        have hl : l ≤ 6 := hg.2.2.1
        walk_at "run"
      | own n l c =>
        have hl : l ≤ 6 := hg.2.2.1
        refine rs_no V_ (eb_test V_ (by walk_at "ek")) (rs_no V_ (eb_test V_ (by walk_at "ek")) (rs_no V_ (eb_test V_ (by walk_at "ek")) (rs_ret (ek_if V_ (c := true) (eb_test V_ (by walk_at "ek")) (fun _ => (by walk_at "ek")) fun e => nomatch e))))
      | either x y n c =>
        obtain ⟨d1, d2⟩ := deep_either hd
        refine rs_yes V_ (eb_test V_ (by walk_at "ek")) (rs_retS ?_)
        exact ek_op V_ (ek_op V_ (ek_call V_ (as := [.k (encG x)]) (by walk_at "el") ⟨rfl, x, hg.1, d1, rfl, rfl⟩) (ek_call V_ (as := [.k (encG y)]) (by walk_at "el") ⟨rfl, y, hg.2.1, d2, rfl, rfl⟩) (rk_addN V_)) (by walk_at "ek") (rk_addN V_)
theorem cal_deep (F : TD K mg "_law_deep" s_l_law_deep ["guesser"]) (B : Blt mg) : ∀ d : Nat, C8.Cal P w K mg base (d + 1) "_law_deep" (spG (okDeep d)) [] := by
  intro d
  induction d with
  | zero =>
    refine cal_never F sc_l_law_deep fun as R S h => ?_
    obtain ⟨_, g, _, hd, _⟩ := h
    have := deep_pos g
    omega
  | succ d c_l_law_deep =>
    refine cal_of F sc_l_law_deep (fun as R S h => ?_) fun f cdv A outer s H E hr => ⟨_, (pss_one (ps_ret (pe_ifExp (pt_cmpR (op_eqU hr.units) (pe_ix (ix_U hr.units) (pv 0) pe_int (fun _ _ => rfl)) pe_str (nomark _)) (pe_op op_addU pe_int (pe_callB (call_max2 rfl) (by rfl) B.max (by decide +kernel) (pa_cons (C8.pe_c c_l_law_deep hr (by first | decide | omega) (by rfl) (pa_cons (pe_ix (ix_U hr.units) (pv 0) pe_int (fun _ _ => rfl)) pa_nil)) (pa_cons (C8.pe_c c_l_law_deep hr (by first | decide | omega) (by rfl) (pa_cons (pe_ix (ix_U hr.units) (pv 0) pe_int (fun _ _ => rfl)) pa_nil)) pa_nil)))) pe_int))), fun as R S h => ?_⟩
    · obtain ⟨_, g, _, _, rfl, _⟩ := h
      rfl
    · obtain ⟨rfl, g, hg, hd, rfl, rfl⟩ := h
      have V_ := evo_same
      cases g with
      | either x y n c =>
        obtain ⟨d1, d2⟩ := deep_either hd
        refine rs_ret (ek_if V_ (c := true) (eb_test V_ (by walk_at "ek")) (fun _ => ?_) fun e => nomatch e)
        refine EvK.to (ek_op V_ (ek_int V_) (es_cb V_ (el_cons V_ (ek_call V_ (as := [.k (encG x)]) (by walk_at "el") ⟨rfl, x, hg.1, d1, rfl, rfl⟩) (el_cons V_ (ek_call V_ (as := [.k (encG y)]) (by walk_at "el") ⟨rfl, y, hg.2.1, d2, rfl, rfl⟩) (el_nil V_))) fun as e => by
          subst e
          exact cs_max2 V_) (rk_addI V_)) ?_
        show AV.k (NestedKey.num (1 + if (deep y : Int) > (deep x : Int) then (deep y : Int) else (deep x : Int))) = .k (.num ((1 + max (deep x) (deep y) : Nat) : Int))
        congr 2
        split <;> omega
      | _ => exact rs_ret (ek_if V_ (c := false) (eb_test V_ (by walk_at "ek")) (fun e => nomatch e) fun _ => (by walk_at "ek"))
theorem snocI (ds : List Int) (x : Int) : (ds ++ [x]).map V.int = ds.map V.int ++ [V.int x] := by
  rw [List.map_append]
  rfl
def spDraws (K : PySem.W.Frag) : Sp := fun vs H Q _ => ∃ a, ∃ ns : List Int, vs = [.ref a] ∧ SqL K H a (ns.map V.int) ∧ ∀ L H', Same H H' → H L = none → DR L H' → Q (.ref L) H'
theorem cal_draws (F : TD K mg "_law_draws" s_l_law_draws ["script"]) (B : Blt mg) : C8.Cal P w K mg base 1 "_law_draws" (spDraws K) [] := by
  refine cal_sp F sc_l_law_draws (fun vs H Q E h => ?_) fun f0 cdv A outer s H0 E0 hr => ⟨_, (pss_cons (ps_set (i := 1) sc_l_law_draws.nd rfl (Or.inl rfl) (pe_lst pa_nil))
      (pss_cons (ps_for PassesOwn.never rfl (pi_range1 (by rfl) B.range (pa_cons (pe_callB (call_min2 rfl) (by rfl) B.min (by decide +kernel) (pa_cons (pe_callB (cr_lenx rfl) (by rfl) B.len PySem.boot_len (pa_cons (pv 0) pa_nil)) (pa_cons pe_int pa_nil))) pa_nil)) (pg_name (i := 2) sc_l_law_draws.nd rfl (Or.inl rfl)) (pss_cons (ps_set (i := 3) sc_l_law_draws.nd rfl (Or.inl rfl) (pe_callB call_abs (by rfl) B.abs (by decide +kernel) (pa_cons (pe_ix (ix_U hr.units) (pv 0) (pv 2) (fun _ _ => rfl)) pa_nil)))
      (pss_one (ps_if (pt_cmpR op_lt (pv 3) (pe_op op_pow pe_int pe_int) (nomark _)) (pss_cons (ps_set (i := 4) sc_l_law_draws.nd rfl (Or.inl rfl) (pe_op op_mod (pe_op op_mulU (pe_op op_mod (pe_op op_addU (pe_op op_addU (pv 3) (pe_op op_mulU pe_int (pv 2))) pe_int) pe_int) pe_int) pe_int))
      (pss_cons (ps_set (i := 4) sc_l_law_draws.nd rfl (Or.inl rfl) (pe_op op_mod (pe_op op_mulU (pv 4) (pv 4)) pe_int))
      (pss_cons (ps_expr (pe_bm PySem.F.plainAttrs_list PySem.F.slot_list_append PySem.F.type_list_append mt_append (pv 1) (pa_cons (pe_op op_mod (pe_op op_fdiv (pv 4) pe_int) pe_int) pa_nil)))
      (pss_cons (ps_expr (pe_bm PySem.F.plainAttrs_list PySem.F.slot_list_append PySem.F.type_list_append mt_append (pv 1) (pa_cons (pe_op op_mod (pe_op op_fdiv (pv 4) pe_int) pe_int) pa_nil)))
      (pss_cons (ps_set (i := 4) sc_l_law_draws.nd rfl (Or.inl rfl) (pe_op op_mod (pe_op op_addU (pv 4) (pe_op op_mulU pe_int (pe_op op_addU (pv 2) pe_int))) pe_int))
      (pss_one (ps_expr (pe_bm PySem.F.plainAttrs_list PySem.F.slot_list_append PySem.F.type_list_append mt_append (pv 1) (pa_cons (pe_op op_mod (pe_op op_fdiv (pe_op op_mod (pe_op op_mulU (pv 4) (pv 4)) pe_int) pe_int) pe_int) pa_nil))))))))) (pss_cons (ps_set (i := 5) sc_l_law_draws.nd rfl (Or.inl rfl) pe_int)
      (pss_one (ps_while PassesOwn.never (PW.pt (pw_and (pt_cmpR op_ge (pv 3) pe_int (nomark _)) (pw_and1 (pt_cmpR op_lt (pv 5) pe_int (nomark _))))) (pss_cons (ps_expr (pe_bm PySem.F.plainAttrs_list PySem.F.slot_list_append PySem.F.type_list_append mt_append (pv 1) (pa_cons (pe_op op_mod (pv 3) pe_int) pa_nil)))
      (pss_cons (ps_set (i := 3) sc_l_law_draws.nd rfl (Or.inl rfl) (pe_op op_fdiv (pv 3) pe_int))
      (pss_one (ps_set (i := 5) sc_l_law_draws.nd rfl (Or.inl rfl) (pe_op op_addU (pv 5) pe_int))))))))))))
      (pss_one (ps_ret (pe_slice sl_U (pv 1) po_none (po_some pe_int)))))), fun vs H Q E h => ?_⟩
  · obtain ⟨a, ns, rfl, _⟩ := h
    rfl
  · obtain ⟨a, ns, rfl, ha, k⟩ := h
    refine ⟨Nat.zero_le _, fun L hL => ?_⟩
    have s1 : Same H (upd H L (.lst [])) := same_new hL
    have len : (ns.map V.int).length = ns.length := List.length_map ..
    refine ⟨.ref a, rfl, a, _, rfl, .inl (s1.seq ha), _, _, rfl, _, rfl, ?_, ?_, ?_⟩
    · rw [len]; split <;> omega
    · rw [len]; split <;> omega
    have hN : (if (80 : Int) < ((ns.map V.int).length : Int) then (80 : Int) else ((ns.map V.int).length : Int)).toNat ≤ 80 ∧ (if (80 : Int) < ((ns.map V.int).length : Int) then (80 : Int) else ((ns.map V.int).length : Int)).toNat ≤ ns.length := by
      rw [len]
      split <;> omega
    generalize (if (80 : Int) < ((ns.map V.int).length : Int) then (80 : Int) else ((ns.map V.int).length : Int)).toNat = N at hN
    refine for_range (fun i σ H' => ∃ e2 e3 e4 e5, ∃ ds : List Int, σ = [some (.ref a), some (.ref L), e2, e3, e4, e5] ∧ Same H H' ∧ H' L = some (.lst (ds.map V.int)) ∧ ds.length ≤ 70 * i) ⟨_, _, _, _, [], rfl, s1, upd_same, Nat.zero_le _⟩ ?_ ?_
    · rintro i σ H' hi ⟨e2, e3, e4, e5, ds, rfl, s2, hL2, hlen⟩
      have hxi : ns[i]? = some ns[i] := List.getElem?_eq_getElem (by omega)
      generalize ns[i] = n at hxi
      rw [Int.zero_add]
      refine ⟨.ref a, rfl, .int i, rfl, .inl ⟨a, _, i, .int n, rfl, rfl, s2.seq ha, atI_nat (by rw [List.getElem?_map, hxi]; rfl), ?_⟩⟩
      refine ⟨n, rfl, ?_⟩
      have hr0 : (0 : Int) ≤ (if n < 0 then -n else n) := by split <;> omega
      generalize (if n < 0 then -n else n) = r at hr0
      refine ⟨.int r, rfl, ⟨10, 18, rfl, rfl, ⟨by decide, by decide, by decide⟩, r, _, rfl, rfl, _, rfl, ?_⟩⟩
      by_cases hb : r < (10 : Int) ^ (18 : Int).toNat
      · rw [decide_eq_true hb]
        have p1 : (0 : Int) < 2147483647 := by decide
        have p2 : (0 : Int) < 2147483629 := by decide
        have p3 : (0 : Int) < 2147483587 := by decide
        have p4 : (0 : Int) < 1000 := by decide
        refine ⟨.int r, rfl, .int i, rfl, .inl ⟨7919, i, rfl, rfl, .inl ⟨by decide, by decide⟩, .inl ⟨r, _, rfl, rfl, .inl ⟨_, 3, rfl, rfl, ⟨_, 2147483647, rfl, rfl, p1, .inl ⟨_, 48271, rfl, rfl, .inr ⟨by decide, by decide⟩, ⟨_, 2147483647, rfl, rfl, p1, ?_⟩⟩⟩⟩⟩⟩⟩
        dsimp only
        have g1 : ∀ x : Int, 0 ≤ x % 2147483647 ∧ x % 2147483647 < 2147483647 := fun x => ⟨Int.emod_nonneg _ (by decide), Int.emod_lt_of_pos _ (by decide)⟩
        have b1 := g1 ((r + 7919 * (i : Int) + 3) % 2147483647 * 48271)
        generalize ((r + 7919 * (i : Int) + 3) % 2147483647 * 48271) % 2147483647 = t1 at b1
        refine ⟨.int t1, rfl, .int t1, rfl, .inl ⟨t1, t1, rfl, rfl, .inl ⟨by omega, by omega⟩, ⟨_, 2147483629, rfl, rfl, p2, ?_⟩⟩⟩
        dsimp only
        have b2 : 0 ≤ t1 * t1 % 2147483629 ∧ t1 * t1 % 2147483629 < 2147483629 := ⟨Int.emod_nonneg _ (by decide), Int.emod_lt_of_pos _ p2⟩
        generalize t1 * t1 % 2147483629 = t2 at b2
        have lm : ∀ {l : List Int}, (l.map V.int).length = l.length := fun {l} => List.length_map ..
        refine ⟨.ref L, rfl, .inl ⟨rfl, _, SqL.of hL2⟩, .int t2, rfl, ⟨t2, 16, rfl, rfl, ⟨by decide, by decide⟩, ⟨_, 1000, rfl, rfl, p4, ⟨L, _, _, rfl, rfl, hL2, lt_line (by rw [lm]; omega), ?_⟩⟩⟩⟩
        dsimp only
        rw [← snocI]
        have hL3 : (upd H' L (.lst ((ds ++ [t2 / 16 % 1000]).map V.int))) L = some (.lst ((ds ++ [t2 / 16 % 1000]).map V.int)) := upd_same
        refine ⟨.ref L, rfl, .inl ⟨rfl, _, SqL.of hL3⟩, .int t2, rfl, ⟨t2, 16000, rfl, rfl, ⟨by decide, by decide⟩, ⟨_, 1000, rfl, rfl, p4, ⟨L, _, _, rfl, rfl, hL3, lt_line (by rw [lm, List.length_append]; show ds.length + 1 < _; omega), ?_⟩⟩⟩⟩
        dsimp only
        rw [← snocI]
        refine ⟨.int t2, rfl, .int i, rfl, .inl ⟨i, 7, rfl, rfl, .inl ⟨40692, _, rfl, rfl, .inl ⟨by decide, by decide⟩, .inl ⟨t2, _, rfl, rfl, ⟨_, 2147483587, rfl, rfl, p3, ?_⟩⟩⟩⟩⟩
        dsimp only
        have b3 : 0 ≤ (t2 + 40692 * ((i : Int) + 7)) % 2147483587 ∧ (t2 + 40692 * ((i : Int) + 7)) % 2147483587 < 2147483587 := ⟨Int.emod_nonneg _ (by decide), Int.emod_lt_of_pos _ p3⟩
        generalize (t2 + 40692 * ((i : Int) + 7)) % 2147483587 = t3 at b3
        have hL4 : (upd (upd H' L (.lst ((ds ++ [t2 / 16 % 1000]).map V.int))) L (.lst ((ds ++ [t2 / 16 % 1000] ++ [t2 / 16000 % 1000]).map V.int))) L = some (.lst ((ds ++ [t2 / 16 % 1000] ++ [t2 / 16000 % 1000]).map V.int)) := upd_same
        refine ⟨.ref L, rfl, .inl ⟨rfl, _, SqL.of hL4⟩, .int t3, rfl, .int t3, rfl, .inl ⟨t3, t3, rfl, rfl, .inl ⟨by omega, by omega⟩, ⟨_, 2147483647, rfl, rfl, p1, ⟨_, 16, rfl, rfl, ⟨by decide, by decide⟩, ⟨_, 1000, rfl, rfl, p4, ⟨L, _, _, rfl, rfl, hL4, lt_line (by rw [lm, List.length_append, List.length_append]; show ds.length + 1 + 1 < _; omega), ?_⟩⟩⟩⟩⟩⟩
        dsimp only
        rw [← snocI]
        refine ⟨_, _, _, _, _, rfl, same_upd (same_upd (same_upd s2 hL) hL) hL, upd_same, ?_⟩
        rw [List.length_append, List.length_append, List.length_append]
        show ds.length + 1 + 1 + 1 ≤ _
        omega
      · rw [decide_eq_false hb]
        have p4 : (0 : Int) < 1000 := by decide
        have lm : ∀ {l : List Int}, (l.map V.int).length = l.length := fun {l} => List.length_map ..
        refine ⟨fun m σ H4 => ∃ r e4, ∃ j : Nat, ∃ ds4 : List Int, σ = [some (.ref a), some (.ref L), some (.int (i : Nat)), some (.int r), e4, some (.int (j : Nat))] ∧ m = 60 - j ∧ j ≤ 60 ∧ Same H H4 ∧ H4 L = some (.lst (ds4.map V.int)) ∧ ds4.length ≤ 70 * i + j, ⟨60, r, _, 0, ds, rfl, rfl, Nat.zero_le _, s2, hL2, hlen⟩, ?_⟩
        clear hL2 hlen s2 ds hb hr0 hxi
        rintro m σ H4 ⟨r, e4, j, ds, rfl, rfl, hj, s2, hL2, hlen⟩
        refine ⟨.int r, rfl, r, 1000, rfl, rfl, _, rfl, ?_⟩
        by_cases h1 : (1000 : Int) ≤ r
        · rw [decide_eq_true h1]
          refine ⟨.int j, rfl, j, 60, rfl, rfl, _, rfl, ?_⟩
          by_cases h2 : (j : Int) < 60
          · rw [decide_eq_true h2]
            refine ⟨_, fun _ _ h => h, ?_⟩
            refine ⟨.ref L, rfl, .inl ⟨rfl, _, SqL.of hL2⟩, .int r, rfl, ⟨r, 1000, rfl, rfl, p4, ⟨L, _, _, rfl, rfl, hL2, lt_line (by rw [lm]; omega), ?_⟩⟩⟩
            refine ⟨.int r, rfl, ⟨r, 1000, rfl, rfl, ⟨by decide, by decide⟩, ?_⟩⟩
            refine ⟨.int j, rfl, .inl ⟨j, 1, rfl, rfl, ?_⟩⟩
            refine ⟨60 - (j + 1), by omega, r / 1000, _, j + 1, ds ++ [r % 1000], rfl, rfl, by omega, same_upd s2 hL, ?_, ?_⟩
            · rw [snocI]
              exact upd_same
            · rw [List.length_append]
              show ds.length + 1 ≤ _
              omega
          · rw [decide_eq_false h2]
            exact ⟨_, _, _, _, ds, rfl, s2, hL2, by omega⟩
        · rw [decide_eq_false h1]
          exact ⟨_, _, _, _, ds, rfl, s2, hL2, by omega⟩
    · rintro σ H' ⟨e2, e3, e4, e5, ds, rfl, s2, hL2, hlen⟩
      refine ⟨.ref L, rfl, 240, rfl, .inr ⟨L, _, rfl, SqL.of hL2, fun p hp => ?_⟩⟩
      refine k p _ (s2.trans (same_new hp)) (none_of_same s2 hp) ⟨ds.take 240, ?_⟩
      rw [upd_same]
      unfold cutV
      have e1 : HT.sIx (ds.map V.int).length 0 none = 0 := rfl
      have e2 : HT.sIx (ds.map V.int).length (ds.map V.int).length (some 240) = min 240 (ds.map V.int).length := HT.sIx_nat _ _ 240
      rw [e1, e2, List.drop_zero, Nat.sub_zero, List.map_take]
      congr 2
      rw [List.take_eq_take_iff]
      omega
end
end K49
set_option Elab.async false
set_option linter.all false
set_option maxRecDepth 100000
set_option maxHeartbeats 4000000
set_option autoImplicit false
/-! The law: cells, guessers. -/
namespace K49
open PySem PySem.Spec PyProof.Rows L2
local macro_rules | `(tactic| walk_at "rk") => `(tactic| first
  | exact rk_eqS ‹_› (by decide)
  | exact rk_ix ‹_› rfl
  | exact rk_inS2 ‹_› (by decide)
  | exact rk_ix ‹_› (at_nums (by assumption))
  | exact rk_modN ‹_› (by first | assumption | omega)
  | exact rk_addN ‹_›
  | exact rk_mul2 ‹_›
  | exact rk_addr1 ‹_›
  | exact rk_add1l ‹_›
  | exact rk_shl1 ‹_› (by omega)
  | exact rk_mulN ‹_› (by omega)
  | exact rk_shlN ‹_› (by omega) (by omega)
  | exact rk_addI ‹_›
  | exact rk_addT ‹_› (by first | decide | (simp only [List.length_append, List.length_cons, List.length_nil, List.length_take, List.length_drop] at *; omega))
  | exact rk_sub ‹_›
  | exact rk_neBl ‹_›
  | exact rk_eqI ‹_›
  | exact rk_neI ‹_›
  | exact rk_cmp ‹_›)
local macro_rules | `(tactic| walk_at "el") => `(tactic| first
  | exact el_nil ‹_›
  | (apply el_cons ‹_›; (focus walk_at "ek"); walk_at "el"))
local macro_rules | `(tactic| walk_at "eo") => `(tactic| first
  | exact eo_none ‹_›
  | (apply eo_some ‹_›; walk_at "ek"))
local macro_rules | `(tactic| walk_at "ek") => `(tactic| first
  | exact ek_var ‹_› rfl
  | exact ek_int ‹_›
  | exact ek_str ‹_›
  | exact ek_non ‹_›
  | exact ek_bl ‹_›
  | (apply ek_op ‹_›; (focus walk_at "ek"); (focus walk_at "ek"); walk_at "rk")
  | (apply ek_neg ‹_›; walk_at "ek")
  | (apply ek_slice ‹_›; (focus walk_at "ek"); (focus walk_at "eo"); walk_at "eo")
  | (apply ek_tup1 ‹_›; walk_at "ek")
  | (apply ek_tup2 ‹_›; (focus walk_at "ek"); walk_at "ek")
  | (apply ek_tup3 ‹_›; (focus walk_at "ek"); (focus walk_at "ek"); walk_at "ek"))
local macro_rules | `(tactic| walk_at "run") => `(tactic| first
  | (refine rs_ret ?_; walk_at "ek")
  | (refine rs_retS ?_; walk_at "ek")
  | (refine rs_yes ‹_› (eb_test ‹_› ?_) ?_; (focus walk_at "ek"); walk_at "run")
  | (refine rs_no ‹_› (eb_test ‹_› ?_) ?_; (focus walk_at "ek"); walk_at "run"))
def numsB (n m : Nat) (x : NestedKey) : Prop := ∃ l : List Nat, x = .tup (nums l) ∧ l.length = n ∧ ∀ y ∈ l, y < m
def isK (A : NestedKey → Prop) : AV → Prop := fun d => ∃ x, d = .k x ∧ A x
def isKs (T : List NestedKey → Prop) : List AV → Prop := fun as => ∃ ds, as = ds.map AV.k ∧ T ds
section
variable {P : Program} {w : World} {K : PySem.W.Frag} {mg : Str → Option Value} {base : Heap}
section
variable {R : Hp → Hp → Prop} {κ : KS} {ta tb te : TE} {tA tr : TA} {S : AV → Prop} {A : NestedKey → Prop} {T : List NestedKey → Prop} {a : Addr}
theorem ea_nil (V_ : Evo R) : EvA R tNil κ (isKs fun ds => ds = []) := fun σ H M Q q => q [] [] H (V_.refl H) .nil ⟨[], rfl, rfl⟩
theorem ea_consK (V_ : Evo R) (h : EvS R ta κ (isK A)) (hr : EvA R tr κ (isKs T)) : EvA R (tCons ta tr) κ (isKs fun ds => ∃ x r, ds = x :: r ∧ A x ∧ T r) := ea_cons V_ h hr fun d ds ⟨x, e1, h1⟩ ⟨r, e2, h2⟩ => by
  subst e1
  subst e2
  exact ⟨x :: r, rfl, x, r, rfl, h1, h2⟩
theorem es_tupK (V_ : Evo R) (h : EvA R tA κ (isKs T)) (m : ∀ ds, T ds → ds.length ≤ 1000 ∧ S (.k (.tup ds))) : EvS R (tTup tA) κ S := es_tup V_ h fun as ⟨ds, e, t⟩ => by
  subst e
  obtain ⟨h1, h2⟩ := m ds t
  exact ⟨by rw [List.length_map]; exact h1, ds, rfl, h2⟩
theorem EvK.isK {x : NestedKey} (h : EvK R te κ (.k x)) : EvS R te κ (isK fun y => y = x) := EvS.mono h fun d e => ⟨x, e, rfl⟩
theorem es_tup3K (V_ : Evo R) {A1 A2 A3 : NestedKey → Prop} {tc : TE} (h1 : EvS R ta κ (isK A1)) (h2 : EvS R tb κ (isK A2)) (h3 : EvS R tc κ (isK A3)) (m : ∀ x y z, A1 x → A2 y → A3 z → S (.k (.tup [x, y, z]))) : EvS R (tTup (tCons ta (tCons tb (tCons tc tNil)))) κ S :=
  es_tupK V_ (ea_consK V_ h1 (ea_consK V_ h2 (ea_consK V_ h3 (ea_nil V_)))) fun ds ⟨x, r, e1, a1, y, r2, e2, a2, z, r3, e3, a3, e4⟩ => by
    subst e4 e3 e2 e1
    exact ⟨by show 3 ≤ 1000; decide, m x y z a1 a2 a3⟩
theorem es_tup2K (V_ : Evo R) {A1 A2 : NestedKey → Prop} (h1 : EvS R ta κ (isK A1)) (h2 : EvS R tb κ (isK A2)) (m : ∀ x y, A1 x → A2 y → S (.k (.tup [x, y]))) : EvS R (tTup (tCons ta (tCons tb tNil))) κ S :=
  es_tupK V_ (ea_consK V_ h1 (ea_consK V_ h2 (ea_nil V_))) fun ds ⟨x, r, e1, a1, y, r2, e2, a2, e4⟩ => by
    subst e4 e2 e1
    exact ⟨by show 2 ≤ 1000; decide, m x y a1 a2⟩
/-- the drawn list is there -/
theorem keepsD {i : Nat} (h : κ[i]? = some (some (.dr a))) : ∀ σ H, Mt κ σ H → ∀ D, H D = none → Keeps (Dr a) D := fun σ H M D hD => by
  obtain ⟨v, _, _, ds, hds⟩ := M.at_ i _ h
  exact keeps_dr fun e => by
    subst e
    rw [hds] at hD
    cases hD
theorem es_take {m : Nat} {E : XK} (hm : 1 ≤ m) (h : EvL (Dr a) tA κ [.dr a, .k (.num (m : Int))]) : EvS (Dr a) (tCall (spG okTake) [] E tA) κ (numB m) := es_call (evo_dr a) h fun as e => by
  subst e
  exact ⟨Dr a, numB m, ⟨a, m, hm, rfl, rfl, rfl⟩, fun _ _ x => x, fun _ s => s⟩
theorem et_eqN (V_ : Evo R) {m : Nat} {n : Int} (h : EvS R te κ (numB m)) : EvT R (tTest (tOp (rEqU K) te (tC (.int n)))) κ (fun _ => True) := et_test V_ (es_op V_ h (ek_int V_) fun x y ⟨i, e, _⟩ e2 => by
  subst e
  subst e2
  exact fun H vx vy kx ky Q q => rk_eqI V_ H vx vy kx ky Q fun v d H' r k s => q v d H' r k ⟨_, s, True.intro⟩)
theorem list_of_nums {m : Nat} : ∀ {ds : List NestedKey}, (∀ (i : Nat) (d : NestedKey), ds[i]? = some d → ∃ x : Nat, d = .num (x : Int) ∧ x < m) → ∃ l : List Nat, ds = nums l ∧ ∀ y ∈ l, y < m
  | [], _ => ⟨[], rfl, fun _ h => nomatch h⟩
  | d :: ds, h => by
    obtain ⟨x, e, hx⟩ := h 0 d rfl
    obtain ⟨l, e2, hl⟩ := list_of_nums (ds := ds) fun i d' hd => h (i + 1) d' (by simpa using hd)
    subst e
    subst e2
    exact ⟨x :: l, rfl, fun y hy => (List.mem_cons.mp hy).elim (fun e => by rw [e]; exact hx) (hl y)⟩
/-- tuple([a number below m for k in range(n)]) -/
theorem es_tupNums (V_ : Evo R) {n m j : Nat} (ht : EvK R ta κ (.k (.num (n : Int)))) (hj : j < κ.length) (hn : n < 100000) (hk : ∀ σ H, Mt κ σ H → ∀ D, H D = none → Keeps R D)
    (he : ∀ i, i < n → EvS R te (κ.set j (some (.k (.num (i : Int))))) (numB m)) : EvS R (tCB (rTup K) (tCons (tLc (iRng1 (tCons ta tNil)) (gName j) tYes te [j]) tNil)) κ (isK (numsB n m)) :=
  es_tupRange1 V_ (S := fun _ d => ∃ x : Nat, d = .num (x : Int) ∧ x < m) ht hj hn hk (fun i hi => (he i hi).mono fun d ⟨x, e, h⟩ => ⟨_, e, x, rfl, h⟩) fun ds hl h => by
    obtain ⟨l, e, h2⟩ := list_of_nums h
    subst e
    exact ⟨_, rfl, l, rfl, by rw [← hl, nums_length], h2⟩
end
theorem rk_div2 {R : Hp → Hp → Prop} (V_ : Evo R) {i : Nat} : RK R rDiv (.k (.num (i : Int))) (.k (.num 2)) (.k (.num ((i / 2 : Nat) : Int))) := by
  rw [Int.natCast_ediv]
  exact rk_div V_ ⟨by decide, by decide⟩
theorem rk_mod2 {R : Hp → Hp → Prop} (V_ : Evo R) {i : Nat} : RK R rMod (.k (.num (i : Int))) (.k (.num 2)) (.k (.num ((i % 2 : Nat) : Int))) := by
  rw [Int.natCast_emod]
  exact rk_mod V_ (by decide)
theorem cal_cell (F : TD K mg "_law_cell" s_l_law_cell ["draws"]) (B : Blt mg) (c_l_law_take : C8.Cal P w K mg base 1 "_law_take" (spG okTake) []) : C8.Cal P w K mg base 2 "_law_cell" (spG okCell) [] := by
  refine cal_of F sc_l_law_cell (fun as R S h => ?_) fun f cdv A outer s H E hr => ⟨_, (pss_cons (ps_set (i := 1) sc_l_law_cell.nd rfl (Or.inr rfl) (pe_ix (ix_U hr.units) (pe_lst (pa_cons pe_int (pa_cons pe_int (pa_cons pe_int (pa_cons pe_int (pa_cons pe_int (pa_cons pe_int (pa_cons pe_int (pa_cons pe_int pa_nil))))))))) (C8.pe_c c_l_law_take hr (by first | decide | omega) (by rfl) (pa_cons (pv 0) (pa_cons pe_int pa_nil))) (fun _ _ => rfl)))
      (pss_cons (ps_if (PW.pt (pw_and (pt_cmpR (op_eqU hr.units) (pe_op op_mod (pv 1) pe_int) pe_int (nomark _)) (pw_and1 (pt_cmpR (op_eqU hr.units) (C8.pe_c c_l_law_take hr (by first | decide | omega) (by rfl) (pa_cons (pv 0) (pa_cons pe_int pa_nil))) pe_int (nomark _))))) (pss_cons (ps_set (i := 3) sc_l_law_cell.nd rfl (Or.inl rfl) (pe_callTy (cr_tuplex rfl) (by rfl) B.tuple (by decide +kernel) (pa_cons (pe_lc (own := [("k", 4)]) (by rfl) sc_l_law_cell.nd (pi_range1 (by rfl) B.range (pa_cons (pv 1) pa_nil)) (blkOk_by (own := [("k", 4)]) (N := ["draws", "many", "guesses", "straight", "k"]) (sc := defScope s_l_law_cell) (by decide +kernel)) (fun _ _ _ _ _ => (pg_name (i := 4) sc_l_law_cell.nd rfl (Or.inl rfl))) (fun _ _ _ _ _ => pts_nil) (fun _ _ _ _ _ => (pe_callB (call_max2 rfl) (by rfl) B.max (by decide +kernel) (pa_cons pe_int (pa_cons (pe_op op_sub (pv 4) pe_int) pa_nil))))) pa_nil)))
      (pss_one (ps_ret (pe_tup (pa_cons (pe_op op_addU (pe_op op_mulU (pe_tup (pa_cons pe_int pa_nil)) (pe_op op_fdiv (pv 1) pe_int)) (pe_op op_mulU (pe_tup (pa_cons pe_int pa_nil)) (pe_op op_fdiv (pv 1) pe_int))) (pa_cons (pv 3) (pa_cons (pe_callTy (cr_tuplex rfl) (by rfl) B.tuple (by decide +kernel) (pa_cons (pe_lc (own := [("k", 4)]) (by rfl) sc_l_law_cell.nd (pi_range1 (by rfl) B.range (pa_cons (pv 1) pa_nil)) (blkOk_by (own := [("k", 4)]) (N := ["draws", "many", "guesses", "straight", "k"]) (sc := defScope s_l_law_cell) (by decide +kernel)) (fun _ _ _ _ _ => (pg_name (i := 4) sc_l_law_cell.nd rfl (Or.inl rfl))) (fun _ _ _ _ _ => pts_nil) (fun _ _ _ _ _ => (pe_callB (call_min2 rfl) (by rfl) B.min (by decide +kernel) (pa_cons (pe_op op_sub (pv 1) pe_int) (pa_cons (pe_op (op_addUx (K := K) rfl) (pv 4) pe_int) pa_nil))))) pa_nil)) pa_nil))))))) pss_nil)
      (pss_cons (ps_set (i := 2) sc_l_law_cell.nd rfl (Or.inl rfl) (pe_callTy (cr_tuplex rfl) (by rfl) B.tuple (by decide +kernel) (pa_cons (pe_lc (own := [("k", 4)]) (by rfl) sc_l_law_cell.nd (pi_range1 (by rfl) B.range (pa_cons (pv 1) pa_nil)) (blkOk_by (own := [("k", 4)]) (N := ["draws", "many", "guesses", "straight", "k"]) (sc := defScope s_l_law_cell) (by decide +kernel)) (fun _ _ _ _ _ => (pg_name (i := 4) sc_l_law_cell.nd rfl (Or.inl rfl))) (fun _ _ _ _ _ => pts_nil) (fun _ _ _ _ _ => (C8.pe_c c_l_law_take hr (by first | decide | omega) (by rfl) (pa_cons (pv 0) (pa_cons pe_int pa_nil))))) pa_nil)))
      (pss_cons (ps_set (i := 3) sc_l_law_cell.nd rfl (Or.inl rfl) (pe_callTy (cr_tuplex rfl) (by rfl) B.tuple (by decide +kernel) (pa_cons (pe_lc (own := [("k", 4)]) (by rfl) sc_l_law_cell.nd (pi_range1 (by rfl) B.range (pa_cons (pv 1) pa_nil)) (blkOk_by (own := [("k", 4)]) (N := ["draws", "many", "guesses", "straight", "k"]) (sc := defScope s_l_law_cell) (by decide +kernel)) (fun _ _ _ _ _ => (pg_name (i := 4) sc_l_law_cell.nd rfl (Or.inl rfl))) (fun _ _ _ _ _ => pts_nil) (fun _ _ _ _ _ => (C8.pe_c c_l_law_take hr (by first | decide | omega) (by rfl) (pa_cons (pv 0) (pa_cons (pv 1) pa_nil))))) pa_nil)))
      (pss_one (ps_ret (pe_tup (pa_cons (pv 2) (pa_cons (pv 3) (pa_cons (pe_callTy (cr_tuplex rfl) (by rfl) B.tuple (by decide +kernel) (pa_cons (pe_lc (own := [("k", 4)]) (by rfl) sc_l_law_cell.nd (pi_range1 (by rfl) B.range (pa_cons (pv 1) pa_nil)) (blkOk_by (own := [("k", 4)]) (N := ["draws", "many", "guesses", "straight", "k"]) (sc := defScope s_l_law_cell) (by decide +kernel)) (fun _ _ _ _ _ => (pg_name (i := 4) sc_l_law_cell.nd rfl (Or.inl rfl))) (fun _ _ _ _ _ => pts_nil) (fun _ _ _ _ _ => (C8.pe_c c_l_law_take hr (by first | decide | omega) (by rfl) (pa_cons (pv 0) (pa_cons (pv 1) pa_nil))))) pa_nil)) pa_nil)))))))))), fun as R S h => ?_⟩
  · obtain ⟨a, _, rfl, _⟩ := h
    rfl
  · obtain ⟨a, rfl, rfl, rfl⟩ := h
    have V_ := evo_dr a
    refine rs_set V_ (S0 := isK fun x => ∃ n : Nat, x = .num (n : Int) ∧ 1 ≤ n ∧ n ≤ 8) (es_ixLst V_ (Sb := numB 8) (ds := [.num 1, .num 2, .num 2, .num 3, .num 4, .num 4, .num 6, .num 8]) ?_ (keepsD (i := 0) rfl) (by walk_at "el") (by show 8 ≤ 1000; decide) (es_take (m := 8) (by decide) (by walk_at "el"))) ?_
    · rintro x ⟨i, rfl, hi⟩
      refine ⟨i, _, rfl, atI_nat (List.getElem?_eq_getElem (by show i < 8; exact hi)), _, rfl, ?_⟩
      match i, hi with
      | 0, _ => exact ⟨1, rfl, by decide, by decide⟩
      | 1, _ => exact ⟨2, rfl, by decide, by decide⟩
      | 2, _ => exact ⟨2, rfl, by decide, by decide⟩
      | 3, _ => exact ⟨3, rfl, by decide, by decide⟩
      | 4, _ => exact ⟨4, rfl, by decide, by decide⟩
      | 5, _ => exact ⟨4, rfl, by decide, by decide⟩
      | 6, _ => exact ⟨6, rfl, by decide, by decide⟩
      | 7, _ => exact ⟨8, rfl, by decide, by decide⟩
    · rintro d ⟨x, rfl, n, rfl, h1, h8⟩
      refine rs_if V_ (B := fun b => b = true → n % 2 = 0) (et_and V_ (B1 := fun b => b = decide (((n % 2 : Nat) : Int) = 0)) (B2 := fun _ => True) (eb_test V_ (ek_op V_ (ek_op V_ (ek_var V_ rfl) (ek_int V_) (rk_mod2 V_)) (ek_int V_) (rk_eqI V_))) (fun _ => et_eqN V_ (es_take (m := 3) (by decide) (by walk_at "el"))) (fun e b _ _ => ?_) (fun _ e => nomatch e)) ?_ ?_
      · have := of_decide_eq_true e.symm
        omega
      · intro hev
        have hev := hev rfl
        refine rs_assoc (rs_set V_ (S0 := isK (numsB n n)) (es_tupNums V_ (ek_var V_ rfl) (by show 4 < 5; decide) (by omega) (keepsD (i := 0) rfl) fun i hi => ?_) ?_)
        · refine (es_cb V_ (el_cons V_ (ek_int V_) (el_cons V_ (ek_op V_ (x := .k (.num (i : Int))) (y := .k (.num 1)) (z := .k (.num ((i : Int) - 1))) (ek_var V_ rfl) (ek_int V_) (rk_sub V_)) (el_nil V_))) (S := fun d => d = .k (.num (if (i : Int) - 1 > 0 then (i : Int) - 1 else 0))) fun as e => by
            subst e
            exact cs_max2 V_).mono fun d e => ⟨i - 1, ?_, by omega⟩
          rw [e]
          congr 2
          split <;> omega
        · rintro d ⟨x, rfl, l, rfl, hl, hb⟩
          refine rs_retS (es_tup3K V_ (A1 := numsB n 2) (A2 := fun y => y = .tup (nums l)) (A3 := numsB n n) ?_ (EvK.isK (ek_var V_ rfl)) (es_tupNums V_ (ek_var V_ rfl) (by show 4 < 5; decide) (by omega) (keepsD (i := 0) rfl) fun i hi => ?_) ?_)
          · refine EvS.mono (ek_op V_ (ek_op V_ (ek_tup1 V_ (ek_int V_)) (ek_op V_ (ek_var V_ rfl) (ek_int V_) (rk_div2 V_)) (rk_mulT V_ (n := n / 2) (by omega))) (ek_op V_ (ek_tup1 V_ (ek_int V_)) (ek_op V_ (ek_var V_ rfl) (ek_int V_) (rk_div2 V_)) (rk_mulT V_ (n := n / 2) (by omega))) (rk_addT V_ (by rw [List.length_replicate, List.length_replicate]; omega))) fun d e => ⟨_, e, List.replicate (n / 2) 0 ++ List.replicate (n / 2) 1, ?_, ?_, fun y hy => ?_⟩
            · unfold nums
              rw [List.map_append, List.map_replicate, List.map_replicate]
              rfl
            · rw [List.length_append, List.length_replicate, List.length_replicate]
              omega
            · rcases List.mem_append.mp hy with z | z
              · rw [(List.mem_replicate.mp z).2]; decide
              · rw [(List.mem_replicate.mp z).2]; decide
          · refine (es_cb V_ (el_cons V_ (ek_op V_ (x := .k (.num (n : Int))) (y := .k (.num 1)) (z := .k (.num ((n : Int) - 1))) (ek_var V_ rfl) (ek_int V_) (rk_sub V_)) (el_cons V_ (ek_op V_ (x := .k (.num (i : Int))) (y := .k (.num 1)) (z := .k (.num ((i : Int) + 1))) (ek_var V_ rfl) (ek_int V_) (rk_addI V_)) (el_nil V_))) (S := fun d => d = .k (.num (if (i : Int) + 1 < (n : Int) - 1 then (i : Int) + 1 else (n : Int) - 1))) fun as e => by
              subst e
              exact cs_min2 V_).mono fun d e => ⟨if i + 1 < n - 1 then i + 1 else n - 1, ?_, by split <;> omega⟩
            rw [e]
            congr 2
            split <;> split <;> omega
          · rintro x y z ⟨l1, rfl, h1l, h1b⟩ rfl ⟨l3, rfl, h3l, h3b⟩
            exact ⟨⟨l1, l, l3⟩, ⟨by show 0 < l1.length; omega, by show l1.length ≤ 8; omega, by show l.length = l1.length; omega, by show l3.length = l1.length; omega, fun x hx => Nat.le_of_lt_succ (h1b x hx), fun x hx => by show x < l1.length; rw [h1l]; exact hb x hx, fun x hx => by show x < l1.length; rw [h1l]; exact h3b x hx⟩, rfl⟩
      · intro _
        refine rs_set V_ (S0 := isK (numsB n 2)) (es_tupNums V_ (ek_var V_ rfl) (by show 4 < 5; decide) (by omega) (keepsD (i := 0) rfl) fun i hi => es_take (m := 2) (by decide) (by walk_at "el")) ?_
        rintro d ⟨x, rfl, l1, rfl, h1l, h1b⟩
        refine rs_set V_ (S0 := isK (numsB n n)) (es_tupNums V_ (ek_var V_ rfl) (by show 4 < 5; decide) (by omega) (keepsD (i := 0) rfl) fun i hi => es_take (m := n) h1 (by walk_at "el")) ?_
        rintro d ⟨x, rfl, l, rfl, hl, hb⟩
        refine rs_ret (es_tup3K V_ (A1 := fun y => y = .tup (nums l1)) (A2 := fun y => y = .tup (nums l)) (A3 := numsB n n) (EvK.isK (ek_var V_ rfl)) (EvK.isK (ek_var V_ rfl)) (es_tupNums V_ (ek_var V_ rfl) (by show 4 < 5; decide) (by omega) (keepsD (i := 0) rfl) fun i hi => es_take (m := n) h1 (by walk_at "el")) ?_)
        rintro x y z rfl rfl ⟨l3, rfl, h3l, h3b⟩
        exact ⟨⟨l1, l, l3⟩, ⟨by show 0 < l1.length; omega, by show l1.length ≤ 8; omega, by show l.length = l1.length; omega, by show l3.length = l1.length; omega, fun x hx => Nat.le_of_lt_succ (h1b x hx), fun x hx => by show x < l1.length; rw [h1l]; exact hb x hx, fun x hx => by show x < l1.length; rw [h1l]; exact h3b x hx⟩, rfl⟩
end
end K49
set_option Elab.async false
set_option linter.all false
set_option maxRecDepth 100000
set_option maxHeartbeats 4000000
set_option autoImplicit false
/-! The law: guessers. -/
namespace K49
open PySem PySem.Spec PyProof.Rows L2
local macro_rules | `(tactic| walk_at "rk") => `(tactic| first
  | exact rk_eqS ‹_› (by decide)
  | exact rk_ix ‹_› rfl
  | exact rk_inS2 ‹_› (by decide)
  | exact rk_ix ‹_› (at_nums (by assumption))
  | exact rk_modN ‹_› (by first | assumption | omega)
  | exact rk_addN ‹_›
  | exact rk_mul2 ‹_›
  | exact rk_addr1 ‹_›
  | exact rk_add1l ‹_›
  | exact rk_shl1 ‹_› (by omega)
  | exact rk_mulN ‹_› (by omega)
  | exact rk_shlN ‹_› (by omega) (by omega)
  | exact rk_addI ‹_›
  | exact rk_addT ‹_› (by first | decide | (simp only [List.length_append, List.length_cons, List.length_nil, List.length_take, List.length_drop] at *; omega))
  | exact rk_sub ‹_›
  | exact rk_neBl ‹_›
  | exact rk_eqI ‹_›
  | exact rk_neI ‹_›
  | exact rk_cmp ‹_›)
local macro_rules | `(tactic| walk_at "el") => `(tactic| first
  | exact el_nil ‹_›
  | (apply el_cons ‹_›; (focus walk_at "ek"); walk_at "el"))
local macro_rules | `(tactic| walk_at "eo") => `(tactic| first
  | exact eo_none ‹_›
  | (apply eo_some ‹_›; walk_at "ek"))
local macro_rules | `(tactic| walk_at "ek") => `(tactic| first
  | exact ek_var ‹_› rfl
  | exact ek_int ‹_›
  | exact ek_str ‹_›
  | exact ek_non ‹_›
  | exact ek_bl ‹_›
  | (apply ek_op ‹_›; (focus walk_at "ek"); (focus walk_at "ek"); walk_at "rk")
  | (apply ek_neg ‹_›; walk_at "ek")
  | (apply ek_slice ‹_›; (focus walk_at "ek"); (focus walk_at "eo"); walk_at "eo")
  | (apply ek_tup1 ‹_›; walk_at "ek")
  | (apply ek_tup2 ‹_›; (focus walk_at "ek"); walk_at "ek")
  | (apply ek_tup3 ‹_›; (focus walk_at "ek"); (focus walk_at "ek"); walk_at "ek"))
local macro_rules | `(tactic| walk_at "run") => `(tactic| first
  | (refine rs_ret ?_; walk_at "ek")
  | (refine rs_retS ?_; walk_at "ek")
  | (refine rs_yes ‹_› (eb_test ‹_› ?_) ?_; (focus walk_at "ek"); walk_at "run")
  | (refine rs_no ‹_› (eb_test ‹_› ?_) ?_; (focus walk_at "ek"); walk_at "run"))
def gsB (n : Nat) : AV → Prop := isK fun x => ∃ g, GsOk g ∧ deep g ≤ n ∧ x = encG g
def okGuesser (n : Nat) : Ok := fun as R S => ∃ a, 1 ≤ n ∧ R = Dr a ∧ as = [.dr a, .k (.num (n : Int))] ∧ S = gsB n
section
variable {P : Program} {w : World} {K : PySem.W.Frag} {mg : Str → Option Value} {base : Heap}
section
variable {R : Hp → Hp → Prop} {κ : KS} {ta tb te : TE} {tA tr tL : TA} {S : AV → Prop} {A : NestedKey → Prop} {T : List NestedKey → Prop} {a : Addr}
/-- [numbers][one drawn] -/
theorem es_pick {l : List Nat} {A : Nat → Prop} {E : XK} (hd : ∃ i : Nat, κ[i]? = some (some (.dr a))) (hl0 : 1 ≤ l.length) (hl : l.length ≤ 1000) (hA : ∀ x ∈ l, A x) (h : EvL (Dr a) tL κ ((nums l).map AV.k)) (ht : EvL (Dr a) tA κ [.dr a, .k (.num (l.length : Int))]) :
    EvS (Dr a) (tOp (rIxU P w K) (tLst tL) (tCall (spG okTake) [] E tA)) κ (isK fun x => ∃ n : Nat, x = .num (n : Int) ∧ A n) := by
  obtain ⟨i0, hi0⟩ := hd
  refine es_ixLst (evo_dr a) (Sb := numB l.length) (ds := nums l) ?_ (keepsD hi0) h (by rw [nums_length]; exact hl) (es_take hl0 ht)
  rintro x ⟨i, rfl, hi⟩
  exact ⟨i, _, rfl, atI_nat (nums_at hi), _, rfl, _, rfl, hA _ (by
    rw [List.getD_eq_getElem?_getD, List.getElem?_eq_getElem hi]
    exact List.getElem_mem hi)⟩
/-- the drawn cell, total -/
theorem es_cell {E : XK} (h : EvL (Dr a) tA κ [.dr a]) : EvS (Dr a) (tCall (spG okCell) [] E tA) κ (isK fun x => ∃ c, CellOk c ∧ x = encC c) := es_call (evo_dr a) h fun as e => by
  subst e
  exact ⟨Dr a, _, ⟨a, rfl, rfl, rfl⟩, fun _ _ x => x, fun d ⟨c, h1, h2⟩ => ⟨_, h2, c, h1, rfl⟩⟩
theorem et_cmp (V_ : Evo R) {f : Int → Int → Bool} {i j : Int} (h1 : EvK R ta κ (.k (.num i))) (h2 : EvK R tb κ (.k (.num j))) : EvB R (tTest (tOp (rI0 fun i j => .bl (f i j)) ta tb)) κ (f i j) := eb_test V_ (ek_op V_ h1 h2 (rk_cmp V_))
theorem et_eqI (V_ : Evo R) {i j : Int} (h1 : EvK R ta κ (.k (.num i))) (h2 : EvK R tb κ (.k (.num j))) : EvB R (tTest (tOp (rEqU K) ta tb)) κ (decide (i = j)) := eb_test V_ (ek_op V_ h1 h2 (rk_eqI V_))
theorem es_gs {n : Nat} {E : XK} (hn : 1 ≤ n) (h : EvL (Dr a) tA κ [.dr a, .k (.num (n : Int))]) : EvS (Dr a) (tCall (spG (okGuesser n)) [] E tA) κ (gsB n) := es_call (evo_dr a) h fun as e => by
  subst e
  exact ⟨Dr a, _, ⟨a, hn, rfl, rfl, rfl⟩, fun _ _ x => x, fun _ s => s⟩
theorem es_tup5K (V_ : Evo R) {A1 A2 A3 A4 A5 : NestedKey → Prop} {tc td te : TE} (h1 : EvS R ta κ (isK A1)) (h2 : EvS R tb κ (isK A2)) (h3 : EvS R tc κ (isK A3)) (h4 : EvS R td κ (isK A4)) (h5 : EvS R te κ (isK A5))
    (m : ∀ x y z u v, A1 x → A2 y → A3 z → A4 u → A5 v → S (.k (.tup [x, y, z, u, v]))) : EvS R (tTup (tCons ta (tCons tb (tCons tc (tCons td (tCons te tNil)))))) κ S :=
  es_tupK V_ (ea_consK V_ h1 (ea_consK V_ h2 (ea_consK V_ h3 (ea_consK V_ h4 (ea_consK V_ h5 (ea_nil V_)))))) fun ds ⟨x, r, e1, a1, y, r2, e2, a2, z, r3, e3, a3, u, r4, e4, a4, v, r5, e5, a5, e6⟩ => by
    subst e6 e5 e4 e3 e2 e1
    exact ⟨by show 5 ≤ 1000; decide, m x y z u v a1 a2 a3 a4 a5⟩
theorem es_tup4K (V_ : Evo R) {A1 A2 A3 A4 : NestedKey → Prop} {tc td : TE} (h1 : EvS R ta κ (isK A1)) (h2 : EvS R tb κ (isK A2)) (h3 : EvS R tc κ (isK A3)) (h4 : EvS R td κ (isK A4))
    (m : ∀ x y z u, A1 x → A2 y → A3 z → A4 u → S (.k (.tup [x, y, z, u]))) : EvS R (tTup (tCons ta (tCons tb (tCons tc (tCons td tNil))))) κ S :=
  es_tupK V_ (ea_consK V_ h1 (ea_consK V_ h2 (ea_consK V_ h3 (ea_consK V_ h4 (ea_nil V_))))) fun ds ⟨x, r, e1, a1, y, r2, e2, a2, z, r3, e3, a3, u, r4, e4, a4, e5⟩ => by
    subst e5 e4 e3 e2 e1
    exact ⟨by show 4 ≤ 1000; decide, m x y z u a1 a2 a3 a4⟩
theorem EvT.mono {tt : TT} {B B' : Bool → Prop} (h : EvT R tt κ B) (m : ∀ b, B b → B' b) : EvT R tt κ B' := fun σ H M Q q => h σ H M Q fun b H' r s => q b H' r (m b s)
/-- an if on what is known -/
theorem rs_ifB (V_ : Evo R) {tc : TT} {t u rest : TS} {c : Bool} (h : EvB R tc κ c) (h1 : c = true → RunS R (tSeq t rest) κ S) (h2 : c = false → RunS R (tSeq u rest) κ S) : RunS R (tSeq (tIfS tc t u) rest) κ S := rs_if V_ h (fun e => h1 e.symm) fun e => h2 e.symm
end
theorem es_form {κ : KS} {a : Addr} {wy m l d : Nat} {c : Cell} (h0 : κ[0]? = some (some (.dr a))) (h2 : κ[2]? = some (some (.k (.num (wy : Int))))) (h3 : κ[3]? = some (some (.k (.num (m : Int))))) (h4 : κ[4]? = some (some (.k (.num (l : Int))))) (h5 : κ[5]? = some (some (.k (encC c))))
    (hw : wy = 2 ∨ wy = 3 ∨ wy = 4) (m1 : 1 ≤ m) (m16 : m ≤ 16) (hl : l ≤ 6) (hm : wy = 3 → m * 2 ^ l ≤ 64) (hc : CellOk c) :
    EvS (Dr a) (tTup (tCons (tOp (rIxU P w K) (tLst (tCons (tC (.str "mixed")) (tCons (tC (.str "joined")) (tCons (tC (.str "own")) tNil)))) (tOp rSub (tVar 2) (tC (.int 2)))) (tCons (tVar 3) (tCons (tVar 4) (tCons (tVar 5) tNil))))) κ (gsB (d + 1)) := by
  have V_ := evo_dr a
  refine es_tup4K V_ (A1 := fun y => (wy = 2 ∧ y = .text "mixed") ∨ (wy = 3 ∧ y = .text "joined") ∨ (wy = 4 ∧ y = .text "own")) (es_ixLst V_ (Sb := fun x => x = .k (.num ((wy : Int) - 2))) (ds := [.text "mixed", .text "joined", .text "own"]) ?_ (keepsD h0) (by walk_at "el") (by show 3 ≤ 1000; decide) (ek_op V_ (ek_var V_ h2) (ek_int V_) (rk_sub V_))) (EvK.isK (ek_var V_ h3)) (EvK.isK (ek_var V_ h4)) (EvK.isK (ek_var V_ h5)) ?_
  · rintro x rfl
    rcases hw with rfl | rfl | rfl
    · exact ⟨0, .text "mixed", rfl, rfl, _, rfl, .inl ⟨rfl, rfl⟩⟩
    · exact ⟨1, .text "joined", rfl, rfl, _, rfl, .inr (.inl ⟨rfl, rfl⟩)⟩
    · exact ⟨2, .text "own", rfl, rfl, _, rfl, .inr (.inr ⟨rfl, rfl⟩)⟩
  · rintro x y z u hx rfl rfl rfl
    rcases hx with ⟨rfl, rfl⟩ | ⟨rfl, rfl⟩ | ⟨rfl, rfl⟩
    · exact ⟨_, rfl, .mixed m l c, ⟨m1, m16, hl, hc⟩, (by show 1 ≤ d + 1; omega), rfl⟩
    · exact ⟨_, rfl, .joined m l c, ⟨m1, m16, hl, hm rfl, hc⟩, (by show 1 ≤ d + 1; omega), rfl⟩
    · exact ⟨_, rfl, .own m l c, ⟨m1, m16, hl, hc⟩, (by show 1 ≤ d + 1; omega), rfl⟩
theorem cal_guesser (F : TD K mg "_law_guesser" s_l_law_guesser ["draws", "deep"]) (B : Blt mg) (c_l_law_take : C8.Cal P w K mg base 1 "_law_take" (spG okTake) []) (c_l_law_cell : C8.Cal P w K mg base 2 "_law_cell" (spG okCell) []) (c_l_law_total : C8.Cal P w K mg base 5 "_law_total" (spG (okTotal 4)) []) :
    ∀ d : Nat, d ≤ 3 → C8.Cal P w K mg base (d + 5) "_law_guesser" (spG (okGuesser d)) [] := by
  intro d
  induction d with
  | zero =>
    intro _
    refine cal_never F sc_l_law_guesser fun as R S h => ?_
    obtain ⟨_, h, _⟩ := h
    exact absurd h (by decide)
  | succ d ih =>
    intro hd3
    have c_l_law_guesser := ih (by omega)
    refine cal_of F sc_l_law_guesser (fun as R S h => ?_) fun f cdv A outer s H E hr => ⟨_, (pss_cons (ps_set (i := 2) sc_l_law_guesser.nd rfl (Or.inl rfl) (C8.pe_c c_l_law_take hr (by first | decide | omega) (by rfl) (pa_cons (pv 0) (pa_cons (pe_ix (ix_U hr.units) (pe_lst (pa_cons pe_int (pa_cons pe_int pa_nil))) (pe_callTy call_int1 (by rfl) B.int (by decide +kernel) (pa_cons (pe_cmpR op_gt (pv 1) pe_int (nomark _)) pa_nil)) (fun _ _ => rfl)) pa_nil))))
      (pss_cons (ps_if (pt_cmpR (op_eqU hr.units) (pv 2) pe_int (nomark _)) (pss_one (ps_ret (pe_tup (pa_cons pe_str (pa_cons (C8.pe_c c_l_law_take hr (by first | decide | omega) (by rfl) (pa_cons (pv 0) (pa_cons pe_int pa_nil))) pa_nil))))) pss_nil)
      (pss_cons (ps_if (pt_cmpR op_gt (pv 2) pe_int (nomark _)) (pss_cons (ps_set (i := 6) sc_l_law_guesser.nd rfl (Or.inl rfl) (C8.pe_c c_l_law_guesser hr (by first | decide | omega) (by rfl) (pa_cons (pv 0) (pa_cons (pe_op op_sub (pv 1) pe_int) pa_nil))))
      (pss_cons (ps_set (i := 7) sc_l_law_guesser.nd rfl (Or.inl rfl) (C8.pe_c c_l_law_guesser hr (by first | decide | omega) (by rfl) (pa_cons (pv 0) (pa_cons (pe_op op_sub (pv 1) pe_int) pa_nil))))
      (pss_cons (ps_set (i := 8) sc_l_law_guesser.nd rfl (Or.inl rfl) (pe_tup (pa_cons pe_str (pa_cons (pv 6) (pa_cons (pv 7) (pa_cons (pe_ix (ix_U hr.units) (pe_lst (pa_cons pe_int (pa_cons pe_int (pa_cons pe_int (pa_cons pe_int pa_nil))))) (C8.pe_c c_l_law_take hr (by first | decide | omega) (by rfl) (pa_cons (pv 0) (pa_cons pe_int pa_nil))) (fun _ _ => rfl)) (pa_cons (C8.pe_c c_l_law_cell hr (by first | decide | omega) (by rfl) (pa_cons (pv 0) pa_nil)) pa_nil)))))))
      (pss_one (ps_ret (pe_ifExp (pt_cmpR op_gt (C8.pe_c c_l_law_total hr (by first | decide | omega) (by rfl) (pa_cons (pv 8) pa_nil)) pe_int (nomark _)) (pv 6) (pv 8))))))) pss_nil)
      (pss_cons (ps_set (i := 3) sc_l_law_guesser.nd rfl (Or.inl rfl) (pe_ix (ix_U hr.units) (pe_lst (pa_cons pe_int (pa_cons pe_int (pa_cons pe_int (pa_cons pe_int (pa_cons pe_int (pa_cons pe_int (pa_cons pe_int (pa_cons pe_int pa_nil))))))))) (C8.pe_c c_l_law_take hr (by first | decide | omega) (by rfl) (pa_cons (pv 0) (pa_cons pe_int pa_nil))) (fun _ _ => rfl)))
      (pss_cons (ps_set (i := 4) sc_l_law_guesser.nd rfl (Or.inl rfl) (pe_ix (ix_U hr.units) (pe_lst (pa_cons pe_int (pa_cons pe_int (pa_cons pe_int (pa_cons pe_int (pa_cons pe_int (pa_cons pe_int (pa_cons pe_int (pa_cons pe_int pa_nil))))))))) (C8.pe_c c_l_law_take hr (by first | decide | omega) (by rfl) (pa_cons (pv 0) (pa_cons pe_int pa_nil))) (fun _ _ => rfl)))
      (pss_cons (ps_set (i := 5) sc_l_law_guesser.nd rfl (Or.inl rfl) (C8.pe_c c_l_law_cell hr (by first | decide | omega) (by rfl) (pa_cons (pv 0) pa_nil)))
      (pss_cons (ps_if (PW.pt (pw_or (pt_cmpR (op_eqU hr.units) (pv 2) pe_int (nomark _)) (pw_or1 (pt_cmpR (op_eqU hr.units) (pv 2) pe_int (nomark _))))) (pss_one (ps_ret (pe_tup (pa_cons pe_str (pa_cons (pv 3) (pa_cons (pv 5) pa_nil)))))) pss_nil)
      (pss_cons (ps_if (PW.pt (pw_and (pt_cmpR (op_eqU hr.units) (pv 2) pe_int (nomark _)) (pw_and1 (pt_cmpR op_gt (pe_op op_shl (pv 3) (pv 4)) pe_int (nomark _))))) (pss_one (ps_set (i := 3) sc_l_law_guesser.nd rfl (Or.inl rfl) pe_int)) pss_nil)
      (pss_one (ps_ret (pe_tup (pa_cons (pe_ix (ix_U hr.units) (pe_lst (pa_cons pe_str (pa_cons pe_str (pa_cons pe_str pa_nil)))) (pe_op op_sub (pv 2) pe_int) (fun _ _ => rfl)) (pa_cons (pv 3) (pa_cons (pv 4) (pa_cons (pv 5) pa_nil))))))))))))))), fun as R S h => ?_⟩
    · obtain ⟨a, _, _, rfl, _⟩ := h
      rfl
    · obtain ⟨a, _, rfl, rfl, rfl⟩ := h
      have V_ := evo_dr a
      have hmw : 1 ≤ (if 1 < d + 1 then 9 else 6) := by split <;> decide
      refine rs_set V_ (S0 := numB (if 1 < d + 1 then 9 else 6)) (es_take hmw (el_cons V_ (ek_var V_ rfl) (el_cons V_ ?_ (el_nil V_)))) ?_
      · refine es_ixLst V_ (Sb := fun x => x = .k (.num (if decide (1 < ((d + 1 : Nat) : Int)) then 1 else 0))) (ds := [.num 6, .num 9]) ?_ (keepsD (i := 0) rfl) (by walk_at "el") (by show 2 ≤ 1000; decide) (es_cb V_ (el_cons V_ (ek_op V_ (ek_var V_ rfl) (ek_int V_) (rk_cmp V_)) (el_nil V_)) fun as e => by
          subst e
          exact cs_intB V_)
        rintro x rfl
        by_cases h : 1 < d + 1
        · rw [decide_eq_true (by omega), if_pos h]
          exact ⟨1, .num 9, rfl, rfl, rfl⟩
        · rw [decide_eq_false (by omega), if_neg h]
          exact ⟨0, .num 6, rfl, rfl, rfl⟩
      · rintro _ ⟨wy, rfl, hwy⟩
        refine rs_ifB V_ (et_eqI V_ (ek_var V_ rfl) (ek_int V_)) (fun _ => ?_) fun h0 => ?_
        · refine rs_retS (es_tup2K V_ (EvK.isK (ek_str V_)) (A2 := fun y => ∃ x : Nat, y = .num (x : Int) ∧ x < 2) ((es_take (m := 2) (by decide) (by walk_at "el")).mono fun d ⟨x, e, h⟩ => ⟨_, e, x, rfl, h⟩) ?_)
          rintro x y rfl ⟨z, rfl, hz⟩
          exact ⟨_, rfl, .same z, Nat.le_of_lt_succ hz, (by show 1 ≤ d + 1; omega), rfl⟩
        · refine rs_ifB V_ (et_cmp V_ (ek_var V_ rfl) (ek_int V_)) (fun h5 => ?_) fun h5 => ?_
          · have h5 := of_decide_eq_true h5
            have hd1 : 1 ≤ d := by
              by_cases h : 1 < d + 1
              · omega
              · rw [if_neg h] at hwy
                omega
            have edn : AV.k (NestedKey.num (((d + 1 : Nat) : Int) - 1)) = .k (.num (d : Int)) := by
              congr 2
              omega
            refine rs_assoc (rs_set V_ (S0 := gsB d) (es_gs hd1 (el_cons V_ (ek_var V_ rfl) (el_cons V_ (EvK.to (ek_op V_ (ek_var V_ rfl) (ek_int V_) (rk_sub V_)) edn) (el_nil V_)))) ?_)
            rintro _ ⟨_, rfl, g1, ok1, de1, rfl⟩
            refine rs_assoc (rs_set V_ (S0 := gsB d) (es_gs hd1 (el_cons V_ (ek_var V_ rfl) (el_cons V_ (EvK.to (ek_op V_ (ek_var V_ rfl) (ek_int V_) (rk_sub V_)) edn) (el_nil V_)))) ?_)
            rintro _ ⟨_, rfl, g2, ok2, de2, rfl⟩
            refine rs_assoc (rs_set V_ (S0 := gsB (d + 1)) (es_tup5K V_ (EvK.isK (ek_str V_)) (EvK.isK (ek_var V_ rfl)) (EvK.isK (ek_var V_ rfl)) (es_pick (l := [1, 2, 1, 16]) (A := fun n => 1 ≤ n ∧ n ≤ 16) ⟨0, rfl⟩ (by decide) (by decide) (by decide) (show EvL _ _ _ [.k (.num 1), .k (.num 2), .k (.num 1), .k (.num 16)] from by walk_at "el") (show EvL _ _ _ [.dr a, .k (.num 4)] from by walk_at "el")) (es_cell (by walk_at "el")) ?_) ?_)
            · rintro x y z u v rfl rfl rfl ⟨n, rfl, hn1, hn2⟩ ⟨c, hc, rfl⟩
              exact ⟨_, rfl, .either g1 g2 n c, ⟨ok1, ok2, hn1, hn2, hc⟩, (by show 1 + max (deep g1) (deep g2) ≤ d + 1; omega), rfl⟩
            · rintro _ ⟨_, rfl, g, okg, deg, rfl⟩
              refine rs_retS (ek_if V_ (et_cmp V_ (ek_call V_ (as := [.k (encG g)]) (by walk_at "el") ⟨rfl, g, okg, by omega, rfl, rfl⟩) (ek_int V_)) (fun _ => (ek_var V_ rfl).mono fun d e => ⟨_, e, g1, ok1, by omega, rfl⟩) (fun _ => (ek_var V_ rfl).mono fun d e => ⟨_, e, g, okg, deg, rfl⟩))
          · have h5 := of_decide_eq_false h5
            refine rs_next (rs_set V_ (es_pick (l := [1, 2, 3, 1, 2, 7, 10, 16]) (A := fun n => 1 ≤ n ∧ n ≤ 16) ⟨0, rfl⟩ (by decide) (by decide) (by decide) (show EvL _ _ _ [.k (.num 1), .k (.num 2), .k (.num 3), .k (.num 1), .k (.num 2), .k (.num 7), .k (.num 10), .k (.num 16)] from by walk_at "el") (show EvL _ _ _ [.dr a, .k (.num 8)] from by walk_at "el")) ?_)
            rintro _ ⟨_, rfl, n, rfl, hn1, hn2⟩
            refine rs_set V_ (es_pick (l := [0, 1, 2, 1, 2, 3, 0, 6]) (A := fun n => n ≤ 6) ⟨0, rfl⟩ (by decide) (by decide) (by decide) (show EvL _ _ _ [.k (.num 0), .k (.num 1), .k (.num 2), .k (.num 1), .k (.num 2), .k (.num 3), .k (.num 0), .k (.num 6)] from by walk_at "el") (show EvL _ _ _ [.dr a, .k (.num 8)] from by walk_at "el")) ?_
            rintro _ ⟨_, rfl, l, rfl, hl6⟩
            refine rs_set V_ (es_cell (by walk_at "el")) ?_
            rintro _ ⟨_, rfl, c, hc, rfl⟩
            refine rs_ifB V_ (c := decide ((wy : Int) = 1) || decide ((wy : Int) = 5)) (et_or V_ (B1 := fun b => b = decide ((wy : Int) = 1)) (B2 := fun b => b = decide ((wy : Int) = 5)) (et_eqI V_ (ek_var V_ rfl) (ek_int V_)) (fun _ => et_eqI V_ (ek_var V_ rfl) (ek_int V_)) (fun h b hb => by rw [hb, ← h]; rfl) (fun h => by rw [← h]; rfl)) (fun _ => ?_) fun h15 => ?_
            · refine rs_retS (es_tup3K V_ (EvK.isK (ek_str V_)) (EvK.isK (ek_var V_ rfl)) (EvK.isK (ek_var V_ rfl)) ?_)
              rintro x y z rfl rfl rfl
              exact ⟨_, rfl, .table n c, ⟨hn1, hn2, hc⟩, (by show 1 ≤ d + 1; omega), rfl⟩
            · have hw1 : wy ≠ 1 ∧ wy ≠ 5 := by
                rw [Bool.or_eq_false_iff] at h15
                have z1 := of_decide_eq_false h15.1
                have z2 := of_decide_eq_false h15.2
                exact ⟨by omega, by omega⟩
              have h0' := of_decide_eq_false h0
              have h5' : ¬ (5 : Int) < (wy : Int) := h5
              have hw : wy = 2 ∨ wy = 3 ∨ wy = 4 := by omega
              refine rs_next (rs_ifB V_ (c := decide ((wy : Int) = 3) && decide (64 < ((n * 2 ^ l : Nat) : Int))) (et_and V_ (B1 := fun b => b = decide ((wy : Int) = 3)) (B2 := fun b => b = decide (64 < ((n * 2 ^ l : Nat) : Int))) (et_eqI V_ (ek_var V_ rfl) (ek_int V_)) (fun _ => et_cmp V_ (f := fun i j => decide (j < i)) (ek_op V_ (ek_var V_ rfl) (ek_var V_ rfl) (rk_shlN V_ (by omega) (by omega))) (ek_int V_)) (fun h b hb => by rw [hb, ← h]; rfl) (fun h => by rw [← h]; rfl)) (fun _ => rk_set V_ (a := .k (.num ((1 : Nat) : Int))) (ek_int V_) (rs_ret (es_form rfl rfl rfl rfl rfl hw (by decide) (by decide) hl6 (fun _ => by rw [Nat.one_mul]; exact pow_le hl6) hc))) fun h64 => rs_next (rs_ret (es_form rfl rfl rfl rfl rfl hw hn1 hn2 hl6 (fun e => ?_) hc)))
              rw [Bool.and_eq_false_iff] at h64
              rcases h64 with z | z
              · have := of_decide_eq_false z
                omega
              · have := of_decide_eq_false z
                omega
end
end K49
set_option Elab.async false
set_option linter.all false
set_option maxRecDepth 100000
set_option maxHeartbeats 4000000
set_option autoImplicit false
/-! The law: a near guesser. -/
namespace K49
open PySem PySem.Spec PyProof.Rows L2
local macro_rules | `(tactic| walk_at "rk") => `(tactic| first
  | exact rk_eqS ‹_› (by decide)
  | exact rk_ix ‹_› rfl
  | exact rk_inS2 ‹_› (by decide)
  | exact rk_ix ‹_› (at_nums (by assumption))
  | exact rk_modN ‹_› (by first | assumption | omega)
  | exact rk_addN ‹_›
  | exact rk_mul2 ‹_›
  | exact rk_addr1 ‹_›
  | exact rk_add1l ‹_›
  | exact rk_shl1 ‹_› (by omega)
  | exact rk_mulN ‹_› (by omega)
  | exact rk_shlN ‹_› (by omega) (by omega)
  | exact rk_addI ‹_›
  | exact rk_addT ‹_› (by first | decide | (simp only [List.length_append, List.length_cons, List.length_nil, List.length_take, List.length_drop] at *; omega))
  | exact rk_sub ‹_›
  | exact rk_neBl ‹_›
  | exact rk_eqI ‹_›
  | exact rk_neI ‹_›
  | exact rk_cmp ‹_›)
local macro_rules | `(tactic| walk_at "el") => `(tactic| first
  | exact el_nil ‹_›
  | (apply el_cons ‹_›; (focus walk_at "ek"); walk_at "el"))
local macro_rules | `(tactic| walk_at "eo") => `(tactic| first
  | exact eo_none ‹_›
  | (apply eo_some ‹_›; walk_at "ek"))
local macro_rules | `(tactic| walk_at "ek") => `(tactic| first
  | exact ek_var ‹_› rfl
  | exact ek_int ‹_›
  | exact ek_str ‹_›
  | exact ek_non ‹_›
  | exact ek_bl ‹_›
  | (apply ek_op ‹_›; (focus walk_at "ek"); (focus walk_at "ek"); walk_at "rk")
  | (apply ek_neg ‹_›; walk_at "ek")
  | (apply ek_slice ‹_›; (focus walk_at "ek"); (focus walk_at "eo"); walk_at "eo")
  | (apply ek_tup1 ‹_›; walk_at "ek")
  | (apply ek_tup2 ‹_›; (focus walk_at "ek"); walk_at "ek")
  | (apply ek_tup3 ‹_›; (focus walk_at "ek"); (focus walk_at "ek"); walk_at "ek"))
local macro_rules | `(tactic| walk_at "run") => `(tactic| first
  | (refine rs_ret ?_; walk_at "ek")
  | (refine rs_retS ?_; walk_at "ek")
  | (refine rs_yes ‹_› (eb_test ‹_› ?_) ?_; (focus walk_at "ek"); walk_at "run")
  | (refine rs_no ‹_› (eb_test ‹_› ?_) ?_; (focus walk_at "ek"); walk_at "run"))
def vints (l : List Nat) : List V := l.map fun (n : Nat) => V.int (n : Int)
theorem kats_nums {H : Hp} : ∀ {l : List Nat} {vs : List V}, KAts H (nums l) vs → vs = vints l
  | [], _, h => by cases h; rfl
  | x :: l, _, h => by
    cases h with
    | cons h1 h2 =>
      cases h1
      rw [kats_nums h2]
      rfl
theorem nums_kats {H : Hp} : ∀ l : List Nat, KAts H (nums l) (vints l)
  | [] => .nil
  | x :: l => .cons (.num _) (nums_kats l)
theorem vints_length (l : List Nat) : (vints l).length = l.length := List.length_map ..
theorem vints_at {l : List Nat} {i : Nat} (h : i < l.length) : (vints l)[i]? = some (.int (l.getD i 0 : Nat)) := by
  unfold vints
  rw [List.getElem?_map, List.getElem?_eq_getElem h, List.getD_eq_getElem?_getD, List.getElem?_eq_getElem h]
  rfl
theorem vints_set (l : List Nat) (i x : Nat) : (vints l).set i (.int (x : Nat)) = vints (l.set i x) := by
  unfold vints
  rw [List.map_set]
theorem vints_dr {H : Hp} {a : Addr} {l : List Nat} (h : H a = some (.lst (vints l))) : DR a H := ⟨l.map fun (n : Nat) => (n : Int), by rw [h]; unfold vints; rw [List.map_map]; rfl⟩
theorem kats_snoc {H : Hp} {k : NestedKey} : ∀ {ks : List NestedKey} {vs : List V}, KAts H (ks ++ [k]) vs → ∃ us v, vs = us ++ [v] ∧ KAts H ks us ∧ KAt H k v
  | [], _, h => by
    cases h with
    | cons h1 h2 =>
      cases h2
      exact ⟨[], _, rfl, .nil, h1⟩
  | k0 :: ks, _, h => by
    cases h with
    | cons h1 h2 =>
      obtain ⟨us, v, e, h3, h4⟩ := kats_snoc (ks := ks) h2
      subst e
      exact ⟨_ :: us, v, rfl, .cons h1 h3, h4⟩
theorem at_last {α : Type} (us : List α) (v : α) : atI (us ++ [v]) (-1) = some v := by
  unfold atI
  have e : ixN (us ++ [v]).length (-1) = some us.length := by
    unfold ixN
    rw [List.length_append]
    show _ = some us.length
    simp
    omega
  rw [e]
  show (us ++ [v])[us.length]? = some v
  simp
theorem mt_un {κ : KS} {σ : L2.St} {H : Hp} {a : AV} (m : Mt (some a :: κ) σ H) : ∃ v σ', σ = some v :: σ' ∧ AAt H a v ∧ Mt κ σ' H := by
  cases σ with
  | nil => exact absurd m.len (by simp)
  | cons o σ' =>
    obtain ⟨v, h1, h2⟩ := m.at_ 0 a rfl
    have e : o = some v := by simpa using h1
    subst e
    exact ⟨v, σ', rfl, h2, by have := m.len; simpa using this, fun i b h => by
      obtain ⟨u, h3, h4⟩ := m.at_ (i + 1) b (by simpa using h)
      exact ⟨u, by simpa using h3, h4⟩⟩
theorem mt_unN {κ : KS} {σ : L2.St} {H : Hp} (m : Mt (none :: κ) σ H) : ∃ o σ', σ = o :: σ' ∧ Mt κ σ' H := by
  cases σ with
  | nil => exact absurd m.len (by simp)
  | cons o σ' =>
    exact ⟨o, σ', rfl, by have := m.len; simpa using this, fun i b h => by
      obtain ⟨u, h3, h4⟩ := m.at_ (i + 1) b (by simpa using h)
      exact ⟨u, by simpa using h3, h4⟩⟩
theorem mt_un0 {σ : L2.St} {H : Hp} (m : Mt [] σ H) : σ = [] := List.eq_nil_of_length_eq_zero m.len
theorem st5 {σ : L2.St} {H : Hp} {a : Addr} {x : NestedKey} (m : Mt [some (.dr a), some (.k x), none, none, none] σ H) : ∃ y o2 o3 o4, σ = [some (.ref a), some y, o2, o3, o4] ∧ DR a H ∧ KAt H x y := by
  obtain ⟨v0, σ1, e0, ⟨e0', hdr⟩, m1⟩ := mt_un m
  obtain ⟨y, σ2, e1, ky, m2⟩ := mt_un m1
  obtain ⟨o2, σ3, e2, m3⟩ := mt_unN m2
  obtain ⟨o3, σ4, e3, m4⟩ := mt_unN m3
  obtain ⟨o4, σ5, e4, m5⟩ := mt_unN m4
  have e5 := mt_un0 m5
  subst e5 e4 e3 e2 e1 e0' e0
  exact ⟨y, o2, o3, o4, rfl, hdr, ky⟩
/-- the parts ahead of the cell -/
def frontOf : Gs → List NestedKey
  | .same w => [.text "same"]
  | .table n _ => [.text "table", .num n]
  | .mixed n l _ => [.text "mixed", .num n, .num l]
  | .joined n l _ => [.text "joined", .num n, .num l]
  | .own n l _ => [.text "own", .num n, .num l]
  | .either x y n _ => [.text "either", encG x, encG y, .num n]
def withC : Gs → Cell → Gs
  | .same w, _ => .same w
  | .table n _, c => .table n c
  | .mixed n l _, c => .mixed n l c
  | .joined n l _, c => .joined n l c
  | .own n l _, c => .own n l c
  | .either x y n _, c => .either x y n c
theorem enc_front {g : Gs} (h : isSame g = false) : encG g = .tup (frontOf g ++ [encC (cellOf g)]) := by
  cases g with
  | same w => cases h
  | _ => rfl
theorem enc_with {g : Gs} (h : isSame g = false) (c : Cell) : encG (withC g c) = .tup (frontOf g ++ [encC c]) := by
  cases g with
  | same w => cases h
  | _ => rfl
theorem with_ok {g : Gs} {c : Cell} (hg : GsOk g) (hc : CellOk c) : GsOk (withC g c) := by
  cases g with
  | same w => exact hg
  | table n c0 => exact ⟨hg.1, hg.2.1, hc⟩
  | mixed n l c0 => exact ⟨hg.1, hg.2.1, hg.2.2.1, hc⟩
  | joined n l c0 => exact ⟨hg.1, hg.2.1, hg.2.2.1, hg.2.2.2.1, hc⟩
  | own n l c0 => exact ⟨hg.1, hg.2.1, hg.2.2.1, hc⟩
  | either x y n c0 => exact ⟨hg.1, hg.2.1, hg.2.2.1, hg.2.2.2.1, hc⟩
theorem with_deep (g : Gs) (c : Cell) : deep (withC g c) = deep g := by cases g <;> rfl
theorem front_len (g : Gs) : (frontOf g).length ≤ 4 := by cases g <;> simp [frontOf]
section
variable {P : Program} {w : World} {K : PySem.W.Frag} {mg : Str → Option Value} {base : Heap}
theorem take_raw {a : Addr} {m : Nat} {H : Hp} {Q : VK} (hm : 1 ≤ m) (hd : DR a H) (q : ∀ (x : Nat) H', x < m → Dr a H H' → Q (.int (x : Nat)) H') : spG okTake [.ref a, .int (m : Nat)] H Q C8.E0 :=
  ⟨[.dr a, .k (.num (m : Int))], Dr a, numB m, .cons ⟨rfl, hd⟩ (.cons (AAt.of (KAt.num _)) .nil), ⟨a, m, hm, rfl, rfl, rfl⟩, fun v d H' r k ⟨x, e, hx⟩ => by
    subst e
    rw [kat_num k]
    exact q x H' hx r⟩
theorem ixN_n {n j : Nat} (h : j < n) : ixN n (j : Int) = some j := by
  unfold ixN
  simp
  omega
theorem at_one {l : List V} {v : V} (h : l[0]? = some v) : atI l 0 = some v := atI_nat (j := 0) h
def form : Gs → Str
  | .same _ => "same"
  | .table _ _ => "table"
  | .mixed _ _ _ => "mixed"
  | .joined _ _ _ => "joined"
  | .own _ _ _ => "own"
  | .either _ _ _ _ => "either"
theorem form_at (g : Gs) : ∃ ds, encG g = .tup ds ∧ atI ds 0 = some (.text (form g)) := by cases g <;> exact ⟨_, rfl, rfl⟩
theorem ek_form {R : Hp → Hp → Prop} (V_ : Evo R) {κ : KS} {te : TE} {g : Gs} (h : EvK R te κ (.k (encG g))) : EvK R (tOp (rIxU P w K) te (tC (.int 0))) κ (.k (.text (form g))) := by
  obtain ⟨ds, e, h1⟩ := form_at g
  rw [e] at h
  exact ek_op V_ h (ek_int V_) (rk_ix V_ h1)
theorem es_tup1K {R : Hp → Hp → Prop} (V_ : Evo R) {κ : KS} {ta : TE} {A : NestedKey → Prop} (h1 : EvS R ta κ (isK A)) : EvS R (tTup (tCons ta tNil)) κ (isK fun x => ∃ ds, x = .tup ds ∧ ∃ y, ds = [y] ∧ A y) :=
  es_tupK V_ (ea_consK V_ h1 (ea_nil V_)) fun ds ⟨x, r, e1, a1, e4⟩ => by
    subst e4 e1
    exact ⟨by show 1 ≤ 1000; decide, _, rfl, _, rfl, x, rfl, a1⟩
theorem es_cat {R : Hp → Hp → Prop} (V_ : Evo R) {κ : KS} {ta tb : TE} {T1 T2 : List NestedKey → Prop} (h1 : EvS R ta κ (isK fun x => ∃ ds, x = .tup ds ∧ T1 ds)) (h2 : EvS R tb κ (isK fun x => ∃ ds, x = .tup ds ∧ T2 ds)) (hl : ∀ d1 d2, T1 d1 → T2 d2 → d1.length + d2.length ≤ 1000) :
    EvS R (tOp (rAddU K) ta tb) κ (isK fun x => ∃ ds, x = .tup ds ∧ ∃ d1 d2, ds = d1 ++ d2 ∧ T1 d1 ∧ T2 d2) := es_op V_ h1 h2 fun x y ⟨_, e1, d1, e3, t1⟩ ⟨_, e2, d2, e4, t2⟩ => by
  subst e1 e2 e3 e4
  exact fun H vx vy kx ky Q q => rk_addT V_ (hl d1 d2 t1 t2) H vx vy kx ky Q fun v d H' r k s => q v d H' r k ⟨_, s, _, rfl, d1, d2, rfl, t1, t2⟩
def okNear (n : Nat) : Ok := fun as R S => ∃ a g, GsOk g ∧ deep g ≤ n ∧ R = Dr a ∧ as = [.dr a, .k (encG g)] ∧ S = gsB n
theorem lrow {ds : List (List Nat)} {rs : List Addr} {H : Hp} (h : ∀ (j : Nat) r, rs[j]? = some r → ∃ l, ds[j]? = some l ∧ H r = some (.lst (vints l))) {j : Nat} {r : Addr} {l : List Nat} (hr : rs[j]? = some r) (hl : ds[j]? = some l) : H r = some (.lst (vints l)) := by
  obtain ⟨l', h1, h2⟩ := h j r hr
  rw [hl] at h1
  cases h1
  exact h2
theorem cutK_front (F : List NestedKey) (x : NestedKey) : cutK (F ++ [x]) none (some (-1)) = F := by
  unfold cutK
  have e1 : HT.sIx (F ++ [x]).length 0 none = 0 := rfl
  have e2 : HT.sIx (F ++ [x]).length (F ++ [x]).length (some (-1)) = F.length := by
    show (if (-1 : Int) < 0 then ((-1 : Int) + ((F ++ [x]).length : Int)).toNat else min (-1 : Int).toNat (F ++ [x]).length) = _
    rw [if_pos (by decide), List.length_append, List.length_singleton]
    omega
  rw [e1, e2]
  simp
theorem cal_near (F : TD K mg "_law_near" s_l_law_near ["draws", "guesser"]) (B : Blt mg) (c_l_law_take : C8.Cal P w K mg base 1 "_law_take" (spG okTake) []) : ∀ d : Nat, C8.Cal P w K mg base (d + 2) "_law_near" (spG (okNear d)) [] := by
  intro d
  induction d with
  | zero =>
    refine cal_never F sc_l_law_near fun as R S h => ?_
    obtain ⟨_, g, _, hd, _⟩ := h
    have := deep_pos g
    omega
  | succ d c_l_law_near =>
    refine cal_of F sc_l_law_near (fun as R S h => ?_) fun f cdv A outer s H E hr => ⟨_, (pss_cons (ps_if (pt_cmpR (op_eqU hr.units) (pe_ix (ix_U hr.units) (pv 1) pe_int (fun _ _ => rfl)) pe_str (nomark _)) (pss_one (ps_ret (pe_tup (pa_cons pe_str (pa_cons (pe_op op_sub pe_int (pe_ix (ix_U hr.units) (pv 1) pe_int (fun _ _ => rfl))) pa_nil))))) pss_nil)
      (pss_cons (ps_if (PW.pt (pw_and (pt_cmpR (op_eqU hr.units) (pe_ix (ix_U hr.units) (pv 1) pe_int (fun _ _ => rfl)) pe_str (nomark _)) (pw_and1 (pt_cmpR (op_eqU hr.units) (C8.pe_c c_l_law_take hr (by first | decide | omega) (by rfl) (pa_cons (pv 0) (pa_cons pe_int pa_nil))) pe_int (nomark _))))) (pss_one (ps_ret (pe_op op_addU (pe_op op_addU (pe_slice sl_U (pv 1) po_none (po_some pe_int)) (pe_tup (pa_cons (C8.pe_c c_l_law_near hr (by first | decide | omega) (by rfl) (pa_cons (pv 0) (pa_cons (pe_ix (ix_U hr.units) (pv 1) pe_int (fun _ _ => rfl)) pa_nil))) pa_nil))) (pe_slice sl_U (pv 1) (po_some pe_int) po_none)))) pss_nil)
      (pss_cons (ps_setLc (i := 2) (own := [("row", 4)]) (by rfl) sc_l_law_near.nd rfl rfl (sw_true rfl rfl rfl (by decide +kernel)) (pi_tup (pe_ix (ix_U hr.units) (pv 1) (pe_un un_neg pe_int) (fun _ _ => rfl))) (blkOk_by (own := [("row", 4)]) (N := ["draws", "guesser", "rows", "at", "row"]) (sc := defScope s_l_law_near) (by decide +kernel)) (fun _ _ _ _ _ => (pg_name (i := 4) sc_l_law_near.nd rfl (Or.inl rfl))) (fun _ _ _ _ _ => pts_nil) (fun _ _ _ _ _ => (pe_callTy (cr_listx (K := K) rfl) (by rfl) B.list (by decide +kernel) (pa_cons (pv 4) pa_nil))))
      (pss_cons (ps_set (i := 3) sc_l_law_near.nd rfl (Or.inl rfl) (C8.pe_c c_l_law_take hr (by first | decide | omega) (by rfl) (pa_cons (pv 0) (pa_cons (pe_callB (cr_lenx rfl) (by rfl) B.len PySem.boot_len (pa_cons (pe_ix (ix_U hr.units) (pv 2) pe_int (fun _ _ => rfl)) pa_nil)) pa_nil))))
      (pss_cons (ps_set (i := 4) sc_l_law_near.nd rfl (Or.inl rfl) (C8.pe_c c_l_law_take hr (by first | decide | omega) (by rfl) (pa_cons (pv 0) (pa_cons pe_int pa_nil))))
      (pss_cons (ps_asg (pe_ix (ix_U hr.units) (pe_lst (pa_cons (pe_op op_sub pe_int (pe_ix (ix_U hr.units) (pe_ix (ix_U hr.units) (pv 2) pe_int (fun _ _ => rfl)) (pv 3) (fun _ _ => rfl))) (pa_cons (C8.pe_c c_l_law_take hr (by first | decide | omega) (by rfl) (pa_cons (pv 0) (pa_cons (pe_callB (cr_lenx rfl) (by rfl) B.len PySem.boot_len (pa_cons (pe_ix (ix_U hr.units) (pv 2) pe_int (fun _ _ => rfl)) pa_nil)) pa_nil))) pa_nil))) (pe_callTy call_int1 (by rfl) B.int (by decide +kernel) (pa_cons (pe_cmpR op_gt (pv 4) pe_int (nomark _)) pa_nil)) (fun _ _ => rfl)) (pg_sub (pe_ix (ix_U hr.units) (pv 2) (pv 4) (fun _ _ => rfl)) (pv 3) (set_U hr.units)))
      (pss_one (ps_ret (pe_op op_addU (pe_slice sl_U (pv 1) po_none (po_some (pe_un un_neg pe_int))) (pe_tup (pa_cons (pe_tup (pa_cons (pe_callTy (cr_tuplex rfl) (by rfl) B.tuple (by decide +kernel) (pa_cons (pe_ix (ix_U hr.units) (pv 2) pe_int (fun _ _ => rfl)) pa_nil)) (pa_cons (pe_callTy (cr_tuplex rfl) (by rfl) B.tuple (by decide +kernel) (pa_cons (pe_ix (ix_U hr.units) (pv 2) pe_int (fun _ _ => rfl)) pa_nil)) (pa_cons (pe_callTy (cr_tuplex rfl) (by rfl) B.tuple (by decide +kernel) (pa_cons (pe_ix (ix_U hr.units) (pv 2) pe_int (fun _ _ => rfl)) pa_nil)) pa_nil)))) pa_nil))))))))))), fun as R S h => ?_⟩
    · obtain ⟨a, g, _, _, _, rfl, _⟩ := h
      rfl
    · obtain ⟨a, g, hg, hd, rfl, rfl, rfl⟩ := h
      have V_ := evo_dr a
      by_cases hsame : isSame g = true
      · cases g with
        | same x =>
          refine rs_yes V_ (eb_test V_ (by walk_at "ek")) (rs_retS (EvS.mono (ek_tup2 V_ (ek_str V_) (ek_op V_ (x := .k (.num 1)) (y := .k (.num (x : Int))) (ek_int V_) (by walk_at "ek") (rk_sub V_))) fun v e => ⟨_, e, .same (1 - x), ?_, (by show 1 ≤ d + 1; omega), ?_⟩))
          · show 1 - x ≤ 1
            omega
          · have hx : x ≤ 1 := hg
            show NestedKey.tup [.text "same", .num (1 - (x : Int))] = .tup [.text "same", .num ((1 - x : Nat) : Int)]
            have e : (1 - (x : Int)) = ((1 - x : Nat) : Int) := by omega
            rw [e]
        | _ => cases hsame
      · have hns : isSame g = false := by
          cases h : isSame g with
          | true => exact absurd h hsame
          | false => rfl
        have hf : decide (form g = "same") = false := by cases g <;> first | (cases hns; done) | rfl
        refine rs_no V_ (eb_test V_ (ek_op V_ (ek_form V_ (ek_var V_ rfl)) (ek_str V_) (rk_eqS V_ hf))) ?_
        refine rs_if V_ (B := fun b => b = true → ∃ x y n c, g = .either x y n c) (et_and V_ (B1 := fun b => b = decide (form g = "either")) (B2 := fun _ => True) (eb_test V_ (ek_op V_ (ek_form V_ (ek_var V_ rfl)) (ek_str V_) (rk_eqS V_ rfl))) (fun _ => et_eqN V_ (es_take (m := 2) (by decide) (by walk_at "el"))) (fun e b _ _ => ?_) (fun _ e => nomatch e)) (fun he => ?_) fun _ => rs_next ?_
        · cases g with
          | either x y n c => exact ⟨x, y, n, c, rfl⟩
          | _ => cases of_decide_eq_true e.symm
        · obtain ⟨x, y, n, c, rfl⟩ := he rfl
          obtain ⟨d1, d2⟩ := deep_either hd
          refine rs_retS (EvS.mono (es_cat V_ (T1 := fun ds => ∃ d1 d2, ds = d1 ++ d2 ∧ d1 = [.text "either"] ∧ ∃ y, d2 = [y] ∧ ∃ g, GsOk g ∧ deep g ≤ d ∧ y = encG g) (T2 := fun ds => ds = [encG y, .num n, encC c]) (es_cat V_ (T1 := fun ds => ds = [.text "either"]) (T2 := fun ds => ∃ y, ds = [y] ∧ ∃ g, GsOk g ∧ deep g ≤ d ∧ y = encG g) ?_ ?_ ?_) ?_ ?_) ?_)
          · exact (ek_slice V_ (lo := none) (hi := some 1) (ek_var V_ rfl) (by walk_at "eo") (by walk_at "eo")).mono fun v e => ⟨_, e, _, rfl, rfl⟩
          · refine es_tup1K V_ (es_call V_ (SL := fun as => as = [.dr a, .k (encG x)]) (by walk_at "el") fun as e => ?_)
            subst e
            exact ⟨Dr a, _, ⟨a, x, hg.1, d1, rfl, rfl, rfl⟩, fun _ _ x => x, fun v s => s⟩
          · rintro _ _ rfl ⟨_, rfl, _⟩
            show 2 ≤ 1000
            decide
          · exact (ek_slice V_ (lo := some 2) (hi := none) (ek_var V_ rfl) (by walk_at "eo") (by walk_at "eo")).mono fun v e => ⟨_, e, _, rfl, rfl⟩
          · rintro _ _ ⟨_, _, rfl, rfl, _, rfl, _⟩ rfl
            show 5 ≤ 1000
            decide
          · rintro _ ⟨_, rfl, _, rfl, _, _, rfl, ⟨_, _, rfl, rfl, _, rfl, g2, ok2, dg2, rfl⟩, rfl⟩
            exact ⟨_, rfl, .either g2 y n c, ⟨ok2, hg.2.1, hg.2.2.1, hg.2.2.2.1, hg.2.2.2.2⟩, (by show 1 + max (deep g2) (deep y) ≤ d + 1; omega), rfl⟩
        · intro D σ H1 M q
          obtain ⟨yg, o2, o3, o4, rfl, hdr, kg⟩ := st5 M
          clear M
          have kg' : KAt H1 (encG g) yg := kg
          have hc := cellOf_ok hg hns
          rw [enc_front hns] at kg'
          cases kg' with
          | @tup b vs _ hb kvs =>
          obtain ⟨us, vc, rfl, kus, kvc⟩ := kats_snoc kvs
          have kvc0 := kvc
          unfold encC at kvc
          cases kvc with
          | @tup bc zs _ hbc kzs =>
          cases kzs with
          | @cons _ z0 _ _ k0 kzs =>
          cases kzs with
          | @cons _ z1 _ _ k1 kzs =>
          cases kzs with
          | @cons _ z2 _ _ k2 kzs =>
          cases kzs
          cases k0 with
          | @tup b0 w0 _ h0 kw0 =>
          cases k1 with
          | @tup b1 w1 _ h1 kw1 =>
          cases k2 with
          | @tup b2 w2 _ h2 kw2 =>
          rw [kats_nums kw0] at h0
          rw [kats_nums kw1] at h1
          rw [kats_nums kw2] at h2
          refine ⟨.ref b, rfl, _, rfl, .inr (.inl ⟨b, _, -1, _, rfl, rfl, SqT.of hb, at_last us _, bc, rfl, ⟨_, SqT.of hbc⟩, fun L hL => ?_⟩)⟩
          refine lc_tup (K := K) (a := bc) (xs := [V.ref b0, V.ref b1, V.ref b2]) (fun i H' => Same H1 H' ∧ ∃ rs : List Addr, H' L = some (.lst (rs.map V.ref)) ∧ rs.length = i ∧ rs.Nodup ∧ (∀ r ∈ rs, H1 r = none ∧ r ≠ L) ∧ ∀ (j : Nat) r, rs[j]? = some r → ∃ l, [(cellOf g).g, (cellOf g).s, (cellOf g).a][j]? = some l ∧ H' r = some (.lst (vints l)))
            ⟨same_new hL, [], upd_same, rfl, List.nodup_nil, fun r hr => (nomatch hr), fun j r h => (by simp at h)⟩ (fun i H' _ p => SqT.of (p.1 _ _ hbc)) ?_ ?_
          · rintro i x H' hi ⟨s1, rs, hL1, hlen, hnd, hfr, hrow⟩
            have hx : ∃ bi li, x = .ref bi ∧ [(cellOf g).g, (cellOf g).s, (cellOf g).a][i]? = some li ∧ H1 bi = some (.tup (vints li)) := by
              match i, hi with
              | 0, hi => exact ⟨b0, _, by simpa using hi.symm, rfl, h0⟩
              | 1, hi => exact ⟨b1, _, by simpa using hi.symm, rfl, h1⟩
              | 2, hi => exact ⟨b2, _, by simpa using hi.symm, rfl, h2⟩
              | i + 3, hi => simp at hi
            obtain ⟨bi, li, rfl, hli, hbi⟩ := hx
            refine ⟨rfl, .ref bi, rfl, bi, _, rfl, .inr (SqT.of (s1 _ _ hbi)), fun r hr => ?_⟩
            have hrL : r ≠ L := fun e => by
              subst e
              rw [hL1] at hr
              cases hr
            have hi3 : i < 3 := (List.getElem?_eq_some_iff.mp hi).1
            refine ⟨rs.map V.ref, (by rw [upd_ne (Ne.symm hrL)]; exact hL1), lt_line (by rw [List.length_map]; omega), same_upd (s1.trans (same_new hr)) hL, rs ++ [r], (by rw [List.map_append]; exact upd_same), by rw [List.length_append, hlen]; rfl, List.nodup_append.mpr ⟨hnd, by simp, fun x hx y hy z => ?_⟩, fun x hx => ?_, fun j x hx => ?_⟩
            · rw [List.mem_singleton.mp hy] at z
              subst z
              obtain ⟨j, hj, ej⟩ := List.getElem_of_mem hx
              obtain ⟨_, _, z⟩ := hrow j x (by rw [List.getElem?_eq_getElem hj, ej])
              rw [hr] at z
              cases z
            · rcases List.mem_append.mp hx with z | z
              · exact hfr x z
              · rw [List.mem_singleton.mp z]
                exact ⟨none_of_same s1 hr, hrL⟩
            · by_cases hj : j < rs.length
              · rw [List.getElem?_append_left hj] at hx
                obtain ⟨l, e1, e2⟩ := hrow j x hx
                have hxr : x ≠ r := fun z => by
                  subst z
                  rw [hr] at e2
                  cases e2
                exact ⟨l, e1, by rw [upd_ne (hfr x (List.mem_of_getElem? hx)).2, upd_ne hxr]; exact e2⟩
              · rw [List.getElem?_append_right (by omega)] at hx
                have hj0 : j - rs.length = 0 := by
                  have := (List.getElem?_eq_some_iff.mp hx).1
                  rw [List.length_singleton] at this
                  omega
                rw [hj0] at hx
                have ex : r = x := Option.some.inj hx
                subst ex
                have ej : j = i := by omega
                subst ej
                exact ⟨li, hli, by rw [upd_ne hrL, upd_same]⟩
          · rintro H' ⟨s1, rs, hL1, hlen, hnd, hfr, hrow⟩
            match rs, hlen with
            | [r0, r1, r2], _ =>
            generalize hC : cellOf g = c at *
            have f0 := hfr r0 (by simp)
            have f1 := hfr r1 (by simp)
            have f2 := hfr r2 (by simp)
            have l0 : H' r0 = some (.lst (vints c.g)) := lrow hrow (j := 0) rfl rfl
            have l1 : H' r1 = some (.lst (vints c.s)) := lrow hrow (j := 1) rfl rfl
            have l2 : H' r2 = some (.lst (vints c.a)) := lrow hrow (j := 2) rfl rfl
            have n01 : r0 ≠ r1 := fun e => by subst e; simp at hnd
            have n02 : r0 ≠ r2 := fun e => by subst e; simp at hnd
            have n12 : r1 ≠ r2 := fun e => by subst e; simp at hnd
            have hdr0 := hdr
            obtain ⟨ds0, ha0⟩ := hdr0
            have na : ∀ {r : Addr}, H1 r = none → r ≠ a := fun {r} h e => by
              subst e
              rw [ha0] at h
              cases h
            have nL := na hL
            have m0 := na f0.1
            have m1 := na f1.1
            have m2 := na f2.1
            have hD' : DR a H' := ⟨ds0, s1 _ _ ha0⟩
            have kg1 := kg.up (Ts.of s1)
            have hlg := vints_length c.g
            refine ⟨.ref a, rfl, .ref L, rfl, .inl ⟨L, _, 0, .ref r0, rfl, rfl, SqL.of hL1, rfl, r0, _, rfl, .inl (SqL.of l0), take_raw (by rw [hlg]; exact hc.pos) hD' fun at_ H2 hat D2 => ?_⟩⟩
            rw [hlg] at hat
            refine ⟨.ref a, rfl, take_raw (m := 3) (by decide) (D2.dr hD') fun row H3 hrow3 D3 => ?_⟩
            have D13 := (evo_dr a).trans D2 D3
            have l03 := D13.but _ _ m0 l0
            have hL3 := D13.but _ _ nL hL1
            refine ⟨.ref L, rfl, .inl ⟨L, _, 0, .ref r0, rfl, rfl, SqL.of hL3, rfl, .int at_, rfl, .inl ⟨r0, _, at_, _, rfl, rfl, SqL.of l03, atI_nat (vints_at hat), ?_⟩⟩⟩
            refine ⟨1, _, rfl, rfl, .ref a, rfl, .ref L, rfl, .inl ⟨L, _, 0, .ref r0, rfl, rfl, SqL.of hL3, rfl, r0, _, rfl, .inl (SqL.of l03), take_raw (by rw [hlg]; exact hc.pos) (D13.dr hD') fun x3 H5 hx3 D5 => ?_⟩⟩
            rw [hlg] at hx3
            refine ⟨(by show 2 ≤ sizeLine; decide), fun pT hpT => ⟨.int row, rfl, row, 0, rfl, rfl, .inr ⟨_, rfl, ?_⟩⟩⟩
            have hg1 : c.g.getD at_ 0 ≤ 1 := hc.g1 _ (by rw [List.getD_eq_getElem?_getD, List.getElem?_eq_getElem hat]; exact List.getElem_mem hat)
            obtain ⟨y, hy1, hy2⟩ : ∃ y : Nat, y < (if row = 0 then 2 else c.g.length) ∧ atI [V.int (1 - (c.g.getD at_ 0 : Nat)), V.int (x3 : Nat)] (if decide ((0 : Int) < (row : Nat)) = true then 1 else 0) = some (.int (y : Nat)) := by
              by_cases h : row = 0
              · subst h
                refine ⟨1 - c.g.getD at_ 0, by rw [if_pos rfl]; omega, ?_⟩
                have e : ((1 - c.g.getD at_ 0 : Nat) : Int) = 1 - (c.g.getD at_ 0 : Nat) := by omega
                rw [e]
                rfl
              · refine ⟨x3, by rw [if_neg h]; exact hx3, ?_⟩
                rw [decide_eq_true (by omega)]
                rfl
            have D15 := (evo_dr a).trans D13 D5
            have tp : ∀ {b : Addr} {o : HO}, H5 b = some o → (upd H5 pT (.lst [V.int (1 - (c.g.getD at_ 0 : Nat)), V.int (x3 : Nat)])) b = some o := fun {b o} z => by rw [upd_ne (ne_of_none z hpT)]; exact z
            have hL6 := tp (D15.but _ _ nL hL1)
            have l06 := tp (D15.but _ _ m0 l0)
            have l16 := tp (D15.but _ _ m1 l1)
            have l26 := tp (D15.but _ _ m2 l2)
            have hpT6 : (upd H5 pT (.lst [V.int (1 - (c.g.getD at_ 0 : Nat)), V.int (x3 : Nat)])) pT = some (.lst [V.int (1 - (c.g.getD at_ 0 : Nat)), V.int (x3 : Nat)]) := upd_same
            have D16 : Dr a H' (upd H5 pT (.lst [V.int (1 - (c.g.getD at_ 0 : Nat)), V.int (x3 : Nat)])) := (evo_dr a).trans D15 ((evo_dr a).ex (same_new hpT))
            generalize (upd H5 pT (.lst [V.int (1 - (c.g.getD at_ 0 : Nat)), V.int (x3 : Nat)])) = H6 at *
            obtain ⟨rr, lr, e1, e3, e4, c', hc', hw⟩ : ∃ rr lr, [V.ref r0, V.ref r1, V.ref r2][row]? = some (.ref rr) ∧ H6 rr = some (.lst (vints lr)) ∧ at_ < lr.length ∧ ∃ c', CellOk c' ∧ ∀ H7, H7 = upd H6 rr (.lst (vints (lr.set at_ y))) → H7 r0 = some (.lst (vints c'.g)) ∧ H7 r1 = some (.lst (vints c'.s)) ∧ H7 r2 = some (.lst (vints c'.a)) := by
              match row, hrow3, hy1 with
              | 0, _, hy1 =>
                refine ⟨r0, c.g, rfl, l06, hat, ⟨c.g.set at_ y, c.s, c.a⟩, ⟨by show 0 < (c.g.set at_ y).length; rw [List.length_set]; exact hc.pos, by show (c.g.set at_ y).length ≤ 8; rw [List.length_set]; exact hc.few, by show c.s.length = (c.g.set at_ y).length; rw [List.length_set]; exact hc.ls, by show c.a.length = (c.g.set at_ y).length; rw [List.length_set]; exact hc.la, fun x hx => ?_, fun x hx => by show x < (c.g.set at_ y).length; rw [List.length_set]; exact hc.sb x hx, fun x hx => by show x < (c.g.set at_ y).length; rw [List.length_set]; exact hc.ab x hx⟩, fun H7 e => ?_⟩
                · rcases List.mem_or_eq_of_mem_set hx with z | z
                  · exact hc.g1 x z
                  · rw [z]
                    rw [if_pos rfl] at hy1
                    omega
                · subst e
                  exact ⟨upd_same, by rw [upd_ne (Ne.symm n01)]; exact l16, by rw [upd_ne (Ne.symm n02)]; exact l26⟩
              | 1, _, hy1 =>
                refine ⟨r1, c.s, rfl, l16, by rw [hc.ls]; exact hat, ⟨c.g, c.s.set at_ y, c.a⟩, ⟨hc.pos, hc.few, by show (c.s.set at_ y).length = _; rw [List.length_set]; exact hc.ls, hc.la, hc.g1, fun x hx => ?_, hc.ab⟩, fun H7 e => ?_⟩
                · rcases List.mem_or_eq_of_mem_set hx with z | z
                  · exact hc.sb x z
                  · rw [z]
                    exact hy1
                · subst e
                  exact ⟨by rw [upd_ne n01]; exact l06, upd_same, by rw [upd_ne (Ne.symm n12)]; exact l26⟩
              | 2, _, hy1 =>
                refine ⟨r2, c.a, rfl, l26, by rw [hc.la]; exact hat, ⟨c.g, c.s, c.a.set at_ y⟩, ⟨hc.pos, hc.few, hc.ls, by show (c.a.set at_ y).length = _; rw [List.length_set]; exact hc.la, hc.g1, hc.sb, fun x hx => ?_⟩, fun H7 e => ?_⟩
                · rcases List.mem_or_eq_of_mem_set hx with z | z
                  · exact hc.ab x z
                  · rw [z]
                    exact hy1
                · subst e
                  exact ⟨by rw [upd_ne n02]; exact l06, by rw [upd_ne n12]; exact l16, upd_same⟩
            refine .inl ⟨pT, _, _, .int y, rfl, rfl, SqL.of hpT6, hy2, .ref L, rfl, .int row, rfl, .inl ⟨L, _, row, .ref rr, rfl, rfl, SqL.of hL6, atI_nat e1, .int at_, rfl, .inl ⟨rr, vints lr, at_, at_, rfl, rfl, e3, ixN_n (by rw [vints_length]; exact e4), ?_⟩⟩⟩
            rw [vints_set]
            obtain ⟨w0', w1', w2'⟩ := hw _ rfl
            have hrr : H1 rr = none ∧ rr ≠ L := hfr rr (by
              have := List.mem_of_getElem? e1
              simpa using this)
            have hLrr : (upd H6 rr (.lst (vints (lr.set at_ y)))) L = some (.lst ([r0, r1, r2].map V.ref)) := by rw [upd_ne (Ne.symm hrr.2)]; exact hL6
            have D17 : Dr a H1 (upd H6 rr (.lst (vints (lr.set at_ y)))) := (evo_dr a).fr ((evo_dr a).trans ((evo_dr a).ex s1) D16) hrr.1
            generalize (upd H6 rr (.lst (vints (lr.set at_ y)))) = H7 at *
            have M7 : Mt [none, some (.k (encG g)), none, none, none] [some (.ref a), some (.ref b), some (.ref L), some (.int at_), some (.int row)] H7 := mt_none (mt_some (AAt.of (kg.up D17.ts)) (mt_none (mt_none (mt_none mt_nil))))
            dsimp only
            unfold tRet
            show tSl _ _ _ _ _ _ _
            refine ek_slice V_ (lo := none) (hi := some (-1)) (ek_var V_ rfl) (eo_none V_) (eo_some V_ (ek_neg V_ (ek_int V_))) _ _ (enc_front hns ▸ M7) _ fun v4 d4 H8 D8 k4 e5 => ?_
            subst e5
            have hL8 := D8.but _ _ nL hLrr
            have w08 := D8.but _ _ m0 w0'
            have w18 := D8.but _ _ m1 w1'
            have w28 := D8.but _ _ m2 w2'
            refine ⟨.ref L, rfl, .inl ⟨L, _, 0, .ref r0, rfl, rfl, SqL.of hL8, rfl, r0, _, rfl, .inl ⟨SqL.of w08, fun t0 ht0 => ?_⟩⟩⟩
            have u1 : Same H8 (upd H8 t0 (.tup (vints c'.g))) := same_new ht0
            refine ⟨.ref L, rfl, .inl ⟨L, _, 1, .ref r1, rfl, rfl, SqL.of (u1 _ _ hL8), rfl, r1, _, rfl, .inl ⟨SqL.of (u1 _ _ w18), fun t1 ht1 => ?_⟩⟩⟩
            have u2 := u1.trans (same_new (o := .tup (vints c'.s)) ht1)
            refine ⟨.ref L, rfl, .inl ⟨L, _, 2, .ref r2, rfl, rfl, SqL.of (u2 _ _ hL8), rfl, r2, _, rfl, .inl ⟨SqL.of (u2 _ _ w28), fun t2 ht2 => ?_⟩⟩⟩
            have u3 := u2.trans (same_new (o := .tup (vints c'.a)) ht2)
            refine ⟨(by show 3 ≤ sizeLine; decide), fun t3 ht3 => ⟨(by show 1 ≤ sizeLine; decide), fun t4 ht4 => ?_⟩⟩
            have u4 := u3.trans (same_new (o := .tup [.ref t0, .ref t1, .ref t2]) ht3)
            have u5 := u4.trans (same_new (o := .tup [.ref t3]) ht4)
            have ea : (upd H8 t0 (.tup (vints c'.g))) t0 = some (.tup (vints c'.g)) := upd_same
            have ea := (same_new (o := .tup (vints c'.s)) ht1) _ _ ea
            have ea := (same_new (o := .tup (vints c'.a)) ht2) _ _ ea
            have ea := (same_new (o := .tup [.ref t0, .ref t1, .ref t2]) ht3) _ _ ea
            have eb : (upd (upd H8 t0 (.tup (vints c'.g))) t1 (.tup (vints c'.s))) t1 = some (.tup (vints c'.s)) := upd_same
            have eb := (same_new (o := .tup (vints c'.a)) ht2) _ _ eb
            have eb := (same_new (o := .tup [.ref t0, .ref t1, .ref t2]) ht3) _ _ eb
            have ec : (upd (upd (upd H8 t0 (.tup (vints c'.g))) t1 (.tup (vints c'.s))) t2 (.tup (vints c'.a))) t2 = some (.tup (vints c'.a)) := upd_same
            have ec := (same_new (o := .tup [.ref t0, .ref t1, .ref t2]) ht3) _ _ ec
            have kC : KAt (upd (upd (upd (upd H8 t0 (.tup (vints c'.g))) t1 (.tup (vints c'.s))) t2 (.tup (vints c'.a))) t3 (.tup [.ref t0, .ref t1, .ref t2])) (encC c') (.ref t3) :=
              .tup upd_same (.cons (.tup ea (nums_kats _)) (.cons (.tup eb (nums_kats _)) (.cons (.tup ec (nums_kats _)) .nil)))
            generalize (upd (upd (upd (upd H8 t0 (.tup (vints c'.g))) t1 (.tup (vints c'.s))) t2 (.tup (vints c'.a))) t3 (.tup [.ref t0, .ref t1, .ref t2])) = H9 at *
            rw [cutK_front] at k4
            refine rk_addT V_ (by have := front_len g; show _ + 1 ≤ 1000; omega) _ _ _ (k4.up V_ (V_.ex u5)) (AAt.of (KAt.tup (ks := [encC c']) upd_same (.cons (kC.up (Ts.new ht4)) .nil))) _ fun v9 d9 H10 r10 k10 e10 => ?_
            subst e10
            rw [← enc_with hns c'] at k10
            exact q _ _ _ (V_.trans D17 (V_.trans D8 (V_.trans (V_.ex u5) r10))) k10 ⟨_, rfl, withC g c', with_ok hg hc', by rw [with_deep]; exact hd, rfl⟩
end
end K49
set_option Elab.async false
set_option linter.all false
set_option maxRecDepth 100000
set_option maxHeartbeats 4000000
set_option autoImplicit false
/-! The law's own guessers at work. -/
namespace K49
open PySem PySem.Spec PyProof.Rows L2
local macro_rules | `(tactic| walk_at "rk") => `(tactic| first
  | exact rk_eqS ‹_› (by decide)
  | exact rk_ix ‹_› rfl
  | exact rk_inS2 ‹_› (by decide)
  | exact rk_ix ‹_› (at_nums (by assumption))
  | exact rk_modN ‹_› (by first | assumption | omega)
  | exact rk_addN ‹_›
  | exact rk_mul2 ‹_›
  | exact rk_addr1 ‹_›
  | exact rk_add1l ‹_›
  | exact rk_shl1 ‹_› (by omega)
  | exact rk_mulN ‹_› (by omega)
  | exact rk_shlN ‹_› (by omega) (by omega)
  | exact rk_addI ‹_›
  | exact rk_addT ‹_› (by first | decide | (simp only [List.length_append, List.length_cons, List.length_nil, List.length_take, List.length_drop] at *; omega))
  | exact rk_sub ‹_›
  | exact rk_neBl ‹_›
  | exact rk_eqI ‹_›
  | exact rk_neI ‹_›
  | exact rk_cmp ‹_›)
local macro_rules | `(tactic| walk_at "el") => `(tactic| first
  | exact el_nil ‹_›
  | (apply el_cons ‹_›; (focus walk_at "ek"); walk_at "el"))
local macro_rules | `(tactic| walk_at "eo") => `(tactic| first
  | exact eo_none ‹_›
  | (apply eo_some ‹_›; walk_at "ek"))
local macro_rules | `(tactic| walk_at "ek") => `(tactic| first
  | exact ek_var ‹_› rfl
  | exact ek_int ‹_›
  | exact ek_str ‹_›
  | exact ek_non ‹_›
  | exact ek_bl ‹_›
  | (apply ek_op ‹_›; (focus walk_at "ek"); (focus walk_at "ek"); walk_at "rk")
  | (apply ek_neg ‹_›; walk_at "ek")
  | (apply ek_slice ‹_›; (focus walk_at "ek"); (focus walk_at "eo"); walk_at "eo")
  | (apply ek_tup1 ‹_›; walk_at "ek")
  | (apply ek_tup2 ‹_›; (focus walk_at "ek"); walk_at "ek")
  | (apply ek_tup3 ‹_›; (focus walk_at "ek"); (focus walk_at "ek"); walk_at "ek"))
local macro_rules | `(tactic| walk_at "run") => `(tactic| first
  | (refine rs_ret ?_; walk_at "ek")
  | (refine rs_retS ?_; walk_at "ek")
  | (refine rs_yes ‹_› (eb_test ‹_› ?_) ?_; (focus walk_at "ek"); walk_at "run")
  | (refine rs_no ‹_› (eb_test ‹_› ?_) ?_; (focus walk_at "ek"); walk_at "run"))
section
variable {P : Program} {w : World} {K : PySem.W.Frag} {mg : Str → Option Value} {base : Heap}
theorem cal_lcells (F : TD K mg "_law_cells" s_l_law_cells ["guesser"]) : C8.Cal P w K mg base 1 "_law_cells" (spG okAlone) [] := by
  refine cal_of F sc_l_law_cells (fun as R S h => ?_) fun f cdv A outer s H E hr => ⟨_, (pss_cons (ps_if (pt_cmpR (op_eqU hr.units) (pe_ix (ix_U hr.units) (pv 0) pe_int (fun _ _ => rfl)) pe_str (nomark _)) (pss_one (ps_ret pe_int)) pss_nil)
      (pss_cons (ps_if (pt_cmpR (op_eqU hr.units) (pe_ix (ix_U hr.units) (pv 0) pe_int (fun _ _ => rfl)) pe_str (nomark _)) (pss_one (ps_ret (pe_op op_shl (pe_ix (ix_U hr.units) (pv 0) pe_int (fun _ _ => rfl)) (pe_ix (ix_U hr.units) (pv 0) pe_int (fun _ _ => rfl))))) pss_nil)
      (pss_cons (ps_if (pt_cmpR (op_eqU hr.units) (pe_ix (ix_U hr.units) (pv 0) pe_int (fun _ _ => rfl)) pe_str (nomark _)) (pss_one (ps_ret (pe_op op_shl pe_int (pe_ix (ix_U hr.units) (pv 0) pe_int (fun _ _ => rfl))))) pss_nil)
      (pss_one (ps_ret (pe_ifExp (pt_cmpR (op_eqU hr.units) (pe_ix (ix_U hr.units) (pv 0) pe_int (fun _ _ => rfl)) pe_str (nomark _)) (pe_ix (ix_U hr.units) (pv 0) pe_int (fun _ _ => rfl)) (pe_ix (ix_U hr.units) (pv 0) pe_int (fun _ _ => rfl)))))))), fun as R S h => ?_⟩
  · obtain ⟨_, g, _, rfl, _⟩ := h
    rfl
  · obtain ⟨rfl, g, hg, rfl, rfl⟩ := h
    have V_ := evo_same
    cases g with
    | same x => walk_at "run"
    | joined n l c =>
      obtain ⟨h1, h2, h3, h4, h5⟩ := hg
      walk_at "run"
    | own n l c =>
      obtain ⟨h1, h2, h3, h5⟩ := hg
      walk_at "run"
    | either x y n c => exact rs_no V_ (eb_test V_ (by walk_at "ek")) (rs_no V_ (eb_test V_ (by walk_at "ek")) (rs_no V_ (eb_test V_ (by walk_at "ek")) (rs_ret (ek_if V_ (c := true) (eb_test V_ (by walk_at "ek")) (fun _ => (by walk_at "ek")) fun e => nomatch e))))
    | _ => exact rs_no V_ (eb_test V_ (by walk_at "ek")) (rs_no V_ (eb_test V_ (by walk_at "ek")) (rs_no V_ (eb_test V_ (by walk_at "ek")) (rs_ret (ek_if V_ (c := false) (eb_test V_ (by walk_at "ek")) (fun e => nomatch e) fun _ => (by walk_at "ek")))))
theorem cal_lbegin (F : TD K mg "_law_begin" s_l_law_begin ["guesser"]) (c_l_law_cells : C8.Cal P w K mg base 1 "_law_cells" (spG okAlone) []) : ∀ d : Nat, C8.Cal P w K mg base (d + 1) "_law_begin" (spG (okFirst d)) [] := by
  intro d
  induction d with
  | zero =>
    refine cal_never F sc_l_law_begin fun as R S h => ?_
    obtain ⟨_, g, _, hd, _⟩ := h
    have := deep_pos g
    omega
  | succ d c_l_law_begin =>
    refine cal_of F sc_l_law_begin (fun as R S h => ?_) fun f cdv A outer s H E hr => ⟨_, (pss_cons (ps_set (i := 1) sc_l_law_begin.nd rfl (Or.inl rfl) (pe_op op_mulU (pe_tup (pa_cons pe_int pa_nil)) (C8.pe_c c_l_law_cells hr (by first | decide | omega) (by rfl) (pa_cons (pv 0) pa_nil))))
      (pss_cons (ps_if (pt_cmpR (op_eqU hr.units) (pe_ix (ix_U hr.units) (pv 0) pe_int (fun _ _ => rfl)) pe_str (nomark _)) (pss_one (ps_ret (pe_tup (pa_cons (C8.pe_c c_l_law_begin hr (by first | decide | omega) (by rfl) (pa_cons (pe_ix (ix_U hr.units) (pv 0) pe_int (fun _ _ => rfl)) pa_nil)) (pa_cons (C8.pe_c c_l_law_begin hr (by first | decide | omega) (by rfl) (pa_cons (pe_ix (ix_U hr.units) (pv 0) pe_int (fun _ _ => rfl)) pa_nil)) (pa_cons (pv 1) pa_nil)))))) pss_nil)
      (pss_cons (ps_if (pt_cmpR (op_eqU hr.units) (pe_ix (ix_U hr.units) (pv 0) pe_int (fun _ _ => rfl)) pe_str (nomark _)) (pss_one (ps_ret (pe_tup (pa_cons (pe_op op_mulU (pe_tup (pa_cons pe_int pa_nil)) (pe_ix (ix_U hr.units) (pv 0) pe_int (fun _ _ => rfl))) (pa_cons (pv 1) pa_nil))))) pss_nil)
      (pss_one (ps_ret (pe_ifExp (pt_cmpR (op_inU hr.units) (pe_ix (ix_U hr.units) (pv 0) pe_int (fun _ _ => rfl)) (pe_tup (pa_cons pe_str (pa_cons pe_str pa_nil))) (by rfl)) (pv 1) (pe_tup (pa_cons pe_int (pa_cons (pv 1) pa_nil))))))))), fun as R S h => ?_⟩
    · obtain ⟨_, g, _, _, rfl, _⟩ := h
      rfl
    · obtain ⟨rfl, g, hg, hd, rfl, rfl⟩ := h
      have V_ := evo_same
      have h64 := alone_le hg
      refine rk_set V_ (ek_zeros V_ (n := alone g) (by omega) (ek_call V_ (by walk_at "el") ⟨rfl, g, hg, rfl, rfl⟩)) ?_
      cases g with
      | own n l c =>
        have hn : n ≤ 16 := hg.2.1
        refine rs_no V_ (eb_test V_ (by walk_at "ek")) (rs_yes V_ (eb_test V_ (by walk_at "ek")) (rs_retS ?_))
        exact ek_tup2 V_ (ek_zeros V_ (n := n) (by omega) (by walk_at "ek")) (by walk_at "ek")
      | either x y n c =>
        obtain ⟨d1, d2⟩ := deep_either hd
        refine rs_yes V_ (eb_test V_ (by walk_at "ek")) (rs_retS ?_)
        exact ek_tup3 V_ (ek_call V_ (as := [.k (encG x)]) (by walk_at "el") ⟨rfl, x, hg.1, d1, rfl, rfl⟩) (ek_call V_ (as := [.k (encG y)]) (by walk_at "el") ⟨rfl, y, hg.2.1, d2, rfl, rfl⟩) (by walk_at "ek")
      | same x => exact rs_no V_ (eb_test V_ (by walk_at "ek")) (rs_no V_ (eb_test V_ (by walk_at "ek")) (rs_ret (ek_if V_ (c := true) (eb_test V_ (by walk_at "ek")) (fun _ => (by walk_at "ek")) fun e => nomatch e)))
      | table n c => exact rs_no V_ (eb_test V_ (by walk_at "ek")) (rs_no V_ (eb_test V_ (by walk_at "ek")) (rs_ret (ek_if V_ (c := true) (eb_test V_ (by walk_at "ek")) (fun _ => (by walk_at "ek")) fun e => nomatch e)))
      | _ => exact rs_no V_ (eb_test V_ (by walk_at "ek")) (rs_no V_ (eb_test V_ (by walk_at "ek")) (rs_ret (ek_if V_ (c := false) (eb_test V_ (by walk_at "ek")) (fun e => nomatch e) fun _ => (by walk_at "ek"))))
theorem cal_lspot (F : TD K mg "_law_spot" s_l_law_spot ["guesser", "state", "place"]) : C8.Cal P w K mg base 1 "_law_spot" (spG okSpot) [] := by
  refine cal_of F sc_l_law_spot (fun as R S h => ?_) fun f cdv A outer s H E hr => ⟨_, (pss_cons (ps_if (pt_cmpR (op_eqU hr.units) (pe_ix (ix_U hr.units) (pv 0) pe_int (fun _ _ => rfl)) pe_str (nomark _)) (pss_one (ps_ret (pe_op op_mod (pv 2) (pe_ix (ix_U hr.units) (pv 0) pe_int (fun _ _ => rfl))))) pss_nil)
      (pss_cons (ps_if (pt_cmpR (op_eqU hr.units) (pe_ix (ix_U hr.units) (pv 0) pe_int (fun _ _ => rfl)) pe_str (nomark _)) (pss_one (ps_ret (pe_op op_mod (pe_op op_addU (pv 2) (pe_ix (ix_U hr.units) (pv 1) pe_int (fun _ _ => rfl))) (pe_ix (ix_U hr.units) (pv 0) pe_int (fun _ _ => rfl))))) pss_nil)
      (pss_cons (ps_if (pt_cmpR (op_eqU hr.units) (pe_ix (ix_U hr.units) (pv 0) pe_int (fun _ _ => rfl)) pe_str (nomark _)) (pss_one (ps_ret (pe_op op_addU (pe_op op_shl (pe_op op_mod (pv 2) (pe_ix (ix_U hr.units) (pv 0) pe_int (fun _ _ => rfl))) (pe_ix (ix_U hr.units) (pv 0) pe_int (fun _ _ => rfl))) (pe_ix (ix_U hr.units) (pv 1) pe_int (fun _ _ => rfl))))) pss_nil)
      (pss_cons (ps_if (pt_cmpR (op_eqU hr.units) (pe_ix (ix_U hr.units) (pv 0) pe_int (fun _ _ => rfl)) pe_str (nomark _)) (pss_one (ps_ret (pe_ix (ix_U hr.units) (pe_ix (ix_U hr.units) (pv 1) pe_int (fun _ _ => rfl)) (pe_op op_mod (pv 2) (pe_ix (ix_U hr.units) (pv 0) pe_int (fun _ _ => rfl))) (fun _ _ => rfl)))) pss_nil)
      (pss_one (ps_ret (pe_op op_mod (pv 2) (pe_ix (ix_U hr.units) (pv 0) pe_int (fun _ _ => rfl))))))))), fun as R S h => ?_⟩
  · obtain ⟨_, g, s, p, _, _, _, rfl, _⟩ := h
    rfl
  · obtain ⟨rfl, g, s, p, hg, hs, hn, rfl, rfl⟩ := h
    have V_ := evo_same
    cases g with
    | same x => cases hn
    | table n c =>
      have h1 : 0 < n := hg.1
      cases s <;> first | exact hs.elim | walk_at "run"
    | mixed n l c =>
      have h1 : 0 < n := hg.1
      cases s <;> first | exact hs.elim | walk_at "run"
    | joined n l c =>
      obtain ⟨h1, h2, h3, h4, h5⟩ := hg
      have hm := Nat.mod_lt p h1
      cases s <;> first | exact hs.elim | walk_at "run"
    | own n l c =>
      have h1 : 0 < n := hg.1
      cases s with
      | nums ks cs =>
        have hb : p % n < ks.length := by
          rw [hs.1.1]
          exact Nat.mod_lt _ h1
        walk_at "run"
      | _ => exact hs.elim
    | either x y n c =>
      have h1 : 0 < n := hg.2.2.1
      cases s <;> first | exact hs.elim | walk_at "run"
/-- state if guesser[0] == 'table' else state[-1] -/
theorem ek_cells {κ : KS} {g : Gs} {s : Sa} {tg ts : TE} (hs : SaOk g s) (hn : isSame g = false) (h1 : EvK Same tg κ (.k (encG g))) (h2 : EvK Same ts κ (.k (encS s))) :
    EvK Same (tIf (tTest (tOp (rEqU K) (tOp (rIxU P w K) tg (tC (.int 0))) (tC (.str "table")))) ts (tOp (rIxU P w K) ts (tUn (rU fun i => .int (-i)) (tC (.int 1))))) κ (.k (.tup (nums (cellsOf s)))) := by
  have V_ := evo_same
  refine ek_if V_ (c := decide (form g = "table")) (eb_test V_ (ek_op V_ (ek_form V_ h1) (ek_str V_) (rk_eqS V_ rfl))) (fun e => ?_) fun e => ?_
  · cases g <;> cases s <;> first
      | exact hs.elim
      | (cases hn; done)
      | exact h2
      | (cases of_decide_eq_true e; done)
  · cases g <;> cases s <;> first
      | exact hs.elim
      | (cases hn; done)
      | (exact absurd rfl (of_decide_eq_false e))
      | exact ek_op V_ h2 (ek_neg V_ (ek_int V_)) (rk_ix V_ rfl)
theorem cal_lguess (F : TD K mg "_law_guess" s_l_law_guess ["guesser", "state", "place"]) (c_l_law_spot : C8.Cal P w K mg base 1 "_law_spot" (spG okSpot) []) : ∀ d : Nat, C8.Cal P w K mg base (d + 1) "_law_guess" (spG (okGuess d)) [] := by
  intro d
  induction d with
  | zero =>
    refine cal_never F sc_l_law_guess fun as R S h => ?_
    obtain ⟨_, g, _, _, _, _, hd, _⟩ := h
    have := deep_pos g
    omega
  | succ d c_l_law_guess =>
    refine cal_of F sc_l_law_guess (fun as R S h => ?_) fun f cdv A outer s H E hr => ⟨_, (pss_cons (ps_if (pt_cmpR (op_eqU hr.units) (pe_ix (ix_U hr.units) (pv 0) pe_int (fun _ _ => rfl)) pe_str (nomark _)) (pss_one (ps_ret (pe_ix (ix_U hr.units) (pv 0) pe_int (fun _ _ => rfl)))) pss_nil)
      (pss_cons (ps_set (i := 3) sc_l_law_guess.nd rfl (Or.inl rfl) (pe_ifExp (pt_cmpR (op_eqU hr.units) (pe_ix (ix_U hr.units) (pv 0) pe_int (fun _ _ => rfl)) pe_str (nomark _)) (pv 1) (pe_ix (ix_U hr.units) (pv 1) (pe_un un_neg pe_int) (fun _ _ => rfl))))
      (pss_cons (ps_set (i := 4) sc_l_law_guess.nd rfl (Or.inl rfl) (pe_ix (ix_U hr.units) (pe_ix (ix_U hr.units) (pe_ix (ix_U hr.units) (pv 0) (pe_un un_neg pe_int) (fun _ _ => rfl)) pe_int (fun _ _ => rfl)) (pe_ix (ix_U hr.units) (pv 3) (C8.pe_c c_l_law_spot hr (by first | decide | omega) (by rfl) (pa_cons (pv 0) (pa_cons (pv 1) (pa_cons (pv 2) pa_nil)))) (fun _ _ => rfl)) (fun _ _ => rfl)))
      (pss_cons (ps_if (pt_cmpR (op_eqU hr.units) (pe_ix (ix_U hr.units) (pv 0) pe_int (fun _ _ => rfl)) pe_str (nomark _)) (pss_one (ps_ret (C8.pe_c c_l_law_guess hr (by first | decide | omega) (by rfl) (pa_cons (pe_ix (ix_U hr.units) (pv 0) (pe_op op_addU pe_int (pv 4)) (fun _ _ => rfl)) (pa_cons (pe_ix (ix_U hr.units) (pv 1) (pv 4) (fun _ _ => rfl)) (pa_cons (pv 2) pa_nil)))))) pss_nil)
      (pss_one (ps_ret (pv 4))))))), fun as R S h => ?_⟩
    · obtain ⟨_, g, s, p, _, _, _, rfl, _⟩ := h
      rfl
    · obtain ⟨rfl, g, s, p, hg, hs, hd, rfl, rfl⟩ := h
      have V_ := evo_same
      by_cases hn : isSame g = false
      · obtain ⟨ks, e1, e2⟩ := last_cell hn
        have hsp := spot_lt p hg hs hn
        have hh := here_lt p hg hs hn
        have hc := cellOf_ok hg hn
        have hf : decide (form g = "same") = false := by cases g <;> first | (cases hn; done) | rfl
        have h1 := tell_le hc hh
        refine rs_no V_ (eb_test V_ (ek_op V_ (ek_form V_ (ek_var V_ rfl)) (ek_str V_) (rk_eqS V_ hf))) (rk_set V_ (ek_cells hs hn (ek_var V_ rfl) (ek_var V_ rfl)) (rk_set V_ (a := .k (.num ((cellOf g).tell (here g s p)))) ?_ ?_))
        · refine ek_op V_ (ek_op V_ (ek_op V_ (x := .k (.tup ks)) ?_ (by walk_at "ek") (rk_ix V_ e2)) (by walk_at "ek") (rk_ix V_ (k := .tup (nums (cellOf g).g)) rfl))
            (ek_op V_ (ek_var V_ rfl) (ek_call V_ (as := [.k (encG g), .k (encS s), .k (.num p)]) (a := .k (.num (spot g s p))) (by walk_at "el") ⟨rfl, g, s, p, hg, hs, hn, rfl, rfl⟩) (rk_ix V_ (here_nums hsp))) (rk_ix V_ (at_nums hh))
          rw [← e1]
          exact ek_var V_ rfl
        · cases g with
          | same x => cases hn
          | either x y n c =>
            cases s with
            | two sx sy cs =>
              obtain ⟨d1, d2⟩ := deep_either hd
              refine rs_yes V_ (eb_test V_ (by walk_at "ek")) (rs_retS ?_)
              have ht : here (.either x y n c) (.two sx sy cs) p = cs.getD (p % n) 0 := rfl
              have hc1 : cellOf (.either x y n c) = c := rfl
              rw [ht, hc1] at h1 ⊢
              have e : guess (.either x y n c) (.two sx sy cs) p = if c.tell (cs.getD (p % n) 0) = 0 then guess x sx p else guess y sy p := rfl
              rw [e]
              generalize c.tell (cs.getD (p % n) 0) = t at h1
              have ht : t = 0 ∨ t = 1 := by omega
              rcases ht with rfl | rfl
              · rw [if_pos rfl]
                exact ek_call V_ (as := [.k (encG x), .k (encS sx), .k (.num p)]) (by walk_at "el") ⟨rfl, x, sx, p, hg.1, hs.1, d1, rfl, rfl⟩
              · rw [if_neg (by decide)]
                exact ek_call V_ (as := [.k (encG y), .k (encS sy), .k (.num p)]) (by walk_at "el") ⟨rfl, y, sy, p, hg.2.1, hs.2.1, d2, rfl, rfl⟩
            | _ => exact hs.elim
          | _ =>
            refine rs_no V_ (eb_test V_ (by walk_at "ek")) (rs_ret ?_)
            cases s <;> first | exact hs.elim | walk_at "ek"
      · cases g with
        | same x => walk_at "run"
        | _ => exact absurd rfl hn
end
end K49
set_option Elab.async false
set_option linter.all false
set_option maxRecDepth 100000
set_option maxHeartbeats 4000000
set_option autoImplicit false
/-! The law's own guessers learn. -/
namespace K49
open PySem PySem.Spec PyProof.Rows L2
local macro_rules | `(tactic| walk_at "rk") => `(tactic| first
  | exact rk_eqS ‹_› (by decide)
  | exact rk_ix ‹_› rfl
  | exact rk_inS2 ‹_› (by decide)
  | exact rk_ix ‹_› (at_nums (by assumption))
  | exact rk_modN ‹_› (by first | assumption | omega)
  | exact rk_addN ‹_›
  | exact rk_mul2 ‹_›
  | exact rk_addr1 ‹_›
  | exact rk_add1l ‹_›
  | exact rk_shl1 ‹_› (by omega)
  | exact rk_mulN ‹_› (by omega)
  | exact rk_shlN ‹_› (by omega) (by omega)
  | exact rk_addI ‹_›
  | exact rk_addT ‹_› (by first | decide | (simp only [List.length_append, List.length_cons, List.length_nil, List.length_take, List.length_drop] at *; omega))
  | exact rk_sub ‹_›
  | exact rk_neBl ‹_›
  | exact rk_eqI ‹_›
  | exact rk_neI ‹_›
  | exact rk_cmp ‹_›)
local macro_rules | `(tactic| walk_at "el") => `(tactic| first
  | exact el_nil ‹_›
  | (apply el_cons ‹_›; (focus walk_at "ek"); walk_at "el"))
local macro_rules | `(tactic| walk_at "eo") => `(tactic| first
  | exact eo_none ‹_›
  | (apply eo_some ‹_›; walk_at "ek"))
local macro_rules | `(tactic| walk_at "ek") => `(tactic| first
  | exact ek_var ‹_› rfl
  | exact ek_int ‹_›
  | exact ek_str ‹_›
  | exact ek_non ‹_›
  | exact ek_bl ‹_›
  | (apply ek_op ‹_›; (focus walk_at "ek"); (focus walk_at "ek"); walk_at "rk")
  | (apply ek_neg ‹_›; walk_at "ek")
  | (apply ek_slice ‹_›; (focus walk_at "ek"); (focus walk_at "eo"); walk_at "eo")
  | (apply ek_tup1 ‹_›; walk_at "ek")
  | (apply ek_tup2 ‹_›; (focus walk_at "ek"); walk_at "ek")
  | (apply ek_tup3 ‹_›; (focus walk_at "ek"); (focus walk_at "ek"); walk_at "ek"))
local macro_rules | `(tactic| walk_at "run") => `(tactic| first
  | (refine rs_ret ?_; walk_at "ek")
  | (refine rs_retS ?_; walk_at "ek")
  | (refine rs_yes ‹_› (eb_test ‹_› ?_) ?_; (focus walk_at "ek"); walk_at "run")
  | (refine rs_no ‹_› (eb_test ‹_› ?_) ?_; (focus walk_at "ek"); walk_at "run"))
section
variable {P : Program} {w : World} {K : PySem.W.Frag} {mg : Str → Option Value} {base : Heap}
theorem rs_at {te : TE} {i : Nat} {t2 : L2.TS} {D : Ends} {σ : L2.St} {H : Hp} (h : te σ H (fun v H' => t2 D (σ.set i (some v)) H')) : tSeq (tAsg te (gName i)) t2 D σ H := h
/-- list(t), t a tuple of numbers -/
theorem raw_list {κ : KS} {te : TE} {l : List Nat} {σ : L2.St} {H : Hp} {Q : VK} (M : Mt κ σ H) (h : EvK Same te κ (.k (.tup (nums l)))) (q : ∀ a H', Same H H' → H a = none → H' a = some (.lst (vints l)) → Q (.ref a) H') : tCB (rListU P w K) (tCons te tNil) σ H Q := by
  show tCons _ _ _ _ _
  refine el_cons evo_same h (el_nil evo_same) σ H M _ fun vs ds H1 r1 ks e => ?_
  subst e
  cases ks with
  | cons k1 kn =>
  cases kn
  obtain ⟨b, ws, rfl, h1, h2⟩ := kat_tup k1
  rw [kats_nums h2] at h1
  exact .inl ⟨b, _, rfl, .inr (SqT.of h1), fun a ha => q a _ (r1.trans (same_new ha)) (none_of_same r1 ha) upd_same⟩
theorem rs_ifAt {tc : TT} {t u rest : L2.TS} {D : Ends} {σ : L2.St} {H : Hp} (h : tc σ H fun b H1 => if b = true then t { D with nx := rest D } σ H1 else u { D with nx := rest D } σ H1) : tSeq (tIfS tc t u) rest D σ H := h
theorem rs_asgAt {te : TE} {g : TG} {rest : L2.TS} {D : Ends} {σ : L2.St} {H : Hp} (h : te σ H fun x H1 => g x σ H1 (rest D)) : tSeq (tAsg te g) rest D σ H := h
theorem op_at {r : R2} {ta tb : TE} {σ : L2.St} {H : Hp} {Q : VK} (h : ta σ H fun x H1 => tb σ H1 fun y H2 => r x y H2 Q) : tOp r ta tb σ H Q := h
theorem ev_at {R : Hp → Hp → Prop} {te : TE} {κ : KS} {a : AV} {σ : L2.St} {H : Hp} {Q : VK} (h : EvK R te κ a) (M : Mt κ σ H) (q : ∀ v H', R H H' → AAt H' a v → Q v H') : te σ H Q := h σ H M Q fun v d H' r k e => by
  subst e
  exact q v H' r k
theorem tup2_at {ta tb : TE} {σ : L2.St} {H : Hp} {Q : VK} (h : ta σ H fun x H1 => tb σ H1 fun y H2 => 2 ≤ sizeLine ∧ ∀ p, H2 p = none → Q (.ref p) (upd H2 p (.tup [x, y]))) : tTup (tCons ta (tCons tb tNil)) σ H Q := h
theorem tup3_at {ta tb tc : TE} {σ : L2.St} {H : Hp} {Q : VK} (h : ta σ H fun x H1 => tb σ H1 fun y H2 => tc σ H2 fun z H3 => 3 ≤ sizeLine ∧ ∀ p, H3 p = none → Q (.ref p) (upd H3 p (.tup [x, y, z]))) : tTup (tCons ta (tCons tb (tCons tc tNil))) σ H Q := h
theorem lk_two {S : Nat → AV → Prop} {e0 e1 : NestedKey} (h0 : ∀ a, S 0 a → a = .k e0) (h1 : ∀ a, S 1 a → a = .k e1) (D : Addr) (as : List AV) (vs : List V) (H' : Hp) (hl : as.length = 2) (hs : ∀ (i : Nat) (a : AV), as[i]? = some a → S i a) (hD : H' D = some (.lst vs)) (hv : AAts H' as vs) :
    (∃ ks, e0 = .tup ks) → ∃ a, AAt H' a (.ref D) ∧ ∃ D, a = .lk D [e0, e1] := by
  intro ht
  match as, hl with
  | [x, y], _ =>
    have z1 := h0 x (hs 0 x rfl)
    have z2 := h1 y (hs 1 y rfl)
    subst z1
    subst z2
    obtain ⟨ks, rfl⟩ := ht
    have hv2 : AAts H' ([NestedKey.tup ks, e1].map AV.k) vs := hv
    have kk := hv2.kats
    refine ⟨.lk D [.tup ks, e1], ⟨rfl, vs, hD, kk, ?_⟩, D, rfl⟩
    cases kk with
    | cons g1 g2 =>
    exact ⟨_, List.mem_cons_self, fun n z => by subst z; cases g1⟩
theorem no_at {D : Ends} {σ : L2.St} {H : Hp} (h : D.nx σ H) : tNext D σ H := h
theorem rs_retAt {te : TE} {D : Ends} {σ : L2.St} {H : Hp} (h : te σ H D.rt) : tRet te D σ H := h
theorem rs_retSAt {te : TE} {D : Ends} {σ : L2.St} {H : Hp} {rest : L2.TS} (h : te σ H D.rt) : tSeq (tRet te) rest D σ H := h
/-- tuple(l), l a list of numbers -/
theorem raw_tuple {i : Nat} {a : Addr} {l : List Nat} {σ : L2.St} {H : Hp} {Q : VK} (hi : σ[i]? = some (some (.ref a))) (ha : H a = some (.lst (vints l))) (q : ∀ v H', Same H H' → KAt H' (.tup (nums l)) v → Q v H') : tCB (rTup K) (tCons (tVar i) tNil) σ H Q :=
  ⟨.ref a, hi, a, _, rfl, .inl ⟨SqL.of ha, fun t ht => q _ _ (same_new ht) (.tup upd_same (nums_kats l))⟩⟩
theorem step_at {κ : KS} {σ : L2.St} {H : Hp} {te : TE} {Q : L2.St → Hp → Prop} {g : Gs} {s : Sa} {p wv : Nat} {a : Addr} (M : Mt κ σ H) (ev : EvK Same te κ (.k (.tup (nums (if wv = 0 then (cellOf g).s else (cellOf g).a))))) (h4 : σ[4]? = some (some (.ref a))) (h5 : σ[5]? = some (some (.int (spot g s p)))) (ha : H a = some (.lst (vints (cellsOf s))))
    (hsp : spot g s p < (cellsOf s).length) (hh : here g s p < (cellOf g).g.length) (hc : CellOk (cellOf g)) (q : ∀ H5, Same H H5 → ∀ H6, H6 = upd H5 a (.lst (vints ((cellsOf s).set (spot g s p) ((cellOf g).step wv (here g s p))))) → Q σ H6) : tOp (rIxU P w K) te (tOp (rIxU P w K) (tVar 4) (tVar 5)) σ H (fun x H5 => gSub (tVar 4) (tVar 5) (rSetU P w) x σ H5 Q) := by
  have V_ := evo_same
  refine op_at (ev _ _ M _ fun vx dx H5 s5 kx ex => ?_)
  subst ex
  have ha5 := s5 _ _ ha
  refine ⟨.ref a, h4, .int (spot g s p), h5, .inl ⟨a, _, spot g s p, _, rfl, rfl, SqL.of ha5, atI_nat (vints_at hsp), ?_⟩⟩
  have hlen : here g s p < (if wv = 0 then (cellOf g).s else (cellOf g).a).length := by
    split
    · rw [hc.ls]; exact hh
    · rw [hc.la]; exact hh
  refine rk_ix V_ (at_nums hlen) H5 vx _ kx (AAt.of (KAt.num _)) _ fun v6 d6 H6 s6 k6 e6 => ?_
  subst e6
  rw [kat_num k6, step_getD]
  refine ⟨.ref a, h4, .int (spot g s p), h5, .inl ⟨a, _, spot g s p, spot g s p, rfl, rfl, s6 _ _ ha5, ixN_n (by rw [vints_length]; exact hsp), ?_⟩⟩
  rw [vints_set]
  exact q _ (s5.trans s6) _ rfl
theorem cal_llearn (F : TD K mg "_law_learn" s_l_law_learn ["guesser", "state", "place", "way"]) (B : Blt mg) (c_l_law_spot : C8.Cal P w K mg base 1 "_law_spot" (spG okSpot) []) (c_l_law_guess : C8.Cal P w K mg base 4 "_law_guess" (spG (okGuess 3)) []) : ∀ d : Nat, d ≤ 3 → C8.Cal P w K mg base (d + 5) "_law_learn" (spG (okLearn d)) [] := by
  intro d
  induction d with
  | zero =>
    intro _
    refine cal_never F sc_l_law_learn fun as R S h => ?_
    obtain ⟨_, g, _, _, _, _, _, _, hd, _⟩ := h
    have := deep_pos g
    omega
  | succ d ih =>
    intro hd3
    have c_l_law_learn := ih (by omega)
    refine cal_of F sc_l_law_learn (fun as R S h => ?_) fun f cdv A outer s0 H E hr => ⟨_, (pss_cons (ps_if (pt_cmpR (op_eqU hr.units) (pe_ix (ix_U hr.units) (pv 0) pe_int (fun _ _ => rfl)) pe_str (nomark _)) (pss_one (ps_ret (pv 1))) pss_nil)
      (pss_cons (ps_set (i := 4) sc_l_law_learn.nd rfl (Or.inl rfl) (pe_callTy (call_listU rfl) (by rfl) B.list (by decide +kernel) (pa_cons (pe_ifExp (pt_cmpR (op_eqU hr.units) (pe_ix (ix_U hr.units) (pv 0) pe_int (fun _ _ => rfl)) pe_str (nomark _)) (pv 1) (pe_ix (ix_U hr.units) (pv 1) (pe_un un_neg pe_int) (fun _ _ => rfl))) pa_nil)))
      (pss_cons (ps_set (i := 5) sc_l_law_learn.nd rfl (Or.inl rfl) (C8.pe_c c_l_law_spot hr (by first | decide | omega) (by rfl) (pa_cons (pv 0) (pa_cons (pv 1) (pa_cons (pv 2) pa_nil)))))
      (pss_cons (ps_if (pt_cmpR (op_eqU hr.units) (pe_ix (ix_U hr.units) (pv 0) pe_int (fun _ _ => rfl)) pe_str (nomark _)) (pss_cons (ps_setLc (i := 6) (own := [("k", 10)]) (by rfl) sc_l_law_learn.nd rfl rfl (sw_true rfl rfl rfl (by decide +kernel)) (pi_range1 (by rfl) B.range (pa_cons pe_int pa_nil)) (blkOk_by (own := [("k", 10)]) (N := ["guesser", "state", "place", "way", "cells", "at", "right", "inner", "rows", "row", "k"]) (sc := defScope s_l_law_learn) (by decide +kernel)) (fun _ _ _ _ _ => (pg_name (i := 10) sc_l_law_learn.nd rfl (Or.inl rfl))) (fun _ _ _ _ _ => pts_nil) (fun _ _ _ _ _ => (pe_cmpR (op_eqUx (K := K) rfl hr.units) (C8.pe_c c_l_law_guess hr (by first | decide | omega) (by rfl) (pa_cons (pe_ix (ix_Ux (P := P) (w := w) (K := K) rfl rfl rfl hr.units) (pv 0) (pe_op (op_addUx (K := K) rfl) pe_int (pv 10)) (fun _ _ => rfl)) (pa_cons (pe_ix (ix_Ux (P := P) (w := w) (K := K) rfl rfl rfl hr.units) (pv 1) (pv 10) (fun _ _ => rfl)) (pa_cons (pv 2) pa_nil)))) (pv 3) (nomark _))))
      (pss_cons (ps_if (pt_cmpR (op_neU hr.units) (pe_ix (ix_U hr.units) (pv 6) pe_int (fun _ _ => rfl)) (pe_ix (ix_U hr.units) (pv 6) pe_int (fun _ _ => rfl)) (nomark _)) (pss_one (ps_asg (pe_ix (ix_U hr.units) (pe_ix (ix_U hr.units) (pe_ix (ix_U hr.units) (pv 0) (pe_un un_neg pe_int) (fun _ _ => rfl)) (pe_op op_addU pe_int (pe_callTy call_int1 (by rfl) B.int (by decide +kernel) (pa_cons (pe_ix (ix_U hr.units) (pv 6) pe_int (fun _ _ => rfl)) pa_nil))) (fun _ _ => rfl)) (pe_ix (ix_U hr.units) (pv 4) (pv 5) (fun _ _ => rfl)) (fun _ _ => rfl)) (pg_sub (pv 4) (pv 5) (set_U hr.units)))) pss_nil)
      (pss_cons (ps_setLc (i := 7) (own := [("k", 10)]) (by rfl) sc_l_law_learn.nd rfl rfl (sw_true rfl rfl rfl (by decide +kernel)) (pi_range1 (by rfl) B.range (pa_cons pe_int pa_nil)) (blkOk_by (own := [("k", 10)]) (N := ["guesser", "state", "place", "way", "cells", "at", "right", "inner", "rows", "row", "k"]) (sc := defScope s_l_law_learn) (by decide +kernel)) (fun _ _ _ _ _ => (pg_name (i := 10) sc_l_law_learn.nd rfl (Or.inl rfl))) (fun _ _ _ _ _ => pts_nil) (fun _ _ _ _ _ => (C8.pe_c c_l_law_learn hr (by first | decide | omega) (by rfl) (pa_cons (pe_ix (ix_Ux (P := P) (w := w) (K := K) rfl rfl rfl hr.units) (pv 0) (pe_op (op_addUx (K := K) rfl) pe_int (pv 10)) (fun _ _ => rfl)) (pa_cons (pe_ix (ix_Ux (P := P) (w := w) (K := K) rfl rfl rfl hr.units) (pv 1) (pv 10) (fun _ _ => rfl)) (pa_cons (pv 2) (pa_cons (pv 3) pa_nil)))))))
      (pss_one (ps_ret (pe_tup (pa_cons (pe_ix (ix_U hr.units) (pv 7) pe_int (fun _ _ => rfl)) (pa_cons (pe_ix (ix_U hr.units) (pv 7) pe_int (fun _ _ => rfl)) (pa_cons (pe_callTy (cr_tuplex rfl) (by rfl) B.tuple (by decide +kernel) (pa_cons (pv 4) pa_nil)) pa_nil))))))))) pss_nil)
      (pss_cons (ps_asg (pe_ix (ix_U hr.units) (pe_ix (ix_U hr.units) (pe_ix (ix_U hr.units) (pv 0) (pe_un un_neg pe_int) (fun _ _ => rfl)) (pe_op op_addU pe_int (pv 3)) (fun _ _ => rfl)) (pe_ix (ix_U hr.units) (pv 4) (pv 5) (fun _ _ => rfl)) (fun _ _ => rfl)) (pg_sub (pv 4) (pv 5) (set_U hr.units)))
      (pss_cons (ps_if (pt_cmpR (op_eqU hr.units) (pe_ix (ix_U hr.units) (pv 0) pe_int (fun _ _ => rfl)) pe_str (nomark _)) (pss_one (ps_ret (pe_callTy (cr_tuplex rfl) (by rfl) B.tuple (by decide +kernel) (pa_cons (pv 4) pa_nil)))) pss_nil)
      (pss_cons (ps_if (pt_cmpR (op_eqU hr.units) (pe_ix (ix_U hr.units) (pv 0) pe_int (fun _ _ => rfl)) pe_str (nomark _)) (pss_cons (ps_set (i := 8) sc_l_law_learn.nd rfl (Or.inl rfl) (pe_callTy (call_listU rfl) (by rfl) B.list (by decide +kernel) (pa_cons (pe_ix (ix_U hr.units) (pv 1) pe_int (fun _ _ => rfl)) pa_nil)))
      (pss_cons (ps_set (i := 9) sc_l_law_learn.nd rfl (Or.inl rfl) (pe_op op_mod (pv 2) (pe_ix (ix_U hr.units) (pv 0) pe_int (fun _ _ => rfl))))
      (pss_cons (ps_asg (pe_op op_mod (pe_op op_addU (pe_op op_mulU pe_int (pe_ix (ix_U hr.units) (pv 8) (pv 9) (fun _ _ => rfl))) (pv 3)) (pe_op op_shl pe_int (pe_ix (ix_U hr.units) (pv 0) pe_int (fun _ _ => rfl)))) (pg_sub (pv 8) (pv 9) (set_U hr.units)))
      (pss_one (ps_ret (pe_tup (pa_cons (pe_callTy (cr_tuplex rfl) (by rfl) B.tuple (by decide +kernel) (pa_cons (pv 8) pa_nil)) (pa_cons (pe_callTy (cr_tuplex rfl) (by rfl) B.tuple (by decide +kernel) (pa_cons (pv 4) pa_nil)) pa_nil)))))))) pss_nil)
      (pss_one (ps_ret (pe_tup (pa_cons (pe_op op_mod (pe_op op_addU (pe_op op_mulU pe_int (pe_ix (ix_U hr.units) (pv 1) pe_int (fun _ _ => rfl))) (pv 3)) (pe_op op_shl pe_int (pe_ix (ix_U hr.units) (pv 0) pe_int (fun _ _ => rfl)))) (pa_cons (pe_callTy (cr_tuplex rfl) (by rfl) B.tuple (by decide +kernel) (pa_cons (pv 4) pa_nil)) pa_nil)))))))))))), fun as R S h => ?_⟩
    · obtain ⟨_, g, s, p, w, _, _, _, _, rfl, _⟩ := h
      rfl
    · obtain ⟨rfl, g, s, p, wy, hw, hg, hs, hd, rfl, rfl⟩ := h
      have V_ := evo_same
      by_cases hn : isSame g = false
      · obtain ⟨ks, e1, e2⟩ := last_cell hn
        have hsp := spot_lt p hg hs hn
        have hh := here_lt p hg hs hn
        have hc := cellOf_ok hg hn
        have hf : decide (form g = "same") = false := by cases g <;> first | (cases hn; done) | rfl
        refine rs_no V_ (eb_test V_ (ek_op V_ (ek_form V_ (ek_var V_ rfl)) (ek_str V_) (rk_eqS V_ hf))) ?_
        intro D σ H1 M q
        refine rs_at (raw_list M (ek_cells hs hn (ek_var V_ rfl) (ek_var V_ rfl)) fun a H2 s2 ha0 ha => ?_)
        have M2 := (M.up V_ s2).set (i := 4) (a := .v (.ref a)) (v := .ref a) AAt.val
        refine rs_at ((ek_call V_ (as := [.k (encG g), .k (encS s), .k (.num p)]) (a := .k (.num (spot g s p))) (by walk_at "el") ⟨rfl, g, s, p, hg, hs, hn, rfl, rfl⟩) _ _ M2 _ fun v3 d3 H3 s3 k3 e3 => ?_)
        subst e3
        rw [kat_num k3]
        have s13 := s2.trans s3
        have ha3 := s3 _ _ ha
        have stp : ∀ {H : Hp}, Same H1 H → Mt (((kap ["guesser", "state", "place", "way", "cells", "at", "right", "inner", "rows", "row", "k"] [AV.k (encG g), .k (encS s), .k (.num p), .k (.num wy)]).set 4 (some (.v (.ref a)))).set 5 (some (.k (.num (spot g s p))))) ((σ.set 4 (some (.ref a))).set 5 (some (.int (spot g s p)))) H := fun {H} e => ((M.up V_ e).set (i := 4) AAt.val).set (i := 5) (AAt.of (KAt.num _))
        have M3 := stp s13
        generalize (σ.set 4 (some (V.ref a))).set 5 (some (V.int (spot g s p))) = σ3 at *
        have h4 : σ3[4]? = some (some (.ref a)) := by
          obtain ⟨v, e, k⟩ := M3.at_ 4 (.v (.ref a)) rfl
          rw [show v = .ref a from k] at e
          exact e
        have h5 : σ3[5]? = some (some (.int (spot g s p))) := by
          obtain ⟨v, e, k⟩ := M3.at_ 5 (.k (.num (spot g s p))) rfl
          rw [kat_num k] at e
          exact e
        -- the cell's own step
        have stepAt : ∀ {te : TE} {Q : L2.St → Hp → Prop} {H4 : Hp} {wv : Nat}, wv ≤ 1 → Same H3 H4 → EvK Same te (((kap ["guesser", "state", "place", "way", "cells", "at", "right", "inner", "rows", "row", "k"] [AV.k (encG g), .k (encS s), .k (.num p), .k (.num wy)]).set 4 (some (.v (.ref a)))).set 5 (some (.k (.num (spot g s p))))) (.k (.tup (nums (if wv = 0 then (cellOf g).s else (cellOf g).a)))) →
            (∀ H6, Same H1 H6 → H6 a = some (.lst (vints ((cellsOf s).set (spot g s p) ((cellOf g).step wv (here g s p))))) → Q σ3 H6) → tOp (rIxU P w K) te (tOp (rIxU P w K) (tVar 4) (tVar 5)) σ3 H4 (fun x H5 => gSub (tVar 4) (tVar 5) (rSetU P w) x σ3 H5 Q) := by
          intro te Q H4 wv hwv s4 ev q4
          refine op_at (ev _ _ (stp (s13.trans s4)) _ fun vx dx H5 s5 kx ex => ?_)
          subst ex
          have ha5 := s5 _ _ (s4 _ _ ha3)
          refine ⟨.ref a, h4, .int (spot g s p), h5, .inl ⟨a, _, spot g s p, _, rfl, rfl, SqL.of ha5, atI_nat (vints_at hsp), ?_⟩⟩
          have hlen : here g s p < (if wv = 0 then (cellOf g).s else (cellOf g).a).length := by
            split
            · rw [hc.ls]; exact hh
            · rw [hc.la]; exact hh
          refine rk_ix V_ (at_nums hlen) H5 vx _ kx (AAt.of (KAt.num _)) _ fun v6 d6 H6 s6 k6 e6 => ?_
          subst e6
          rw [kat_num k6, step_getD]
          have ha6 := s6 _ _ ha5
          refine ⟨.ref a, h4, .int (spot g s p), h5, .inl ⟨a, _, spot g s p, spot g s p, rfl, rfl, ha6, ixN_n (by rw [vints_length]; exact hsp), ?_⟩⟩
          rw [vints_set]
          exact q4 _ (same_upd (s13.trans (s4.trans (s5.trans s6))) ha0) upd_same
        have cellT : ∀ {te : TE} {v : Nat}, (v = wy) → EvK Same te (((kap ["guesser", "state", "place", "way", "cells", "at", "right", "inner", "rows", "row", "k"] [AV.k (encG g), .k (encS s), .k (.num p), .k (.num wy)]).set 4 (some (.v (.ref a)))).set 5 (some (.k (.num (spot g s p))))) (.k (.num ((1 + wy : Nat) : Int))) →
            EvK Same (tOp (rIxU P w K) (tOp (rIxU P w K) (tVar 0) (tUn (rU fun i => .int (-i)) (tC (.int 1)))) te) (((kap ["guesser", "state", "place", "way", "cells", "at", "right", "inner", "rows", "row", "k"] [AV.k (encG g), .k (encS s), .k (.num p), .k (.num wy)]).set 4 (some (.v (.ref a)))).set 5 (some (.k (.num (spot g s p))))) (.k (.tup (nums (if wy = 0 then (cellOf g).s else (cellOf g).a)))) := by
          intro te v _ h
          refine ek_op V_ (ek_op V_ (x := .k (.tup ks)) ?_ (ek_neg V_ (ek_int V_)) (rk_ix V_ e2)) h (rk_ix V_ (encC_at (cellOf g) wy hw))
          rw [← e1]
          exact ek_var V_ rfl
        have oneWay : EvK Same (tOp (rAddU K) (tC (.int 1)) (tVar 3)) (((kap ["guesser", "state", "place", "way", "cells", "at", "right", "inner", "rows", "row", "k"] [AV.k (encG g), .k (encS s), .k (.num p), .k (.num wy)]).set 4 (some (.v (.ref a)))).set 5 (some (.k (.num (spot g s p))))) (.k (.num ((1 + wy : Nat) : Int))) := ek_op V_ (ek_int V_) (ek_var V_ rfl) (rk_add1l V_)
        cases g with
        | same x => cases hn
        | table n c =>
          refine rs_ifAt ((eb_test V_ (ek_op V_ (ek_form V_ (ek_var V_ rfl)) (ek_str V_) (rk_eqS V_ (b := false) rfl))) _ _ M3 _ fun b H4 s4 hb => ?_)
          subst hb
          rw [if_neg (by decide)]
          refine no_at (rs_asgAt (stepAt hw s4 (cellT rfl oneWay) fun H6 s16 ha6 => ?_))
          refine rs_ifAt ((eb_test V_ (ek_op V_ (ek_form V_ (ek_var V_ rfl)) (ek_str V_) (rk_eqS V_ (b := true) rfl))) _ _ (stp s16) _ fun b H7 s7 hb => ?_)
          subst hb
          rw [if_pos rfl]
          refine rs_retAt (raw_tuple h4 (s7 _ _ ha6) fun v H8 s8 k8 => ?_)
          refine q v _ H8 (s16.trans (s7.trans s8)) (AAt.of k8) ?_
          cases s with
          | one cs => rfl
          | _ => exact hs.elim
        | mixed n l c =>
          cases s with
          | num k cs =>
            have hl6 : l ≤ 6 := hg.2.2.1
            have hpl : 0 < 2 ^ l := Nat.pow_pos (by decide)
            refine rs_ifAt ((eb_test V_ (ek_op V_ (ek_form V_ (ek_var V_ rfl)) (ek_str V_) (rk_eqS V_ (b := false) rfl))) _ _ M3 _ fun b H4 s4 hb => ?_)
            subst hb
            rw [if_neg (by decide)]
            refine no_at (rs_asgAt (stepAt hw s4 (cellT rfl oneWay) fun H6 s16 ha6 => ?_))
            refine rs_ifAt ((eb_test V_ (ek_op V_ (ek_form V_ (ek_var V_ rfl)) (ek_str V_) (rk_eqS V_ (b := false) rfl))) _ _ (stp s16) _ fun b H7 s7 hb => ?_)
            subst hb
            rw [if_neg (by decide)]
            have s17 := s16.trans s7
            refine no_at (rs_ifAt ((eb_test V_ (ek_op V_ (ek_form V_ (ek_var V_ rfl)) (ek_str V_) (rk_eqS V_ (b := false) rfl))) _ _ (stp s17) _ fun b H8 s8 hb => ?_))
            subst hb
            rw [if_neg (by decide)]
            have s18 := s17.trans s8
            refine no_at ?_
            dsimp only
            refine rs_retAt (tup2_at ?_)
            refine ev_at (R := Same) (a := .k (.num (((2 * k + wy) % 2 ^ l : Nat) : Int))) ?_ (stp s18) fun vx H9 s9 kx => raw_tuple h4 (s9 _ _ (s8 _ _ (s7 _ _ ha6))) fun v H10 s10 k10 => ⟨(by show 2 ≤ sizeLine; decide), fun pt hpt => ?_⟩
            · walk_at "ek"
            refine q _ _ _ (s18.trans (s9.trans (s10.trans (same_new hpt)))) (AAt.of (KAt.tup upd_same (.cons (KAt.up kx (Ts.of (s10.trans (same_new hpt)))) (.cons (k10.up (Ts.new hpt)) .nil)))) rfl
          | _ => exact hs.elim
        | joined n l c =>
          cases s with
          | num k cs =>
            have hl6 : l ≤ 6 := hg.2.2.1
            have hpl : 0 < 2 ^ l := Nat.pow_pos (by decide)
            refine rs_ifAt ((eb_test V_ (ek_op V_ (ek_form V_ (ek_var V_ rfl)) (ek_str V_) (rk_eqS V_ (b := false) rfl))) _ _ M3 _ fun b H4 s4 hb => ?_)
            subst hb
            rw [if_neg (by decide)]
            refine no_at (rs_asgAt (stepAt hw s4 (cellT rfl oneWay) fun H6 s16 ha6 => ?_))
            refine rs_ifAt ((eb_test V_ (ek_op V_ (ek_form V_ (ek_var V_ rfl)) (ek_str V_) (rk_eqS V_ (b := false) rfl))) _ _ (stp s16) _ fun b H7 s7 hb => ?_)
            subst hb
            rw [if_neg (by decide)]
            have s17 := s16.trans s7
            refine no_at (rs_ifAt ((eb_test V_ (ek_op V_ (ek_form V_ (ek_var V_ rfl)) (ek_str V_) (rk_eqS V_ (b := false) rfl))) _ _ (stp s17) _ fun b H8 s8 hb => ?_))
            subst hb
            rw [if_neg (by decide)]
            have s18 := s17.trans s8
            refine no_at ?_
            dsimp only
            refine rs_retAt (tup2_at ?_)
            refine ev_at (R := Same) (a := .k (.num (((2 * k + wy) % 2 ^ l : Nat) : Int))) ?_ (stp s18) fun vx H9 s9 kx => raw_tuple h4 (s9 _ _ (s8 _ _ (s7 _ _ ha6))) fun v H10 s10 k10 => ⟨(by show 2 ≤ sizeLine; decide), fun pt hpt => ?_⟩
            · walk_at "ek"
            refine q _ _ _ (s18.trans (s9.trans (s10.trans (same_new hpt)))) (AAt.of (KAt.tup upd_same (.cons (KAt.up kx (Ts.of (s10.trans (same_new hpt)))) (.cons (k10.up (Ts.new hpt)) .nil)))) rfl
          | _ => exact hs.elim
        | own n l c =>
          cases s with
          | nums rs cs =>
            have hl6 : l ≤ 6 := hg.2.2.1
            have hn1 : 0 < n := hg.1
            have hpl : 0 < 2 ^ l := Nat.pow_pos (by decide)
            have hrl : p % n < rs.length := by
              rw [hs.1.1]
              exact Nat.mod_lt _ hn1
            refine rs_ifAt ((eb_test V_ (ek_op V_ (ek_form V_ (ek_var V_ rfl)) (ek_str V_) (rk_eqS V_ (b := false) rfl))) _ _ M3 _ fun b H4 s4 hb => ?_)
            subst hb
            rw [if_neg (by decide)]
            refine no_at (rs_asgAt (stepAt hw s4 (cellT rfl oneWay) fun H6 s16 ha6 => ?_))
            refine rs_ifAt ((eb_test V_ (ek_op V_ (ek_form V_ (ek_var V_ rfl)) (ek_str V_) (rk_eqS V_ (b := false) rfl))) _ _ (stp s16) _ fun b H7 s7 hb => ?_)
            subst hb
            rw [if_neg (by decide)]
            have s17 := s16.trans s7
            refine no_at (rs_ifAt ((eb_test V_ (ek_op V_ (ek_form V_ (ek_var V_ rfl)) (ek_str V_) (rk_eqS V_ (b := true) rfl))) _ _ (stp s17) _ fun b H8 s8 hb => ?_))
            subst hb
            rw [if_pos rfl]
            have s18 := s17.trans s8
            refine rs_at (raw_list (l := rs) (stp s18) ?_ fun r H9 s9 hr0 hr => ?_)
            · walk_at "ek"
            have s19 := s18.trans s9
            have ha9 := s9 _ _ (s8 _ _ (s7 _ _ ha6))
            have hra : r ≠ a := fun e => by
              subst e
              rw [s8 _ _ (s7 _ _ ha6)] at hr0
              cases hr0
            have hr1 : H1 r = none := none_of_same s18 hr0
            have M9 := (stp s19).set (i := 8) (a := .v (.ref r)) (v := .ref r) AAt.val
            obtain ⟨i0, hi0⟩ : ∃ i, i = p % n := ⟨_, rfl⟩
            rw [← hi0] at hrl
            refine rs_at (ev_at (R := Same) (a := .k (.num (i0 : Int))) ?_ M9 fun vx H10 s10 kx => ?_)
            · rw [hi0]; walk_at "ek"
            rw [kat_num kx]
            have M10 := (M9.up V_ s10).set (i := 9) kx
            rw [kat_num kx] at M10
            have st2 : ∀ {H : Hp}, Same H1 H → Mt _ ((σ3.set 8 (some (.ref r))).set 9 (some (.int (i0 : Int)))) H := fun {H} e => ((stp e).set (i := 8) (a := .v (.ref r)) (v := .ref r) AAt.val).set (i := 9) (a := .k (.num (i0 : Int))) (AAt.of (KAt.num _))
            generalize hσ : (σ3.set 8 (some (V.ref r))).set 9 (some (V.int (i0 : Int))) = σ4 at *
            have h48 : σ4[8]? = some (some (.ref r)) := by
              obtain ⟨v, e, k⟩ := M10.at_ 8 (.v (.ref r)) rfl
              rw [show v = .ref r from k] at e
              exact e
            have h49 : σ4[9]? = some (some (.int (i0 : Int))) := by
              obtain ⟨v, e, k⟩ := M10.at_ 9 (.k (.num (i0 : Int))) rfl
              rw [kat_num k] at e
              exact e
            have h44 : σ4[4]? = some (some (.ref a)) := by
              obtain ⟨v, e, k⟩ := M10.at_ 4 (.v (.ref a)) rfl
              rw [show v = .ref a from k] at e
              exact e
            have hr10 := s10 _ _ hr
            -- rows[row] = ..
            have h43 : σ4[3]? = some (some (.int (wy : Nat))) := by
              obtain ⟨v, e, k⟩ := M10.at_ 3 (.k (.num wy)) rfl
              rw [kat_num k] at e
              exact e
            refine rs_asgAt (op_at (op_at (op_at ⟨.ref r, h48, .int (i0 : Nat), h49, .inl ⟨r, _, i0, _, rfl, rfl, SqL.of hr10, atI_nat (vints_at hrl), ?_⟩⟩)))
            refine .inl ⟨2, _, rfl, rfl, .inl ⟨by decide, by decide⟩, .int wy, h43, .inl ⟨_, wy, rfl, rfl, ?_⟩⟩
            dsimp only
            refine ev_at (R := Same) (a := .k (.num ((2 ^ l : Nat) : Int))) ?_ M10 fun vx H11 s11 kx => ?_
            · walk_at "ek"
            rw [kat_num kx]
            refine ⟨_, _, rfl, rfl, by omega, ?_⟩
            have hr11 := s11 _ _ hr10
            have ha11 := s11 _ _ (s10 _ _ ha9)
            refine ⟨.ref r, h48, .int (i0 : Nat), h49, .inl ⟨r, _, _, i0, rfl, rfl, hr11, ixN_n (by rw [vints_length]; exact hrl), ?_⟩⟩
            have ex : V.int ((2 * ((rs.getD i0 0 : Nat) : Int) + (wy : Int)) % ((2 ^ l : Nat) : Int)) = V.int (((2 * rs.getD i0 0 + wy) % 2 ^ l : Nat) : Int) := by
              rw [Int.natCast_emod]
              rfl
            dsimp only
            rw [ex, vints_set]
            have s111 : Same H1 H11 := (s19.trans s10).trans s11
            have hr12 : (upd H11 r (.lst (vints (rs.set i0 ((2 * rs.getD i0 0 + wy) % 2 ^ l))))) r = some (.lst (vints (rs.set i0 ((2 * rs.getD i0 0 + wy) % 2 ^ l)))) := upd_same
            have ha12 : (upd H11 r (.lst (vints (rs.set i0 ((2 * rs.getD i0 0 + wy) % 2 ^ l))))) a = some (.lst (vints ((cellsOf (Sa.nums rs cs)).set (spot (Gs.own n l c) (Sa.nums rs cs) p) ((cellOf (Gs.own n l c)).step wy (here (Gs.own n l c) (Sa.nums rs cs) p))))) := by
              rw [upd_ne (Ne.symm hra)]
              exact ha11
            have s112 : Same H1 (upd H11 r (.lst (vints (rs.set i0 ((2 * rs.getD i0 0 + wy) % 2 ^ l))))) := same_upd s111 hr1
            generalize (upd H11 r (.lst (vints (rs.set i0 ((2 * rs.getD i0 0 + wy) % 2 ^ l))))) = H12 at *
            refine rs_retSAt (tup2_at (raw_tuple h48 hr12 fun v H13 s13' k13 => raw_tuple h44 (s13' _ _ ha12) fun v2 H14 s14 k14 => ⟨(by show 2 ≤ sizeLine; decide), fun pt hpt => ?_⟩))
            exact q _ _ _ (s112.trans (s13'.trans (s14.trans (same_new hpt)))) (AAt.of (KAt.tup upd_same (.cons (k13.up (Ts.of (s14.trans (same_new hpt)))) (.cons (k14.up (Ts.new hpt)) .nil)))) (by rw [hi0]; rfl)
          | _ => exact hs.elim
        | either x y n c =>
          cases s with
          | two sx sy cs =>
            obtain ⟨d1, d2⟩ := deep_either hd
            refine rs_ifAt ((eb_test V_ (ek_op V_ (ek_form V_ (ek_var V_ rfl)) (ek_str V_) (rk_eqS V_ (b := true) rfl))) _ _ M3 _ fun b H4 s4 hb => ?_)
            subst hb
            rw [if_pos rfl]
            have s14 := s13.trans s4
            refine rs_at (es_lcRange1 V_ (n := 2) (S := fun i a => a = .v (.bl (if i = 0 then decide (guess x sx p = wy) else decide (guess y sy p = wy)))) (S' := fun d => ∃ D, d = .lb D [decide (guess x sx p = wy), decide (guess y sy p = wy)]) (ek_int V_) (by show 10 < 11; decide) (by decide) (fun n a e => by subst e; trivial)
              (fun _ _ _ D _ => keeps_same D) (fun i hi => ?_) (lb_two (fun a e => e) (fun a e => e)) _ _ (stp s14) _ fun vr dr H5 s5 kr hD => ?_)
            · have hi2 : i = 0 ∨ i = 1 := by omega
              rcases hi2 with rfl | rfl
              · rw [if_pos rfl, ← dec_int]
                exact ek_op V_ (ek_call V_ (as := [.k (encG x), .k (encS sx), .k (.num p)]) (el_cons V_ (ek_op V_ (ek_var V_ rfl) (ek_op V_ (ek_int V_) (ek_var V_ rfl) (rk_addI V_)) (rk_ix V_ rfl)) (by walk_at "el")) ⟨rfl, x, sx, p, hg.1, hs.1, by omega, rfl, rfl⟩) (ek_var V_ rfl) (rk_eqI V_)
              · rw [if_neg (by decide), ← dec_int]
                exact ek_op V_ (ek_call V_ (as := [.k (encG y), .k (encS sy), .k (.num p)]) (el_cons V_ (ek_op V_ (ek_var V_ rfl) (ek_op V_ (ek_int V_) (ek_var V_ rfl) (rk_addI V_)) (rk_ix V_ rfl)) (by walk_at "el")) ⟨rfl, y, sy, p, hg.2.1, hs.2.1, by omega, rfl, rfl⟩) (ek_var V_ rfl) (rk_eqI V_)
            obtain ⟨Dr0, hD⟩ := hD
            subst hD
            have M5 := ((stp (s14.trans s5))).set (i := 6) kr
            have st5 : ∀ {H : Hp}, Same H1 H → Mt _ (σ3.set 6 (some vr)) H := fun {H} e => (stp e).set (i := 6) (a := .v vr) (v := vr) AAt.val
            have h4' : (σ3.set 6 (some vr))[4]? = some (some (.ref a)) := by rw [List.getElem?_set_ne (by decide)]; exact h4
            have h5' : (σ3.set 6 (some vr))[5]? = some (some (.int (spot (.either x y n c) (.two sx sy cs) p))) := by rw [List.getElem?_set_ne (by decide)]; exact h5
            have ha5 := s5 _ _ (s4 _ _ ha3)
            have s15 := s14.trans s5
            generalize σ3.set 6 (some vr) = σ5 at *
            refine rs_ifAt ((eb_test V_ (ek_op V_ (ek_op V_ (ek_var V_ rfl) (ek_int V_) (rk_ixLb V_ rfl)) (ek_op V_ (ek_var V_ rfl) (ek_int V_) (rk_ixLb V_ rfl)) (rk_neBl V_))) _ _ M5 _ fun b H6 s6 hb => ?_)
            subst hb
            have el : ∀ cz, cz = (if decide (guess x sx p = wy) ≠ decide (guess y sy p = wy) then behindC (.either x y n c) (.two sx sy cs) p (if guess y sy p = wy then 1 else 0) else cs) → learn (.either x y n c) (.two sx sy cs) p wy = .two (learn x sx p wy) (learn y sy p wy) cz := fun cz e => by
              subst e
              rfl
            by_cases hbb : (decide (guess x sx p = wy) != decide (guess y sy p = wy)) = true
            rotate_left
            rw [if_neg hbb]
            have haz := s6 _ _ ha5
            have s1z := s15.trans s6
            have hcz := el cs (by rw [if_neg (fun z => hbb (by simpa using z))])
            refine no_at ?_
            rotate_left
            rw [if_pos hbb]
            have ew : (if decide (guess y sy p = wy) = true then (1 : Int) else 0) = ((if guess y sy p = wy then 1 else 0 : Nat) : Int) := by
              by_cases h : guess y sy p = wy
              · rw [if_pos h, if_pos (decide_eq_true h)]; rfl
              · rw [if_neg h, if_neg (by rw [decide_eq_false h]; decide)]; rfl
            have hw1 : (if guess y sy p = wy then 1 else 0 : Nat) ≤ 1 := by split <;> decide
            generalize hwv : (if guess y sy p = wy then 1 else 0 : Nat) = wv at *
            refine rs_asgAt (step_at (g := .either x y n c) (s := .two sx sy cs) (p := p) (wv := wv) (M5.up V_ s6) ?_ h4' h5' (s6 _ _ ha5) hsp hh hc fun H7 s7 H8 e8 => ?_)
            · refine ek_op V_ (ek_op V_ (x := .k (.tup ks)) ?_ (ek_neg V_ (ek_int V_)) (rk_ix V_ e2)) (EvK.to (ek_op V_ (x := .k (.num 1)) (y := .k (.num (if decide (guess y sy p = wy) = true then (1 : Int) else 0))) (ek_int V_) (es_cb V_ (el_cons V_ (ek_op V_ (ek_var V_ rfl) (ek_int V_) (rk_ixLb V_ rfl)) (el_nil V_)) fun as e => by
                subst e
                exact cs_intB V_) (rk_addI V_)) (y := .k (.num ((1 + wv : Nat) : Int))) (by rw [ew]; rfl)) (rk_ix V_ (encC_at _ wv hw1))
              rw [← e1]
              exact ek_var V_ rfl
            have haz : H8 a = some (.lst (vints (behindC (.either x y n c) (.two sx sy cs) p wv))) := by
              rw [e8, upd_same]
              rfl
            have s1z : Same H1 H8 := by
              rw [e8]
              exact same_upd ((s15.trans s6).trans s7) ha0
            have hcz := el (behindC (.either x y n c) (.two sx sy cs) p wv) (by rw [if_pos (by simpa using hbb)])
            clear e8
            all_goals
              try dsimp only
              refine rs_at (es_lcRange1 V_ (n := 2) (S := fun i v => v = .k (if i = 0 then encS (learn x sx p wy) else encS (learn y sy p wy))) (S' := fun v => ∃ D, v = .lk D [encS (learn x sx p wy), encS (learn y sy p wy)]) (ek_int V_) (by show 10 < 11; decide) (by decide) (fun n v e => by subst e; trivial)
                (fun _ _ _ D _ => keeps_same D) (fun i hi => ?_) (fun D as vs H' hl hs hD hv => lk_two (fun v e => e) (fun v e => e) D as vs H' hl hs hD hv (by cases learn x sx p wy <;> exact ⟨_, rfl⟩)) _ _ (st5 s1z) _ fun vr9 dr9 H9 s9 kr9 hD9 => ?_)
              · have hi2 : i = 0 ∨ i = 1 := by omega
                rcases hi2 with rfl | rfl
                · rw [if_pos rfl]
                  exact ek_call V_ (as := [.k (encG x), .k (encS sx), .k (.num p), .k (.num wy)]) (el_cons V_ (ek_op V_ (ek_var V_ rfl) (ek_op V_ (ek_int V_) (ek_var V_ rfl) (rk_addI V_)) (rk_ix V_ rfl)) (by walk_at "el")) ⟨rfl, x, sx, p, wy, hw, hg.1, hs.1, d1, rfl, rfl⟩
                · rw [if_neg (by decide)]
                  exact ek_call V_ (as := [.k (encG y), .k (encS sy), .k (.num p), .k (.num wy)]) (el_cons V_ (ek_op V_ (ek_var V_ rfl) (ek_op V_ (ek_int V_) (ek_var V_ rfl) (rk_addI V_)) (rk_ix V_ rfl)) (by walk_at "el")) ⟨rfl, y, sy, p, wy, hw, hg.2.1, hs.2.1, d2, rfl, rfl⟩
              obtain ⟨D9, hD9⟩ := hD9
              subst hD9
              have s19 := s1z.trans s9
              have M9 := (st5 s19).set (i := 7) kr9
              have h49 : (σ5.set 7 (some vr9))[4]? = some (some (.ref a)) := by rw [List.getElem?_set_ne (by decide)]; exact h4'
              have haz9 := s9 _ _ haz
              generalize σ5.set 7 (some vr9) = σ9 at *
              refine rs_retSAt (tup3_at ?_)
              refine ev_at (R := Same) (a := .k (encS (learn x sx p wy))) ?_ M9 fun v1 H10 s10 k1 => ?_
              · exact ek_op V_ (ek_var V_ rfl) (ek_int V_) (rk_ixLk V_ rfl)
              refine ev_at (R := Same) (a := .k (encS (learn y sy p wy))) ?_ (M9.up V_ s10) fun v2 H11 s11 k2 => ?_
              · exact ek_op V_ (ek_var V_ rfl) (ek_int V_) (rk_ixLk V_ rfl)
              refine raw_tuple h49 (s11 _ _ (s10 _ _ haz9)) fun v3 H12 s12 k3 => ⟨(by show 3 ≤ sizeLine; decide), fun pt hpt => ?_⟩
              refine q _ _ _ (s19.trans (s10.trans (s11.trans (s12.trans (same_new hpt))))) (AAt.of (KAt.tup upd_same (.cons (KAt.up k1 (Ts.of (s11.trans (s12.trans (same_new hpt))))) (.cons (KAt.up k2 (Ts.of (s12.trans (same_new hpt)))) (.cons (k3.up (Ts.new hpt)) .nil))))) ?_
              rw [hcz]
              rfl
          | _ => exact hs.elim
      · cases g with
        | same x => walk_at "run"
        | _ => exact absurd rfl hn
end
end K49
set_option Elab.async false
set_option linter.all false
set_option maxRecDepth 100000
set_option maxHeartbeats 4000000
set_option autoImplicit false
/-! The law: events, all pairs. -/
namespace K49
open PySem PySem.Spec PyProof.Rows L2
local macro_rules | `(tactic| walk_at "rk") => `(tactic| first
  | exact rk_eqS ‹_› (by decide)
  | exact rk_ix ‹_› rfl
  | exact rk_inS2 ‹_› (by decide)
  | exact rk_ix ‹_› (at_nums (by assumption))
  | exact rk_modN ‹_› (by first | assumption | omega)
  | exact rk_addN ‹_›
  | exact rk_mul2 ‹_›
  | exact rk_addr1 ‹_›
  | exact rk_add1l ‹_›
  | exact rk_shl1 ‹_› (by omega)
  | exact rk_mulN ‹_› (by omega)
  | exact rk_shlN ‹_› (by omega) (by omega)
  | exact rk_addI ‹_›
  | exact rk_addT ‹_› (by first | decide | (simp only [List.length_append, List.length_cons, List.length_nil, List.length_take, List.length_drop] at *; omega))
  | exact rk_sub ‹_›
  | exact rk_neBl ‹_›
  | exact rk_eqI ‹_›
  | exact rk_neI ‹_›
  | exact rk_cmp ‹_›)
local macro_rules | `(tactic| walk_at "el") => `(tactic| first
  | exact el_nil ‹_›
  | (apply el_cons ‹_›; (focus walk_at "ek"); walk_at "el"))
local macro_rules | `(tactic| walk_at "eo") => `(tactic| first
  | exact eo_none ‹_›
  | (apply eo_some ‹_›; walk_at "ek"))
local macro_rules | `(tactic| walk_at "ek") => `(tactic| first
  | exact ek_var ‹_› rfl
  | exact ek_int ‹_›
  | exact ek_str ‹_›
  | exact ek_non ‹_›
  | exact ek_bl ‹_›
  | (apply ek_op ‹_›; (focus walk_at "ek"); (focus walk_at "ek"); walk_at "rk")
  | (apply ek_neg ‹_›; walk_at "ek")
  | (apply ek_slice ‹_›; (focus walk_at "ek"); (focus walk_at "eo"); walk_at "eo")
  | (apply ek_tup1 ‹_›; walk_at "ek")
  | (apply ek_tup2 ‹_›; (focus walk_at "ek"); walk_at "ek")
  | (apply ek_tup3 ‹_›; (focus walk_at "ek"); (focus walk_at "ek"); walk_at "ek"))
local macro_rules | `(tactic| walk_at "run") => `(tactic| first
  | (refine rs_ret ?_; walk_at "ek")
  | (refine rs_retS ?_; walk_at "ek")
  | (refine rs_yes ‹_› (eb_test ‹_› ?_) ?_; (focus walk_at "ek"); walk_at "run")
  | (refine rs_no ‹_› (eb_test ‹_› ?_) ?_; (focus walk_at "ek"); walk_at "run"))
theorem evs_at : ∀ (ps : List Nat) (k : Nat), (evsOf ps)[k]? = (ps[k / 2]?).map fun p => (p, k % 2)
  | [], k => by simp [evsOf]
  | p :: r, 0 => rfl
  | p :: r, 1 => rfl
  | p :: r, k + 2 => by
    have e : evsOf (p :: r) = (p, 0) :: (p, 1) :: evsOf r := rfl
    rw [e]
    have h1 : (k + 2) / 2 = k / 2 + 1 := by omega
    have h2 : (k + 2) % 2 = k % 2 := by omega
    rw [h1, h2]
    exact evs_at r k
section
variable {P : Program} {w : World} {K : PySem.W.Frag} {mg : Str → Option Value} {base : Heap}
theorem cal_levents (F : TD K mg "_law_events" s_l_law_events ["places"]) (B : Blt mg) : C8.Cal P w K mg base 1 "_law_events" (spEvents K) [] := by
  refine cal_sp F sc_l_law_events (fun vs H Q E h => ?_) fun f cdv A outer s H0 E0 hr => ⟨_, (pss_one (ps_ret (pe_lc (own := [("k", 1)]) (by rfl) sc_l_law_events.nd (pi_range1 (by rfl) B.range (pa_cons (pe_op op_mulU pe_int (pe_callB (cr_lenx rfl) (by rfl) B.len PySem.boot_len (pa_cons (pv 0) pa_nil))) pa_nil)) (blkOk_by (own := [("k", 1)]) (N := ["places", "k"]) (sc := defScope s_l_law_events) (by decide +kernel)) (fun _ _ _ _ _ => (pg_name (i := 1) sc_l_law_events.nd rfl (Or.inl rfl))) (fun _ _ _ _ _ => pts_nil) (fun _ _ _ _ _ => (pe_tup (pa_cons (pe_ix (ix_Ux (P := P) (w := w) (K := K) rfl rfl rfl hr.units) (pv 0) (pe_op op_fdiv (pv 1) pe_int) (fun _ _ => rfl)) (pa_cons (pe_op op_mod (pv 1) pe_int) pa_nil))))))), fun vs H Q E h => ?_⟩
  · obtain ⟨a, ps, rfl, _⟩ := h
    rfl
  · obtain ⟨a, ps, rfl, hS, hl, k⟩ := h
    have lm : (ps.map fun (p : Nat) => V.int (p : Int)).length = ps.length := List.length_map ..
    refine ⟨.ref a, rfl, a, _, rfl, .inl hS, .inl ⟨2, _, rfl, rfl, .inl ⟨by decide, by decide⟩, _, rfl, by rw [lm]; omega, by rw [lm]; omega, fun D hD => ?_⟩⟩
    have en : (2 * ((ps.map fun (p : Nat) => V.int (p : Int)).length : Int)).toNat = 2 * ps.length := by
      rw [lm]
      omega
    rw [en]
    refine lc_range (fun i H' => Same H H' ∧ ∃ ws, H' D = some (.lst ws) ∧ KAts H' (((evsOf ps).take i).map encE) ws) ⟨same_new hD, [], upd_same, .nil⟩ (fun i H' hi p => ⟨rfl, ?_⟩) fun H' p => ?_
    · obtain ⟨s1, ws, h1, h2⟩ := p
      rw [Int.zero_add]
      have hi2 : i / 2 < ps.length := by omega
      have hp : ps[i / 2]? = some ps[i / 2] := List.getElem?_eq_getElem hi2
      generalize ps[i / 2] = p at hp
      have e1 : (i : Int) / 2 = ((i / 2 : Nat) : Int) := by omega
      have e2 : (i : Int) % 2 = ((i % 2 : Nat) : Int) := by omega
      refine ⟨.ref a, rfl, .int i, rfl, ⟨i, 2, rfl, rfl, ⟨by decide, by decide⟩, .inl ⟨a, _, _, .int p, rfl, rfl, s1.seq hS, ?_, ?_⟩⟩⟩
      · rw [e1]
        exact atI_nat (by rw [List.getElem?_map, hp]; rfl)
      · refine ⟨.int i, rfl, ⟨i, 2, rfl, rfl, (by decide : (0 : Int) < 2), (by show 2 ≤ sizeLine; decide), fun pt hpt => ?_⟩⟩
        have hne : D ≠ pt := fun e => by
          subst e
          rw [h1] at hpt
          cases hpt
        have s2 : Same H' (upd H' pt (.tup [.int p, .int ((i : Int) % 2)])) := same_new hpt
        have l1 := h2.length
        rw [List.length_map, List.length_take, evs_len] at l1
        have hD2 := s2 _ _ h1
        refine ⟨ws, hD2, lt_line (by omega), same_upd (s1.trans s2) hD, _, upd_same, ?_⟩
        have ev : (evsOf ps)[i]? = some (p, i % 2) := by rw [evs_at, hp]; rfl
        have etk : (evsOf ps).take (i + 1) = (evsOf ps).take i ++ [(p, i % 2)] := by rw [List.take_add_one, ev]; rfl
        rw [etk, List.map_append]
        have t3 : Ts (upd H' pt (.tup [.int p, .int ((i : Int) % 2)])) (upd (upd H' pt (.tup [.int p, .int ((i : Int) % 2)])) D (.lst (ws ++ [.ref pt]))) := Ts.upd hD2 fun _ z => nomatch z
        have kp : KAt (upd H' pt (.tup [.int p, .int ((i : Int) % 2)])) (encE (p, i % 2)) (.ref pt) := by
          refine .tup upd_same (.cons (.num _) (.cons ?_ .nil))
          rw [e2]
          exact .num _
        exact (h2.up ((Ts.of s2).trans t3)).append (.cons (kp.up t3) .nil)
    · obtain ⟨s1, ws, h1, h2⟩ := p
      rw [List.take_of_length_le (by rw [evs_len]; omega)] at h2
      exact k D ws H' s1 hD h1 h2
theorem cal_lbehind (F : TD K mg "_law_behind" s_l_law_behind ["one", "other", "pair", "event"]) (c_l_law_learn : C8.Cal P w K mg base 8 "_law_learn" (spG (okLearn 3)) []) : C8.Cal P w K mg base 9 "_law_behind" (spG okPair) [] := by
  refine cal_of F sc_l_law_behind (fun as R S h => ?_) fun f cdv A outer s H E hr => ⟨_, (pss_cons (ps_asg (pv 3) (pg_tup rfl (pgs_cons (pg_name (i := 4) sc_l_law_behind.nd rfl (Or.inl rfl)) (pgs_cons (pg_name (i := 5) sc_l_law_behind.nd rfl (Or.inl rfl)) pgs_nil))))
      (pss_one (ps_ret (pe_tup (pa_cons (C8.pe_c c_l_law_learn hr (by first | decide | omega) (by rfl) (pa_cons (pv 0) (pa_cons (pe_ix (ix_U hr.units) (pv 2) pe_int (fun _ _ => rfl)) (pa_cons (pv 4) (pa_cons (pv 5) pa_nil))))) (pa_cons (C8.pe_c c_l_law_learn hr (by first | decide | omega) (by rfl) (pa_cons (pv 1) (pa_cons (pe_ix (ix_U hr.units) (pv 2) pe_int (fun _ _ => rfl)) (pa_cons (pv 4) (pa_cons (pv 5) pa_nil))))) pa_nil)))))), fun as R S h => ?_⟩
  · obtain ⟨_, one, other, pr, e, _, _, _, rfl, _⟩ := h
    rfl
  · obtain ⟨rfl, one, other, pr, e, hd, hp, he, rfl, rfl⟩ := h
    have V_ := evo_same
    refine rs_two V_ (x := .num e.1) (y := .num e.2) (ek_var V_ rfl) (rs_ret (ek_tup2 V_ ?_ ?_))
    · exact ek_call V_ (as := [.k (encG one), .k (encS pr.1), .k (.num e.1), .k (.num e.2)]) (by walk_at "el") ⟨rfl, one, pr.1, e.1, e.2, he, hd.ok1, hp.1, hd.d1, rfl, rfl⟩
    · exact ek_call V_ (as := [.k (encG other), .k (encS pr.2), .k (.num e.1), .k (.num e.2)]) (by walk_at "el") ⟨rfl, other, pr.2, e.1, e.2, he, hd.ok2, hp.2, hd.d2, rfl, rfl⟩
def spPairs (K : PySem.W.Frag) : Sp := fun vs H Q _ => ∃ x y a one other, ∃ ps : List Nat, vs = [x, y, .ref a, .int 60] ∧ KAt H (encG one) x ∧ KAt H (encG other) y ∧ SqL K H a (ps.map fun (p : Nat) => V.int (p : Int)) ∧ ps.length ≤ 100 ∧ Duo one other ∧
  ∀ v H', Same H H' → (v = .non ∨ (v ≠ .non ∧ ∃ L, Clo (gr one other (evsOf ps)) (start2 one other) L ∧ L.length ≤ 60)) → Q v H'
structure LpI (P : Program) (w : World) (one other : Gs) (evs : List Evt) (H0 H : Hp) (d l : Addr) (ks : List Pr) (f : Pr → Option Addr) (ws : List V) : Prop where
  same : Same H0 H
  dv : DV P w vA H d ks f
  ln : H l = some (.lst ws)
  ka : KAts H (ks.map encP) ws
  rk : ∀ p ∈ ks, (gr one other evs).Reach (start2 one other) p
  fls : ∀ p a, f p = some a → a ≠ l ∧ ∃ vs, H a = some (.lst vs) ∧ vs.length ≤ ks.length
  st : start2 one other ∈ ks
  dl : d ≠ l
  fd : H0 d = none
  fl : H0 l = none
theorem cal_lpairs (F : TD K mg "_law_pairs" s_l_law_pairs ["one", "other", "places", "most"]) (B : Blt mg) (c_l_law_begin : C8.Cal P w K mg base 4 "_law_begin" (spG (okFirst 3)) []) (c_l_law_events : C8.Cal P w K mg base 1 "_law_events" (spEvents K) [])
    (c_l_law_behind : C8.Cal P w K mg base 9 "_law_behind" (spG okPair) []) : C8.Cal P w K mg base 10 "_law_pairs" (spPairs K) [] := by
  refine cal_sp F sc_l_law_pairs (fun vs H Q E h => ?_) fun f0 cdv A outer s H0 E0 hr => ⟨_, (pss_cons (ps_set (i := 4) sc_l_law_pairs.nd rfl (Or.inl rfl) (pe_tup (pa_cons (C8.pe_c c_l_law_begin hr (by first | decide | omega) (by rfl) (pa_cons (pv 0) pa_nil)) (pa_cons (C8.pe_c c_l_law_begin hr (by first | decide | omega) (by rfl) (pa_cons (pv 1) pa_nil)) pa_nil))))
      (pss_cons (ps_set (i := 5) sc_l_law_pairs.nd rfl (Or.inl rfl) (pe_ndisp1 hr.units (pv 4) (pe_lst pa_nil)))
      (pss_cons (ps_set (i := 6) sc_l_law_pairs.nd rfl (Or.inl rfl) (pe_lst (pa_cons (pv 4) pa_nil)))
      (pss_cons (ps_set (i := 7) sc_l_law_pairs.nd rfl (Or.inl rfl) pe_int)
      (pss_cons (ps_while PassesOwn.never (pt_cmpR op_lt (pv 7) (pe_callB (cr_lenx rfl) (by rfl) B.len PySem.boot_len (pa_cons (pv 6) pa_nil)) (nomark _)) (pss_cons (ps_for PassesOwn.never rfl (pi_list (C8.pe_c c_l_law_events hr (by first | decide | omega) (by rfl) (pa_cons (pv 2) pa_nil))) (pg_name (i := 8) sc_l_law_pairs.nd rfl (Or.inl rfl)) (pss_cons (ps_set (i := 9) sc_l_law_pairs.nd rfl (Or.inl rfl) (C8.pe_c c_l_law_behind hr (by first | decide | omega) (by rfl) (pa_cons (pv 0) (pa_cons (pv 1) (pa_cons (pe_ix (ix_U hr.units) (pv 6) (pv 7) (fun _ _ => rfl)) (pa_cons (pv 8) pa_nil))))))
      (pss_one (ps_if (pt_cmpR (op_notInU hr.units) (pv 9) (pv 5) (by rfl)) (pss_cons (ps_asg (pe_op op_addU (pe_ix (ix_U hr.units) (pv 5) (pe_ix (ix_U hr.units) (pv 6) (pv 7) (fun _ _ => rfl)) (fun _ _ => rfl)) (pe_lst (pa_cons (pv 8) pa_nil))) (pg_sub (pv 5) (pv 9) (set_U hr.units)))
      (pss_one (ps_expr (pe_bm PySem.F.plainAttrs_list PySem.F.slot_list_append PySem.F.type_list_append mt_append (pv 6) (pa_cons (pv 9) pa_nil))))) pss_nil))))
      (pss_cons (ps_set (i := 7) sc_l_law_pairs.nd rfl (Or.inl rfl) (pe_op op_addU (pv 7) pe_int))
      (pss_one (ps_if (pt_cmpR op_gt (pe_callB (cr_lenx rfl) (by rfl) B.len PySem.boot_len (pa_cons (pv 6) pa_nil)) (pv 3) (nomark _)) (pss_one (ps_ret pe_non)) pss_nil)))))
      (pss_one (ps_ret (pv 5)))))))), fun vs H Q E h => ?_⟩
  · obtain ⟨x, y, a, one, other, ps, rfl, _⟩ := h
    rfl
  · obtain ⟨x, y, a, one, other, ps, rfl, kx, ky, ha, hl, T, k⟩ := h
    have hre : ∀ {p : Pr}, (gr one other (evsOf ps)).Reach (start2 one other) p → PrOk one other p := fun {p} h => h.closed ⟨first_ok T.ok1, first_ok T.ok2⟩ fun v e hv _ => pr_next T hv e _
    refine ⟨x, rfl, [.k (encG one)], Same, _, .cons (AAt.of kx) .nil, ⟨rfl, one, T.ok1, T.d1, rfl, rfl⟩, fun v1 dd1 H2 r2 k2 sd2 => ?_⟩
    subst sd2
    refine ⟨y, rfl, [.k (encG other)], Same, _, .cons (AAt.of (ky.up (Ts.of r2))) .nil, ⟨rfl, other, T.ok2, T.d2, rfl, rfl⟩, fun v2 dd2 H3 r3 k3 sd3 => ?_⟩
    subst sd3
    refine ⟨(by show 2 ≤ sizeLine; decide), fun p hp => ?_⟩
    have s2 : Same H (upd H3 p (.tup [v1, v2])) := (r2.trans r3).trans (same_new hp)
    have k2' : KAt H2 (encS (first one)) v1 := k2
    have k3' : KAt H3 (encS (first other)) v2 := k3
    have k0 : KAt (upd H3 p (.tup [v1, v2])) (encP (start2 one other)) (.ref p) := KAt.tup upd_same (.cons ((k2'.up (Ts.of r3)).up (Ts.new hp)) (.cons (k3'.up (Ts.new hp)) .nil))
    generalize upd H3 p (.tup [v1, v2]) = H4 at *
    have dep0 := pr_depth T (hre (.base (g := gr one other (evsOf ps)) (s := start2 one other)))
    refine fun d H5 hd sa h0 => ⟨.ref p, rfl, (by show 0 ≤ sizeLine; decide), fun a0 ha0 => DV.disp mon_vA (b := a0) (h0.same (same_new ha0)) ((k0.up (Ts.of sa)).up (Ts.new ha0)) dep0 rfl fun H6 t6 eφ dv6 => ?_⟩
    obtain ⟨φ, rfl⟩ := eφ
    have s5 : Same H H5 := s2.trans sa
    have hda0 : d ≠ a0 := fun e => by
      subst e
      obtain ⟨_, z⟩ := h0.obj
      rw [z] at ha0
      cases ha0
    have s6 : Same H4 (upd (upd H5 a0 (.lst [])) d (.ext φ)) := same_upd (sa.trans (same_new ha0)) hd
    have h6a : (upd (upd H5 a0 (.lst [])) d (.ext φ)) a0 = some (.lst []) := by rw [upd_ne (Ne.symm hda0), upd_same]
    have fd : H d = none := none_of_same s2 hd
    have k6 := k0.up (Ts.of s6)
    generalize (upd (upd H5 a0 (.lst [])) d (.ext φ)) = H6 at *
    refine ⟨.ref p, rfl, (by show 1 ≤ sizeLine; decide), fun l hln => ?_⟩
    have fl : H l = none := none_of_same (s2.trans s6) hln
    have hdl : d ≠ l := fun e => by
      subst e
      obtain ⟨_, z⟩ := dv6.obj
      rw [z] at hln
      cases hln
    have hal : a0 ≠ l := fun e => by
      subst e
      rw [h6a] at hln
      cases hln
    have s7 : Same H6 (upd H6 l (.lst [.ref p])) := same_new hln
    have fl0 : ∀ q b, put (fun _ => none) (start2 one other) a0 q = some b → b ≠ l ∧ ∃ vs, (upd H6 l (.lst [.ref p])) b = some (.lst vs) ∧ vs.length ≤ [start2 one other].length := fun q b e => by
      by_cases z : q = start2 one other
      · subst z
        rw [put_same] at e
        cases e
        exact ⟨hal, [], s7 _ _ h6a, Nat.zero_le _⟩
      · rw [put_ne _ _ z] at e
        cases e
    have I0 : LpI P w one other (evsOf ps) H (upd H6 l (.lst [.ref p])) d l [start2 one other] (put (fun _ => none) (start2 one other) a0) [.ref p] :=
      ⟨s2.trans (s6.trans s7), dv6.same mon_vA s7, upd_same, .cons (k6.up (Ts.of s7)) .nil, fun q hq => (by rw [List.mem_singleton.mp hq]; exact .base), fl0, List.mem_singleton.mpr rfl, hdl, fd, fl⟩
    refine ⟨fun m σ H' => ∃ at_ ks f ws e1 e2, σ = [some x, some y, some (.ref a), some (.int 60), some (.ref p), some (.ref d), some (.ref l), some (.int (at_ : Nat)), e1, e2] ∧ m = 61 - at_ ∧ at_ ≤ ks.length ∧ ks.length ≤ 60 ∧ LpI P w one other (evsOf ps) H H' d l ks f ws ∧ ∀ q ∈ ks.take at_, ∀ e ∈ evsOf ps, f ((gr one other (evsOf ps)).nxt q e) ≠ none,
      ⟨61, 0, _, _, _, _, _, rfl, rfl, Nat.zero_le _, (by show 1 ≤ 60; decide), I0, fun q hq => (nomatch hq)⟩, ?_⟩
    rintro m σ H' ⟨at_, ks, f, ws, e1, e2, rfl, rfl, hat, h60, I, hcl⟩
    have lw : ws.length = ks.length := by rw [I.ka.length, List.length_map]
    refine ⟨.int at_, rfl, .ref l, rfl, l, ws, rfl, .inl (SqL.of I.ln), at_, ws.length, rfl, rfl, _, rfl, ?_⟩
    by_cases hlt : at_ < ks.length
    · have eb : decide ((at_ : Int) < (ws.length : Int)) = true := decide_eq_true (by omega)
      rw [eb]
      refine ⟨_, fun _ _ h => h, ?_⟩
      have hu : ks[at_]? = some ks[at_] := List.getElem?_eq_getElem hlt
      generalize ks[at_] = u at hu
      refine ⟨.ref a, rfl, a, ps, rfl, I.same.seq ha, by omega, fun Le wse H8 s8 hLe hLe2 kae => ?_⟩
      have hLd : Le ≠ d := fun e => by
        subst e
        obtain ⟨_, z⟩ := I.dv.obj
        rw [z] at hLe
        cases hLe
      have hLl : Le ≠ l := fun e => by
        subst e
        rw [I.ln] at hLe
        cases hLe
      have lE := kae.length
      rw [List.length_map, evs_len] at lE
      refine ⟨Le, rfl, ⟨wse, SqL.of hLe2⟩, for_list (K := K) (a := Le) (xs := wse) (fun i σ H9 => ∃ ks9 f9 ws9 e1 e2, σ = [some x, some y, some (.ref a), some (.int 60), some (.ref p), some (.ref d), some (.ref l), some (.int (at_ : Nat)), e1, e2] ∧ ks9[at_]? = some u ∧ ks9.take at_ = ks.take at_ ∧ ks9.length ≤ ks.length + i ∧
          LpI P w one other (evsOf ps) H H9 d l ks9 f9 ws9 ∧ (∀ q ∈ ks9.take at_, ∀ e ∈ evsOf ps, f9 ((gr one other (evsOf ps)).nxt q e) ≠ none) ∧ (∀ e ∈ (evsOf ps).take i, f9 ((gr one other (evsOf ps)).nxt u e) ≠ none) ∧ H9 Le = some (.lst wse) ∧ Ts H8 H9)
        ⟨ks, f, ws, _, _, rfl, hu, rfl, Nat.le_refl _, ⟨I.same.trans s8, I.dv.same mon_vA s8, s8 _ _ I.ln, I.ka.up (Ts.of s8), I.rk, fun q b e => let ⟨z1, vs, z2, z3⟩ := I.fls q b e; ⟨z1, vs, s8 _ _ z2, z3⟩, I.st, I.dl, I.fd, I.fl⟩, hcl, fun e he => (nomatch he), hLe2, Ts.refl _⟩ (fun i σ H9 _ ⟨_, _, _, _, _, _, _, _, _, _, _, _, z, _⟩ => SqL.of z) ?_ ?_⟩
      · rintro j xe σ H9 hj ⟨ks9, f9, ws9, e1, e2, rfl, hu9, htk, hlen9, I9, hc1, hc2, hLe9, t9⟩
        obtain ⟨kk, hkk, kx0⟩ := kae.getV hj
        rw [List.getElem?_map] at hkk
        cases hev : (evsOf ps)[j]? with
        | none => rw [hev] at hkk; cases hkk
        | some ev =>
        rw [hev] at hkk
        have ekk : encE ev = kk := Option.some.inj hkk
        subst ekk
        have hem : ev ∈ evsOf ps := List.mem_of_getElem? hev
        have kxe := kx0.up t9
        have hj2 : j < 200 := by
          have := (List.getElem?_eq_some_iff.mp hj).1
          omega
        have lw9 : ws9.length = ks9.length := by rw [I9.ka.length, List.length_map]
        have huk : (ks9.map encP)[at_]? = some (encP u) := by rw [List.getElem?_map, hu9]; rfl
        have ru := I9.rk u (List.mem_of_getElem? hu9)
        have rn := Gr.Reach.step ru hem
        have depn := pr_depth T (hre rn)
        refine ⟨x, rfl, y, rfl, .ref l, rfl, .int at_, rfl, ix_lst I9.ln I9.ka huk fun yu hyu kyu => ?_⟩
        refine ⟨xe, rfl, [.k (encG one), .k (encG other), .k (encP u), .k (encE ev)], Same, _, .cons (AAt.of (kx.up (Ts.of I9.same))) (.cons (AAt.of (ky.up (Ts.of I9.same))) (.cons (AAt.of kyu) (.cons (AAt.of kxe) .nil))), ⟨rfl, one, other, u, ev, T, hre ru, okEv_of hem, rfl, rfl⟩, fun vt dd3 H10 s10 kt sd => ?_⟩
        subst sd
        have kt' : KAt H10 (encP ((gr one other (evsOf ps)).nxt u ev)) vt := kt
        have dv10 := I9.dv.same mon_vA s10
        have t10 := t9.trans (Ts.of s10)
        refine ⟨vt, rfl, .ref d, rfl, dv10.has kt' depn ⟨_, rfl, ?_⟩⟩
        have etake : (evsOf ps).take (j + 1) = (evsOf ps).take j ++ [ev] := by rw [List.take_add_one, hev]; rfl
        have at3 : at_ < ks9.length := (List.getElem?_eq_some_iff.mp hu9).1
        cases hW : f9 ((gr one other (evsOf ps)).nxt u ev) with
        | some o =>
          refine ⟨ks9, f9, ws9, _, _, rfl, hu9, htk, by omega, ⟨I9.same.trans s10, dv10, s10 _ _ I9.ln, I9.ka.up (Ts.of s10), I9.rk, fun q b e => let ⟨z1, vs, z2, z3⟩ := I9.fls q b e; ⟨z1, vs, s10 _ _ z2, z3⟩, I9.st, I9.dl, I9.fd, I9.fl⟩, hc1, fun e he => ?_, s10 _ _ hLe9, t10⟩
          rw [etake] at he
          rcases List.mem_append.mp he with h | h
          · exact hc2 e h
          · rw [List.mem_singleton.mp h, hW]
            simp
        | none =>
          have hfu : f9 u ≠ none := (I9.dv.keys u).mp (List.mem_of_getElem? hu9)
          obtain ⟨au, hau⟩ := Option.ne_none_iff_exists'.mp hfu
          obtain ⟨hal9, vsu, hvu, lvu⟩ := I9.fls u au hau
          have hvu10 := s10 _ _ hvu
          refine ⟨.ref d, rfl, .ref l, rfl, .int at_, rfl, ix_lst (s10 _ _ I9.ln) (I9.ka.up (Ts.of s10)) huk fun yu2 hyu2 kyu2 => dv10.at_ kyu2 hau fun x2 hx2 => ?_⟩
          have hx2' : x2 = .ref au := hx2
          subst hx2'
          refine ⟨xe, rfl, (by show 1 ≤ sizeLine; decide), fun p1 hp1 => ?_⟩
          have s11 : Same H10 (upd H10 p1 (.lst [xe])) := same_new hp1
          refine .inr (.inr ⟨au, p1, vsu, [xe], rfl, rfl, s11 _ _ hvu10, upd_same, le_line (by show vsu.length + 1 ≤ _; omega), fun p2 hp2 => ?_⟩)
          have s12 : Same (upd H10 p1 (.lst [xe])) (upd (upd H10 p1 (.lst [xe])) p2 (.lst (vsu ++ [xe]))) := same_new hp2
          have s92 := s10.trans (s11.trans s12)
          have hp2n : (upd (upd H10 p1 (.lst [xe])) p2 (.lst (vsu ++ [xe]))) p2 = some (.lst (vsu ++ [xe])) := upd_same
          have p2d : p2 ≠ d := fun e => by
            subst e
            obtain ⟨_, z⟩ := dv10.obj
            rw [s11 _ _ z] at hp2
            cases hp2
          have p2l : p2 ≠ l := fun e => by
            subst e
            rw [s11 _ _ (s10 _ _ I9.ln)] at hp2
            cases hp2
          have kt2 := (kt'.up (Ts.of s11)).up (Ts.of s12)
          generalize (upd (upd H10 p1 (.lst [xe])) p2 (.lst (vsu ++ [xe]))) = H12 at *
          have dv12 := I9.dv.same mon_vA s92
          refine ⟨.ref d, rfl, vt, rfl, dv12.set mon_vA (b := p2) kt2 depn (by omega) rfl fun H13 t13 eφ dv13 => ?_⟩
          obtain ⟨φ13, rfl⟩ := eφ
          have hnk : (gr one other (evsOf ps)).nxt u ev ∉ ks9 := fun z => ((I9.dv.keys _).mp z) hW
          rw [show addk ks9 ((gr one other (evsOf ps)).nxt u ev) = ks9 ++ [(gr one other (evsOf ps)).nxt u ev] from if_neg hnk] at dv13
          have hl13 : (upd H12 d (.ext φ13)) l = some (.lst ws9) := by
            rw [upd_ne (Ne.symm I9.dl)]
            exact s92 _ _ I9.ln
          refine ⟨.ref l, rfl, .inl ⟨rfl, _, SqL.of hl13⟩, vt, rfl, l, ws9, vt, rfl, rfl, hl13, lt_line (by omega), ?_⟩
          have t14 : Ts (upd H12 d (.ext φ13)) (upd (upd H12 d (.ext φ13)) l (.lst (ws9 ++ [vt]))) := Ts.upd hl13 fun _ z => nomatch z
          have tall := (Ts.of s92).trans (t13.trans t14)
          have lapp : (ks9 ++ [(gr one other (evsOf ps)).nxt u ev]).length = ks9.length + 1 := List.length_append
          refine ⟨_, _, _, _, _, rfl, ?_, ?_, by rw [lapp]; omega, ⟨same_upd (same_upd (I9.same.trans s92) I9.fd) I9.fl, dv13.other mon_vA hl13 (fun _ z => nomatch z) I9.dl, upd_same, ?_, fun q hq => ?_, fun q b e => ?_, List.mem_append.mpr (.inl I9.st), I9.dl, I9.fd, I9.fl⟩, fun q hq e he => ?_, fun e he => ?_, ?_, t9.trans tall⟩
          · rw [List.getElem?_append_left at3]; exact hu9
          · rw [List.take_append_of_le_length (Nat.le_of_lt at3)]; exact htk
          · rw [List.map_append]
            exact (I9.ka.up tall).append (.cons (kt2.up (t13.trans t14)) .nil)
          · rcases List.mem_append.mp hq with z | z
            · exact I9.rk q z
            · rw [List.mem_singleton.mp z]; exact rn
          · by_cases z : q = (gr one other (evsOf ps)).nxt u ev
            · subst z
              rw [put_same] at e
              cases e
              refine ⟨p2l, _, (by rw [upd_ne p2l, upd_ne p2d]; exact hp2n), ?_⟩
              rw [List.length_append, lapp]
              show vsu.length + 1 ≤ _
              omega
            · rw [put_ne _ _ z] at e
              obtain ⟨z1, vs, z2, z3⟩ := I9.fls q b e
              refine ⟨z1, vs, ?_, by rw [lapp]; omega⟩
              rw [upd_ne z1, upd_ne (fun e => by
                subst e
                obtain ⟨_, z⟩ := I9.dv.obj
                rw [z] at z2
                cases z2)]
              exact s92 _ _ z2
          · rw [List.take_append_of_le_length (Nat.le_of_lt at3)] at hq
            by_cases z : (gr one other (evsOf ps)).nxt q e = (gr one other (evsOf ps)).nxt u ev
            · rw [z, put_same]; simp
            · rw [put_ne _ _ z]; exact hc1 q hq e he
          · by_cases z : (gr one other (evsOf ps)).nxt u e = (gr one other (evsOf ps)).nxt u ev
            · rw [z, put_same]; simp
            · rw [put_ne _ _ z]
              rw [etake] at he
              rcases List.mem_append.mp he with h | h
              · exact hc2 e h
              · rw [List.mem_singleton.mp h] at z
                exact absurd rfl z
          · rw [upd_ne hLl, upd_ne hLd]
            exact s92 _ _ hLe9
      · rintro σ H9 ⟨ks9, f9, ws9, e1, e2, rfl, hu9, htk, hlen9, I9, hc1, hc2, hLe9, t9⟩
        rw [List.take_of_length_le (by rw [evs_len]; omega)] at hc2
        have at3 : at_ < ks9.length := (List.getElem?_eq_some_iff.mp hu9).1
        have lw9 : ws9.length = ks9.length := by rw [I9.ka.length, List.length_map]
        refine ⟨_, rfl, .inl ⟨at_, 1, rfl, rfl, ?_⟩⟩
        refine ⟨.ref l, rfl, l, ws9, rfl, .inl (SqL.of I9.ln), .int 60, rfl, ws9.length, 60, rfl, rfl, _, rfl, ?_⟩
        by_cases h61 : (60 : Int) < (ws9.length : Int)
        · rw [decide_eq_true h61]
          exact k .non H9 I9.same (.inl rfl)
        · rw [decide_eq_false h61]
          refine ⟨61 - (at_ + 1), by omega, at_ + 1, ks9, f9, ws9, _, _, rfl, rfl, at3, by omega, I9, fun q hq e he => ?_⟩
          rw [List.take_add_one, hu9] at hq
          rcases List.mem_append.mp hq with h | h
          · exact hc1 q h e he
          · rw [List.mem_singleton.mp h]
            exact hc2 e he
    · have eb : decide ((at_ : Int) < (ws.length : Int)) = false := decide_eq_false (by omega)
      rw [eb]
      refine ⟨.ref d, rfl, k (.ref d) H' I.same (.inr ⟨(fun z => (nomatch z)), ks, ⟨I.st, fun v e hv he => ?_⟩, h60⟩)⟩
      rw [List.take_of_length_le (by omega)] at hcl
      exact (I.dv.keys _).mpr (hcl v hv e he)
end
end K49
set_option Elab.async false
set_option linter.all false
set_option maxRecDepth 100000
set_option maxHeartbeats 4000000
set_option autoImplicit false
/-! The law: runs as patterns, differences, the question. -/
namespace K49
open PySem PySem.Spec PyProof.Rows L2
local macro_rules | `(tactic| walk_at "rk") => `(tactic| first
  | exact rk_eqS ‹_› (by decide)
  | exact rk_ix ‹_› rfl
  | exact rk_inS2 ‹_› (by decide)
  | exact rk_ix ‹_› (at_nums (by assumption))
  | exact rk_modN ‹_› (by first | assumption | omega)
  | exact rk_addN ‹_›
  | exact rk_mul2 ‹_›
  | exact rk_addr1 ‹_›
  | exact rk_add1l ‹_›
  | exact rk_shl1 ‹_› (by omega)
  | exact rk_mulN ‹_› (by omega)
  | exact rk_shlN ‹_› (by omega) (by omega)
  | exact rk_addI ‹_›
  | exact rk_addT ‹_› (by first | decide | (simp only [List.length_append, List.length_cons, List.length_nil, List.length_take, List.length_drop] at *; omega))
  | exact rk_sub ‹_›
  | exact rk_neBl ‹_›
  | exact rk_eqI ‹_›
  | exact rk_neI ‹_›
  | exact rk_cmp ‹_›)
local macro_rules | `(tactic| walk_at "el") => `(tactic| first
  | exact el_nil ‹_›
  | (apply el_cons ‹_›; (focus walk_at "ek"); walk_at "el"))
local macro_rules | `(tactic| walk_at "eo") => `(tactic| first
  | exact eo_none ‹_›
  | (apply eo_some ‹_›; walk_at "ek"))
local macro_rules | `(tactic| walk_at "ek") => `(tactic| first
  | exact ek_var ‹_› rfl
  | exact ek_int ‹_›
  | exact ek_str ‹_›
  | exact ek_non ‹_›
  | exact ek_bl ‹_›
  | (apply ek_op ‹_›; (focus walk_at "ek"); (focus walk_at "ek"); walk_at "rk")
  | (apply ek_neg ‹_›; walk_at "ek")
  | (apply ek_slice ‹_›; (focus walk_at "ek"); (focus walk_at "eo"); walk_at "eo")
  | (apply ek_tup1 ‹_›; walk_at "ek")
  | (apply ek_tup2 ‹_›; (focus walk_at "ek"); walk_at "ek")
  | (apply ek_tup3 ‹_›; (focus walk_at "ek"); (focus walk_at "ek"); walk_at "ek"))
local macro_rules | `(tactic| walk_at "run") => `(tactic| first
  | (refine rs_ret ?_; walk_at "ek")
  | (refine rs_retS ?_; walk_at "ek")
  | (refine rs_yes ‹_› (eb_test ‹_› ?_) ?_; (focus walk_at "ek"); walk_at "run")
  | (refine rs_no ‹_› (eb_test ‹_› ?_) ?_; (focus walk_at "ek"); walk_at "run"))
theorem rgc8 : ∀ n : Nat, n ≤ 60 → RgC 0 (n : Int) 8 ((n + 7) / 8) := by
  have h : ∀ n : Fin 61, Builtin.Range.small 0 ((n.val : Nat) : Int) 8 = true ∧ Builtin.Range.rangeSize 0 ((n.val : Nat) : Int) 8 = (((n.val + 7) / 8 : Nat) : Int) := by decide +kernel
  intro n hn
  obtain ⟨h1, h2⟩ := h ⟨n, by omega⟩
  exact ⟨by decide, by decide, h1, h2⟩
theorem lc_itc {lo c : Int} {n : Nat} {g : TG} {tt : TT} {te : TE} {vs : List Nat} {σ : L2.St} {H1 : Hp} {D : Addr} {Qd : Hp → Prop} (Pv : Nat → Hp → Prop) (h0 : Pv 0 (upd H1 D (.lst [])))
    (hs : ∀ i H, i < n → Pv i H → g (.int (lo + (i : Nat) * c)) (wipe σ vs) H fun σ2 H2 => wipe σ2 vs = wipe σ vs ∧ tt σ2 H2 fun b H3 =>
      if b = true then te σ2 H3 fun y H4 => ∃ acc, H4 D = some (.lst acc) ∧ acc.length < sizeLine ∧ Pv (i + 1) (upd H4 D (.lst (acc ++ [y]))) else Pv (i + 1) H3) (hd : ∀ H, Pv n H → Qd H) :
    ∃ W : Nat → Nat → Hp → Prop, (∃ m, W 0 m (upd H1 D (.lst []))) ∧ ∀ i m H, W i m H →
      ((Itc lo c n).stop i H ∧ Qd H) ∨ ((Itc lo c n).go i H ∧ ∃ Nx : Hp → Prop, (∀ H', Nx H' → ∃ m', m' < m ∧ W (i + 1) m' H') ∧ ∀ x H', (Itc lo c n).yld i H x H' → g x (wipe σ vs) H' fun σ2 H2 => wipe σ2 vs = wipe σ vs ∧ tt σ2 H2 fun b H3 =>
        if b = true then te σ2 H3 fun y H4 => ∃ acc, H4 D = some (.lst acc) ∧ acc.length < sizeLine ∧ Nx (upd H4 D (.lst (acc ++ [y]))) else Nx H3) := by
  refine ⟨fun i m H => m = n - i ∧ i ≤ n ∧ Pv i H, ⟨n, by simp, Nat.zero_le _, h0⟩, ?_⟩
  rintro i m H ⟨rfl, hi, p⟩
  by_cases hlt : i < n
  · refine .inr ⟨hlt, Pv (i + 1), fun H' p' => ⟨n - (i + 1), by omega, rfl, hlt, p'⟩, fun x H' y => ?_⟩
    obtain ⟨e, y⟩ := y
    subst e
    subst y
    exact hs i _ hlt p
  · have e : i = n := by omega
    subst e
    exact .inl ⟨Nat.le_refl _, hd H p⟩
def rowsOf (qs : List Pt) (i : Nat) : List Pt := (List.range i).map fun j => Pt.row ((qs.drop (8 * j)).take 8)
theorem rowsOf_succ (qs : List Pt) (i : Nat) : rowsOf qs (i + 1) = rowsOf qs i ++ [Pt.row ((qs.drop (8 * i)).take 8)] := by
  unfold rowsOf
  rw [List.range_succ, List.map_append]
  rfl
theorem flats_app (a b : List Pt) : flats (a ++ b) = flats a ++ flats b := by rw [flats_flat, flats_flat, flats_flat, List.flatMap_append]
theorem flats_rows (qs : List Pt) : ∀ i : Nat, flats (rowsOf qs i) = flats (qs.take (8 * i))
  | 0 => rfl
  | i + 1 => by
    rw [rowsOf_succ, flats_app, flats_rows qs i, show 8 * (i + 1) = 8 * i + 8 by omega, List.take_add, flats_app]
    congr 1
    show flat (Pt.row ((qs.drop (8 * i)).take 8)) ++ [] = _
    rw [List.append_nil]
    rfl
theorem rowsOf_length (qs : List Pt) (i : Nat) : (rowsOf qs i).length = i := by
  unfold rowsOf
  rw [List.length_map, List.length_range]
theorem pdeeps_of {l : List Pt} {n : Nat} (h : ∀ p ∈ l, pdeep p ≤ n) : pdeeps l ≤ n := by
  induction l with
  | nil => exact Nat.zero_le _
  | cons p r ih =>
    rw [pdeeps]
    exact Nat.max_le.mpr ⟨h p List.mem_cons_self, ih fun q hq => h q (List.mem_cons_of_mem _ hq)⟩
theorem rowsOf_deep {qs : List Pt} {n i : Nat} (h : ∀ p ∈ qs, pdeep p ≤ n) : ∀ p ∈ rowsOf qs i, pdeep p ≤ n + 1 := fun p hp => by
  obtain ⟨j, _, e⟩ := List.mem_map.mp hp
  subst e
  show 1 + pdeeps _ ≤ n + 1
  have := pdeeps_of (l := (qs.drop (8 * j)).take 8) (n := n) fun p hp => h p (List.mem_of_mem_drop (List.mem_of_mem_take hp))
  omega
section
variable {P : Program} {w : World} {K : PySem.W.Frag} {mg : Str → Option Value} {base : Heap}
def spPat : Sp := fun vs H Q _ => ∃ a ws, ∃ run : List Evt, vs = [.ref a] ∧ H a = some (.lst ws) ∧ KAts H (run.map encE) ws ∧ run.length ≤ 60 ∧ ∀ v p H', Same H H' → KAt H' (encPt p) v → flat p = run → pdeep p ≤ 5 → Q v H'
theorem cal_lpattern (F : TD K mg "_law_pattern" s_l_law_pattern ["run"]) (B : Blt mg) : C8.Cal P w K mg base 1 "_law_pattern" spPat [] := by
  refine cal_sp F sc_l_law_pattern (fun vs H Q E h => ?_) fun f cdv A outer s H0 E0 hr => ⟨_, (pss_cons (ps_set (i := 1) sc_l_law_pattern.nd rfl (Or.inr rfl) (by refine pe_lc (g := (gTup K 2 (gCons (gName 2) (gCons (gName 3) gNil)))) (own := [("place", 2), ("way", 3)]) (by rfl) sc_l_law_pattern.nd (pi_list (pv 0)) (blkOk_by (own := [("place", 2), ("way", 3)]) (N := ["run", "parts", "place", "way", "k"]) (sc := defScope s_l_law_pattern) (by decide +kernel)) ?_ (fun _ _ _ _ _ => pts_nil) (fun _ _ _ _ _ => (pe_tup (pa_cons pe_str (pa_cons (pv 2) (pa_cons (pv 3) pa_nil))))); intro _ _ _ _ _; exact (pg_tup rfl (pgs_cons (pg_name (i := 2) sc_l_law_pattern.nd rfl (Or.inl rfl)) (pgs_cons (pg_name (i := 3) sc_l_law_pattern.nd rfl (Or.inl rfl)) pgs_nil)))))
      (pss_cons (ps_while PassesOwn.never (pt_cmpR op_gt (pe_callB (cr_lenx rfl) (by rfl) B.len PySem.boot_len (pa_cons (pv 1) pa_nil)) pe_int (nomark _)) (pss_one (ps_set (i := 1) sc_l_law_pattern.nd rfl (Or.inr rfl) (pe_lc (own := [("k", 4)]) (by rfl) sc_l_law_pattern.nd (pi_range3 (by rfl) B.range (pa_cons pe_int (pa_cons (pe_callB (cr_lenx rfl) (by rfl) B.len PySem.boot_len (pa_cons (pv 1) pa_nil)) (pa_cons pe_int pa_nil)))) (blkOk_by (own := [("k", 4)]) (N := ["run", "parts", "place", "way", "k"]) (sc := defScope s_l_law_pattern) (by decide +kernel)) (fun _ _ _ _ _ => (pg_name (i := 4) sc_l_law_pattern.nd rfl (Or.inl rfl))) (fun _ _ _ _ _ => pts_nil) (fun _ _ _ _ _ => (pe_tup (pa_cons pe_str (pa_cons (pe_callTy (cr_tuplex (K := K) rfl) (by rfl) B.tuple (by decide +kernel) (pa_cons (pe_slice (sl_Ux (K := K) rfl) (pv 1) (po_some (pv 4)) (po_some (pe_op (op_addUx (K := K) rfl) (pv 4) pe_int))) pa_nil)) pa_nil))))))))
      (pss_one (ps_ret (pe_ix (ix_U hr.units) (pe_op op_addU (pv 1) (pe_lst (pa_cons (pe_tup (pa_cons pe_str (pa_cons (pe_tup pa_nil) pa_nil))) pa_nil))) pe_int (fun _ _ => rfl)))))), fun vs H Q E h => ?_⟩
  · obtain ⟨a, ws, run, rfl, _⟩ := h
    rfl
  · obtain ⟨a, ws, run, rfl, ha, ka, hl, k⟩ := h
    have lw := ka.length
    rw [List.length_map] at lw
    refine ⟨.ref a, rfl, a, rfl, ⟨ws, SqL.of ha⟩, fun D hD => ?_⟩
    refine lc_list (K := K) (a := a) (xs := ws) (fun i H' => Same H H' ∧ ∃ acc, H' D = some (.lst acc) ∧ KAts H' (((run.take i).map Pt.way).map encPt) acc) ⟨same_new hD, [], upd_same, .nil⟩ (fun i H' _ p => SqL.of (p.1 _ _ ha)) ?_ ?_
    · rintro i x H' hi ⟨s1, acc, h1, h2⟩
      obtain ⟨kk, hkk, kx⟩ := ka.getV hi
      rw [List.getElem?_map] at hkk
      cases he : run[i]? with
      | none => rw [he] at hkk; cases hkk
      | some ev =>
      rw [he] at hkk
      have ekk : encE ev = kk := Option.some.inj hkk
      subst ekk
      have hir := (List.getElem?_eq_some_iff.mp he).1
      have kx' := kx.up (Ts.of s1)
      unfold encE at kx'
      cases kx' with
      | @tup b zs _ g1 g2 =>
      cases g2 with
      | @cons _ z1 _ _ g3 g4 =>
      cases g4 with
      | @cons _ z2 _ _ g5 g6 =>
      cases g6
      refine ⟨b, _, rfl, SqT.of g1, rfl, _, _, rfl, _, _, rfl, rfl, rfl, z1, rfl, z2, rfl, (by show 3 ≤ sizeLine; decide), fun pt hpt => ?_⟩
      have hne : D ≠ pt := fun e => by
        subst e
        rw [h1] at hpt
        cases hpt
      have s2 : Same H' (upd H' pt (.tup [.str "way", z1, z2])) := same_new hpt
      have l1 := h2.length
      rw [List.length_map, List.length_map, List.length_take] at l1
      have hD2 := s2 _ _ h1
      refine ⟨acc, hD2, lt_line (by omega), same_upd (s1.trans s2) hD, _, upd_same, ?_⟩
      have etk : run.take (i + 1) = run.take i ++ [ev] := by rw [List.take_add_one, he]; rfl
      rw [etk, List.map_append, List.map_append]
      have t3 : Ts (upd H' pt (.tup [.str "way", z1, z2])) (upd (upd H' pt (.tup [.str "way", z1, z2])) D (.lst (acc ++ [.ref pt]))) := Ts.upd hD2 fun _ z => nomatch z
      have kp : KAt (upd H' pt (.tup [.str "way", z1, z2])) (encPt (.way ev)) (.ref pt) := .tup upd_same (.cons (.text _) (.cons (g3.up (Ts.of s2)) (.cons (g5.up (Ts.of s2)) .nil)))
      exact (h2.up ((Ts.of s2).trans t3)).append (.cons (kp.up t3) .nil)
    · rintro H' ⟨s1, acc, h1, h2⟩
      rw [lw, List.take_length] at h2
      refine ⟨fun m σ H4 => ∃ D qs acc, σ = [some (.ref a), some (.ref D), none, none, none] ∧ m = qs.length ∧ Same H H4 ∧ H4 D = some (.lst acc) ∧ KAts H4 (qs.map encPt) acc ∧ flats qs = run ∧ ((qs.length ≤ 60 ∧ ∀ p ∈ qs, pdeep p ≤ 1) ∨ (qs.length ≤ 8 ∧ ∀ p ∈ qs, pdeep p ≤ 2) ∨ (qs.length ≤ 1 ∧ ∀ p ∈ qs, pdeep p ≤ 3)),
        ⟨_, D, run.map Pt.way, acc, rfl, rfl, s1, h1, h2, ?_, .inl ⟨by rw [List.length_map]; exact hl, fun p hp => ?_⟩⟩, ?_⟩
      · rw [flats_flat]
        clear h2 ka lw hl k
        induction run with
        | nil => rfl
        | cons e r ih => rw [List.map_cons, List.flatMap_cons, ih]; rfl
      · obtain ⟨e, _, rfl⟩ := List.mem_map.mp hp
        exact Nat.le_refl _
      clear h1 h2 s1 acc hD D
      rintro m σ H4 ⟨D, qs, acc, rfl, rfl, s1, h1, h2, hfl, hdp⟩
      have la := h2.length
      rw [List.length_map] at la
      have hq60 : qs.length ≤ 60 := by rcases hdp with ⟨h, _⟩ | ⟨h, _⟩ | ⟨h, _⟩ <;> omega
      refine ⟨.ref D, rfl, D, acc, rfl, .inl (SqL.of h1), acc.length, 1, rfl, rfl, _, rfl, ?_⟩
      by_cases h1q : (1 : Int) < (acc.length : Int)
      · rw [decide_eq_true h1q]
        refine ⟨_, fun _ _ h => h, ?_⟩
        refine ⟨.ref D, rfl, D, acc, rfl, .inl (SqL.of h1), 0, (acc.length : Int), 8, (acc.length + 7) / 8, rfl, rgc8 _ (by omega), fun D2 hD2 => ?_⟩
        refine lc_itc (fun i H' => Same H4 H' ∧ ∃ ac2, H' D2 = some (.lst ac2) ∧ KAts H' ((rowsOf qs i).map encPt) ac2) ⟨same_new hD2, [], upd_same, .nil⟩ (fun i H' hi ⟨s2, ac2, g1, g2⟩ => ?_) fun H' ⟨s2, ac2, g1, g2⟩ => ?_
        · have ei : (0 : Int) + (i : Nat) * 8 = ((8 * i : Nat) : Int) := by omega
          rw [ei]
          have hcut : cutV acc (some ((8 * i : Nat) : Int)) (some (((8 * i + 8 : Nat)) : Int)) = (acc.drop (8 * i)).take 8 := by
            unfold cutV
            have e0 : min (8 * i) acc.length = 8 * i := by omega
            rw [HT.sIx_nat, HT.sIx_nat, e0, List.take_eq_take_iff, List.length_drop]
            omega
          have e8 : ((8 * i : Nat) : Int) + 8 = ((8 * i + 8 : Nat) : Int) := by omega
          refine ⟨rfl, .ref D, rfl, .int ((8 * i : Nat) : Int), rfl, _, rfl, .int ((8 * i : Nat) : Int), rfl, .inl ⟨_, 8, rfl, rfl, _, rfl, .inr ⟨D, acc, rfl, SqL.of (s2 _ _ h1), fun p hp => ?_⟩⟩⟩
          rw [e8, hcut]
          have u1 : Same H' (upd H' p (.lst ((acc.drop (8 * i)).take 8))) := same_new hp
          refine ⟨p, _, rfl, .inl ⟨SqL.of upd_same, fun t ht => ⟨(by show 2 ≤ sizeLine; decide), fun pt hpt => ?_⟩⟩⟩
          have u2 := u1.trans (same_new (o := .tup ((acc.drop (8 * i)).take 8)) ht)
          have u3 := u2.trans (same_new (o := .tup [.str "row", .ref t]) hpt)
          have kch : KAts H' (((qs.drop (8 * i)).take 8).map encPt) ((acc.drop (8 * i)).take 8) := by
            rw [List.map_take, List.map_drop]
            exact ((h2.up (Ts.of s2)).drop _).take _
          have kp : KAt (upd (upd (upd H' p (.lst ((acc.drop (8 * i)).take 8))) t (.tup ((acc.drop (8 * i)).take 8))) pt (.tup [.str "row", .ref t])) (encPt (.row ((qs.drop (8 * i)).take 8))) (.ref pt) := by
            refine .tup upd_same (.cons (.text _) (.cons (.tup (same_new hpt _ _ upd_same) ?_) .nil))
            rw [encPts_map]
            exact kch.up (Ts.of u3)
          generalize (upd (upd (upd H' p (.lst ((acc.drop (8 * i)).take 8))) t (.tup ((acc.drop (8 * i)).take 8))) pt (.tup [.str "row", .ref t])) = H9 at *
          have g19 := u3 _ _ g1
          have lg := g2.length
          rw [List.length_map, rowsOf_length] at lg
          refine ⟨ac2, g19, lt_line (by omega), same_upd (s2.trans u3) hD2, _, upd_same, ?_⟩
          have t3 : Ts H9 (upd H9 D2 (.lst (ac2 ++ [.ref pt]))) := Ts.upd g19 fun _ z => nomatch z
          rw [rowsOf_succ, List.map_append]
          exact (g2.up ((Ts.of u3).trans t3)).append (.cons (kp.up t3) .nil)
        · refine ⟨_, ?_, D2, rowsOf qs ((acc.length + 7) / 8), ac2, rfl, rfl, s1.trans s2, g1, g2, ?_, ?_⟩
          · rw [rowsOf_length]
            omega
          · rw [flats_rows, List.take_of_length_le (by omega)]
            exact hfl
          · rw [rowsOf_length]
            rcases hdp with ⟨z1, z2⟩ | ⟨z1, z2⟩ | ⟨z1, z2⟩
            · exact .inr (.inl ⟨by omega, rowsOf_deep z2⟩)
            · exact .inr (.inr ⟨by omega, rowsOf_deep z2⟩)
            · omega
      · rw [decide_eq_false h1q]
        refine ⟨.ref D, rfl, (by show 0 ≤ sizeLine; decide), fun p0 hp0 => ⟨(by show 2 ≤ sizeLine; decide), fun p1 hp1 => ⟨(by show 1 ≤ sizeLine; decide), fun p2 hp2 => ?_⟩⟩⟩
        have u1 : Same H4 (upd H4 p0 (.tup [])) := same_new hp0
        have u2 := u1.trans (same_new (o := .tup [.str "row", .ref p0]) hp1)
        have u3 := u2.trans (same_new (o := .lst [.ref p1]) hp2)
        have kr : KAt (upd (upd H4 p0 (.tup [])) p1 (.tup [.str "row", .ref p0])) (encPt (.row [])) (.ref p1) := .tup upd_same (.cons (.text _) (.cons (.tup (same_new hp1 _ _ upd_same) .nil) .nil))
        refine .inr (.inr ⟨D, p2, acc, [.ref p1], rfl, rfl, u3 _ _ h1, upd_same, le_line (by show acc.length + 1 ≤ _; omega), fun p3 hp3 => ?_⟩)
        have u4 := u3.trans (same_new (o := .lst (acc ++ [.ref p1])) hp3)
        match qs, acc, h2, h1q, la with
        | [], [], _, _, _ =>
          refine .inl ⟨p3, _, 0, .ref p1, rfl, rfl, SqL.of upd_same, atI_nat (j := 0) rfl, ?_⟩
          exact k _ (.row []) _ (s1.trans u4) ((kr.up (Ts.of (same_new hp2))).up (Ts.of (same_new hp3))) (by rw [← hfl]; rfl) (by show 1 + 0 ≤ 5; decide)
        | [q], [v], h2, _, _ =>
          cases h2 with
          | cons kq _ =>
          refine .inl ⟨p3, _, 0, v, rfl, rfl, SqL.of upd_same, atI_nat (j := 0) rfl, ?_⟩
          refine k _ q _ (s1.trans u4) (kq.up (Ts.of u4)) ?_ ?_
          · rw [← hfl]
            show flat q = flat q ++ []
            rw [List.append_nil]
          · rcases hdp with ⟨_, z⟩ | ⟨_, z⟩ | ⟨_, z⟩ <;> (have := z q List.mem_cons_self; omega)
        | _ :: _ :: _, [], _, _, la => simp at la
        | _ :: _ :: _, [_], _, _, la => simp at la
        | _, _ :: _ :: _, _, h1q, _ => exact absurd (by simp; omega) h1q
        | [], [_], _, _, la => simp at la
        | [_], [], _, _, la => simp at la
end
end K49
set_option Elab.async false
set_option linter.all false
set_option maxRecDepth 100000
set_option maxHeartbeats 4000000
set_option autoImplicit false
/-! The law: differences, the question. -/
namespace K49
open PySem PySem.Spec PyProof.Rows L2
local macro_rules | `(tactic| walk_at "rk") => `(tactic| first
  | exact rk_eqS ‹_› (by decide)
  | exact rk_ix ‹_› rfl
  | exact rk_inS2 ‹_› (by decide)
  | exact rk_ix ‹_› (at_nums (by assumption))
  | exact rk_modN ‹_› (by first | assumption | omega)
  | exact rk_addN ‹_›
  | exact rk_mul2 ‹_›
  | exact rk_addr1 ‹_›
  | exact rk_add1l ‹_›
  | exact rk_shl1 ‹_› (by omega)
  | exact rk_mulN ‹_› (by omega)
  | exact rk_shlN ‹_› (by omega) (by omega)
  | exact rk_addI ‹_›
  | exact rk_addT ‹_› (by first | decide | (simp only [List.length_append, List.length_cons, List.length_nil, List.length_take, List.length_drop] at *; omega))
  | exact rk_sub ‹_›
  | exact rk_neBl ‹_›
  | exact rk_eqI ‹_›
  | exact rk_neI ‹_›
  | exact rk_cmp ‹_›)
local macro_rules | `(tactic| walk_at "el") => `(tactic| first
  | exact el_nil ‹_›
  | (apply el_cons ‹_›; (focus walk_at "ek"); walk_at "el"))
local macro_rules | `(tactic| walk_at "eo") => `(tactic| first
  | exact eo_none ‹_›
  | (apply eo_some ‹_›; walk_at "ek"))
local macro_rules | `(tactic| walk_at "ek") => `(tactic| first
  | exact ek_var ‹_› rfl
  | exact ek_int ‹_›
  | exact ek_str ‹_›
  | exact ek_non ‹_›
  | exact ek_bl ‹_›
  | (apply ek_op ‹_›; (focus walk_at "ek"); (focus walk_at "ek"); walk_at "rk")
  | (apply ek_neg ‹_›; walk_at "ek")
  | (apply ek_slice ‹_›; (focus walk_at "ek"); (focus walk_at "eo"); walk_at "eo")
  | (apply ek_tup1 ‹_›; walk_at "ek")
  | (apply ek_tup2 ‹_›; (focus walk_at "ek"); walk_at "ek")
  | (apply ek_tup3 ‹_›; (focus walk_at "ek"); (focus walk_at "ek"); walk_at "ek"))
local macro_rules | `(tactic| walk_at "run") => `(tactic| first
  | (refine rs_ret ?_; walk_at "ek")
  | (refine rs_retS ?_; walk_at "ek")
  | (refine rs_yes ‹_› (eb_test ‹_› ?_) ?_; (focus walk_at "ek"); walk_at "run")
  | (refine rs_no ‹_› (eb_test ‹_› ?_) ?_; (focus walk_at "ek"); walk_at "run"))
theorem sum_cast (l : List Nat) : (l.map fun (n : Nat) => (n : Int)).sum = ((l.sum : Nat) : Int) := by
  induction l with
  | nil => rfl
  | cons x r ih =>
    rw [List.map_cons, List.sum_cons, List.sum_cons, ih]
    omega
section
variable {P : Program} {w : World} {K : PySem.W.Frag} {mg : Str → Option Value} {base : Heap}
def spLDiff : Sp := fun vs H Q _ => ∃ x y a ws one other, ∃ run : List Evt, vs = [x, y, .ref a] ∧ KAt H (encG one) x ∧ KAt H (encG other) y ∧ Duo one other ∧ H a = some (.lst ws) ∧ KAts H (run.map encE) ws ∧ run.length ≤ 200 ∧ (∀ e ∈ run, EvOk e) ∧
  ∀ H', Same H H' → Q (.int ((missN one (first one) run : Int) - (missN other (first other) run : Int))) H'
theorem cal_ldifference (F : TD K mg "_law_difference" s_l_law_difference ["one", "other", "run"]) (B : Blt mg) (c_missed : C8.Cal P w K mg base 10 "missed" (spMissed K) []) : C8.Cal P w K mg base 11 "_law_difference" spLDiff [] := by
  refine cal_sp F sc_l_law_difference (fun vs H Q E h => ?_) fun f cdv A outer s H0 E0 hr => ⟨_, (pss_one (ps_ret (pe_op op_sub (pe_callB (cr_sum rfl) (by rfl) B.sum (by decide +kernel) (pa_cons (C8.pe_c c_missed hr (by first | decide | omega) (by rfl) (pa_cons (pv 0) (pa_cons (pe_callTy (call_listU rfl) (by rfl) B.list (by decide +kernel) (pa_cons (pv 2) pa_nil)) pa_nil))) pa_nil)) (pe_callB (cr_sum rfl) (by rfl) B.sum (by decide +kernel) (pa_cons (C8.pe_c c_missed hr (by first | decide | omega) (by rfl) (pa_cons (pv 1) (pa_cons (pe_callTy (call_listU rfl) (by rfl) B.list (by decide +kernel) (pa_cons (pv 2) pa_nil)) pa_nil))) pa_nil))))), fun vs H Q E h => ?_⟩
  · obtain ⟨x, y, a, ws, one, other, run, rfl, _⟩ := h
    rfl
  · obtain ⟨x, y, a, ws, one, other, run, rfl, kx, ky, T, ha, ka, hl, hev, k⟩ := h
    refine ⟨x, rfl, .ref a, rfl, .inl ⟨a, ws, rfl, .inl (SqL.of ha), fun l1 hl1 => ?_⟩⟩
    have s1 : Same H (upd H l1 (.lst ws)) := same_new hl1
    refine ⟨x, l1, one, run, ws, rfl, kx.up (Ts.of s1), T.ok1, T.d1, upd_same, ka.up (Ts.of s1), by omega, hev, fun L1 H2 s2 hL1 hL2 => ?_⟩
    have si : ∀ {g : Gs} {L : Addr} {H : Hp}, H L = some (.lst ((missL g (first g) run).map fun (n : Nat) => V.int (n : Int))) → SqL K H L (((missL g (first g) run).map fun (n : Nat) => (n : Int)).map V.int) := fun {g L H} h => by
      rw [List.map_map]
      exact SqL.of h
    refine ⟨L1, _, rfl, si hL2, ?_⟩
    have s3 := s1.trans s2
    refine ⟨y, rfl, .ref a, rfl, .inl ⟨a, ws, rfl, .inl (SqL.of (s3 _ _ ha)), fun l2 hl2 => ?_⟩⟩
    have s4 : Same H2 (upd H2 l2 (.lst ws)) := same_new hl2
    have s5 := s3.trans s4
    refine ⟨y, l2, other, run, ws, rfl, ky.up (Ts.of s5), T.ok2, T.d2, upd_same, ka.up (Ts.of s5), by omega, hev, fun L2 H3 s6 hL3 hL4 => ?_⟩
    refine ⟨L2, _, rfl, si hL4, ⟨_, _, rfl, rfl, ?_⟩⟩
    rw [sum_cast, sum_cast, missL_sum, missL_sum]
    exact k H3 (s5.trans s6)
/-- the question, asked at 0, 1, 2, n and 10 ** 18 passes -/
def spRight : Sp := fun vs H Q _ => ∃ x y a b wr wl n one other, ∃ ps : List Nat, ∃ run loop : List Evt, vs = [x, y, .ref a, .ref b, .int n] ∧ KAt H (encG one) x ∧ KAt H (encG other) y ∧ Duo one other ∧ H a = some (.lst wr) ∧ KAts H (run.map encE) wr ∧ H b = some (.lst wl) ∧ KAts H (loop.map encE) wl ∧
  run.length + loop.length ≤ 60 ∧ Gain one other (evsOf ps) run loop ∧ 0 ≤ n ∧ n < 2 ^ 64 ∧ ∀ H', Same H H' → Q (.bl true) H'
theorem cal_lright (F : TD K mg "_law_right" s_l_law_right ["one", "other", "run", "loop", "passes"]) (B : Blt mg) (c_l_law_difference : C8.Cal P w K mg base 11 "_law_difference" spLDiff []) (c_l_law_pattern : C8.Cal P w K mg base 1 "_law_pattern" spPat []) (c_misses_behind : C8.Cal P w K mg base 17 "misses_behind" (spG okBehindM) []) :
    C8.Cal P w K mg base 18 "_law_right" spRight [] := by
  refine cal_sp F sc_l_law_right (fun vs H Q E h => ?_) fun f cdv A outer s H0 E0 hr => ⟨_, (pss_cons (ps_set (i := 5) sc_l_law_right.nd rfl (Or.inl rfl) (C8.pe_c c_l_law_difference hr (by first | decide | omega) (by rfl) (pa_cons (pv 0) (pa_cons (pv 1) (pa_cons (pv 2) pa_nil)))))
      (pss_cons (ps_set (i := 6) sc_l_law_right.nd rfl (Or.inl rfl) (pe_op op_sub (C8.pe_c c_l_law_difference hr (by first | decide | omega) (by rfl) (pa_cons (pv 0) (pa_cons (pv 1) (pa_cons (pe_op op_addU (pv 2) (pv 3)) pa_nil)))) (pv 5)))
      (pss_cons (ps_for PassesOwn.never rfl (pi_list (pe_lst (pa_cons pe_int (pa_cons pe_int (pa_cons pe_int (pa_cons (pv 4) (pa_cons (pe_op op_pow pe_int pe_int) pa_nil))))))) (pg_name (i := 7) sc_l_law_right.nd rfl (Or.inl rfl)) (pss_cons (ps_set (i := 8) sc_l_law_right.nd rfl (Or.inl rfl) (C8.pe_c c_misses_behind hr (by first | decide | omega) (by rfl) (pa_cons (pv 0) (pa_cons (C8.pe_c c_l_law_pattern hr (by first | decide | omega) (by rfl) (pa_cons (pv 2) pa_nil)) (pa_cons (C8.pe_c c_l_law_pattern hr (by first | decide | omega) (by rfl) (pa_cons (pv 3) pa_nil)) (pa_cons (pv 7) pa_nil))))))
      (pss_cons (ps_set (i := 9) sc_l_law_right.nd rfl (Or.inl rfl) (C8.pe_c c_misses_behind hr (by first | decide | omega) (by rfl) (pa_cons (pv 1) (pa_cons (C8.pe_c c_l_law_pattern hr (by first | decide | omega) (by rfl) (pa_cons (pv 2) pa_nil)) (pa_cons (C8.pe_c c_l_law_pattern hr (by first | decide | omega) (by rfl) (pa_cons (pv 3) pa_nil)) (pa_cons (pv 7) pa_nil))))))
      (pss_one (ps_if (pt_cmpR (op_neU hr.units) (pe_op op_sub (pv 8) (pv 9)) (pe_op op_addU (pv 5) (pe_op op_mulU (pv 7) (pv 6))) (nomark _)) (pss_one (ps_ret pe_bl)) pss_nil)))))
      (pss_one (ps_ret (pe_cmpR op_gt (pv 6) pe_int (nomark _))))))), fun vs H Q E h => ?_⟩
  · obtain ⟨x, y, a, b, wr, wl, n, one, other, ps, run, loop, rfl, _⟩ := h
    rfl
  · obtain ⟨x, y, a, b, wr, wl, n, one, other, ps, run, loop, rfl, kx, ky, T, ha, ka, hb, kb, hlen, G, hn0, hn1, k⟩ := h
    have evr : ∀ e ∈ run, EvOk e := fun e he => okEv_of (G.evr e he)
    have evl : ∀ e ∈ loop, EvOk e := fun e he => okEv_of (G.evl e he)
    have la := ka.length
    have lb := kb.length
    rw [List.length_map] at la lb
    refine ⟨x, rfl, y, rfl, .ref a, rfl, x, y, a, wr, one, other, run, rfl, kx, ky, T, ha, ka, by omega, evr, fun H1 s1 => ?_⟩
    refine ⟨x, rfl, y, rfl, .ref a, rfl, .ref b, rfl, .inr (.inr ⟨a, b, wr, wl, rfl, rfl, s1 _ _ ha, s1 _ _ hb, le_line (by omega), fun c hc => ?_⟩)⟩
    have s2 : Same H1 (upd H1 c (.lst (wr ++ wl))) := same_new hc
    have s12 := s1.trans s2
    refine ⟨x, y, c, wr ++ wl, one, other, run ++ loop, rfl, kx.up (Ts.of s12), ky.up (Ts.of s12), T, upd_same, ?_, by rw [List.length_append]; omega, fun e he => ?_, fun H3 s3 => ?_⟩
    · rw [List.map_append]
      exact (ka.append kb).up (Ts.of s12)
    · rcases List.mem_append.mp he with z | z
      · exact evr e z
      · exact evl e z
    have hb1 : walk one (walk one (first one) run) loop = walk one (first one) run ∧ walk other (walk other (first other) run) loop = walk other (first other) run := by
      have h := G.back
      rw [run_walk, run_walk] at h
      exact ⟨congrArg Prod.fst h, congrArg Prod.snd h⟩
    have hgain : (0 : Int) < (missN one (walk one (first one) run) loop : Int) - (missN other (walk other (first other) run) loop : Int) := by
      have h := G.gain
      rw [run_walk, dif_miss] at h
      exact h
    rw [missN_app, missN_app]
    generalize hA1 : missN one (first one) run = A1 at *
    generalize hA2 : missN other (first other) run = A2 at *
    generalize hB1 : missN one (walk one (first one) run) loop = B1 at *
    generalize hB2 : missN other (walk other (first other) run) loop = B2 at *
    refine ⟨.int ((A1 : Int) - (A2 : Int)), rfl, _, _, rfl, rfl, ?_⟩
    have em : ((A1 + B1 : Nat) : Int) - ((A2 + B2 : Nat) : Int) - ((A1 : Int) - (A2 : Int)) = (B1 : Int) - (B2 : Int) := by omega
    dsimp only
    rw [em]
    have s13 := s12.trans s3
    refine ⟨.int n, rfl, 10, 18, rfl, rfl, ⟨by decide, by decide, by decide⟩, (by show 5 ≤ sizeLine; decide), fun p hp => ?_⟩
    refine ⟨p, rfl, ⟨_, SqL.of upd_same⟩, for_list (K := K) (a := p) (xs := [V.int 0, V.int 1, V.int 2, V.int n, V.int ((10 : Int) ^ (18 : Int).toNat)]) (fun i σ H' => ∃ e7 e8 e9, σ = [some x, some y, some (.ref a), some (.ref b), some (.int n), some (.int ((A1 : Int) - (A2 : Int))), some (.int ((B1 : Int) - (B2 : Int))), e7, e8, e9] ∧ Same H H' ∧ H' p = some (.lst [V.int 0, V.int 1, V.int 2, V.int n, V.int ((10 : Int) ^ (18 : Int).toNat)]))
      ⟨_, _, _, rfl, s13.trans (same_new hp), upd_same⟩ (fun i σ H' _ ⟨_, _, _, _, _, z⟩ => SqL.of z) ?_ ?_⟩
    · rintro i v σ H' hi ⟨e7, e8, e9, rfl, s4, hp4⟩
      obtain ⟨m, rfl, hm0, hm1⟩ : ∃ m : Int, v = .int m ∧ 0 ≤ m ∧ m < 2 ^ 64 := by
        have hv := List.mem_of_getElem? hi
        simp only [List.mem_cons, List.not_mem_nil, or_false] at hv
        rcases hv with rfl | rfl | rfl | rfl | rfl
        · exact ⟨0, rfl, by decide, by decide⟩
        · exact ⟨1, rfl, by decide, by decide⟩
        · exact ⟨2, rfl, by decide, by decide⟩
        · exact ⟨n, rfl, hn0, hn1⟩
        · exact ⟨_, rfl, by decide, by decide⟩
      refine ⟨x, rfl, .ref a, rfl, a, wr, run, rfl, s4 _ _ ha, ka.up (Ts.of s4), by omega, fun v1 p1 H5 s5 kp1 fp1 dp1 => ?_⟩
      have s45 := s4.trans s5
      refine ⟨.ref b, rfl, b, wl, loop, rfl, s45 _ _ hb, kb.up (Ts.of s45), by omega, fun v2 p2 H6 s6 kp2 fp2 dp2 => ?_⟩
      have s46 := s45.trans s6
      refine ⟨.int m, rfl, [.k (encG one), .k (encPt p1), .k (encPt p2), .k (.num m)], Same, _, .cons (AAt.of (kx.up (Ts.of s46))) (.cons (AAt.of (kp1.up (Ts.of s6))) (.cons (AAt.of kp2) (.cons (AAt.of (KAt.num _)) .nil))), ⟨rfl, one, p1, p2, m, T.ok1, T.d1, dp1, dp2, by rw [fp1]; exact evr, by rw [fp2]; exact evl, by rw [fp1, fp2]; exact hb1.1, hm0, hm1, rfl, rfl⟩, fun v3 d3 H7 s7 k7 e7' => ?_⟩
      subst e7'
      rw [kat_num k7, fp1, fp2, hA1, hB1]
      have s47 := s46.trans s7
      have c47 := s5.trans (s6.trans s7)
      refine ⟨y, rfl, .ref a, rfl, a, wr, run, rfl, s47 _ _ ha, ka.up (Ts.of s47), by omega, fun v1 p1 H5 s5 kp1 fp1 dp1 => ?_⟩
      have s75 := s47.trans s5
      refine ⟨.ref b, rfl, b, wl, loop, rfl, s75 _ _ hb, kb.up (Ts.of s75), by omega, fun v2 p2 H6 s6 kp2 fp2 dp2 => ?_⟩
      have s76 := s75.trans s6
      refine ⟨.int m, rfl, [.k (encG other), .k (encPt p1), .k (encPt p2), .k (.num m)], Same, _, .cons (AAt.of (ky.up (Ts.of s76))) (.cons (AAt.of (kp1.up (Ts.of s6))) (.cons (AAt.of kp2) (.cons (AAt.of (KAt.num _)) .nil))), ⟨rfl, other, p1, p2, m, T.ok2, T.d2, dp1, dp2, by rw [fp1]; exact evr, by rw [fp2]; exact evl, by rw [fp1, fp2]; exact hb1.2, hm0, hm1, rfl, rfl⟩, fun v3 d3 H8 s8 k8 e8' => ?_⟩
      subst e8'
      rw [kat_num k8, fp1, fp2, hA2, hB2]
      have s48 := s76.trans s8
      refine ⟨_, rfl, _, rfl, _, _, rfl, rfl, ?_⟩
      refine ⟨_, rfl, _, rfl, _, rfl, .inl ⟨m, (B1 : Int) - (B2 : Int), rfl, rfl, .inl ⟨by omega, by omega⟩, .inl ⟨(A1 : Int) - (A2 : Int), _, rfl, rfl, .inl ⟨rfl, _, rfl, ?_⟩⟩⟩⟩
      have eq : (A1 : Int) + m * (B1 : Int) - ((A2 : Int) + m * (B2 : Int)) = (A1 : Int) - (A2 : Int) + m * ((B1 : Int) - (B2 : Int)) := by
        rw [Int.mul_sub]
        omega
      dsimp only
      rw [if_neg (fun h => by
        rw [decide_eq_true (congrArg V.int eq)] at h
        cases h)]
      exact ⟨_, _, _, rfl, s48, s8 _ _ (s6 _ _ (s5 _ _ (c47 _ _ hp4)))⟩
    · rintro σ H' ⟨e7, e8, e9, rfl, s4, hp4⟩
      refine ⟨_, rfl, _, _, rfl, rfl, ?_⟩
      have e : decide ((0 : Int) < (B1 : Int) - (B2 : Int)) = true := decide_eq_true hgain
      dsimp only
      rw [e]
      exact k H' s4
end
end K49
set_option Elab.async false
set_option linter.all false
set_option maxRecDepth 100000
set_option maxHeartbeats 4000000
set_option autoImplicit false
/-! The law: places. -/
namespace K49
open PySem PySem.Spec PyProof.Rows L2
local macro_rules | `(tactic| walk_at "rk") => `(tactic| first
  | exact rk_eqS ‹_› (by decide)
  | exact rk_ix ‹_› rfl
  | exact rk_inS2 ‹_› (by decide)
  | exact rk_ix ‹_› (at_nums (by assumption))
  | exact rk_modN ‹_› (by first | assumption | omega)
  | exact rk_addN ‹_›
  | exact rk_mul2 ‹_›
  | exact rk_addr1 ‹_›
  | exact rk_add1l ‹_›
  | exact rk_shl1 ‹_› (by omega)
  | exact rk_mulN ‹_› (by omega)
  | exact rk_shlN ‹_› (by omega) (by omega)
  | exact rk_addI ‹_›
  | exact rk_addT ‹_› (by first | decide | (simp only [List.length_append, List.length_cons, List.length_nil, List.length_take, List.length_drop] at *; omega))
  | exact rk_sub ‹_›
  | exact rk_neBl ‹_›
  | exact rk_eqI ‹_›
  | exact rk_neI ‹_›
  | exact rk_cmp ‹_›)
local macro_rules | `(tactic| walk_at "el") => `(tactic| first
  | exact el_nil ‹_›
  | (apply el_cons ‹_›; (focus walk_at "ek"); walk_at "el"))
local macro_rules | `(tactic| walk_at "eo") => `(tactic| first
  | exact eo_none ‹_›
  | (apply eo_some ‹_›; walk_at "ek"))
local macro_rules | `(tactic| walk_at "ek") => `(tactic| first
  | exact ek_var ‹_› rfl
  | exact ek_int ‹_›
  | exact ek_str ‹_›
  | exact ek_non ‹_›
  | exact ek_bl ‹_›
  | (apply ek_op ‹_›; (focus walk_at "ek"); (focus walk_at "ek"); walk_at "rk")
  | (apply ek_neg ‹_›; walk_at "ek")
  | (apply ek_slice ‹_›; (focus walk_at "ek"); (focus walk_at "eo"); walk_at "eo")
  | (apply ek_tup1 ‹_›; walk_at "ek")
  | (apply ek_tup2 ‹_›; (focus walk_at "ek"); walk_at "ek")
  | (apply ek_tup3 ‹_›; (focus walk_at "ek"); (focus walk_at "ek"); walk_at "ek"))
local macro_rules | `(tactic| walk_at "run") => `(tactic| first
  | (refine rs_ret ?_; walk_at "ek")
  | (refine rs_retS ?_; walk_at "ek")
  | (refine rs_yes ‹_› (eb_test ‹_› ?_) ?_; (focus walk_at "ek"); walk_at "run")
  | (refine rs_no ‹_› (eb_test ‹_› ?_) ?_; (focus walk_at "ek"); walk_at "run"))
theorem nats_of {l : List Int} (h : ∀ x ∈ l, 0 ≤ x) : ∃ ps : List Nat, l = ps.map fun (n : Nat) => (n : Int) := by
  induction l with
  | nil => exact ⟨[], rfl⟩
  | cons x r ih =>
    obtain ⟨ps, e⟩ := ih fun y hy => h y (List.mem_cons_of_mem _ hy)
    have hx := h x List.mem_cons_self
    refine ⟨x.toNat :: ps, ?_⟩
    rw [List.map_cons, ← e, Int.toNat_of_nonneg hx]
section
variable {P : Program} {w : World} {K : PySem.W.Frag} {mg : Str → Option Value} {base : Heap}
def spPlaces : Sp := fun vs H Q _ => ∃ a, vs = [.ref a] ∧ DR a H ∧ ∀ L, ∀ ps : List Nat, ∀ H', Dr a H H' → H L = none → H' L = some (.lst (vints ps)) → ps.length ≤ 10 → Q (.ref L) H'
theorem dr_new {a D : Addr} {H : Hp} (h : DR a H) (hD : H D = none) : D ≠ a := fun e => by
  subst e
  obtain ⟨ds, z⟩ := h
  rw [z] at hD
  cases hD
theorem dr_none {a D : Addr} {H H' : Hp} (h : Dr a H H') (hd : DR a H) (hD : H' D = none) : H D = none := by
  cases z : H D with
  | none => rfl
  | some o =>
    by_cases e : D = a
    · subst e
      obtain ⟨ds, q⟩ := h.dr hd
      rw [q] at hD
      cases hD
    · rw [h.but _ _ e z] at hD
      cases hD
theorem cal_lplaces (F : TD K mg "_law_places" s_l_law_places ["draws"]) (B : Blt mg) (c_l_law_take : C8.Cal P w K mg base 1 "_law_take" (spG okTake) []) : C8.Cal P w K mg base 2 "_law_places" spPlaces [] := by
  refine cal_sp F sc_l_law_places (fun vs H Q E h => ?_) fun f cdv A outer s H0 E0 hr => ⟨_, (pss_cons (ps_set (i := 1) sc_l_law_places.nd rfl (Or.inl rfl) pe_dnewK)
      (pss_cons (ps_for PassesOwn.never rfl (pi_range1 (by rfl) B.range (pa_cons (pe_op op_addU pe_int (C8.pe_c c_l_law_take hr (by first | decide | omega) (by rfl) (pa_cons (pv 0) (pa_cons (pe_ix (ix_U hr.units) (pe_lst (pa_cons pe_int (pa_cons pe_int pa_nil))) (C8.pe_c c_l_law_take hr (by first | decide | omega) (by rfl) (pa_cons (pv 0) (pa_cons pe_int pa_nil))) (fun _ _ => rfl)) pa_nil)))) pa_nil)) (pg_name (i := 2) sc_l_law_places.nd rfl (Or.inl rfl)) (pss_one (ps_asg pe_bl (pg_sub (pv 1) (pe_ix (ix_U hr.units) (pe_lst (pa_cons (pv 2) (pa_cons (C8.pe_c c_l_law_take hr (by first | decide | omega) (by rfl) (pa_cons (pv 0) (pa_cons pe_int pa_nil))) (pa_cons (C8.pe_c c_l_law_take hr (by first | decide | omega) (by rfl) (pa_cons (pv 0) (pa_cons pe_int pa_nil))) (pa_cons pe_int pa_nil))))) (C8.pe_c c_l_law_take hr (by first | decide | omega) (by rfl) (pa_cons (pv 0) (pa_cons pe_int pa_nil))) (fun _ _ => rfl)) (set_U hr.units)))))
      (pss_one (ps_ret (pe_callB (call_sortedDI rfl) (by rfl) B.sorted (by decide +kernel) (pa_cons (pv 1) pa_nil)))))), fun vs H Q E h => ?_⟩
  · obtain ⟨a, rfl, _⟩ := h
    rfl
  · obtain ⟨a, rfl, hdr, k⟩ := h
    have V_ := evo_dr a
    refine fun d hd => ?_
    have s1 : Same H (upd H d (.dK [])) := same_new hd
    have nd := dr_new hdr hd
    have hdr1 : DR a (upd H d (.dK [])) := V_.dr (V_.ex s1) hdr
    have hd1 : (upd H d (.dK [])) d = some (.dK []) := upd_same
    have D01 := V_.ex s1
    generalize (upd H d (.dK [])) = H1 at *
    refine ⟨.ref a, rfl, (by show 2 ≤ sizeLine; decide), fun p hp => ⟨.ref a, rfl, take_raw (m := 2) (by decide) (V_.dr (V_.ex (same_new hp)) hdr1) fun x H2 hx D2 => ?_⟩⟩
    have np := dr_new hdr1 hp
    have hp2 := D2.but _ _ np upd_same
    have D12 := V_.trans (V_.ex (same_new (o := .lst [.int 2, .int 4]) hp)) D2
    obtain ⟨m, hm, hm2, hm3⟩ : ∃ m : Nat, [V.int 2, V.int 4][x]? = some (.int (m : Nat)) ∧ 1 ≤ m ∧ m ≤ 4 := by
      match x, hx with
      | 0, _ => exact ⟨2, rfl, by decide, by decide⟩
      | 1, _ => exact ⟨4, rfl, by decide, by decide⟩
    refine .inl ⟨p, _, x, .int m, rfl, rfl, SqL.of hp2, atI_nat hm, take_raw hm2 (V_.dr D12 hdr1) fun y H3 hy D3 => ?_⟩
    have D13 := V_.trans D12 D3
    have D03 := V_.trans D01 D13
    refine .inl ⟨1, y, rfl, rfl, _, rfl, by omega, by omega, ?_⟩
    have hN : ((1 : Int) + (y : Nat)).toNat ≤ 4 := by omega
    generalize ((1 : Int) + (y : Nat)).toNat = N at hN
    refine for_range (fun i σ H' => ∃ e2 kvs, ∃ ks : List Nat, σ = [some (.ref a), some (.ref d), e2] ∧ Dr a H H' ∧ H' d = some (.dK kvs) ∧ kvs.map (·.1) = ks.map (fun (n : Nat) => (Sum.inl (n : Int) : Key)) ∧ kvs.length ≤ i) ⟨_, [], [], rfl, D03, D13.but _ _ nd hd1, rfl, Nat.le_refl _⟩ ?_ ?_
    · rintro i σ H' hi ⟨e2, kvs, ks, rfl, D, hdk, hks, hlen⟩
      rw [Int.zero_add]
      have hdr' := V_.dr D hdr
      refine ⟨.ref d, rfl, .int i, rfl, .ref a, rfl, take_raw (m := 20) (by decide) hdr' fun x1 H5 hx1 D5 => ⟨.ref a, rfl, take_raw (m := 1000) (by decide) (V_.dr D5 hdr') fun x2 H6 hx2 D6 => ⟨(by show 4 ≤ sizeLine; decide), fun p hp => ⟨.ref a, rfl, ?_⟩⟩⟩⟩
      have D56 := V_.trans D5 D6
      have hdr6 := V_.dr D56 hdr'
      have np6 := dr_new hdr6 hp
      refine take_raw (m := 4) (by decide) (V_.dr (V_.ex (same_new hp)) hdr6) fun x3 H7 hx3 D7 => ?_
      have hp7 := D7.but _ _ np6 upd_same
      have D57 := V_.trans D56 (V_.trans (V_.ex (same_new hp)) D7)
      obtain ⟨n, hn⟩ : ∃ n : Nat, [V.int (i : Nat), V.int (x1 : Nat), V.int (x2 : Nat), V.int 999][x3]? = some (.int (n : Nat)) := by
        match x3, hx3 with
        | 0, _ => exact ⟨i, rfl⟩
        | 1, _ => exact ⟨x1, rfl⟩
        | 2, _ => exact ⟨x2, rfl⟩
        | 3, _ => exact ⟨999, rfl⟩
      have hd7 := D57.but _ _ nd hdk
      refine .inl ⟨p, _, x3, .int n, rfl, rfl, SqL.of hp7, atI_nat hn, .inr (.inr ⟨d, n, kvs, rfl, rfl, hd7, lt_line (by omega), ?_⟩)⟩
      refine ⟨_, putK kvs (Sum.inl (n : Int)) (.bl true), if (valV kvs (Sum.inl (n : Int))).isSome = true then ks else ks ++ [n], rfl, V_.fr (V_.trans D D57) hd, upd_same, ?_, ?_⟩
      · unfold putK
        rw [valV_any]
        split
        · rw [List.map_map, ← hks]
          refine List.map_congr_left fun x _ => ?_
          show (if x.1 = _ then (x.1, _) else x).1 = x.1
          split <;> rfl
        · rw [List.map_append, List.map_append, hks]
          rfl
      · have := length_putK kvs (Sum.inl (n : Int) : Key) (.bl true)
        omega
    · rintro σ H' ⟨e2, kvs, ks, rfl, D, hdk, hks, hlen⟩
      have lks : kvs.length = ks.length := by
        have := congrArg List.length hks
        rw [List.length_map, List.length_map] at this
        exact this
      refine ⟨.ref d, rfl, d, kvs, ks.map (fun (n : Nat) => (n : Int)), rfl, .inl hdk, ?_, by rw [List.length_map]; omega, fun ys p hperm _ hp => ?_⟩
      · rw [hks, List.map_map]
        rfl
      · obtain ⟨ps, rfl⟩ := nats_of (l := ys) fun x hx => by
          obtain ⟨n, _, e⟩ := List.mem_map.mp (hperm.mem_iff.mp hx)
          rw [← e]
          omega
        have hl := hperm.length_eq
        rw [List.length_map, List.length_map] at hl
        refine k p ps _ (V_.trans D (V_.ex (same_new hp))) (dr_none D hdr hp) ?_ (by omega)
        rw [upd_same, List.map_map]
        rfl
end
end K49
set_option Elab.async false
set_option linter.all false
set_option maxRecDepth 100000
set_option maxHeartbeats 4000000
set_option autoImplicit false
/-! The law: a guesser begun otherwise. -/
namespace K49
open PySem PySem.Spec PyProof.Rows L2
local macro_rules | `(tactic| walk_at "rk") => `(tactic| first
  | exact rk_eqS ‹_› (by decide)
  | exact rk_ix ‹_› rfl
  | exact rk_inS2 ‹_› (by decide)
  | exact rk_ix ‹_› (at_nums (by assumption))
  | exact rk_modN ‹_› (by first | assumption | omega)
  | exact rk_addN ‹_›
  | exact rk_mul2 ‹_›
  | exact rk_addr1 ‹_›
  | exact rk_add1l ‹_›
  | exact rk_shl1 ‹_› (by omega)
  | exact rk_mulN ‹_› (by omega)
  | exact rk_shlN ‹_› (by omega) (by omega)
  | exact rk_addI ‹_›
  | exact rk_addT ‹_› (by first | decide | (simp only [List.length_append, List.length_cons, List.length_nil, List.length_take, List.length_drop] at *; omega))
  | exact rk_sub ‹_›
  | exact rk_neBl ‹_›
  | exact rk_eqI ‹_›
  | exact rk_neI ‹_›
  | exact rk_cmp ‹_›)
local macro_rules | `(tactic| walk_at "el") => `(tactic| first
  | exact el_nil ‹_›
  | (apply el_cons ‹_›; (focus walk_at "ek"); walk_at "el"))
local macro_rules | `(tactic| walk_at "eo") => `(tactic| first
  | exact eo_none ‹_›
  | (apply eo_some ‹_›; walk_at "ek"))
local macro_rules | `(tactic| walk_at "ek") => `(tactic| first
  | exact ek_var ‹_› rfl
  | exact ek_int ‹_›
  | exact ek_str ‹_›
  | exact ek_non ‹_›
  | exact ek_bl ‹_›
  | (apply ek_op ‹_›; (focus walk_at "ek"); (focus walk_at "ek"); walk_at "rk")
  | (apply ek_neg ‹_›; walk_at "ek")
  | (apply ek_slice ‹_›; (focus walk_at "ek"); (focus walk_at "eo"); walk_at "eo")
  | (apply ek_tup1 ‹_›; walk_at "ek")
  | (apply ek_tup2 ‹_›; (focus walk_at "ek"); walk_at "ek")
  | (apply ek_tup3 ‹_›; (focus walk_at "ek"); (focus walk_at "ek"); walk_at "ek"))
local macro_rules | `(tactic| walk_at "run") => `(tactic| first
  | (refine rs_ret ?_; walk_at "ek")
  | (refine rs_retS ?_; walk_at "ek")
  | (refine rs_yes ‹_› (eb_test ‹_› ?_) ?_; (focus walk_at "ek"); walk_at "run")
  | (refine rs_no ‹_› (eb_test ‹_› ?_) ?_; (focus walk_at "ek"); walk_at "run"))
section
variable {P : Program} {w : World} {K : PySem.W.Frag} {mg : Str → Option Value} {base : Heap}
/-- tuple([a number below m for x in a list of numbers]) -/
theorem raw_compNums {σ : L2.St} {H : Hp} {Q : VK} {i j m : Nat} {a : Addr} {N : List Nat} {te : TE} (hi : σ[i]? = some (some (.ref a))) (ha : H a = some (.lst (vints N))) (hN : N.length ≤ 100)
    (he : ∀ (x : Nat) H', x ∈ N → Same H H' → ∀ Q : VK, (∀ (y : Nat) H'', y < m → Same H' H'' → Q (.int (y : Nat)) H'') → te ((wipe σ [j]).set j (some (.int (x : Nat)))) H' Q)
    (q : ∀ l v H', Same H H' → l.length = N.length → (∀ y ∈ l, y < m) → KAt H' (.tup (nums l)) v → Q v H') : tCB (rTup K) (tCons (tLc (iList K (tVar i)) (gName j) tYes te [j]) tNil) σ H Q := by
  refine ⟨.ref a, hi, a, rfl, ⟨_, SqL.of ha⟩, fun D hD => ?_⟩
  refine lc_list (K := K) (a := a) (xs := vints N) (fun i H' => Same H H' ∧ ∃ l, H' D = some (.lst (vints l)) ∧ l.length = i ∧ ∀ y ∈ l, y < m) ⟨same_new hD, [], upd_same, rfl, fun y hy => (nomatch hy)⟩ (fun i H' _ p => SqL.of (p.1 _ _ ha)) ?_ ?_
  · rintro i x H' hx ⟨s1, l, h1, h2, h3⟩
    unfold vints at hx
    rw [List.getElem?_map] at hx
    cases hn : N[i]? with
    | none => rw [hn] at hx; cases hx
    | some n =>
    rw [hn] at hx
    have e : V.int (n : Int) = x := Option.some.inj hx
    subst e
    have hlt := (List.getElem?_eq_some_iff.mp hn).1
    refine ⟨wipe_set1 σ j _, he n H' (List.mem_of_getElem? hn) s1 _ fun y H'' hy s2 => ?_⟩
    refine ⟨vints l, s2 _ _ h1, lt_line (by rw [vints_length]; omega), same_upd (s1.trans s2) hD, l ++ [y], ?_, by rw [List.length_append, h2]; rfl, fun z hz => ?_⟩
    · rw [upd_same]
      unfold vints
      rw [List.map_append]
      rfl
    · rcases List.mem_append.mp hz with h | h
      · exact h3 z h
      · rw [List.mem_singleton.mp h]; exact hy
  · rintro H' ⟨s1, l, h1, h2, h3⟩
    rw [vints_length] at h2
    exact ⟨D, _, rfl, .inl ⟨SqL.of h1, fun t ht => q l _ _ (s1.trans (same_new ht)) h2 h3 (.tup upd_same (nums_kats l))⟩⟩
theorem rgV_vints (n : Nat) : rgV 0 (n : Int) = vints (List.range n) := by
  unfold rgV vints
  have e : ((n : Int) - 0).toNat = n := by omega
  rw [e]
  refine List.map_congr_left fun i _ => ?_
  rw [Int.zero_add]
theorem raw_listRg {κ : KS} {te : TE} {n : Nat} {σ : L2.St} {H : Hp} {Q : VK} (M : Mt κ σ H) (h : EvK Same te κ (.k (.num (n : Int)))) (hn : n ≤ 1000) (q : ∀ D H', Same H H' → H D = none → H' D = some (.lst (vints (List.range n))) → Q (.ref D) H') : tLstRg (tRg1 te) σ H Q := by
  refine h σ H M _ fun v d H1 r1 k e => ?_
  subst e
  refine ⟨n, kat_num k, RgOk.of_le (by omega) (by omega) (by omega) (by omega), fun D hD => ?_⟩
  rw [rgV_vints]
  exact q D _ (r1.trans (same_new hD)) (none_of_same r1 hD) upd_same
theorem tup1_at {ta : TE} {σ : L2.St} {H : Hp} {Q : VK} (h : ta σ H fun x H1 => 1 ≤ sizeLine ∧ ∀ p, H1 p = none → Q (.ref p) (upd H1 p (.tup [x]))) : tTup (tCons ta tNil) σ H Q := h
theorem slotV {κ : KS} {σ : L2.St} {H : Hp} {i : Nat} {x : V} (M : Mt κ σ H) (h : κ[i]? = some (some (.v x))) : σ[i]? = some (some x) := by
  obtain ⟨v, e, k⟩ := M.at_ i _ h
  rw [show v = x from k] at e
  exact e
theorem slotN {κ : KS} {σ : L2.St} {H : Hp} {i : Nat} {n : Int} (M : Mt κ σ H) (h : κ[i]? = some (some (.k (.num n)))) : σ[i]? = some (some (.int n)) := by
  obtain ⟨v, e, k⟩ := M.at_ i _ h
  rw [kat_num k] at e
  exact e
theorem cal_lbegun (F : TD K mg "_law_begun" s_l_law_begun ["draws", "guesser"]) (B : Blt mg) (c_l_law_take : C8.Cal P w K mg base 1 "_law_take" (spG okTake) []) : C8.Cal P w K mg base 2 "_law_begun" (spG (okNear 3)) [] := by
  refine cal_of F sc_l_law_begun (fun as R S h => ?_) fun f cdv A outer s H E hr => ⟨_, (pss_cons (ps_if (pt_cmpR (op_eqU hr.units) (pe_ix (ix_U hr.units) (pv 1) pe_int (fun _ _ => rfl)) pe_str (nomark _)) (pss_one (ps_ret (pv 1))) pss_nil)
      (pss_cons (ps_set (i := 2) sc_l_law_begun.nd rfl (Or.inr rfl) (pe_ix (ix_U hr.units) (pv 1) (pe_un un_neg pe_int) (fun _ _ => rfl)))
      (pss_cons (ps_set (i := 3) sc_l_law_begun.nd rfl (Or.inl rfl) (C8.pe_c c_l_law_take hr (by first | decide | omega) (by rfl) (pa_cons (pv 0) (pa_cons (pe_callB (cr_lenx rfl) (by rfl) B.len PySem.boot_len (pa_cons (pe_ix (ix_U hr.units) (pv 2) pe_int (fun _ _ => rfl)) pa_nil)) pa_nil))))
      (pss_cons (ps_set (i := 4) sc_l_law_begun.nd rfl (Or.inr rfl) (pe_listRg rfl (by rfl) B.list (prg_1 (by rfl) B.range (pe_callB (cr_lenx rfl) (by rfl) B.len PySem.boot_len (pa_cons (pe_ix (ix_U hr.units) (pv 2) pe_int (fun _ _ => rfl)) pa_nil)))))
      (pss_cons (ps_asg (pv 3) (pg_sub (pv 4) pe_int (set_U hr.units)))
      (pss_cons (ps_asg pe_int (pg_sub (pv 4) (pv 3) (set_U hr.units)))
      (pss_cons (ps_set (i := 5) sc_l_law_begun.nd rfl (Or.inl rfl) (pe_callTy (cr_tuplex rfl) (by rfl) B.tuple (by decide +kernel) (pa_cons (pe_lc (own := [("k", 7)]) (by rfl) sc_l_law_begun.nd (pi_list (pv 4)) (blkOk_by (own := [("k", 7)]) (N := ["draws", "guesser", "cell", "at", "names", "guesses", "straight", "k"]) (sc := defScope s_l_law_begun) (by decide +kernel)) (fun _ _ _ _ _ => (pg_name (i := 7) sc_l_law_begun.nd rfl (Or.inl rfl))) (fun _ _ _ _ _ => pts_nil) (fun _ _ _ _ _ => (pe_ix (ix_Ux (P := P) (w := w) (K := K) rfl rfl rfl hr.units) (pe_ix (ix_Ux (P := P) (w := w) (K := K) rfl rfl rfl hr.units) (pv 2) pe_int (fun _ _ => rfl)) (pv 7) (fun _ _ => rfl)))) pa_nil)))
      (pss_cons (ps_set (i := 6) sc_l_law_begun.nd rfl (Or.inl rfl) (pe_callTy (cr_tuplex rfl) (by rfl) B.tuple (by decide +kernel) (pa_cons (pe_lc (own := [("k", 7)]) (by rfl) sc_l_law_begun.nd (pi_list (pv 4)) (blkOk_by (own := [("k", 7)]) (N := ["draws", "guesser", "cell", "at", "names", "guesses", "straight", "k"]) (sc := defScope s_l_law_begun) (by decide +kernel)) (fun _ _ _ _ _ => (pg_name (i := 7) sc_l_law_begun.nd rfl (Or.inl rfl))) (fun _ _ _ _ _ => pts_nil) (fun _ _ _ _ _ => (pe_ix (ix_Ux (P := P) (w := w) (K := K) rfl rfl rfl hr.units) (pv 4) (pe_ix (ix_Ux (P := P) (w := w) (K := K) rfl rfl rfl hr.units) (pe_ix (ix_Ux (P := P) (w := w) (K := K) rfl rfl rfl hr.units) (pv 2) pe_int (fun _ _ => rfl)) (pv 7) (fun _ _ => rfl)) (fun _ _ => rfl)))) pa_nil)))
      (pss_one (ps_ret (pe_op op_addU (pe_slice sl_U (pv 1) po_none (po_some (pe_un un_neg pe_int))) (pe_tup (pa_cons (pe_tup (pa_cons (pv 5) (pa_cons (pv 6) (pa_cons (pe_callTy (cr_tuplex rfl) (by rfl) B.tuple (by decide +kernel) (pa_cons (pe_lc (own := [("k", 7)]) (by rfl) sc_l_law_begun.nd (pi_list (pv 4)) (blkOk_by (own := [("k", 7)]) (N := ["draws", "guesser", "cell", "at", "names", "guesses", "straight", "k"]) (sc := defScope s_l_law_begun) (by decide +kernel)) (fun _ _ _ _ _ => (pg_name (i := 7) sc_l_law_begun.nd rfl (Or.inl rfl))) (fun _ _ _ _ _ => pts_nil) (fun _ _ _ _ _ => (pe_ix (ix_Ux (P := P) (w := w) (K := K) rfl rfl rfl hr.units) (pv 4) (pe_ix (ix_Ux (P := P) (w := w) (K := K) rfl rfl rfl hr.units) (pe_ix (ix_Ux (P := P) (w := w) (K := K) rfl rfl rfl hr.units) (pv 2) pe_int (fun _ _ => rfl)) (pv 7) (fun _ _ => rfl)) (fun _ _ => rfl)))) pa_nil)) pa_nil)))) pa_nil))))))))))))), fun as R S h => ?_⟩
  · obtain ⟨a, g, _, _, _, rfl, _⟩ := h
    rfl
  · obtain ⟨a, g, hg, hd, rfl, rfl, rfl⟩ := h
    have V_ := evo_dr a
    by_cases hsame : isSame g = true
    · cases g with
      | same x => exact rs_yes V_ (eb_test V_ (by walk_at "ek")) (rs_retS ((ek_var V_ rfl).mono fun v e => ⟨_, e, .same x, hg, hd, rfl⟩))
      | _ => cases hsame
    · have hns : isSame g = false := by
        cases h : isSame g with
        | true => exact absurd h hsame
        | false => rfl
      have hf : decide (form g = "same") = false := by cases g <;> first | (cases hns; done) | rfl
      refine rs_no V_ (eb_test V_ (ek_op V_ (ek_form V_ (ek_var V_ rfl)) (ek_str V_) (rk_eqS V_ hf))) ?_
      obtain ⟨ks, e1, e2⟩ := last_cell hns
      have hc := cellOf_ok hg hns
      generalize hC : cellOf g = c at *
      refine rk_set V_ (a := .k (encC c)) (ek_op V_ (x := .k (.tup ks)) ?_ (ek_neg V_ (ek_int V_)) (rk_ix V_ e2)) ?_
      · rw [← e1]
        exact ek_var V_ rfl
      refine rs_set V_ (S0 := numB c.g.length) (es_take hc.pos (el_cons V_ (ek_var V_ rfl) (el_cons V_ (EvK.to (es_cb V_ (el_cons V_ (ek_op V_ (ek_var V_ rfl) (ek_int V_) (rk_ix V_ (k := .tup (nums c.g)) rfl)) (el_nil V_)) fun as e => by
        subst e
        exact cs_len V_) (by rw [nums_length])) (el_nil V_)))) ?_
      rintro _ ⟨at_, rfl, hat⟩
      intro D σ H1 M q
      have ecell : ∀ {κ : KS}, κ[2]? = some (some (.k (encC c))) → EvK Same (tCB (rLenS K) (tCons (tOp (rIxU P w K) (tVar 2) (tC (.int 0))) tNil)) κ (.k (.num (c.g.length : Int))) := fun {κ} h => EvK.to (es_cb evo_same (el_cons evo_same (ek_op evo_same (ek_var evo_same h) (ek_int evo_same) (rk_ix evo_same (k := .tup (nums c.g)) rfl)) (el_nil evo_same)) fun as e => by
        subst e
        exact cs_len evo_same) (by rw [nums_length])
      refine rs_at (raw_listRg (n := c.g.length) M (ecell rfl) (by have := hc.few; omega) fun L H2 s2 hL0 hL => ?_)
      have M2 := ((M.up evo_same s2).set (i := 4) (a := .v (.ref L)) (v := .ref L) AAt.val)
      have st : ∀ {H : Hp}, Same H1 H → Mt _ (σ.set 4 (some (.ref L))) H := fun {H} e => ((M.up evo_same e).set (i := 4) (a := .v (.ref L)) (v := .ref L) AAt.val)
      generalize σ.set 4 (some (V.ref L)) = σ2 at *
      have h4 : σ2[4]? = some (some (.ref L)) := slotV M2 rfl
      have h3 : σ2[3]? = some (some (.int (at_ : Nat))) := slotN M2 rfl
      have lr : (List.range c.g.length).length = c.g.length := List.length_range
      refine rs_asgAt ⟨.int at_, h3, .ref L, h4, .inl ⟨L, _, 0, 0, rfl, rfl, hL, ixN_n (j := 0) (by rw [vints_length, lr]; exact hc.pos), ?_⟩⟩
      rw [vints_set]
      have hL3 : (upd H2 L (.lst (vints ((List.range c.g.length).set 0 at_)))) L = some (.lst (vints ((List.range c.g.length).set 0 at_))) := upd_same
      have s3 : Same H1 (upd H2 L (.lst (vints ((List.range c.g.length).set 0 at_)))) := same_upd s2 hL0
      generalize (upd H2 L (.lst (vints ((List.range c.g.length).set 0 at_)))) = H3 at *
      refine rs_asgAt ⟨.ref L, h4, .int at_, h3, .inl ⟨L, _, at_, at_, rfl, rfl, hL3, ixN_n (by rw [vints_length, List.length_set, lr]; exact hat), ?_⟩⟩
      have ez : ((vints ((List.range c.g.length).set 0 at_)).set at_ (V.int 0)) = vints (((List.range c.g.length).set 0 at_).set at_ 0) := vints_set _ _ 0
      rw [ez]
      have hL4 : (upd H3 L (.lst (vints (((List.range c.g.length).set 0 at_).set at_ 0)))) L = some (.lst (vints (((List.range c.g.length).set 0 at_).set at_ 0))) := upd_same
      have s4 : Same H1 (upd H3 L (.lst (vints (((List.range c.g.length).set 0 at_).set at_ 0)))) := same_upd s3 hL0
      generalize (upd H3 L (.lst (vints (((List.range c.g.length).set 0 at_).set at_ 0)))) = H4 at *
      have lN : (((List.range c.g.length).set 0 at_).set at_ 0).length = c.g.length := by rw [List.length_set, List.length_set, lr]
      have bN : ∀ x ∈ (((List.range c.g.length).set 0 at_).set at_ 0), x < c.g.length := fun x hx => by
        rcases List.mem_or_eq_of_mem_set hx with z | z
        · rcases List.mem_or_eq_of_mem_set z with z | z
          · exact List.mem_range.mp z
          · rw [z]; exact hat
        · rw [z]; exact hc.pos
      generalize (((List.range c.g.length).set 0 at_).set at_ 0) = N at *
      have hfew := hc.few
      -- names[row[k]]
      have viaN : ∀ {σ' : L2.St} {κ' : KS} {H5 : Hp} {te : TE} {Q : VK} {x : Nat} {r : List Nat}, Mt κ' σ' H5 → σ'[4]? = some (some (.ref L)) → Same H4 H5 → x < r.length → (∀ y ∈ r, y < c.g.length) → EvK Same te κ' (.k (.num (r.getD x 0 : Nat))) → (∀ (y : Nat) H6, y < c.g.length → Same H5 H6 → Q (.int (y : Nat)) H6) → tOp (rIxU P w K) (tVar 4) te σ' H5 Q := by
        intro σ' κ' H5 te Q x r M' h4' s5 hx hr ev q5
        refine ⟨.ref L, h4', ev_at ev M' fun v H6 s6 kv => ?_⟩
        rw [kat_num kv]
        have hy : r.getD x 0 < N.length := by
          rw [lN]
          exact hr _ (by rw [List.getD_eq_getElem?_getD, List.getElem?_eq_getElem hx]; exact List.getElem_mem hx)
        refine .inl ⟨L, _, _, _, rfl, rfl, SqL.of (s6 _ _ (s5 _ _ hL4)), atI_nat (vints_at hy), q5 _ _ (bN _ ?_) s6⟩
        rw [List.getD_eq_getElem?_getD, List.getElem?_eq_getElem hy]
        exact List.getElem_mem hy
      refine rs_at (raw_compNums (m := 2) h4 hL4 (by omega) (fun x H5 hx s5 Q q5 => ?_) fun l1 v1 H5 s5 hl1 hb1 kv1 => ?_)
      · have hxn := bN x hx
        refine ev_at (R := Same) (a := .k (.num (c.g.getD x 0 : Nat))) ?_ (((st (s4.trans s5)).wipe1 (j := 7)).set (i := 7) (a := .k (.num (x : Int))) (AAt.of (KAt.num _))) fun v H6 s6 kv => ?_
        · exact ek_op evo_same (ek_op evo_same (ek_var evo_same rfl) (ek_int evo_same) (rk_ix evo_same (k := .tup (nums c.g)) rfl)) (ek_var evo_same rfl) (rk_ix evo_same (at_nums hxn))
        · rw [kat_num kv]
          refine q5 _ _ (Nat.lt_succ_of_le (hc.g1 _ ?_)) s6
          rw [List.getD_eq_getElem?_getD, List.getElem?_eq_getElem hxn]
          exact List.getElem_mem hxn
      have st5 : ∀ {H : Hp}, Same H5 H → Mt _ (σ2.set 5 (some v1)) H := fun {H} e => (st ((s4.trans s5).trans e)).set (i := 5) (a := .k (.tup (nums l1))) (AAt.of (kv1.up (Ts.of e)))
      have h45 : (σ2.set 5 (some v1))[4]? = some (some (.ref L)) := by rw [List.getElem?_set_ne (by decide)]; exact h4
      generalize σ2.set 5 (some v1) = σ5 at *
      refine rs_at (raw_compNums (m := c.g.length) h45 (s5 _ _ hL4) (by omega) (fun x H6 hx s6 Q q6 => ?_) fun l2 v2 H6 s6 hl2 hb2 kv2 => ?_)
      · refine viaN (r := c.s) (x := x) (((st5 s6).wipe1 (j := 7)).set (i := 7) (a := .k (.num (x : Int))) (AAt.of (KAt.num _))) ?_ (s5.trans s6) (by rw [hc.ls]; exact bN x hx) hc.sb ?_ fun y H7 hy s7 => q6 y H7 hy s7
        · show ((σ5.set 7 none).set 7 _)[4]? = _
          rw [List.getElem?_set_ne (by decide), List.getElem?_set_ne (by decide)]
          exact h45
        · exact ek_op evo_same (ek_op evo_same (ek_var evo_same rfl) (ek_int evo_same) (rk_ix evo_same (k := .tup (nums c.s)) rfl)) (ek_var evo_same rfl) (rk_ix evo_same (at_nums (by rw [hc.ls]; exact bN x hx)))
      have st6 : ∀ {H : Hp}, Same H6 H → Mt _ (σ5.set 6 (some v2)) H := fun {H} e => (st5 (s6.trans e)).set (i := 6) (a := .k (.tup (nums l2))) (AAt.of (kv2.up (Ts.of e)))
      have h46 : (σ5.set 6 (some v2))[4]? = some (some (.ref L)) := by rw [List.getElem?_set_ne (by decide)]; exact h45
      generalize σ5.set 6 (some v2) = σ6 at *
      have s16 : Same H1 H6 := (s4.trans s5).trans s6
      refine rs_retAt (op_at ?_)
      refine ev_at (R := Same) (a := .k (.tup (cutK (frontOf g ++ [encC c]) none (some (-1))))) ?_ (st6 (Same.refl _)) fun v4 H8 s8 k4 => ?_
      · have ef := enc_front hns
        rw [hC] at ef
        refine ek_slice evo_same (lo := none) (hi := some (-1)) ?_ (eo_none evo_same) (eo_some evo_same (ek_neg evo_same (ek_int evo_same)))
        rw [← ef]
        exact ek_var evo_same rfl
      rw [cutK_front] at k4
      have hL8 := s8 _ _ (s6 _ _ (s5 _ _ hL4))
      refine tup1_at (tup3_at ?_)
      refine ev_at (R := Same) (a := .k (.tup (nums l1))) (ek_var evo_same rfl) (st6 s8) fun w1 H9 s9 kw1 => ?_
      refine ev_at (R := Same) (a := .k (.tup (nums l2))) (ek_var evo_same rfl) (st6 (s8.trans s9)) fun w2 H10 s10 kw2 => ?_
      refine raw_compNums (m := c.g.length) h46 (s10 _ _ (s9 _ _ hL8)) (by omega) (fun x H6' hx s6' Q q6 => ?_) fun l3 w3 H11 s11 hl3 hb3 kw3 => ⟨(by show 3 ≤ sizeLine; decide), fun p1 hp1 => ⟨(by show 1 ≤ sizeLine; decide), fun p2 hp2 => ?_⟩⟩
      · refine viaN (r := c.a) (x := x) (((st6 (((s8.trans s9).trans s10).trans s6')).wipe1 (j := 7)).set (i := 7) (a := .k (.num (x : Int))) (AAt.of (KAt.num _))) ?_ (((((s5.trans s6).trans s8).trans s9).trans s10).trans s6') (by rw [hc.la]; exact bN x hx) hc.ab ?_ fun y H7 hy s7 => q6 y H7 hy s7
        · show ((σ6.set 7 none).set 7 _)[4]? = _
          rw [List.getElem?_set_ne (by decide), List.getElem?_set_ne (by decide)]
          exact h46
        · exact ek_op evo_same (ek_op evo_same (ek_var evo_same rfl) (ek_int evo_same) (rk_ix evo_same (k := .tup (nums c.a)) rfl)) (ek_var evo_same rfl) (rk_ix evo_same (at_nums (by rw [hc.la]; exact bN x hx)))
      · have u1 : Same H11 (upd H11 p1 (.tup [w1, w2, w3])) := same_new hp1
        have u2 := u1.trans (same_new (o := .tup [.ref p1]) hp2)
        have kc : KAt (upd H11 p1 (.tup [w1, w2, w3])) (encC ⟨l1, l2, l3⟩) (.ref p1) := .tup upd_same (.cons (KAt.up kw1 (Ts.of (s10.trans (s11.trans u1)))) (.cons (KAt.up kw2 (Ts.of (s11.trans u1))) (.cons (kw3.up (Ts.of u1)) .nil)))
        refine rk_addT V_ (by have := front_len g; show _ + 1 ≤ 1000; omega) _ _ _ (k4.up evo_same (s9.trans (s10.trans (s11.trans u2)))) (AAt.of (KAt.tup (ks := [encC ⟨l1, l2, l3⟩]) upd_same (.cons (kc.up (Ts.new hp2)) .nil))) _ fun v9 d9 H12 r12 k12 e12 => ?_
        subst e12
        rw [← enc_with hns] at k12
        have okc : CellOk ⟨l1, l2, l3⟩ := ⟨by show 0 < l1.length; rw [hl1, lN]; exact hc.pos, by show l1.length ≤ 8; omega, by show l2.length = l1.length; omega, by show l3.length = l1.length; omega, fun x hx => Nat.le_of_lt_succ (hb1 x hx), fun x hx => by show x < l1.length; rw [hl1, lN]; exact hb2 x hx, fun x hx => by show x < l1.length; rw [hl1, lN]; exact hb3 x hx⟩
        exact q _ _ _ (V_.trans (V_.ex (s16.trans (s8.trans (s9.trans (s10.trans (s11.trans u2)))))) r12) k12 ⟨_, rfl, withC g ⟨l1, l2, l3⟩, with_ok hg okc, by rw [with_deep]; exact hd, rfl⟩
end
end K49
set_option Elab.async false
set_option linter.all false
set_option maxRecDepth 100000
set_option maxHeartbeats 4000000
set_option autoImplicit false
/-! The law: a copied cell. -/
namespace K49
open PySem PySem.Spec PyProof.Rows L2
local macro_rules | `(tactic| walk_at "rk") => `(tactic| first
  | exact rk_eqS ‹_› (by decide)
  | exact rk_ix ‹_› rfl
  | exact rk_inS2 ‹_› (by decide)
  | exact rk_ix ‹_› (at_nums (by assumption))
  | exact rk_modN ‹_› (by first | assumption | omega)
  | exact rk_addN ‹_›
  | exact rk_mul2 ‹_›
  | exact rk_addr1 ‹_›
  | exact rk_add1l ‹_›
  | exact rk_shl1 ‹_› (by omega)
  | exact rk_mulN ‹_› (by omega)
  | exact rk_shlN ‹_› (by omega) (by omega)
  | exact rk_addI ‹_›
  | exact rk_addT ‹_› (by first | decide | (simp only [List.length_append, List.length_cons, List.length_nil, List.length_take, List.length_drop] at *; omega))
  | exact rk_sub ‹_›
  | exact rk_neBl ‹_›
  | exact rk_eqI ‹_›
  | exact rk_neI ‹_›
  | exact rk_cmp ‹_›)
local macro_rules | `(tactic| walk_at "el") => `(tactic| first
  | exact el_nil ‹_›
  | (apply el_cons ‹_›; (focus walk_at "ek"); walk_at "el"))
local macro_rules | `(tactic| walk_at "eo") => `(tactic| first
  | exact eo_none ‹_›
  | (apply eo_some ‹_›; walk_at "ek"))
local macro_rules | `(tactic| walk_at "ek") => `(tactic| first
  | exact ek_var ‹_› rfl
  | exact ek_int ‹_›
  | exact ek_str ‹_›
  | exact ek_non ‹_›
  | exact ek_bl ‹_›
  | (apply ek_op ‹_›; (focus walk_at "ek"); (focus walk_at "ek"); walk_at "rk")
  | (apply ek_neg ‹_›; walk_at "ek")
  | (apply ek_slice ‹_›; (focus walk_at "ek"); (focus walk_at "eo"); walk_at "eo")
  | (apply ek_tup1 ‹_›; walk_at "ek")
  | (apply ek_tup2 ‹_›; (focus walk_at "ek"); walk_at "ek")
  | (apply ek_tup3 ‹_›; (focus walk_at "ek"); (focus walk_at "ek"); walk_at "ek"))
local macro_rules | `(tactic| walk_at "run") => `(tactic| first
  | (refine rs_ret ?_; walk_at "ek")
  | (refine rs_retS ?_; walk_at "ek")
  | (refine rs_yes ‹_› (eb_test ‹_› ?_) ?_; (focus walk_at "ek"); walk_at "run")
  | (refine rs_no ‹_› (eb_test ‹_› ?_) ?_; (focus walk_at "ek"); walk_at "run"))
def okCopied : Ok := fun as R S => ∃ a c, CellOk c ∧ R = Dr a ∧ as = [.dr a, .k (encC c)] ∧ S = isK fun x => ∃ c', CellOk c' ∧ x = encC c'
theorem st9 {σ : L2.St} {H : Hp} {a : Addr} {x : NestedKey} (m : Mt [some (.dr a), some (.k x), none, none, none, none, none, none, none] σ H) : ∃ y o2 o3 o4 o5 o6 o7 o8, σ = [some (.ref a), some y, o2, o3, o4, o5, o6, o7, o8] ∧ DR a H ∧ KAt H x y := by
  obtain ⟨v0, σ1, e0, ⟨e0', hdr⟩, m1⟩ := mt_un m
  obtain ⟨y, σ2, e1, ky, m2⟩ := mt_un m1
  obtain ⟨o2, σ3, e2, m3⟩ := mt_unN m2
  obtain ⟨o3, σ4, e3, m4⟩ := mt_unN m3
  obtain ⟨o4, σ5, e4, m5⟩ := mt_unN m4
  obtain ⟨o5, σ6, e5, m6⟩ := mt_unN m5
  obtain ⟨o6, σ7, e6, m7⟩ := mt_unN m6
  obtain ⟨o7, σ8, e7, m8⟩ := mt_unN m7
  obtain ⟨o8, σ9, e8, m9⟩ := mt_unN m8
  have e9 := mt_un0 m9
  subst e9 e8 e7 e6 e5 e4 e3 e2 e1 e0' e0
  exact ⟨y, o2, o3, o4, o5, o6, o7, o8, rfl, hdr, ky⟩
section
variable {P : Program} {w : World} {K : PySem.W.Frag} {mg : Str → Option Value} {base : Heap}
theorem take_rawE {a : Addr} {m : Nat} {H : Hp} {Q : VK} {v : V} (hv : v = .int (m : Nat)) (hm : 1 ≤ m) (hd : DR a H) (q : ∀ (x : Nat) H', x < m → Dr a H H' → Q (.int (x : Nat)) H') : spG okTake [.ref a, v] H Q C8.E0 := by
  subst hv
  exact take_raw hm hd q
theorem inV_vints (m : Nat) (l : List Nat) : inV (.int (m : Nat)) (vints l) = decide (m ∈ l) := by
  induction l with
  | nil => rfl
  | cons x r ih =>
    have e : inV (.int (m : Nat)) (vints (x :: r)) = (((x : Int) == (m : Int)) || inV (.int (m : Nat)) (vints r)) := rfl
    rw [e, ih]
    by_cases h : m = x
    · subst h
      simp
    · have h1 : ((x : Int) == (m : Int)) = false := by
        rw [beq_eq_false_iff_ne]
        omega
      rw [h1, Bool.false_or]
      simp [h]
theorem flat_vints (l : List Nat) : (vints l).all flatV = true := by
  induction l with
  | nil => rfl
  | cons x r ih => exact ih
theorem vints_snoc (l : List Nat) (x : Nat) : vints l ++ [V.int (x : Nat)] = vints (l ++ [x]) := by
  unfold vints
  rw [List.map_append]
  rfl
theorem vints_app (l m : List Nat) : vints l ++ vints m = vints (l ++ m) := by
  unfold vints
  rw [List.map_append]
def CpI (a : Addr) (H1 H : Hp) (pX R r0 r1 : Addr) (BX : List Nat) (i0 i1 : Nat) : Prop := Dr a H1 H ∧ H pX = some (.lst (vints BX)) ∧ H R = some (.lst [V.ref r0, V.ref r1]) ∧ ∃ l0 l1, H r0 = some (.lst (vints l0)) ∧ H r1 = some (.lst (vints l1)) ∧ l0.length = i0 ∧ l1.length = i1 ∧ (∀ y ∈ l0, y < BX.length) ∧ ∀ y ∈ l1, y < BX.length
theorem cal_lcopied (F : TD K mg "_law_copied" s_l_law_copied ["draws", "cell"]) (B : Blt mg) (c_l_law_take : C8.Cal P w K mg base 1 "_law_take" (spG okTake) []) : C8.Cal P w K mg base 2 "_law_copied" (spG okCopied) [] := by
  refine cal_of F sc_l_law_copied (fun as R S h => ?_) fun f cdv A outer s H E hr => ⟨_, (pss_cons (ps_set (i := 2) sc_l_law_copied.nd rfl (Or.inr rfl) (pe_callB (cr_lenx rfl) (by rfl) B.len PySem.boot_len (pa_cons (pe_ix (ix_U hr.units) (pv 1) pe_int (fun _ _ => rfl)) pa_nil)))
      (pss_cons (ps_set (i := 3) sc_l_law_copied.nd rfl (Or.inr rfl) (pe_op op_addU (pe_lst (pa_cons pe_int pa_nil)) (pe_lc (own := [("k", 5)]) (by rfl) sc_l_law_copied.nd (pi_range1 (by rfl) B.range (pa_cons (C8.pe_c c_l_law_take hr (by first | decide | omega) (by rfl) (pa_cons (pv 0) (pa_cons (pe_op op_sub pe_int (pv 2)) pa_nil))) pa_nil)) (blkOk_by (own := [("k", 5)]) (N := ["draws", "cell", "many", "base", "rows", "k", "side", "some", "j"]) (sc := defScope s_l_law_copied) (by decide +kernel)) (fun _ _ _ _ _ => (pg_name (i := 5) sc_l_law_copied.nd rfl (Or.inl rfl))) (fun _ _ _ _ _ => pts_nil) (fun _ _ _ _ _ => (C8.pe_c c_l_law_take hr (by first | decide | omega) (by rfl) (pa_cons (pv 0) (pa_cons (pv 2) pa_nil)))))))
      (pss_cons (ps_set (i := 3) sc_l_law_copied.nd rfl (Or.inr rfl) (pe_op op_addU (pv 3) (pe_lc (own := [("k", 5)]) (by rfl) sc_l_law_copied.nd (pi_range2 (by rfl) B.range (pa_cons pe_int (pa_cons (pv 2) pa_nil))) (blkOk_by (own := [("k", 5)]) (N := ["draws", "cell", "many", "base", "rows", "k", "side", "some", "j"]) (sc := defScope s_l_law_copied) (by decide +kernel)) (fun _ _ _ _ _ => (pg_name (i := 5) sc_l_law_copied.nd rfl (Or.inl rfl))) (fun _ _ _ _ _ => (pts_one (pt_cmpR (op_notInUx (P := P) (w := w) (K := K) rfl rfl rfl hr.units) (pv 5) (pv 3) (by rfl)))) (fun _ _ _ _ _ => (pv 5)))))
      (pss_cons (ps_if (pt_cmpR op_gt (pe_callB (cr_lenx rfl) (by rfl) B.len PySem.boot_len (pa_cons (pv 3) pa_nil)) pe_int (nomark _)) (pss_one (ps_set (i := 3) sc_l_law_copied.nd rfl (Or.inr rfl) (pe_listRg rfl (by rfl) B.list (prg_1 (by rfl) B.range (pv 2))))) pss_nil)
      (pss_cons (ps_set (i := 4) sc_l_law_copied.nd rfl (Or.inl rfl) (pe_lst (pa_cons (pe_lst pa_nil) (pa_cons (pe_lst pa_nil) pa_nil))))
      (pss_cons (ps_for PassesOwn.never rfl (pi_list (pv 3)) (pg_name (i := 5) sc_l_law_copied.nd rfl (Or.inr rfl)) (pss_one (ps_for PassesOwn.never rfl (pi_range1 (by rfl) B.range (pa_cons pe_int pa_nil)) (pg_name (i := 6) sc_l_law_copied.nd rfl (Or.inr rfl)) (pss_cons (ps_setLc (i := 7) (own := [("j", 8)]) (by rfl) sc_l_law_copied.nd rfl rfl (sw_true rfl rfl rfl (by decide +kernel)) (pi_range1 (by rfl) B.range (pa_cons (pe_callB (cr_lenx rfl) (by rfl) B.len PySem.boot_len (pa_cons (pv 3) pa_nil)) pa_nil)) (blkOk_by (own := [("j", 8)]) (N := ["draws", "cell", "many", "base", "rows", "k", "side", "some", "j"]) (sc := defScope s_l_law_copied) (by decide +kernel)) (fun _ _ _ _ _ => (pg_name (i := 8) sc_l_law_copied.nd rfl (Or.inl rfl))) (fun _ _ _ _ _ => (pts_one (pt_cmpR (op_eqUx (K := K) rfl hr.units) (pe_ix (ix_Ux (P := P) (w := w) (K := K) rfl rfl rfl hr.units) (pv 3) (pv 8) (fun _ _ => rfl)) (pe_ix (ix_Ux (P := P) (w := w) (K := K) rfl rfl rfl hr.units) (pe_ix (ix_Ux (P := P) (w := w) (K := K) rfl rfl rfl hr.units) (pv 1) (pe_op (op_addUx (K := K) rfl) pe_int (pv 6)) (fun _ _ => rfl)) (pv 5) (fun _ _ => rfl)) (nomark _)))) (fun _ _ _ _ _ => (pv 8)))
      (pss_one (ps_expr (pe_bm PySem.F.plainAttrs_list PySem.F.slot_list_append PySem.F.type_list_append mt_append (pe_ix (ix_U hr.units) (pv 4) (pv 6) (fun _ _ => rfl)) (pa_cons (pe_ix (ix_U hr.units) (pv 7) (C8.pe_c c_l_law_take hr (by first | decide | omega) (by rfl) (pa_cons (pv 0) (pa_cons (pe_callB (cr_lenx rfl) (by rfl) B.len PySem.boot_len (pa_cons (pv 7) pa_nil)) pa_nil))) (fun _ _ => rfl)) pa_nil))))))))
      (pss_one (ps_ret (pe_tup (pa_cons (pe_callTy (cr_tuplex rfl) (by rfl) B.tuple (by decide +kernel) (pa_cons (pe_lc (own := [("k", 5)]) (by rfl) sc_l_law_copied.nd (pi_list (pv 3)) (blkOk_by (own := [("k", 5)]) (N := ["draws", "cell", "many", "base", "rows", "k", "side", "some", "j"]) (sc := defScope s_l_law_copied) (by decide +kernel)) (fun _ _ _ _ _ => (pg_name (i := 5) sc_l_law_copied.nd rfl (Or.inl rfl))) (fun _ _ _ _ _ => pts_nil) (fun _ _ _ _ _ => (pe_ix (ix_Ux (P := P) (w := w) (K := K) rfl rfl rfl hr.units) (pe_ix (ix_Ux (P := P) (w := w) (K := K) rfl rfl rfl hr.units) (pv 1) pe_int (fun _ _ => rfl)) (pv 5) (fun _ _ => rfl)))) pa_nil)) (pa_cons (pe_callTy (cr_tuplex rfl) (by rfl) B.tuple (by decide +kernel) (pa_cons (pe_ix (ix_U hr.units) (pv 4) pe_int (fun _ _ => rfl)) pa_nil)) (pa_cons (pe_callTy (cr_tuplex rfl) (by rfl) B.tuple (by decide +kernel) (pa_cons (pe_ix (ix_U hr.units) (pv 4) pe_int (fun _ _ => rfl)) pa_nil)) pa_nil)))))))))))), fun as R S h => ?_⟩
  · obtain ⟨a, c, _, _, rfl, _⟩ := h
    rfl
  · obtain ⟨a, c, hc, rfl, rfl, rfl⟩ := h
    have V_ := evo_dr a
    intro D0 σ H1 M q
    obtain ⟨yc, o2, o3, o4, o5, o6, o7, o8, rfl, hdr, kc⟩ := st9 M
    clear M
    have kc' := kc
    unfold encC at kc'
    cases kc' with
    | @tup bc zs _ hbc kzs =>
    cases kzs with
    | @cons _ z0 _ _ k0 kzs =>
    cases kzs with
    | @cons _ z1 _ _ k1 kzs =>
    cases kzs with
    | @cons _ z2 _ _ k2 kzs =>
    cases kzs
    cases k0 with
    | @tup b0 w0 _ h0 kw0 =>
    cases k1 with
    | @tup b1 w1 _ h1 kw1 =>
    cases k2 with
    | @tup b2 w2 _ h2 kw2 =>
    rw [kats_nums kw0] at h0
    rw [kats_nums kw1] at h1
    rw [kats_nums kw2] at h2
    clear kw0 kw1 kw2 kc
    have hlg := vints_length c.g
    have hfew := hc.few
    have hpos := hc.pos
    refine ⟨.ref bc, rfl, .inr (.inl ⟨bc, _, 0, .ref b0, rfl, rfl, SqT.of hbc, rfl, b0, _, rfl, .inr (SqT.of h0), ?_⟩)⟩
    rw [hlg]
    generalize hn : c.g.length = n at *
    refine ⟨(by show 1 ≤ sizeLine; decide), fun pz hpz => ⟨.ref a, rfl, .int n, rfl, 9, n, rfl, rfl, take_rawE (m := 9 - n) (by show V.int (9 - (n : Int)) = _; congr 1; omega) (by omega) (V_.dr (V_.ex (same_new hpz)) hdr) fun x H2 hx D2 => ?_⟩⟩
    have D12 : Dr a H1 H2 := V_.trans (V_.ex (same_new hpz)) D2
    have nz := dr_new hdr hpz
    have hz2 := D2.but _ _ nz upd_same
    have hdr2 := V_.dr D12 hdr
    refine ⟨x, rfl, by omega, by omega, fun D hD => ?_⟩
    have nD := dr_new hdr2 hD
    rw [Int.toNat_natCast]
    refine lc_range (fun i H' => Dr a H2 H' ∧ ∃ l, H' D = some (.lst (vints l)) ∧ l.length = i ∧ ∀ y ∈ l, y < n) ⟨V_.ex (same_new hD), [], upd_same, rfl, fun y hy => (nomatch hy)⟩ (fun i H' hi ⟨Di, l, g1, g2, g3⟩ => ⟨rfl, .ref a, rfl, .int n, rfl, take_raw (m := n) hpos (V_.dr Di hdr2) fun y H3 hy D3 => ⟨vints l, D3.but _ _ nD g1, lt_line (by rw [vints_length]; omega), V_.fr (V_.trans Di D3) hD, l ++ [y], by rw [vints_snoc]; exact upd_same, by rw [List.length_append, g2]; rfl, fun z hz => ?_⟩⟩) fun H' ⟨Di, l, g1, g2, g3⟩ => ?_
    · rcases List.mem_append.mp hz with h | h
      · exact g3 z h
      · rw [List.mem_singleton.mp h]; exact hy
    have D13 : Dr a H1 H' := V_.trans D12 Di
    refine .inr (.inr ⟨pz, D, [.int 0], vints l, rfl, rfl, Di.but _ _ nz hz2, g1, le_line (by rw [vints_length]; show 1 + _ ≤ _; omega), fun pb hpb => ?_⟩)
    have e0l : ([V.int 0] ++ vints l) = vints (0 :: l) := rfl
    rw [e0l]
    have D14 : Dr a H1 (upd H' pb (.lst (vints (0 :: l)))) := V_.trans D13 (V_.ex (same_new hpb))
    have hb4 : (upd H' pb (.lst (vints (0 :: l)))) pb = some (.lst (vints (0 :: l))) := upd_same
    have bb0 : ∀ y ∈ (0 :: l), y < n := fun y hy => (List.mem_cons.mp hy).elim (fun e => by rw [e]; exact hpos) (g3 y)
    have lb0 : (0 :: l).length ≤ 9 := by show l.length + 1 ≤ 9; omega
    have mem0 : 0 ∈ (0 :: l) := List.mem_cons_self
    generalize (upd H' pb (.lst (vints (0 :: l)))) = H4 at *
    generalize (0 :: l) = ba at *
    refine ⟨.ref pb, rfl, .int n, rfl, 1, n, rfl, ⟨by decide, by decide, by omega, by omega⟩, fun D2' hD2' => ?_⟩
    have en : ((n : Int) - 1).toNat = n - 1 := by omega
    rw [en]
    refine lc_range (fun i H' => Same H4 H' ∧ ∃ l2, H' D2' = some (.lst (vints l2)) ∧ l2.length ≤ i ∧ (∀ y ∈ l2, y < n) ∧ ∀ kk, 1 ≤ kk → kk < 1 + i → kk ∈ ba ∨ kk ∈ l2) ⟨same_new hD2', [], upd_same, Nat.le_refl _, fun y hy => (nomatch hy), fun kk h1 h2 => by omega⟩ (fun i H5 hi ⟨s5, l2, g1, g2, g3, g4⟩ => ?_) fun H5 ⟨s5, l2, g1, g2, g3, g4⟩ => ?_
    · have e1i : (1 : Int) + (i : Nat) = ((1 + i : Nat) : Int) := by omega
      rw [e1i]
      refine ⟨rfl, _, rfl, .ref pb, rfl, .inl ⟨pb, vints ba, rfl, .inl (SqL.of (s5 _ _ hb4)), rfl, flat_vints _, _, rfl, ?_⟩⟩
      by_cases hm : (1 + i) ∈ ba
      · rw [inV_vints, decide_eq_true hm]
        exact ⟨s5, l2, g1, by omega, g3, fun kk h1 h2 => by
          by_cases e : kk = 1 + i
          · rw [e]; exact .inl hm
          · exact g4 kk h1 (by omega)⟩
      · rw [inV_vints, decide_eq_false hm]
        refine ⟨_, rfl, vints l2, g1, lt_line (by rw [vints_length]; omega), same_upd s5 hD2', l2 ++ [1 + i], by rw [vints_snoc]; exact upd_same, by rw [List.length_append]; show l2.length + 1 ≤ _; omega, fun z hz => ?_, fun kk h1 h2 => ?_⟩
        · rcases List.mem_append.mp hz with h | h
          · exact g3 z h
          · rw [List.mem_singleton.mp h]; omega
        · by_cases e : kk = 1 + i
          · rw [e]; exact .inr (List.mem_append.mpr (.inr (List.mem_singleton.mpr rfl)))
          · exact (g4 kk h1 (by omega)).elim .inl fun h => .inr (List.mem_append.mpr (.inl h))
    refine .inr (.inr ⟨pb, D2', vints ba, vints l2, rfl, rfl, s5 _ _ hb4, g1, le_line (by rw [vints_length, vints_length]; omega), fun pc hpc => ?_⟩)
    rw [vints_app]
    have npc : pc ≠ a := dr_new (V_.dr (V_.trans D14 (V_.ex s5)) hdr) hpc
    have D16 : Dr a H1 (upd H5 pc (.lst (vints (ba ++ l2)))) := V_.trans D14 (V_.ex (s5.trans (same_new hpc)))
    have hB : (upd H5 pc (.lst (vints (ba ++ l2)))) pc = some (.lst (vints (ba ++ l2))) := upd_same
    have bB : ∀ y ∈ ba ++ l2, y < n := fun y hy => (List.mem_append.mp hy).elim (bb0 y) (g3 y)
    have aB : ∀ kk, kk < n → kk ∈ ba ++ l2 := fun kk hk => by
      by_cases h0 : kk = 0
      · rw [h0]; exact List.mem_append.mpr (.inl mem0)
      · exact List.mem_append.mpr (g4 kk (by omega) (by omega))
    generalize (upd H5 pc (.lst (vints (ba ++ l2)))) = H6 at *
    generalize ba ++ l2 = Bs at *
    clear g4 g3 g2 g1 s5 hD2'
    refine ⟨.ref pc, rfl, pc, _, rfl, .inl (SqL.of hB), _, 8, rfl, rfl, _, rfl, ?_⟩
    rw [vints_length]
    have lB0 : 1 ≤ Bs.length := List.length_pos_of_mem (aB 0 hpos)
    by_cases h8 : (8 : Int) < (Bs.length : Int)
    rotate_left
    rw [decide_eq_false h8]
    have DX := D16
    have hBX := hB
    have nPX := npc
    have bBX := bB
    have aBX := aB
    have lBX : 1 ≤ Bs.length ∧ Bs.length ≤ 8 := ⟨lB0, by omega⟩
    generalize pc = pX at *
    generalize Bs = BX at *
    generalize H6 = HX at *
    rotate_left
    rw [decide_eq_true h8]
    refine ⟨.int n, rfl, n, rfl, RgOk.of_le (by omega) (by omega) (by omega) (by omega), fun pX hpX => ?_⟩
    rw [rgV_vints]
    have nPX : pX ≠ a := dr_new (V_.dr D16 hdr) hpX
    have DX : Dr a H1 (upd H6 pX (.lst (vints (List.range n)))) := V_.trans D16 (V_.ex (same_new hpX))
    have hBX : (upd H6 pX (.lst (vints (List.range n)))) pX = some (.lst (vints (List.range n))) := upd_same
    have bBX : ∀ y ∈ List.range n, y < n := fun y hy => List.mem_range.mp hy
    have aBX : ∀ kk, kk < n → kk ∈ List.range n := fun kk hk => List.mem_range.mpr hk
    have lBX : 1 ≤ (List.range n).length ∧ (List.range n).length ≤ 8 := by rw [List.length_range]; omega
    generalize (upd H6 pX (.lst (vints (List.range n)))) = HX at *
    generalize List.range n = BX at *
    all_goals
      refine ⟨Nat.zero_le _, fun r0 hr0 => ⟨Nat.zero_le _, fun r1 hr1 => ⟨(by show 2 ≤ sizeLine; decide), fun R hR => ?_⟩⟩⟩
      have hdrX := V_.dr DX hdr
      have t1 : Same HX (upd HX r0 (.lst [])) := same_new hr0
      have t2 := t1.trans (same_new (o := .lst []) hr1)
      have t3 := t2.trans (same_new (o := .lst [.ref r0, .ref r1]) hR)
      have g0 : (upd HX r0 (.lst [])) r0 = some (.lst []) := upd_same
      have g0 := (same_new (o := .lst []) hr1) _ _ g0
      have g0 := (same_new (o := .lst [.ref r0, .ref r1]) hR) _ _ g0
      have g1 : (upd (upd HX r0 (.lst [])) r1 (.lst [])) r1 = some (.lst []) := upd_same
      have g1 := (same_new (o := .lst [.ref r0, .ref r1]) hR) _ _ g1
      have gR : (upd (upd (upd HX r0 (.lst [])) r1 (.lst [])) R (.lst [.ref r0, .ref r1])) R = some (.lst [.ref r0, .ref r1]) := upd_same
      have f1 : HX r1 = none := none_of_same t1 hr1
      have fR : HX R = none := none_of_same t2 hR
      have n0 := dr_new hdrX hr0
      have n1 := dr_new hdrX f1
      have nR := dr_new hdrX fR
      have n01 : r0 ≠ r1 := fun e => by
        subst e
        rw [upd_same] at hr1
        cases hr1
      have n0R : r0 ≠ R := fun e => by
        subst e
        rw [(same_new (o := .lst []) hr1) _ _ upd_same] at hR
        cases hR
      have n1R : r1 ≠ R := fun e => by
        subst e
        rw [upd_same] at hR
        cases hR
      have q0 : pX ≠ r0 := fun e => by
        subst e
        rw [hBX] at hr0
        cases hr0
      have q1 : pX ≠ r1 := fun e => by
        subst e
        rw [hBX] at f1
        cases f1
      have z0 := dr_none DX hdr hr0
      have z1 := dr_none DX hdr f1
      have DY : Dr a H1 (upd (upd (upd HX r0 (.lst [])) r1 (.lst [])) R (.lst [.ref r0, .ref r1])) := V_.trans DX (V_.ex t3)
      have hBY := t3 _ _ hBX
      generalize (upd (upd (upd HX r0 (.lst [])) r1 (.lst [])) R (.lst [.ref r0, .ref r1])) = HY at *
      refine ⟨.ref pX, rfl, pX, rfl, ⟨_, SqL.of hBY⟩, for_list (K := K) (a := pX) (xs := vints BX) (fun i σ H' => ∃ e5 e6 e7 e8, σ = [some (.ref a), some (.ref bc), some (.int n), some (.ref pX), some (.ref R), e5, e6, e7, e8] ∧ CpI a H1 H' pX R r0 r1 BX i i)
        ⟨_, _, _, _, rfl, DY, hBY, gR, [], [], g0, g1, rfl, rfl, fun y hy => (nomatch hy), fun y hy => (nomatch hy)⟩ (fun i σ H' _ ⟨_, _, _, _, _, I⟩ => SqL.of I.2.1) ?_ ?_⟩
      · rintro i v σ H' hv ⟨e5, e6, e7, e8, rfl, I⟩
        have hvx : ∃ kb, v = .int (kb : Nat) ∧ kb < n := by
          unfold vints at hv
          rw [List.getElem?_map] at hv
          cases hq : BX[i]? with
          | none => rw [hq] at hv; cases hv
          | some kb =>
            rw [hq] at hv
            exact ⟨kb, (Option.some.inj hv).symm, bBX _ (List.mem_of_getElem? hq)⟩
        obtain ⟨kb, rfl, hkb⟩ := hvx
        have hi8 : i < 8 := by
          have := (List.getElem?_eq_some_iff.mp hv).1
          rw [vints_length] at this
          omega
        refine ⟨2, rfl, by decide, by decide, for_range (fun j σ H' => ∃ e6 e7 e8, σ = [some (.ref a), some (.ref bc), some (.int n), some (.ref pX), some (.ref R), some (.int (kb : Nat)), e6, e7, e8] ∧ CpI a H1 H' pX R r0 r1 BX (if 1 ≤ j then i + 1 else i) (if 2 ≤ j then i + 1 else i)) ⟨_, _, _, rfl, I⟩ ?_ ?_⟩
        · rintro j σ H' hj ⟨e6, e7, e8, rfl, DZ, i1, i2, l0, l1, i3, i4, i5, i6, i7, i8⟩
          rw [Int.zero_add]
          obtain ⟨bj, row, hbj, hrow, hrl, hrb, rj, hrj⟩ : ∃ bj row, atI [V.ref b0, V.ref b1, V.ref b2] (1 + (j : Nat)) = some (.ref bj) ∧ H1 bj = some (.tup (vints row)) ∧ row.length = n ∧ (∀ y ∈ row, y < n) ∧ ∃ rj, [V.ref r0, V.ref r1][j]? = some (.ref rj) := by
            match j, hj with
            | 0, _ => exact ⟨b1, c.s, rfl, h1, by rw [hc.ls, hn], fun y hy => hn ▸ hc.sb y hy, r0, rfl⟩
            | 1, _ => exact ⟨b2, c.a, rfl, h2, by rw [hc.la, hn], fun y hy => hn ▸ hc.ab y hy, r1, rfl⟩
          have hdrZ := V_.dr DZ hdr
          refine ⟨.ref pX, rfl, pX, _, rfl, .inl (SqL.of i1), _, rfl, by omega, by rw [vints_length]; omega, fun DS hDS => ?_⟩
          have eN : ((vints BX).length : Int).toNat = BX.length := by rw [vints_length]; omega
          rw [eN]
          have hkr : kb < row.length := by rw [hrl]; exact hkb
          refine lc_range (fun m H'' => Same H' H'' ∧ ∃ S, H'' DS = some (.lst (vints S)) ∧ S.length ≤ m ∧ (∀ y ∈ S, y < BX.length) ∧ ∀ jj, jj < m → BX.getD jj 0 = row.getD kb 0 → jj ∈ S) ⟨same_new hDS, [], upd_same, Nat.le_refl _, fun y hy => (nomatch hy), fun jj h => by omega⟩ (fun m H'' hm ⟨s5, S, g1, g2, g3, g4⟩ => ?_) fun H'' ⟨s5, S, g1, g2, g3, g4⟩ => ?_
          · rw [Int.zero_add]
            refine ⟨rfl, .ref pX, rfl, .int m, rfl, .inl ⟨pX, _, m, _, rfl, rfl, SqL.of (s5 _ _ i1), atI_nat (vints_at hm), ?_⟩⟩
            refine ⟨.ref bc, rfl, .int j, rfl, .inl ⟨1, j, rfl, rfl, .inr (.inl ⟨bc, _, 1 + (j : Nat), _, rfl, rfl, SqT.of (s5 _ _ (DZ.ts _ _ hbc)), hbj, ?_⟩)⟩⟩
            refine ⟨.int kb, rfl, .inr (.inl ⟨bj, _, kb, _, rfl, rfl, SqT.of (s5 _ _ (DZ.ts _ _ hrow)), atI_nat (vints_at hkr), ?_⟩)⟩
            refine .inl ⟨rfl, _, rfl, ?_⟩
            by_cases he : BX.getD m 0 = row.getD kb 0
            · rw [decide_eq_true (by rw [he])]
              refine ⟨_, rfl, vints S, g1, lt_line (by rw [vints_length]; omega), same_upd s5 hDS, S ++ [m], by rw [vints_snoc]; exact upd_same, by rw [List.length_append]; show S.length + 1 ≤ _; omega, fun y hy => ?_, fun jj h1 h2 => ?_⟩
              · rcases List.mem_append.mp hy with h | h
                · exact g3 y h
                · rw [List.mem_singleton.mp h]; exact hm
              · by_cases e : jj = m
                · rw [e]; exact List.mem_append.mpr (.inr (List.mem_singleton.mpr rfl))
                · exact List.mem_append.mpr (.inl (g4 jj (by omega) h2))
            · rw [decide_eq_false (fun z => he (by have := V.int.inj z; omega))]
              exact ⟨s5, S, g1, by omega, g3, fun jj h1 h2 => by
                by_cases e : jj = m
                · rw [e] at h2; exact absurd h2 he
                · exact g4 jj (by omega) h2⟩
          · have ht : row.getD kb 0 ∈ BX := aBX _ (hrb _ (by rw [List.getD_eq_getElem?_getD, List.getElem?_eq_getElem hkr]; exact List.getElem_mem hkr))
            obtain ⟨jj, hjj, ejj⟩ := List.getElem_of_mem ht
            have hS : jj ∈ S := g4 jj hjj (by rw [List.getD_eq_getElem?_getD, List.getElem?_eq_getElem hjj]; exact ejj)
            have lS : 1 ≤ S.length := List.length_pos_of_mem hS
            have nDS := dr_new hdrZ hDS
            have hdr5 : DR a H'' := V_.dr (V_.ex s5) hdrZ
            refine ⟨.ref R, rfl, .int j, rfl, .inl ⟨R, _, j, .ref rj, rfl, rfl, SqL.of (s5 _ _ i2), atI_nat hrj, ?_⟩⟩
            have hl8 : l0.length ≤ 9 ∧ l1.length ≤ 9 := by
              rw [i5, i6]
              constructor <;> split <;> omega
            have hj2 : j = 0 ∨ j = 1 := by omega
            rcases hj2 with rfl | rfl
            · have er : r0 = rj := by simpa using hrj
              subst er
              have hl := s5 _ _ i3
              refine ⟨.inl ⟨rfl, _, SqL.of hl⟩, .ref DS, rfl, .ref a, rfl, .ref DS, rfl, DS, vints S, rfl, .inl (SqL.of g1), take_rawE (m := S.length) (by rw [vints_length]) lS hdr5 fun y H9 hy D9 => .inl ⟨DS, vints S, y, .int (S.getD y 0 : Nat), rfl, rfl, SqL.of (D9.but _ _ nDS g1), atI_nat (vints_at hy), r0, vints l0, _, rfl, rfl, D9.but _ _ n0 hl, lt_line (by rw [vints_length]; omega), ?_⟩⟩
              rw [vints_snoc]
              have hyb : S.getD y 0 < BX.length := g3 _ (by rw [List.getD_eq_getElem?_getD, List.getElem?_eq_getElem hy]; exact List.getElem_mem hy)
              have t9 := D9.but _ _ nPX (s5 _ _ i1)
              have tR := D9.but _ _ nR (s5 _ _ i2)
              have to := D9.but _ _ n1 (s5 _ _ i4)
              refine ⟨_, _, _, rfl, V_.fr (V_.trans DZ (V_.trans (V_.ex s5) D9)) z0, (by rw [upd_ne q0]; exact t9), (by rw [upd_ne (Ne.symm n0R)]; exact tR), l0 ++ [S.getD y 0], l1, upd_same, (by rw [upd_ne (Ne.symm n01)]; exact to), (by rw [List.length_append, i5]; rfl), i6, (fun z hz => (List.mem_append.mp hz).elim (i7 z) fun h => by rw [List.mem_singleton.mp h]; exact hyb), i8⟩
            · have er : r1 = rj := by simpa using hrj
              subst er
              have hl := s5 _ _ i4
              refine ⟨.inl ⟨rfl, _, SqL.of hl⟩, .ref DS, rfl, .ref a, rfl, .ref DS, rfl, DS, vints S, rfl, .inl (SqL.of g1), take_rawE (m := S.length) (by rw [vints_length]) lS hdr5 fun y H9 hy D9 => .inl ⟨DS, vints S, y, .int (S.getD y 0 : Nat), rfl, rfl, SqL.of (D9.but _ _ nDS g1), atI_nat (vints_at hy), r1, vints l1, _, rfl, rfl, D9.but _ _ n1 hl, lt_line (by rw [vints_length]; omega), ?_⟩⟩
              rw [vints_snoc]
              have hyb : S.getD y 0 < BX.length := g3 _ (by rw [List.getD_eq_getElem?_getD, List.getElem?_eq_getElem hy]; exact List.getElem_mem hy)
              have t9 := D9.but _ _ nPX (s5 _ _ i1)
              have tR := D9.but _ _ nR (s5 _ _ i2)
              have to := D9.but _ _ n0 (s5 _ _ i3)
              refine ⟨_, _, _, rfl, V_.fr (V_.trans DZ (V_.trans (V_.ex s5) D9)) z1, (by rw [upd_ne q1]; exact t9), (by rw [upd_ne (Ne.symm n1R)]; exact tR), l0, l1 ++ [S.getD y 0], (by rw [upd_ne n01]; exact to), upd_same, i5, (by rw [List.length_append, i6]; rfl), i7, (fun z hz => (List.mem_append.mp hz).elim (i8 z) fun h => by rw [List.mem_singleton.mp h]; exact hyb)⟩
        · rintro σ H' ⟨e6, e7, e8, rfl, I⟩
          exact ⟨_, _, _, _, rfl, I⟩
      · rintro σ H' ⟨e5, e6, e7, e8, rfl, DZ, i1, i2, l0, l1, i3, i4, i5, i6, i7, i8⟩
        rw [vints_length] at i5 i6
        have hbcZ := DZ.ts _ _ hbc
        have h0Z := DZ.ts _ _ h0
        refine tup3_at (raw_compNums (i := 3) (j := 5) (m := 2) rfl i1 (by omega) (fun x H8 hx s8 Q q8 => ?_) fun lg v1 H8 s8 hlg2 hb2 kv1 => ?_)
        · have hxn : x < c.g.length := by rw [hn]; exact bBX x hx
          refine ⟨.ref bc, rfl, .inr (.inl ⟨bc, _, 0, .ref b0, rfl, rfl, SqT.of (s8 _ _ hbcZ), rfl, .int x, rfl, .inr (.inl ⟨b0, _, x, _, rfl, rfl, SqT.of (s8 _ _ h0Z), atI_nat (vints_at hxn), q8 _ _ (Nat.lt_succ_of_le (hc.g1 _ ?_)) (Same.refl _)⟩)⟩)⟩
          rw [List.getD_eq_getElem?_getD, List.getElem?_eq_getElem hxn]
          exact List.getElem_mem hxn
        · refine ⟨.ref R, rfl, .inl ⟨R, _, 0, .ref r0, rfl, rfl, SqL.of (s8 _ _ i2), rfl, r0, _, rfl, .inl ⟨SqL.of (s8 _ _ i3), fun u0 hu0 => ?_⟩⟩⟩
          have y1 : Same H8 (upd H8 u0 (.tup (vints l0))) := same_new hu0
          refine ⟨.ref R, rfl, .inl ⟨R, _, 1, .ref r1, rfl, rfl, SqL.of (y1 _ _ (s8 _ _ i2)), rfl, r1, _, rfl, .inl ⟨SqL.of (y1 _ _ (s8 _ _ i4)), fun u1 hu1 => ⟨(by show 3 ≤ sizeLine; decide), fun pt hpt => ?_⟩⟩⟩⟩
          have y2 : Same (upd H8 u0 (.tup (vints l0))) (upd (upd H8 u0 (.tup (vints l0))) u1 (.tup (vints l1))) := same_new hu1
          have y3 : Same (upd (upd H8 u0 (.tup (vints l0))) u1 (.tup (vints l1))) (upd (upd (upd H8 u0 (.tup (vints l0))) u1 (.tup (vints l1))) pt (.tup [v1, .ref u0, .ref u1])) := same_new hpt
          have kk : KAt (upd (upd (upd H8 u0 (.tup (vints l0))) u1 (.tup (vints l1))) pt (.tup [v1, .ref u0, .ref u1])) (encC ⟨lg, l0, l1⟩) (.ref pt) :=
            .tup upd_same (.cons (kv1.up (Ts.of (y1.trans (y2.trans y3)))) (.cons (.tup (y3 _ _ (y2 _ _ upd_same)) (nums_kats _)) (.cons (.tup (y3 _ _ upd_same) (nums_kats _)) .nil)))
          have okc : CellOk ⟨lg, l0, l1⟩ := ⟨by show 0 < lg.length; omega, by show lg.length ≤ 8; omega, by show l0.length = lg.length; omega, by show l1.length = lg.length; omega, fun x hx => Nat.le_of_lt_succ (hb2 x hx), fun x hx => by show x < lg.length; rw [hlg2]; exact i7 x hx, fun x hx => by show x < lg.length; rw [hlg2]; exact i8 x hx⟩
          exact q _ (.k (encC ⟨lg, l0, l1⟩)) _ (V_.trans DZ (V_.ex (s8.trans (y1.trans (y2.trans y3))))) (AAt.of kk) ⟨_, rfl, _, okc, rfl⟩
end
end K49
set_option Elab.async false
set_option linter.all false
set_option maxRecDepth 100000
set_option maxHeartbeats 4000000
set_option autoImplicit false
/-! The law: other forms, rivals. -/
namespace K49
open PySem PySem.Spec PyProof.Rows L2
local macro_rules | `(tactic| walk_at "rk") => `(tactic| first
  | exact rk_eqS ‹_› (by decide)
  | exact rk_ix ‹_› rfl
  | exact rk_inS2 ‹_› (by decide)
  | exact rk_ix ‹_› (at_nums (by assumption))
  | exact rk_modN ‹_› (by first | assumption | omega)
  | exact rk_addN ‹_›
  | exact rk_mul2 ‹_›
  | exact rk_addr1 ‹_›
  | exact rk_add1l ‹_›
  | exact rk_shl1 ‹_› (by omega)
  | exact rk_mulN ‹_› (by omega)
  | exact rk_shlN ‹_› (by omega) (by omega)
  | exact rk_addI ‹_›
  | exact rk_addT ‹_› (by first | decide | (simp only [List.length_append, List.length_cons, List.length_nil, List.length_take, List.length_drop] at *; omega))
  | exact rk_sub ‹_›
  | exact rk_neBl ‹_›
  | exact rk_eqI ‹_›
  | exact rk_neI ‹_›
  | exact rk_cmp ‹_›)
local macro_rules | `(tactic| walk_at "el") => `(tactic| first
  | exact el_nil ‹_›
  | (apply el_cons ‹_›; (focus walk_at "ek"); walk_at "el"))
local macro_rules | `(tactic| walk_at "eo") => `(tactic| first
  | exact eo_none ‹_›
  | (apply eo_some ‹_›; walk_at "ek"))
local macro_rules | `(tactic| walk_at "ek") => `(tactic| first
  | exact ek_var ‹_› rfl
  | exact ek_int ‹_›
  | exact ek_str ‹_›
  | exact ek_non ‹_›
  | exact ek_bl ‹_›
  | (apply ek_op ‹_›; (focus walk_at "ek"); (focus walk_at "ek"); walk_at "rk")
  | (apply ek_neg ‹_›; walk_at "ek")
  | (apply ek_slice ‹_›; (focus walk_at "ek"); (focus walk_at "eo"); walk_at "eo")
  | (apply ek_tup1 ‹_›; walk_at "ek")
  | (apply ek_tup2 ‹_›; (focus walk_at "ek"); walk_at "ek")
  | (apply ek_tup3 ‹_›; (focus walk_at "ek"); (focus walk_at "ek"); walk_at "ek"))
local macro_rules | `(tactic| walk_at "run") => `(tactic| first
  | (refine rs_ret ?_; walk_at "ek")
  | (refine rs_retS ?_; walk_at "ek")
  | (refine rs_yes ‹_› (eb_test ‹_› ?_) ?_; (focus walk_at "ek"); walk_at "run")
  | (refine rs_no ‹_› (eb_test ‹_› ?_) ?_; (focus walk_at "ek"); walk_at "run"))
def okOther (n : Nat) : Ok := fun as R S => ∃ a g, ∃ rm : Nat, rm ≤ n ∧ GsOk g ∧ deep g + rm ≤ 3 ∧ R = Dr a ∧ as = [.dr a, .k (encG g), .k (.num (rm : Int))] ∧ S = gsB (deep g + rm)
def okWrapped (n : Nat) : Ok := fun as R S => ∃ a g, ∃ rm : Nat, 1 ≤ rm ∧ rm ≤ n ∧ GsOk g ∧ deep g + rm ≤ 3 ∧ R = Dr a ∧ as = [.dr a, .k (encG g), .k (.num (rm : Int))] ∧ S = gsB (deep g + rm)
theorem cell2 {w1 w2 s1 s2 a1 a2 : Nat} (h1 : w1 ≤ 1) (h2 : w2 ≤ 1) (h3 : s1 < 2) (h4 : s2 < 2) (h5 : a1 < 2) (h6 : a2 < 2) : CellOk ⟨[w1, w2], [s1, s2], [a1, a2]⟩ := by
  refine ⟨by show 0 < 2; decide, by show 2 ≤ 8; decide, rfl, rfl, fun x hx => ?_, fun x hx => ?_, fun x hx => ?_⟩
  · have : x = w1 ∨ x = w2 := by simpa using hx
    rcases this with rfl | rfl <;> assumption
  · have : x = s1 ∨ x = s2 := by simpa using hx
    rcases this with rfl | rfl <;> assumption
  · have : x = a1 ∨ x = a2 := by simpa using hx
    rcases this with rfl | rfl <;> assumption
section
variable {P : Program} {w : World} {K : PySem.W.Frag} {mg : Str → Option Value} {base : Heap}
theorem numK {m : Nat} {R : Hp → Hp → Prop} {κ : KS} {te : TE} (h : EvS R te κ (numB m)) : EvS R te κ (isK fun y => ∃ x : Nat, y = .num (x : Int) ∧ x < m) := h.mono fun d ⟨x, e, hx⟩ => ⟨_, e, x, rfl, hx⟩
theorem es_lstK {R : Hp → Hp → Prop} (V_ : Evo R) {κ : KS} {tA : TA} {T : List NestedKey → Prop} (h : EvA R tA κ (isKs T)) (hl : ∀ ds, T ds → ds.length ≤ 1000 ∧ ∃ ks, NestedKey.tup ks ∈ ds) : EvS R (tLst tA) κ (fun d => ∃ D ds, T ds ∧ d = .lk D ds) := fun σ H M Q q =>
  h σ H M _ fun vs as H1 r1 ks ⟨ds, e, t⟩ => by
    subst e
    have hk := ks.kats
    obtain ⟨h1, ls, hm⟩ := hl ds t
    refine ⟨Nat.le_of_lt (small1000 (by rw [ks.length, List.length_map]; exact h1)), fun p hp => ?_⟩
    refine q _ (.lk p ds) _ (V_.trans r1 (V_.ex (same_new hp))) ⟨rfl, vs, upd_same, hk.up (Ts.new hp), ?_⟩ ⟨p, ds, t, rfl⟩
    obtain ⟨i, hi, e⟩ := List.getElem_of_mem hm
    obtain ⟨v, hv, kv⟩ := hk.get (show ds[i]? = some (.tup ls) by rw [List.getElem?_eq_getElem hi, e])
    refine ⟨v, List.mem_of_getElem? hv, fun n z => ?_⟩
    subst z
    cases kv
/-- guesser[:-1] + (cell,) -/
theorem es_withC {R : Hp → Hp → Prop} (V_ : Evo R) {κ : KS} {tg tc : TE} {g : Gs} {c' : Cell} {rm : Nat} (hns : isSame g = false) (hg : GsOk g) (hd : deep g + rm ≤ 3) (hc' : CellOk c') (h1 : EvK R tg κ (.k (encG g))) (h2 : EvK R tc κ (.k (encC c'))) :
    EvS R (tOp (rAddU K) (tSl (rSlU K) tg tNoPart (tPart (tUn (rU fun i => .int (-i)) (tC (.int 1))))) (tTup (tCons tc tNil))) κ (gsB (deep g + rm)) := by
  refine EvS.mono (es_cat V_ (T1 := fun ds => ds = frontOf g) (T2 := fun ds => ∃ y, ds = [y] ∧ y = encC c') ?_ (es_tup1K V_ (EvK.isK h2)) ?_) ?_
  · rw [enc_front hns] at h1
    exact (ek_slice V_ (lo := none) (hi := some (-1)) h1 (eo_none V_) (eo_some V_ (ek_neg V_ (ek_int V_)))).mono fun v e => ⟨_, e, _, by rw [cutK_front], rfl⟩
  · rintro _ _ rfl ⟨_, rfl, _⟩
    have := front_len g
    show _ + 1 ≤ 1000
    omega
  · rintro _ ⟨_, rfl, _, rfl, _, _, rfl, rfl, _, rfl, rfl⟩
    exact ⟨_, rfl, withC g c', with_ok hg hc', by rw [with_deep]; omega, (enc_with hns c').symm⟩
theorem cal_wrapped {n : Nat} (F : TD K mg "_law_wrapped" s_l_law_wrapped ["draws", "guesser", "room"]) (B : Blt mg) (c_l_law_take : C8.Cal P w K mg base 1 "_law_take" (spG okTake) []) (c_l_law_cell : C8.Cal P w K mg base 2 "_law_cell" (spG okCell) []) (c_l_law_other_form : C8.Cal P w K mg base (2 * n + 7) "_law_other_form" (spG (okOther n)) []) :
    C8.Cal P w K mg base (2 * n + 8) "_law_wrapped" (spG (okWrapped (n + 1))) [] := by
  refine cal_of F sc_l_law_wrapped (fun as R S h => ?_) fun f cdv A outer s H E hr => ⟨_, (pss_cons (ps_set (i := 3) sc_l_law_wrapped.nd rfl (Or.inl rfl) (pe_op op_addU pe_int (C8.pe_c c_l_law_take hr (by first | decide | omega) (by rfl) (pa_cons (pv 0) (pa_cons pe_int pa_nil)))))
      (pss_cons (ps_if (pt_cmpR (op_eqU hr.units) (C8.pe_c c_l_law_take hr (by first | decide | omega) (by rfl) (pa_cons (pv 0) (pa_cons pe_int pa_nil))) pe_int (nomark _)) (pss_one (ps_ret (pe_tup (pa_cons pe_str (pa_cons (pv 1) (pa_cons (C8.pe_c c_l_law_other_form hr (by first | decide | omega) (by rfl) (pa_cons (pv 0) (pa_cons (pv 1) (pa_cons (pe_op op_sub (pv 2) pe_int) pa_nil)))) (pa_cons (pv 3) (pa_cons (C8.pe_c c_l_law_cell hr (by first | decide | omega) (by rfl) (pa_cons (pv 0) pa_nil)) pa_nil)))))))) pss_nil)
      (pss_cons (ps_set (i := 4) sc_l_law_wrapped.nd rfl (Or.inl rfl) (C8.pe_c c_l_law_take hr (by first | decide | omega) (by rfl) (pa_cons (pv 0) (pa_cons pe_int pa_nil))))
      (pss_cons (ps_set (i := 5) sc_l_law_wrapped.nd rfl (Or.inl rfl) (pe_lst (pa_cons (pv 1) (pa_cons (pe_tup (pa_cons pe_str (pa_cons (C8.pe_c c_l_law_take hr (by first | decide | omega) (by rfl) (pa_cons (pv 0) (pa_cons pe_int pa_nil))) pa_nil))) pa_nil))))
      (pss_cons (ps_set (i := 6) sc_l_law_wrapped.nd rfl (Or.inl rfl) (pe_tup (pa_cons (pe_tup (pa_cons (pv 4) (pa_cons (pv 4) pa_nil))) (pa_cons (pe_tup (pa_cons (C8.pe_c c_l_law_take hr (by first | decide | omega) (by rfl) (pa_cons (pv 0) (pa_cons pe_int pa_nil))) (pa_cons pe_int pa_nil))) (pa_cons (pe_tup (pa_cons pe_int (pa_cons (C8.pe_c c_l_law_take hr (by first | decide | omega) (by rfl) (pa_cons (pv 0) (pa_cons pe_int pa_nil))) pa_nil))) pa_nil)))))
      (pss_one (ps_ret (pe_tup (pa_cons pe_str (pa_cons (pe_ix (ix_U hr.units) (pv 5) (pv 4) (fun _ _ => rfl)) (pa_cons (pe_ix (ix_U hr.units) (pv 5) (pe_op op_sub pe_int (pv 4)) (fun _ _ => rfl)) (pa_cons (pv 3) (pa_cons (pv 6) pa_nil))))))))))))), fun as R S h => ?_⟩
  · obtain ⟨a, g, rm, _, _, _, _, _, rfl, _⟩ := h
    rfl
  · obtain ⟨a, g, rm, h1, hrn, hg, hd, rfl, rfl, rfl⟩ := h
    have V_ := evo_dr a
    refine rs_set V_ (S0 := isK fun y => ∃ sz : Nat, y = .num (sz : Int) ∧ 1 ≤ sz ∧ sz ≤ 3) (es_op V_ (ek_int V_) (es_take (m := 3) (by decide) (by walk_at "el")) fun x y e ⟨z, e2, hz⟩ => ?_) ?_
    · subst e e2
      exact fun H vx vy kx ky Q q => rk_addI V_ H vx vy kx ky Q fun v d H' r k s => q v d H' r k ⟨_, s, 1 + z, by congr 1, by omega, by omega⟩
    rintro _ ⟨_, rfl, sz, rfl, hs1, hs3⟩
    refine rs_if V_ (B := fun _ => True) (et_eqN V_ (es_take (m := 2) (by decide) (by walk_at "el"))) (fun _ => ?_) fun _ => rs_next ?_
    · refine rs_retS (es_tup5K V_ (EvK.isK (ek_str V_)) (EvK.isK (ek_var V_ rfl)) (A3 := fun x => ∃ g', GsOk g' ∧ deep g' ≤ deep g + (rm - 1) ∧ x = encG g') (es_call V_ (SL := fun as => as = [.dr a, .k (encG g), .k (.num ((rm - 1 : Nat) : Int))]) (el_cons V_ (ek_var V_ rfl) (el_cons V_ (ek_var V_ rfl) (el_cons V_ (EvK.to (ek_op V_ (ek_var V_ rfl) (ek_int V_) (rk_sub V_)) (by congr 2; omega)) (el_nil V_)))) fun as e => ?_) (EvK.isK (ek_var V_ rfl)) (es_cell (by walk_at "el")) ?_)
      · subst e
        exact ⟨Dr a, _, ⟨a, g, rm - 1, by omega, hg, by omega, rfl, rfl, rfl⟩, fun _ _ x => x, fun v s => s⟩
      · rintro x y z u v rfl rfl ⟨g', ok', dg', rfl⟩ rfl ⟨c, hc, rfl⟩
        exact ⟨_, rfl, .either g g' sz c, ⟨hg, ok', hs1, by omega, hc⟩, (by show 1 + max (deep g) (deep g') ≤ deep g + rm; omega), rfl⟩
    · refine rs_set V_ (S0 := numB 2) (es_take (m := 2) (by decide) (by walk_at "el")) ?_
      rintro _ ⟨sd, rfl, hsd⟩
      refine rs_set V_ (es_lstK V_ (T := fun ds => ∃ t : Nat, t < 2 ∧ ds = [encG g, encG (.same t)]) ?_ ?_) ?_
      · refine ea_cons V_ (EvK.isK (ek_var V_ rfl)) (ea_consK V_ (A := fun x => ∃ t : Nat, t < 2 ∧ x = encG (.same t)) (es_tup2K V_ (EvK.isK (ek_str V_)) (numK (es_take (m := 2) (by decide) (by walk_at "el"))) ?_) (ea_nil V_)) ?_
        · rintro x y rfl ⟨t, rfl, ht⟩
          exact ⟨_, rfl, t, ht, rfl⟩
        · rintro d ds ⟨x, rfl, rfl⟩ ⟨_, rfl, y, r, rfl, ⟨t, ht, rfl⟩, rfl⟩
          exact ⟨_, rfl, t, ht, rfl⟩
      · rintro ds ⟨t, ht, rfl⟩
        exact ⟨by show 2 ≤ 1000; decide, _, List.mem_cons_of_mem _ List.mem_cons_self⟩
      rintro _ ⟨D, _, ⟨t, ht, rfl⟩, rfl⟩
      refine rs_set V_ (S0 := isK fun x => ∃ t1 t2 : Nat, t1 < 2 ∧ t2 < 2 ∧ x = encC ⟨[sd, sd], [t1, 0], [1, t2]⟩) (es_tup3K V_ (A1 := fun x => x = .tup (nums [sd, sd])) (A2 := fun x => ∃ t1 : Nat, t1 < 2 ∧ x = .tup (nums [t1, 0])) (A3 := fun x => ∃ t2 : Nat, t2 < 2 ∧ x = .tup (nums [1, t2])) (EvK.isK (ek_tup2 V_ (ek_var V_ rfl) (ek_var V_ rfl))) (es_tup2K V_ (numK (es_take (m := 2) (by decide) (by walk_at "el"))) (EvK.isK (ek_int V_)) ?_) (es_tup2K V_ (EvK.isK (ek_int V_)) (numK (es_take (m := 2) (by decide) (by walk_at "el"))) ?_) ?_) ?_
      · rintro x y ⟨t1, rfl, h⟩ rfl
        exact ⟨_, rfl, t1, h, rfl⟩
      · rintro x y rfl ⟨t1, rfl, h⟩
        exact ⟨_, rfl, t1, h, rfl⟩
      · rintro x y z rfl ⟨t1, h1, rfl⟩ ⟨t2, h2, rfl⟩
        exact ⟨_, rfl, t1, t2, h1, h2, rfl⟩
      rintro _ ⟨_, rfl, t1, t2, ht1, ht2, rfl⟩
      have okc : CellOk ⟨[sd, sd], [t1, 0], [1, t2]⟩ := cell2 (by omega) (by omega) ht1 (by decide) (by decide) ht2
      have hsd2 : sd = 0 ∨ sd = 1 := by omega
      have gsm : GsOk (.same t) := Nat.le_of_lt_succ ht
      have dsm : deep (.same t) = 1 := rfl
      have dpg := deep_pos g
      refine rs_ret ?_
      rcases hsd2 with rfl | rfl
      · refine es_tup5K V_ (EvK.isK (ek_str V_)) (EvK.isK (ek_op V_ (ek_var V_ rfl) (ek_var V_ rfl) (rk_ixLk V_ (i := 0) (d := encG g) rfl))) (EvK.isK (ek_op V_ (ek_var V_ rfl) (ek_op V_ (ek_int V_) (ek_var V_ rfl) (rk_sub V_)) (rk_ixLk V_ (d := encG (.same t)) rfl))) (EvK.isK (ek_var V_ rfl)) (EvK.isK (ek_var V_ rfl)) ?_
        rintro x y z u v rfl rfl rfl rfl rfl
        exact ⟨_, rfl, .either g (.same t) sz _, ⟨hg, gsm, hs1, by omega, okc⟩, (by show 1 + max (deep g) (deep (.same t)) ≤ deep g + rm; omega), rfl⟩
      · refine es_tup5K V_ (EvK.isK (ek_str V_)) (EvK.isK (ek_op V_ (ek_var V_ rfl) (ek_var V_ rfl) (rk_ixLk V_ (i := 1) (d := encG (.same t)) rfl))) (EvK.isK (ek_op V_ (ek_var V_ rfl) (ek_op V_ (ek_int V_) (ek_var V_ rfl) (rk_sub V_)) (rk_ixLk V_ (d := encG g) rfl))) (EvK.isK (ek_var V_ rfl)) (EvK.isK (ek_var V_ rfl)) ?_
        rintro x y z u v rfl rfl rfl rfl rfl
        exact ⟨_, rfl, .either (.same t) g sz _, ⟨gsm, hg, hs1, by omega, okc⟩, (by show 1 + max (deep (.same t)) (deep g) ≤ deep g + rm; omega), rfl⟩
theorem cal_other {n : Nat} (F : TD K mg "_law_other_form" s_l_law_other_form ["draws", "guesser", "room"]) (B : Blt mg) (c_l_law_take : C8.Cal P w K mg base 1 "_law_take" (spG okTake) []) (c_l_law_total : C8.Cal P w K mg base 5 "_law_total" (spG (okTotal 4)) []) (c_l_law_copied : C8.Cal P w K mg base 2 "_law_copied" (spG okCopied) [])
    (c_l_law_wrapped : C8.Cal P w K mg base (2 * n + 6) "_law_wrapped" (spG (okWrapped n)) []) : C8.Cal P w K mg base (2 * n + 7) "_law_other_form" (spG (okOther n)) [] := by
  refine cal_of F sc_l_law_other_form (fun as R S h => ?_) fun f cdv A outer s H E hr => ⟨_, (pss_cons (ps_set (i := 3) sc_l_law_other_form.nd rfl (Or.inl rfl) (C8.pe_c c_l_law_take hr (by first | decide | omega) (by rfl) (pa_cons (pv 0) (pa_cons pe_int pa_nil))))
      (pss_cons (ps_if (PW.pt (pw_and (pt_cmpR op_gt (pv 2) pe_int (nomark _)) (pw_and1 (pt_cmpR op_lt (pv 3) pe_int (nomark _))))) (pss_cons (ps_set (i := 5) sc_l_law_other_form.nd rfl (Or.inl rfl) (C8.pe_c c_l_law_wrapped hr (by first | decide | omega) (by rfl) (pa_cons (pv 0) (pa_cons (pv 1) (pa_cons (pv 2) pa_nil)))))
      (pss_one (ps_ret (pe_ifExp (pt_cmpR op_gt (C8.pe_c c_l_law_total hr (by first | decide | omega) (by rfl) (pa_cons (pv 5) pa_nil)) pe_int (nomark _)) (pv 1) (pv 5))))) pss_nil)
      (pss_cons (ps_if (pt_cmpR (op_eqU hr.units) (pe_ix (ix_U hr.units) (pv 1) pe_int (fun _ _ => rfl)) pe_str (nomark _)) (pss_one (ps_ret (pe_tup (pa_cons pe_str (pa_cons (pe_op op_addU pe_int (C8.pe_c c_l_law_take hr (by first | decide | omega) (by rfl) (pa_cons (pv 0) (pa_cons pe_int pa_nil)))) (pa_cons (pe_tup (pa_cons (pe_tup (pa_cons (pe_ix (ix_U hr.units) (pv 1) pe_int (fun _ _ => rfl)) (pa_cons (pe_ix (ix_U hr.units) (pv 1) pe_int (fun _ _ => rfl)) pa_nil))) (pa_cons (pe_tup (pa_cons pe_int (pa_cons pe_int pa_nil))) (pa_cons (pe_tup (pa_cons pe_int (pa_cons (C8.pe_c c_l_law_take hr (by first | decide | omega) (by rfl) (pa_cons (pv 0) (pa_cons pe_int pa_nil))) pa_nil))) pa_nil)))) pa_nil)))))) pss_nil)
      (pss_cons (ps_set (i := 4) sc_l_law_other_form.nd rfl (Or.inl rfl) (C8.pe_c c_l_law_copied hr (by first | decide | omega) (by rfl) (pa_cons (pv 0) (pa_cons (pe_ix (ix_U hr.units) (pv 1) (pe_un un_neg pe_int) (fun _ _ => rfl)) pa_nil))))
      (pss_cons (ps_if (PW.pt (pw_and (pt_cmpR (op_eqU hr.units) (pe_ix (ix_U hr.units) (pv 1) pe_int (fun _ _ => rfl)) pe_str (nomark _)) (pw_and1 (pt_cmpR (op_eqU hr.units) (pv 3) pe_int (nomark _))))) (pss_one (ps_ret (pe_tup (pa_cons (pe_ix (ix_U hr.units) (pe_lst (pa_cons pe_str (pa_cons pe_str pa_nil))) (C8.pe_c c_l_law_take hr (by first | decide | omega) (by rfl) (pa_cons (pv 0) (pa_cons pe_int pa_nil))) (fun _ _ => rfl)) (pa_cons (pe_ix (ix_U hr.units) (pv 1) pe_int (fun _ _ => rfl)) (pa_cons pe_int (pa_cons (pv 4) pa_nil))))))) pss_nil)
      (pss_cons (ps_if (PW.pt (pw_and (pt_cmpR (op_eqU hr.units) (pe_ix (ix_U hr.units) (pv 1) pe_int (fun _ _ => rfl)) pe_str (nomark _)) (pw_and (pt_cmpR (op_eqU hr.units) (pe_ix (ix_U hr.units) (pv 1) pe_int (fun _ _ => rfl)) pe_int (nomark _)) (pw_and1 (pt_cmpR (op_eqU hr.units) (pv 3) pe_int (nomark _)))))) (pss_one (ps_ret (pe_tup (pa_cons pe_str (pa_cons (pe_op op_addU pe_int (C8.pe_c c_l_law_take hr (by first | decide | omega) (by rfl) (pa_cons (pv 0) (pa_cons pe_int pa_nil)))) (pa_cons pe_int (pa_cons (pv 4) pa_nil))))))) pss_nil)
      (pss_one (ps_ret (pe_op op_addU (pe_slice sl_U (pv 1) po_none (po_some (pe_un un_neg pe_int))) (pe_tup (pa_cons (pv 4) pa_nil))))))))))), fun as R S h => ?_⟩
  · obtain ⟨a, g, rm, _, _, _, _, rfl, _⟩ := h
    rfl
  · obtain ⟨a, g, rm, hrn, hg, hd, rfl, rfl, rfl⟩ := h
    have V_ := evo_dr a
    have dpg := deep_pos g
    refine rs_set V_ (S0 := numB 4) (es_take (m := 4) (by decide) (by walk_at "el")) ?_
    rintro _ ⟨wy, rfl, hwy⟩
    refine rs_ifB V_ (c := decide ((0 : Int) < (rm : Int)) && decide ((wy : Int) < 2)) (et_and V_ (B1 := fun b => b = decide ((0 : Int) < (rm : Int))) (B2 := fun b => b = decide ((wy : Int) < 2)) (et_cmp V_ (f := fun i j => decide (j < i)) (ek_var V_ rfl) (ek_int V_)) (fun _ => et_cmp V_ (ek_var V_ rfl) (ek_int V_)) (fun h b hb => by rw [hb, ← h]; rfl) (fun h => by rw [← h]; rfl)) (fun hb => ?_) fun _ => ?_
    · have h1 : 1 ≤ rm := by
        rw [Bool.and_eq_true] at hb
        have := of_decide_eq_true hb.1
        omega
      refine rs_assoc (rs_set V_ (S0 := gsB (deep g + rm)) (es_call V_ (SL := fun as => as = [.dr a, .k (encG g), .k (.num (rm : Int))]) (by walk_at "el") fun as e => ?_) ?_)
      · subst e
        exact ⟨Dr a, _, ⟨a, g, rm, h1, hrn, hg, hd, rfl, rfl, rfl⟩, fun _ _ x => x, fun v s => s⟩
      rintro _ ⟨_, rfl, g2, ok2, dg2, rfl⟩
      exact rs_retS (ek_if V_ (et_cmp V_ (ek_call V_ (as := [.k (encG g2)]) (by walk_at "el") ⟨rfl, g2, ok2, by omega, rfl, rfl⟩) (ek_int V_)) (fun _ => (ek_var V_ rfl).mono fun d e => ⟨_, e, g, hg, by omega, rfl⟩) (fun _ => (ek_var V_ rfl).mono fun d e => ⟨_, e, g2, ok2, dg2, rfl⟩))
    refine rs_next ?_
    by_cases hsame : isSame g = true
    · cases g with
      | same x =>
        have hx : x ≤ 1 := hg
        refine rs_yes V_ (eb_test V_ (by walk_at "ek")) (rs_retS (es_tup3K V_ (EvK.isK (ek_str V_)) (A2 := fun y => ∃ sz : Nat, y = .num (sz : Int) ∧ 1 ≤ sz ∧ sz ≤ 4) (es_op V_ (ek_int V_) (es_take (m := 4) (by decide) (by walk_at "el")) fun x y e ⟨z, e2, hz⟩ => ?_)
          (A3 := fun x2 => ∃ t : Nat, t < 2 ∧ x2 = encC ⟨[x, x], [0, 1], [1, t]⟩) (es_tup3K V_ (A1 := fun y => y = .tup (nums [x, x])) (A2 := fun y => y = .tup (nums [0, 1])) (A3 := fun y => ∃ t : Nat, t < 2 ∧ y = .tup (nums [1, t])) (EvK.isK (ek_tup2 V_ (by walk_at "ek") (by walk_at "ek"))) (EvK.isK (ek_tup2 V_ (ek_int V_) (ek_int V_))) (es_tup2K V_ (EvK.isK (ek_int V_)) (numK (es_take (m := 2) (by decide) (by walk_at "el"))) ?_) ?_) ?_))
        · subst e e2
          exact fun H vx vy kx ky Q q => rk_addI V_ H vx vy kx ky Q fun v d H' r k s => q v d H' r k ⟨_, s, 1 + z, by congr 1, by omega, by omega⟩
        · rintro x y rfl ⟨t1, rfl, h⟩
          exact ⟨_, rfl, t1, h, rfl⟩
        · rintro x y z rfl rfl ⟨t, ht, rfl⟩
          exact ⟨_, rfl, t, ht, rfl⟩
        · rintro x2 y z rfl ⟨sz, rfl, h1, h2⟩ ⟨t, ht, rfl⟩
          exact ⟨_, rfl, .table sz _, ⟨h1, by omega, cell2 hx hx (by decide) (by decide) (by decide) ht⟩, (by show 1 ≤ _; omega), rfl⟩
      | _ => cases hsame
    · have hns : isSame g = false := by
        cases h : isSame g with
        | true => exact absurd h hsame
        | false => rfl
      have hf : decide (form g = "same") = false := by cases g <;> first | (cases hns; done) | rfl
      obtain ⟨ks, e1, e2⟩ := last_cell hns
      have hc := cellOf_ok hg hns
      refine rs_no V_ (eb_test V_ (ek_op V_ (ek_form V_ (ek_var V_ rfl)) (ek_str V_) (rk_eqS V_ hf))) ?_
      refine rs_set V_ (S0 := isK fun x => ∃ c', CellOk c' ∧ x = encC c') (es_call V_ (SL := fun as => as = [.dr a, .k (encC (cellOf g))]) (el_cons V_ (ek_var V_ rfl) (el_cons V_ (ek_op V_ (x := .k (.tup ks)) ?_ (ek_neg V_ (ek_int V_)) (rk_ix V_ e2)) (el_nil V_))) fun as e => ?_) ?_
      · rw [← e1]
        exact ek_var V_ rfl
      · subst e
        exact ⟨Dr a, _, ⟨a, cellOf g, hc, rfl, rfl, rfl⟩, fun _ _ x => x, fun v s => s⟩
      rintro _ ⟨_, rfl, c', hc', rfl⟩
      by_cases ht : ∃ n0 c0, g = .table n0 c0
      · obtain ⟨n0, c0, rfl⟩ := ht
        have hn1 : 1 ≤ n0 := hg.1
        have hn2 : n0 ≤ 16 := hg.2.1
        have hd1 : deep (.table n0 c0) = 1 := rfl
        refine rs_ifB V_ (c := decide ((wy : Int) = 2)) (et_and V_ (B1 := fun b => b = true) (B2 := fun b => b = decide ((wy : Int) = 2)) (eb_test V_ (ek_op V_ (ek_form V_ (ek_var V_ rfl)) (ek_str V_) (rk_eqS V_ rfl))) (fun _ => et_eqI V_ (ek_var V_ rfl) (ek_int V_)) (fun _ b hb => hb) (fun h => nomatch h)) (fun _ => ?_) fun _ => rs_next ?_
        · refine rs_retS (es_tup4K V_ (A1 := fun y => y = .text "mixed" ∨ y = .text "joined") (es_ixLst V_ (Sb := numB 2) (ds := [.text "mixed", .text "joined"]) ?_ (keepsD (i := 0) rfl) (by walk_at "el") (by show 2 ≤ 1000; decide) (es_take (m := 2) (by decide) (by walk_at "el"))) (EvK.isK (x := .num (n0 : Int)) (by walk_at "ek")) (EvK.isK (ek_int V_)) (EvK.isK (ek_var V_ rfl)) ?_)
          · rintro x ⟨i, rfl, hi⟩
            match i, hi with
            | 0, _ => exact ⟨0, _, rfl, rfl, _, rfl, .inl rfl⟩
            | 1, _ => exact ⟨1, _, rfl, rfl, _, rfl, .inr rfl⟩
          · rintro x y z u hx rfl rfl rfl
            rcases hx with rfl | rfl
            · exact ⟨_, rfl, .mixed n0 0 c', ⟨hn1, hn2, by decide, hc'⟩, (by show 1 ≤ _; omega), rfl⟩
            · exact ⟨_, rfl, .joined n0 0 c', ⟨hn1, hn2, by decide, by show n0 * 1 ≤ 64; omega, hc'⟩, (by show 1 ≤ _; omega), rfl⟩
        · refine rs_if V_ (B := fun _ => True) (et_and V_ (B1 := fun b => b = true) (B2 := fun _ => True) (eb_test V_ (ek_op V_ (ek_form V_ (ek_var V_ rfl)) (ek_str V_) (rk_eqS V_ rfl))) (fun _ => et_and V_ (B1 := fun _ => True) (B2 := fun _ => True) ((et_eqI V_ (i := (n0 : Int)) (by walk_at "ek") (ek_int V_)).mono fun _ _ => trivial) (fun _ => (et_eqI V_ (ek_var V_ rfl) (ek_int V_)).mono fun _ _ => trivial) (fun _ _ _ => trivial) (fun _ => trivial)) (fun _ _ _ => trivial) (fun _ => trivial)) (fun _ => ?_) fun _ => rs_next (rs_ret (es_withC V_ hns hg hd hc' (ek_var V_ rfl) (ek_var V_ rfl)))
          refine rs_retS (es_tup4K V_ (EvK.isK (ek_str V_)) (A2 := fun y => ∃ sz : Nat, y = .num (sz : Int) ∧ 1 ≤ sz ∧ sz ≤ 5) (es_op V_ (ek_int V_) (es_take (m := 5) (by decide) (by walk_at "el")) fun x y e ⟨z, e2, hz⟩ => ?_) (EvK.isK (ek_int V_)) (EvK.isK (ek_var V_ rfl)) ?_)
          · subst e e2
            exact fun H vx vy kx ky Q q => rk_addI V_ H vx vy kx ky Q fun v d H' r k s => q v d H' r k ⟨_, s, 1 + z, by congr 1, by omega, by omega⟩
          · rintro x y z u rfl ⟨sz, rfl, hz1, hz2⟩ rfl rfl
            exact ⟨_, rfl, .own sz 0 c', ⟨hz1, by omega, by decide, hc'⟩, (by show 1 ≤ _; omega), rfl⟩
      · have hft : decide (form g = "table") = false := by
          cases g with
          | table n0 c0 => exact absurd ⟨n0, c0, rfl⟩ ht
          | same _ => cases hns
          | _ => rfl
        refine rs_if V_ (B := fun b => b = false) (et_and V_ (B1 := fun b => b = false) (B2 := fun b => b = false) (eb_test V_ (ek_op V_ (ek_form V_ (ek_var V_ rfl)) (ek_str V_) (rk_eqS V_ hft))) (fun h => nomatch h) (fun h => nomatch h) fun h => h) (fun h => nomatch h) fun _ => rs_next ?_
        refine rs_if V_ (B := fun b => b = false) (et_and V_ (B1 := fun b => b = false) (B2 := fun b => b = false) (eb_test V_ (ek_op V_ (ek_form V_ (ek_var V_ rfl)) (ek_str V_) (rk_eqS V_ hft))) (fun h => nomatch h) (fun h => nomatch h) fun h => h) (fun h => nomatch h) fun _ => rs_next (rs_ret (es_withC V_ hns hg hd hc' (ek_var V_ rfl) (ek_var V_ rfl)))
end
end K49
set_option Elab.async false
set_option linter.all false
set_option maxRecDepth 100000
set_option maxHeartbeats 4000000
set_option autoImplicit false
/-! The law itself. -/
namespace K49
open PySem PySem.Spec PyProof.Rows L2
local macro_rules | `(tactic| walk_at "rk") => `(tactic| first
  | exact rk_eqS ‹_› (by decide)
  | exact rk_ix ‹_› rfl
  | exact rk_inS2 ‹_› (by decide)
  | exact rk_ix ‹_› (at_nums (by assumption))
  | exact rk_modN ‹_› (by first | assumption | omega)
  | exact rk_addN ‹_›
  | exact rk_mul2 ‹_›
  | exact rk_addr1 ‹_›
  | exact rk_add1l ‹_›
  | exact rk_shl1 ‹_› (by omega)
  | exact rk_mulN ‹_› (by omega)
  | exact rk_shlN ‹_› (by omega) (by omega)
  | exact rk_addI ‹_›
  | exact rk_addT ‹_› (by first | decide | (simp only [List.length_append, List.length_cons, List.length_nil, List.length_take, List.length_drop] at *; omega))
  | exact rk_sub ‹_›
  | exact rk_neBl ‹_›
  | exact rk_eqI ‹_›
  | exact rk_neI ‹_›
  | exact rk_cmp ‹_›)
local macro_rules | `(tactic| walk_at "el") => `(tactic| first
  | exact el_nil ‹_›
  | (apply el_cons ‹_›; (focus walk_at "ek"); walk_at "el"))
local macro_rules | `(tactic| walk_at "eo") => `(tactic| first
  | exact eo_none ‹_›
  | (apply eo_some ‹_›; walk_at "ek"))
local macro_rules | `(tactic| walk_at "ek") => `(tactic| first
  | exact ek_var ‹_› rfl
  | exact ek_int ‹_›
  | exact ek_str ‹_›
  | exact ek_non ‹_›
  | exact ek_bl ‹_›
  | (apply ek_op ‹_›; (focus walk_at "ek"); (focus walk_at "ek"); walk_at "rk")
  | (apply ek_neg ‹_›; walk_at "ek")
  | (apply ek_slice ‹_›; (focus walk_at "ek"); (focus walk_at "eo"); walk_at "eo")
  | (apply ek_tup1 ‹_›; walk_at "ek")
  | (apply ek_tup2 ‹_›; (focus walk_at "ek"); walk_at "ek")
  | (apply ek_tup3 ‹_›; (focus walk_at "ek"); (focus walk_at "ek"); walk_at "ek"))
local macro_rules | `(tactic| walk_at "run") => `(tactic| first
  | (refine rs_ret ?_; walk_at "ek")
  | (refine rs_retS ?_; walk_at "ek")
  | (refine rs_yes ‹_› (eb_test ‹_› ?_) ?_; (focus walk_at "ek"); walk_at "run")
  | (refine rs_no ‹_› (eb_test ‹_› ?_) ?_; (focus walk_at "ek"); walk_at "run"))
def okSecond : Ok := fun as R S => ∃ a g, GsOk g ∧ deep g ≤ 3 ∧ R = Dr a ∧ as = [.dr a, .k (encG g)] ∧ S = gsB 3
section
variable {P : Program} {w : World} {K : PySem.W.Frag} {mg : Str → Option Value} {base : Heap}
theorem cal_others (F1 : TD K mg "_law_wrapped" s_l_law_wrapped ["draws", "guesser", "room"]) (F2 : TD K mg "_law_other_form" s_l_law_other_form ["draws", "guesser", "room"]) (B : Blt mg) (c_l_law_take : C8.Cal P w K mg base 1 "_law_take" (spG okTake) []) (c_l_law_cell : C8.Cal P w K mg base 2 "_law_cell" (spG okCell) [])
    (c_l_law_total : C8.Cal P w K mg base 5 "_law_total" (spG (okTotal 4)) []) (c_l_law_copied : C8.Cal P w K mg base 2 "_law_copied" (spG okCopied) []) : ∀ n : Nat, C8.Cal P w K mg base (2 * n + 7) "_law_other_form" (spG (okOther n)) [] := by
  intro n
  induction n with
  | zero => exact cal_other F2 B c_l_law_take c_l_law_total c_l_law_copied (cal_never (k := 5) F1 sc_l_law_wrapped fun as R S h => by
      obtain ⟨_, _, _, h1, h2, _⟩ := h
      omega)
  | succ n ih => exact cal_other (n := n + 1) F2 B c_l_law_take c_l_law_total c_l_law_copied (cal_wrapped F1 B c_l_law_take c_l_law_cell ih)
theorem cal_second (F : TD K mg "_law_second" s_l_law_second ["draws", "one"]) (c_l_law_take : C8.Cal P w K mg base 1 "_law_take" (spG okTake) []) (c_l_law_guesser : C8.Cal P w K mg base 7 "_law_guesser" (spG (okGuesser 2)) []) (c_l_law_other_form : C8.Cal P w K mg base 11 "_law_other_form" (spG (okOther 2)) [])
    (c_l_law_deep : C8.Cal P w K mg base 4 "_law_deep" (spG (okDeep 3)) []) (c_l_law_near : C8.Cal P w K mg base 5 "_law_near" (spG (okNear 3)) []) : C8.Cal P w K mg base 12 "_law_second" (spG okSecond) [] := by
  refine cal_of F sc_l_law_second (fun as R S h => ?_) fun f cdv A outer s H E hr => ⟨_, (pss_cons (ps_set (i := 2) sc_l_law_second.nd rfl (Or.inl rfl) (C8.pe_c c_l_law_take hr (by first | decide | omega) (by rfl) (pa_cons (pv 0) (pa_cons pe_int pa_nil))))
      (pss_cons (ps_if (pt_cmpR (op_eqU hr.units) (pv 2) pe_int (nomark _)) (pss_one (ps_ret (C8.pe_c c_l_law_guesser hr (by first | decide | omega) (by rfl) (pa_cons (pv 0) (pa_cons pe_int pa_nil))))) pss_nil)
      (pss_cons (ps_if (pt_cmpR (op_eqU hr.units) (pv 2) pe_int (nomark _)) (pss_one (ps_ret (C8.pe_c c_l_law_other_form hr (by first | decide | omega) (by rfl) (pa_cons (pv 0) (pa_cons (pv 1) (pa_cons (pe_op op_sub pe_int (C8.pe_c c_l_law_deep hr (by first | decide | omega) (by rfl) (pa_cons (pv 1) pa_nil))) pa_nil)))))) pss_nil)
      (pss_one (ps_ret (C8.pe_c c_l_law_near hr (by first | decide | omega) (by rfl) (pa_cons (pv 0) (pa_cons (pv 1) pa_nil)))))))), fun as R S h => ?_⟩
  · obtain ⟨a, g, _, _, _, rfl, _⟩ := h
    rfl
  · obtain ⟨a, g, hg, hd, rfl, rfl, rfl⟩ := h
    have V_ := evo_dr a
    have dpg := deep_pos g
    refine rs_set V_ (S0 := numB 4) (es_take (m := 4) (by decide) (by walk_at "el")) ?_
    rintro _ ⟨wy, rfl, _⟩
    refine rs_ifB V_ (et_eqI V_ (ek_var V_ rfl) (ek_int V_)) (fun _ => rs_retS ?_) fun _ => rs_next (rs_ifB V_ (et_eqI V_ (ek_var V_ rfl) (ek_int V_)) (fun _ => rs_retS ?_) fun _ => rs_next (rs_ret ?_))
    · exact (es_gs (n := 2) (by decide) (show EvL _ _ _ [.dr a, .k (.num 2)] from by walk_at "el")).mono fun d ⟨x, e, g', ok', dg', e2⟩ => ⟨x, e, g', ok', by omega, e2⟩
    · refine es_call V_ (SL := fun as => as = [.dr a, .k (encG g), .k (.num ((3 - deep g : Nat) : Int))]) (el_cons V_ (ek_var V_ rfl) (el_cons V_ (ek_var V_ rfl) (el_cons V_ (EvK.to (ek_op V_ (ek_int V_) (ek_call V_ (as := [.k (encG g)]) (a := .k (.num (deep g : Int))) (by walk_at "el") ⟨rfl, g, hg, hd, rfl, rfl⟩) (rk_sub V_)) (by congr 2; omega)) (el_nil V_)))) fun as e => ?_
      subst e
      refine ⟨Dr a, _, ⟨a, g, 3 - deep g, by omega, hg, by omega, rfl, rfl, rfl⟩, fun _ _ x => x, fun v ⟨x, e, g', ok', dg', e2⟩ => ⟨x, e, g', ok', by omega, e2⟩⟩
    · refine es_call V_ (SL := fun as => as = [.dr a, .k (encG g)]) (by walk_at "el") fun as e => ?_
      subst e
      exact ⟨Dr a, _, ⟨a, g, hg, hd, rfl, rfl, rfl⟩, fun _ _ x => x, fun v s => s⟩
theorem cal_rival (F : TD K mg "_law_rival" s_l_law_rival ["draws", "one"]) (c_l_law_take : C8.Cal P w K mg base 1 "_law_take" (spG okTake) []) (c_l_law_begun : C8.Cal P w K mg base 2 "_law_begun" (spG (okNear 3)) []) (c_l_law_second : C8.Cal P w K mg base 12 "_law_second" (spG okSecond) []) : C8.Cal P w K mg base 13 "_law_rival" (spG okSecond) [] := by
  refine cal_of F sc_l_law_rival (fun as R S h => ?_) fun f cdv A outer s H E hr => ⟨_, (pss_cons (ps_if (pt_cmpR (op_eqU hr.units) (C8.pe_c c_l_law_take hr (by first | decide | omega) (by rfl) (pa_cons (pv 0) (pa_cons pe_int pa_nil))) pe_int (nomark _)) (pss_one (ps_ret (C8.pe_c c_l_law_begun hr (by first | decide | omega) (by rfl) (pa_cons (pv 0) (pa_cons (pv 1) pa_nil))))) pss_nil)
      (pss_one (ps_ret (C8.pe_c c_l_law_second hr (by first | decide | omega) (by rfl) (pa_cons (pv 0) (pa_cons (pv 1) pa_nil)))))), fun as R S h => ?_⟩
  · obtain ⟨a, g, _, _, _, rfl, _⟩ := h
    rfl
  · obtain ⟨a, g, hg, hd, rfl, rfl, rfl⟩ := h
    have V_ := evo_dr a
    refine rs_if V_ (B := fun _ => True) (et_eqN V_ (es_take (m := 2) (by decide) (by walk_at "el"))) (fun _ => rs_retS ?_) fun _ => rs_next (rs_ret ?_)
    · refine es_call V_ (SL := fun as => as = [.dr a, .k (encG g)]) (by walk_at "el") fun as e => ?_
      subst e
      exact ⟨Dr a, _, ⟨a, g, hg, hd, rfl, rfl, rfl⟩, fun _ _ x => x, fun v s => s⟩
    · refine es_call V_ (SL := fun as => as = [.dr a, .k (encG g)]) (by walk_at "el") fun as e => ?_
      subst e
      exact ⟨Dr a, _, ⟨a, g, hg, hd, rfl, rfl, rfl⟩, fun _ _ x => x, fun v s => s⟩
def spLaw (K : PySem.W.Frag) : Sp := fun vs H Q _ => ∃ (a : Addr) (ns : List Int), vs = [.ref a] ∧ SqL K H a (ns.map V.int) ∧ ∀ H', Q (.bl true) H'
theorem fn_sp {x : Str} {st : Stmt} {N ps : List Str} {k : Nat} {sp : Sp} {f0 : Addr} {fd : FuncData} (F : FunD K x x (defArgs st) (defBody st) (defScope st) [] [] f0 fd) (S : FnScope N ps (defScope st)) (len : ∀ vs H Q E, sp vs H Q E → vs.length = ps.length)
    (hbody : ∀ (f : Addr) (cdv : Value) (A : Around) (outer : List Env) (s : Shared) (H0 : Hp) (E0 : XK), Room k (A.deeper (envOfC x (defScope st) s.heap.objs.size f cdv)) →
      ∃ t, PSs (cxOf CX0 P w K mg base N x (defScope st) f cdv A outer s H0 E0).nox (defBody st) t ∧ ∀ vs H Q E, sp vs H Q E → t { nx := fun _ H' => Q .non H', rt := Q } (L2.start N vs) H) : FnOk P w K mg base CX0 (k + 1) f0 fd ps sp := by
  refine F.ok S len (fun cdv A outer s H vs Q E hr h => ?_)
  obtain ⟨t, d, r⟩ := hbody f0 cdv A outer s H E hr
  exact ⟨t, d.nox, r vs H Q E h⟩
theorem fn_law {f0 : Addr} {fd : FuncData} (F : FunD K "law" "law" (defArgs s_law) (defBody s_law) (defScope s_law) [] [] f0 fd) (B : Blt mg) (c_l_law_draws : C8.Cal P w K mg base 1 "_law_draws" (spDraws K) []) (c_l_law_take : C8.Cal P w K mg base 1 "_law_take" (spG okTake) []) (c_l_law_guesser : C8.Cal P w K mg base 8 "_law_guesser" (spG (okGuesser 3)) [])
    (c_l_law_rival : C8.Cal P w K mg base 13 "_law_rival" (spG okSecond) []) (c_l_law_places : C8.Cal P w K mg base 2 "_law_places" spPlaces []) (c_l_law_pairs : C8.Cal P w K mg base 10 "_law_pairs" (spPairs K) []) (c_ahead_by : C8.Cal P w K mg base 12 "ahead_by" (spAhead K) [])
    (c_l_law_right : C8.Cal P w K mg base 18 "_law_right" spRight []) : FnOk P w K mg base CX0 19 f0 fd ["script"] (spLaw K) := by
  refine fn_sp F sc_law (fun vs H Q E h => ?_) fun f cdv A outer s H0 E0 hr => ⟨_, (pss_cons (ps_set (i := 1) sc_law.nd rfl (Or.inl rfl) (C8.pe_c c_l_law_draws hr (by first | decide | omega) (by rfl) (pa_cons (pv 0) pa_nil)))
      (pss_cons (ps_set (i := 2) sc_law.nd rfl (Or.inl rfl) pe_int)
      (pss_cons (ps_while PassesOwn.never (PW.pt (pw_or (pt_cmpR op_lt (pv 2) pe_int (nomark _)) (pw_or1 (PW.pt (pw_and (pt_cmpR (op_neU hr.units) (pv 1) (pe_lst pa_nil) (nomark _)) (pw_and1 (pt_cmpR op_lt (pv 2) pe_int (nomark _)))))))) (pss_cons (ps_set (i := 3) sc_law.nd rfl (Or.inl rfl) (C8.pe_c c_l_law_guesser hr (by first | decide | omega) (by rfl) (pa_cons (pv 1) (pa_cons pe_int pa_nil))))
      (pss_cons (ps_set (i := 4) sc_law.nd rfl (Or.inl rfl) (C8.pe_c c_l_law_rival hr (by first | decide | omega) (by rfl) (pa_cons (pv 1) (pa_cons (pv 3) pa_nil))))
      (pss_cons (ps_set (i := 5) sc_law.nd rfl (Or.inl rfl) (C8.pe_c c_l_law_places hr (by first | decide | omega) (by rfl) (pa_cons (pv 1) pa_nil)))
      (pss_cons (ps_set (i := 6) sc_law.nd rfl (Or.inl rfl) (pe_op op_pow (pe_op op_addU (pe_op op_mulU (C8.pe_c c_l_law_take hr (by first | decide | omega) (by rfl) (pa_cons (pv 1) (pa_cons pe_int pa_nil))) pe_int) (C8.pe_c c_l_law_take hr (by first | decide | omega) (by rfl) (pa_cons (pv 1) (pa_cons pe_int pa_nil)))) pe_int))
      (pss_cons (ps_if (pt_cmpR op_notN (C8.pe_c c_l_law_pairs hr (by first | decide | omega) (by rfl) (pa_cons (pv 3) (pa_cons (pv 4) (pa_cons (pv 5) (pa_cons pe_int pa_nil))))) pe_non (nomark _)) (pss_cons (ps_set (i := 7) sc_law.nd rfl (Or.inl rfl) (C8.pe_c c_ahead_by hr (by first | decide | omega) (by rfl) (pa_cons (pv 3) (pa_cons (pv 4) (pa_cons (pe_callTy (call_listU rfl) (by rfl) B.list (by decide +kernel) (pa_cons (pv 5) pa_nil)) pa_nil)))))
      (pss_one (ps_if (PW.pt (pw_and (pt_cmpR (op_eqU hr.units) (pe_ix (ix_U hr.units) (pv 7) pe_int (fun _ _ => rfl)) pe_str (nomark _)) (pw_and1 (pt_cmpR op_lt (pe_op op_addU (pe_callB (cr_lenx rfl) (by rfl) B.len PySem.boot_len (pa_cons (pe_ix (ix_U hr.units) (pv 7) pe_int (fun _ _ => rfl)) pa_nil)) (pe_callB (cr_lenx rfl) (by rfl) B.len PySem.boot_len (pa_cons (pe_ix (ix_U hr.units) (pv 7) pe_int (fun _ _ => rfl)) pa_nil))) pe_int (nomark _))))) (pss_one (ps_if (pt_not (pt_val (C8.pe_c c_l_law_right hr (by first | decide | omega) (by rfl) (pa_cons (pv 3) (pa_cons (pv 4) (pa_cons (pe_ix (ix_U hr.units) (pv 7) pe_int (fun _ _ => rfl)) (pa_cons (pe_ix (ix_U hr.units) (pv 7) pe_int (fun _ _ => rfl)) (pa_cons (pv 6) pa_nil)))))))) (pss_one (ps_ret pe_bl)) pss_nil)) pss_nil))) pss_nil)
      (pss_one (ps_set (i := 2) sc_law.nd rfl (Or.inl rfl) (pe_op op_addU (pv 2) pe_int)))))))))
      (pss_one (ps_ret pe_bl))))), fun vs H Q E h => ?_⟩
  · obtain ⟨a, ns, rfl, _⟩ := h
    rfl
  · obtain ⟨a, ns, rfl, ha, k⟩ := h
    refine ⟨.ref a, rfl, a, ns, rfl, ha, fun d H1 s1 hd0 hdr => ?_⟩
    have V_ := evo_dr d
    refine ⟨fun m σ H' => ∃ mn : Nat, ∃ e3 e4 e5 e6 e7, σ = [some (.ref a), some (.ref d), some (.int (mn : Nat)), e3, e4, e5, e6, e7] ∧ m = 3 - mn ∧ mn ≤ 3 ∧ DR d H', ⟨3, 0, _, _, _, _, _, rfl, rfl, by decide, hdr⟩, ?_⟩
    clear hdr hd0 s1 H1 ha
    rintro m σ H1 ⟨mn, e3, e4, e5, e6, e7, rfl, rfl, hmn, hdr⟩
    have fin : ∀ (b : Bool) (X : L2.St → Hp → Prop) (Y : Prop), (b = true → Y) → (b = false → Y) → Y := fun b X Y h1 h2 => by
      cases b with
      | true => exact h1 rfl
      | false => exact h2 rfl
    refine ⟨.int mn, rfl, mn, 1, rfl, rfl, _, rfl, ?_⟩
    by_cases hm1 : (mn : Int) < 1
    rotate_left
    rw [decide_eq_false hm1]
    obtain ⟨ds, hds⟩ := id hdr
    refine ⟨.ref d, rfl, Nat.zero_le _, fun p hp => ?_⟩
    have s1 : Same H1 (upd H1 p (.lst [])) := same_new hp
    obtain ⟨dd, ee, q1, q2, q3, q4, q5⟩ := ints_nil (K := K) (a := d) (b := p) (s1 _ _ hds) upd_same
    refine .inr ⟨dd, ee, q1, q2, q3, q4, _, rfl, ?_⟩
    rw [q5]
    by_cases hdn : ds = []
    · rw [decide_eq_true hdn]
      exact k _
    rw [decide_eq_false hdn]
    refine ⟨.int mn, rfl, mn, 3, rfl, rfl, _, rfl, ?_⟩
    by_cases hm3 : (mn : Int) < 3
    rotate_left
    · rw [decide_eq_false hm3]
      exact k _
    rw [decide_eq_true hm1]
    have hdr' := hdr
    have hlt3 : mn < 3 := by omega
    clear hdr hm1
    generalize H1 = HX at *
    rotate_left
    rw [decide_eq_true hm3]
    have hdr' := V_.dr (V_.ex s1) hdr
    have hlt3 : mn < 3 := by omega
    clear q5 q4 q3 q2 q1 hdr hdn hds hm3 hm1
    generalize (upd H1 p (.lst [])) = HX at *
    all_goals
      refine ⟨_, fun _ _ h => h, ?_⟩
      refine ⟨.ref d, rfl, [.dr d, .k (.num 3)], Dr d, gsB 3, .cons ⟨rfl, hdr'⟩ (.cons (AAt.of (KAt.num 3)) .nil), ⟨d, by decide, rfl, rfl, rfl⟩, fun v1 d1 H2 D2 k1 ⟨x1, e1, g1, ok1, dg1, e1'⟩ => ?_⟩
      subst e1
      subst e1'
      have hdr2 := V_.dr D2 hdr'
      refine ⟨.ref d, rfl, v1, rfl, [.dr d, .k (encG g1)], Dr d, gsB 3, .cons ⟨rfl, hdr2⟩ (.cons k1 .nil), ⟨d, g1, ok1, dg1, rfl, rfl, rfl⟩, fun v2 d2 H3 D3 k2 ⟨x2, e2, g2, ok2, dg2, e2'⟩ => ?_⟩
      subst e2
      subst e2'
      have hdr3 := V_.dr D3 hdr2
      refine ⟨.ref d, rfl, d, rfl, hdr3, fun L ps H4 D4 hL0 hL hlp => ?_⟩
      have hdr4 := V_.dr D4 hdr3
      have nL := dr_new hdr3 hL0
      refine ⟨.ref d, rfl, take_raw (m := 1000) (by decide) hdr4 fun y1 H5 hy1 D5 => .inl ⟨y1, 1000, rfl, rfl, .inr ⟨by decide, by decide⟩, .ref d, rfl, take_raw (m := 1000) (by decide) (V_.dr D5 hdr4) fun y2 H6 hy2 D6 => .inl ⟨_, y2, rfl, rfl, ⟨_, 3, rfl, rfl, ⟨by decide, by decide, by omega⟩, ?_⟩⟩⟩⟩
      have D46 := V_.trans D5 D6
      have hdr6 := V_.dr D46 hdr4
      have hL6 := D46.but _ _ nL hL
      have D36 := V_.trans D4 D46
      have kx : KAt H6 (encG g1) v1 := KAt.up k1 (V_.trans D3 D36).ts
      have ky : KAt H6 (encG g2) v2 := KAt.up k2 D36.ts
      have hpw : 0 ≤ ((y1 : Int) * 1000 + (y2 : Int)) ^ (3 : Int).toNat ∧ ((y1 : Int) * 1000 + (y2 : Int)) ^ (3 : Int).toNat < 2 ^ 64 := by
        have e : ((y1 : Int) * 1000 + (y2 : Int)) ^ (3 : Int).toNat = (((y1 * 1000 + y2) ^ 3 : Nat) : Int) := by
          rw [Int.natCast_pow]
          rfl
        have h : (y1 * 1000 + y2) ^ 3 ≤ 999999 ^ 3 := Nat.pow_le_pow_left (by omega) 3
        have h2 : 999999 ^ 3 < 2 ^ 64 := by decide
        rw [e]
        omega
      dsimp only
      generalize ((y1 : Int) * 1000 + (y2 : Int)) ^ (3 : Int).toNat = pw at *
      have hdu : Duo g1 g2 := ⟨ok1, ok2, dg1, dg2⟩
      refine ⟨v1, rfl, v2, rfl, .ref L, rfl, v1, v2, L, g1, g2, ps, rfl, kx, ky, SqL.of hL6, by omega, hdu, fun vp H7 s7 hvp => ⟨rfl, _, rfl, ?_⟩⟩
      rcases hvp with rfl | ⟨hvn, Lc, hclo, hLc⟩
      · exact ⟨_, rfl, .inl ⟨mn, 1, rfl, rfl, 3 - (mn + 1), by omega, mn + 1, _, _, _, _, _, rfl, rfl, by omega, V_.dr (V_.ex s7) hdr6⟩⟩
      · rw [decide_eq_false hvn]
        have S : Site g1 g2 (evsOf ps) Lc := ⟨hdu, fun e he => okEv_of he, hclo, by omega, by rw [evs_len]; omega⟩
        have hdr7 := V_.dr (V_.ex s7) hdr6
        refine ⟨v1, rfl, v2, rfl, .ref L, rfl, .inl ⟨L, _, rfl, .inl (SqL.of (s7 _ _ hL6)), fun l2 hl2 => ?_⟩⟩
        have s8 : Same H7 (upd H7 l2 (.lst (vints ps))) := same_new hl2
        have s78 := s7.trans s8
        refine ⟨v1, v2, l2, g1, g2, Lc, ps, rfl, kx.up (Ts.of s78), ky.up (Ts.of s78), SqL.of upd_same, by omega, S, fun T w1 w2 w3 H9 s9 hT => ?_, fun T r l rw_ lw run loop H9 s9 hT hr hkr hl hkl G => ?_⟩
        · have hdr9 := V_.dr (V_.ex (s8.trans s9)) hdr7
          refine ⟨.ref T, rfl, .inr (.inl ⟨T, _, 0, .str "at most", rfl, rfl, SqT.of hT, rfl, .inl ⟨rfl, _, rfl, ?_⟩⟩)⟩
          exact ⟨_, rfl, .inl ⟨mn, 1, rfl, rfl, 3 - (mn + 1), by omega, mn + 1, _, _, _, _, _, rfl, rfl, by omega, hdr9⟩⟩
        · have hdr9 := V_.dr (V_.ex (s8.trans s9)) hdr7
          refine ⟨.ref T, rfl, .inr (.inl ⟨T, _, 0, .str "ever more", rfl, rfl, SqT.of hT, rfl, .inl ⟨rfl, _, rfl, ?_⟩⟩)⟩
          refine ⟨.ref T, rfl, .inr (.inl ⟨T, _, 1, .ref r, rfl, rfl, SqT.of hT, rfl, r, rw_, rfl, .inl (SqL.of hr), .ref T, rfl, .inr (.inl ⟨T, _, 2, .ref l, rfl, rfl, SqT.of hT, rfl, l, lw, rfl, .inl (SqL.of hl), .inl ⟨_, _, rfl, rfl, _, 50, rfl, rfl, _, rfl, ?_⟩⟩)⟩)⟩
          have lr := hkr.length
          have ll := hkl.length
          rw [List.length_map] at lr ll
          by_cases h50 : (rw_.length : Int) + (lw.length : Int) < 50
          · rw [decide_eq_true h50]
            refine ⟨v1, rfl, v2, rfl, .ref T, rfl, .inr (.inl ⟨T, _, 1, .ref r, rfl, rfl, SqT.of hT, rfl, .ref T, rfl, .inr (.inl ⟨T, _, 2, .ref l, rfl, rfl, SqT.of hT, rfl, .int pw, rfl, ?_⟩)⟩)⟩
            refine ⟨v1, v2, r, l, rw_, lw, pw, g1, g2, ps, run, loop, rfl, kx.up (Ts.of (s78.trans s9)), ky.up (Ts.of (s78.trans s9)), hdu, hr, hkr, hl, hkl, by omega, G, hpw.1, hpw.2, fun H10 s10 => ⟨true, rfl, ?_⟩⟩
            exact ⟨_, rfl, .inl ⟨mn, 1, rfl, rfl, 3 - (mn + 1), by omega, mn + 1, _, _, _, _, _, rfl, rfl, by omega, V_.dr (V_.ex s10) hdr9⟩⟩
          · rw [decide_eq_false h50]
            exact ⟨_, rfl, .inl ⟨mn, 1, rfl, rfl, 3 - (mn + 1), by omega, mn + 1, _, _, _, _, _, rfl, rfl, by omega, hdr9⟩⟩
end
end K49
set_option Elab.async false
set_option linter.all false
set_option maxRecDepth 100000
set_option maxHeartbeats 0
set_option autoImplicit false
/-! The end: each def's facts by its name, the promises one after another. -/
namespace K49
open PySem PySem.Spec PyProof.Rows L2
abbrev dd (x : Str) (st : Stmt) : He.DefD := ⟨(x, none), x, x, defArgs st, defBody st, defScope st, [], []⟩
abbrev dm (m qual : Str) (st : Stmt) : He.DefD := ⟨("Passes", some m), m, qual, defArgs st, defBody st, defScope st, [], []⟩
def fn : List He.DefD := ([dd "way_to" s_way_to, dd "loop_from" s_loop_from, dd "first_ways" s_first_ways, dd "thing_in_loop" s_thing_in_loop, dd "climbed" s_climbed, dd "cells_alone" s_cells_alone, dd "first_state" s_first_state, dd "cells_in" s_cells_in, dd "cell_place" s_cell_place, dd "guess" s_guess, dd "replaced" s_replaced, dd "cells_behind" s_cells_behind, dd "one_more" s_one_more, dd "learned_either" s_learned_either, dd "learned" s_learned, dd "events_at" s_events_at, dd "pair_behind" s_pair_behind, dd "difference" s_difference, dd "all_steps" s_all_steps, dd "ahead_by" s_ahead_by, dd "missed" s_missed, dd "passed_pattern" s_passed_pattern, dd "misses_behind" s_misses_behind, dd "_law_draws" s_l_law_draws, dd "_law_take" s_l_law_take, dd "_law_cell" s_l_law_cell] : List He.DefD) ++ ([dd "_law_total" s_l_law_total, dd "_law_guesser" s_l_law_guesser, dd "_law_near" s_l_law_near, dd "_law_copied" s_l_law_copied, dd "_law_deep" s_l_law_deep, dd "_law_wrapped" s_l_law_wrapped, dd "_law_other_form" s_l_law_other_form, dd "_law_second" s_l_law_second, dd "_law_places" s_l_law_places, dd "_law_cells" s_l_law_cells, dd "_law_begin" s_l_law_begin, dd "_law_spot" s_l_law_spot, dd "_law_guess" s_l_law_guess, dd "_law_learn" s_l_law_learn, dd "_law_begun" s_l_law_begun, dd "_law_rival" s_l_law_rival, dd "_law_events" s_l_law_events, dd "_law_behind" s_l_law_behind, dd "_law_pairs" s_l_law_pairs, dd "_law_pattern" s_l_law_pattern, dd "_law_difference" s_l_law_difference, dd "_law_right" s_l_law_right, dm "length" "Passes.length" s_Passes_length, dm "more" "Passes.more" s_Passes_more, dm "behind" "Passes.behind" s_Passes_behind, dm "__init__" "Passes.__init__" s_Passes___init, dd "law" s_law] : List He.DefD)
def fa : List He.Fa := ([.glo "way_to", .glo "loop_from", .glo "first_ways", .glo "thing_in_loop", .glo "climbed", .glo "cells_alone", .glo "first_state", .glo "cells_in", .glo "cell_place", .glo "guess", .glo "replaced", .glo "cells_behind", .glo "one_more", .glo "learned_either", .glo "learned", .glo "events_at", .glo "pair_behind", .glo "difference", .glo "all_steps", .glo "ahead_by", .glo "missed", .glo "passed_pattern", .glo "misses_behind", .glo "_law_draws", .glo "_law_take", .glo "_law_cell", .glo "_law_total", .glo "_law_guesser", .glo "_law_near", .glo "_law_copied", .glo "_law_deep", .glo "_law_wrapped", .glo "_law_other_form", .glo "_law_second", .glo "_law_places"] : List He.Fa) ++ ([.glo "_law_cells", .glo "_law_begin", .glo "_law_spot", .glo "_law_guess", .glo "_law_learn", .glo "_law_begun", .glo "_law_rival", .glo "_law_events", .glo "_law_behind", .glo "_law_pairs", .glo "_law_pattern", .glo "_law_difference", .glo "_law_right", .glo "law", .glo "Passes", .free "len", .free "int", .free "abs", .free "min", .free "max", .free "sum", .free "list", .free "tuple", .free "range", .free "sorted", .free "divmod", .free "enumerate", .cls "Passes", .noat "Passes" "states", .noat "Passes" "totals", .noat "Passes" "first", .meth "Passes" "length", .meth "Passes" "more", .meth "Passes" "behind", .mkr "Passes"] : List He.Fa)
abbrev R : PySem.W.OpenRow := PySem.W.OpenLaw.row PySem.Challenge.rw_wayguess_k49_whole_ever_more_for_ever
abbrev hk : PySem.W.Hook := He.hookD 4 fa fn
def ob (s : PySem.W.SharedT) : He.AlD := He.obsDG 4 fa fn (HandSHeadRun.getT s)
theorem ob_eq (s : PySem.W.SharedT) : ob s = hk.obs s.abs := He.obsDG_eq (HandSHeadRun.getT_eq s)
def loose : List Str := (["way_to", "loop_from", "first_ways", "thing_in_loop", "climbed", "cells_alone", "first_state", "cells_in", "cell_place", "guess", "replaced", "cells_behind", "one_more", "learned_either", "learned", "events_at", "pair_behind", "difference", "all_steps", "ahead_by", "missed", "passed_pattern", "misses_behind", "_law_draws", "_law_take"] : List Str) ++ (["_law_cell", "_law_total", "_law_guesser", "_law_near", "_law_copied", "_law_deep", "_law_wrapped", "_law_other_form", "_law_second", "_law_places", "_law_cells", "_law_begin", "_law_spot", "_law_guess", "_law_learn", "_law_begun", "_law_rival", "_law_events", "_law_behind", "_law_pairs", "_law_pattern", "_law_difference", "_law_right", "Passes"] : List Str)
theorem run (w : World) : HandSHeadRun.RunEq R (PySem.W.view R.prog [57]) hk ob 4000 loose w := by
  intro os
  kernel_rfl
section
variable {P : Program} {w : World} {K : PySem.W.Frag} {h : Heap} {mg : Str → Option Value} {f : Addr}
theorem td {x : Str} {st : Stmt} {ps : List Str} (X : K.In h) (G : h.Ns mainGlobals mg) (c : He.SaysD fa fn K) {i j : Nat} (hd : fn[i]? = some (dd x st)) (hf : fa[j]? = some (.glo x)) (hb : ∀ f fd, FunD K x x (defArgs st) (defBody st) (defScope st) [] [] f fd → Binds K fd ps []) : TD K mg x st ps := by
  obtain ⟨fd, F⟩ := c.def_ i (d := dd x st) hd
  exact ⟨_, fd, F, He.glo_ok X G (c.fact j (f := .glo x) hf), hb _ _ F⟩
theorem td_way_to (X : K.In h) (G : h.Ns mainGlobals mg) (c : He.SaysD fa fn K) : TD K mg "way_to" s_way_to ["ways", "thing"] := td X G c (i := 0) (j := 0) rfl rfl fun f fd F => F.bindsN fun _ _ _ _ _ _ us hl => match us, hl with | [_, _], _ => rfl
theorem td_loop_from (X : K.In h) (G : h.Ns mainGlobals mg) (c : He.SaysD fa fn K) : TD K mg "loop_from" s_loop_from ["ways", "thing"] := td X G c (i := 1) (j := 1) rfl rfl fun f fd F => F.bindsN fun _ _ _ _ _ _ us hl => match us, hl with | [_, _], _ => rfl
theorem td_first_ways (X : K.In h) (G : h.Ns mainGlobals mg) (c : He.SaysD fa fn K) : TD K mg "first_ways" s_first_ways ["steps", "start"] := td X G c (i := 2) (j := 2) rfl rfl fun f fd F => F.bindsN fun _ _ _ _ _ _ us hl => match us, hl with | [_, _], _ => rfl
theorem td_thing_in_loop (X : K.In h) (G : h.Ns mainGlobals mg) (c : He.SaysD fa fn K) : TD K mg "thing_in_loop" s_thing_in_loop ["ways", "some"] := td X G c (i := 3) (j := 3) rfl rfl fun f fd F => F.bindsN fun _ _ _ _ _ _ us hl => match us, hl with | [_, _], _ => rfl
theorem td_climbed (X : K.In h) (G : h.Ns mainGlobals mg) (c : He.SaysD fa fn K) : TD K mg "climbed" s_climbed ["steps", "start"] := td X G c (i := 4) (j := 4) rfl rfl fun f fd F => F.bindsN fun _ _ _ _ _ _ us hl => match us, hl with | [_, _], _ => rfl
theorem td_cells_alone (X : K.In h) (G : h.Ns mainGlobals mg) (c : He.SaysD fa fn K) : TD K mg "cells_alone" s_cells_alone ["guesser"] := td X G c (i := 5) (j := 5) rfl rfl fun f fd F => F.bindsN fun _ _ _ _ _ _ us hl => match us, hl with | [_], _ => rfl
theorem td_first_state (X : K.In h) (G : h.Ns mainGlobals mg) (c : He.SaysD fa fn K) : TD K mg "first_state" s_first_state ["guesser"] := td X G c (i := 6) (j := 6) rfl rfl fun f fd F => F.bindsN fun _ _ _ _ _ _ us hl => match us, hl with | [_], _ => rfl
theorem td_cells_in (X : K.In h) (G : h.Ns mainGlobals mg) (c : He.SaysD fa fn K) : TD K mg "cells_in" s_cells_in ["guesser", "state"] := td X G c (i := 7) (j := 7) rfl rfl fun f fd F => F.bindsN fun _ _ _ _ _ _ us hl => match us, hl with | [_, _], _ => rfl
theorem td_cell_place (X : K.In h) (G : h.Ns mainGlobals mg) (c : He.SaysD fa fn K) : TD K mg "cell_place" s_cell_place ["guesser", "state", "place"] := td X G c (i := 8) (j := 8) rfl rfl fun f fd F => F.bindsN fun _ _ _ _ _ _ us hl => match us, hl with | [_, _, _], _ => rfl
theorem td_guess (X : K.In h) (G : h.Ns mainGlobals mg) (c : He.SaysD fa fn K) : TD K mg "guess" s_guess ["guesser", "state", "place"] := td X G c (i := 9) (j := 9) rfl rfl fun f fd F => F.bindsN fun _ _ _ _ _ _ us hl => match us, hl with | [_, _, _], _ => rfl
theorem td_replaced (X : K.In h) (G : h.Ns mainGlobals mg) (c : He.SaysD fa fn K) : TD K mg "replaced" s_replaced ["row", "at", "thing"] := td X G c (i := 10) (j := 10) rfl rfl fun f fd F => F.bindsN fun _ _ _ _ _ _ us hl => match us, hl with | [_, _, _], _ => rfl
theorem td_cells_behind (X : K.In h) (G : h.Ns mainGlobals mg) (c : He.SaysD fa fn K) : TD K mg "cells_behind" s_cells_behind ["guesser", "state", "place", "way"] := td X G c (i := 11) (j := 11) rfl rfl fun f fd F => F.bindsN fun _ _ _ _ _ _ us hl => match us, hl with | [_, _, _, _], _ => rfl
theorem td_one_more (X : K.In h) (G : h.Ns mainGlobals mg) (c : He.SaysD fa fn K) : TD K mg "one_more" s_one_more ["number", "length", "way"] := td X G c (i := 12) (j := 12) rfl rfl fun f fd F => F.bindsN fun _ _ _ _ _ _ us hl => match us, hl with | [_, _, _], _ => rfl
theorem td_learned_either (X : K.In h) (G : h.Ns mainGlobals mg) (c : He.SaysD fa fn K) : TD K mg "learned_either" s_learned_either ["guesser", "state", "place", "way"] := td X G c (i := 13) (j := 13) rfl rfl fun f fd F => F.bindsN fun _ _ _ _ _ _ us hl => match us, hl with | [_, _, _, _], _ => rfl
theorem td_learned (X : K.In h) (G : h.Ns mainGlobals mg) (c : He.SaysD fa fn K) : TD K mg "learned" s_learned ["guesser", "state", "place", "way"] := td X G c (i := 14) (j := 14) rfl rfl fun f fd F => F.bindsN fun _ _ _ _ _ _ us hl => match us, hl with | [_, _, _, _], _ => rfl
theorem td_events_at (X : K.In h) (G : h.Ns mainGlobals mg) (c : He.SaysD fa fn K) : TD K mg "events_at" s_events_at ["places"] := td X G c (i := 15) (j := 15) rfl rfl fun f fd F => F.bindsN fun _ _ _ _ _ _ us hl => match us, hl with | [_], _ => rfl
theorem td_pair_behind (X : K.In h) (G : h.Ns mainGlobals mg) (c : He.SaysD fa fn K) : TD K mg "pair_behind" s_pair_behind ["one", "other", "pair", "event"] := td X G c (i := 16) (j := 16) rfl rfl fun f fd F => F.bindsN fun _ _ _ _ _ _ us hl => match us, hl with | [_, _, _, _], _ => rfl
theorem td_difference (X : K.In h) (G : h.Ns mainGlobals mg) (c : He.SaysD fa fn K) : TD K mg "difference" s_difference ["one", "other", "pair", "event"] := td X G c (i := 17) (j := 17) rfl rfl fun f fd F => F.bindsN fun _ _ _ _ _ _ us hl => match us, hl with | [_, _, _, _], _ => rfl
theorem td_all_steps (X : K.In h) (G : h.Ns mainGlobals mg) (c : He.SaysD fa fn K) : TD K mg "all_steps" s_all_steps ["one", "other", "places"] := td X G c (i := 18) (j := 18) rfl rfl fun f fd F => F.bindsN fun _ _ _ _ _ _ us hl => match us, hl with | [_, _, _], _ => rfl
theorem td_ahead_by (X : K.In h) (G : h.Ns mainGlobals mg) (c : He.SaysD fa fn K) : TD K mg "ahead_by" s_ahead_by ["one", "other", "places"] := td X G c (i := 19) (j := 19) rfl rfl fun f fd F => F.bindsN fun _ _ _ _ _ _ us hl => match us, hl with | [_, _, _], _ => rfl
theorem td_missed (X : K.In h) (G : h.Ns mainGlobals mg) (c : He.SaysD fa fn K) : TD K mg "missed" s_missed ["guesser", "run"] := td X G c (i := 20) (j := 20) rfl rfl fun f fd F => F.bindsN fun _ _ _ _ _ _ us hl => match us, hl with | [_, _], _ => rfl
theorem td_passed_pattern (X : K.In h) (G : h.Ns mainGlobals mg) (c : He.SaysD fa fn K) : TD K mg "passed_pattern" s_passed_pattern ["guesser", "state", "pattern"] := td X G c (i := 21) (j := 21) rfl rfl fun f fd F => F.bindsN fun _ _ _ _ _ _ us hl => match us, hl with | [_, _, _], _ => rfl
theorem td_misses_behind (X : K.In h) (G : h.Ns mainGlobals mg) (c : He.SaysD fa fn K) : TD K mg "misses_behind" s_misses_behind ["guesser", "ahead", "around", "passes"] := td X G c (i := 22) (j := 22) rfl rfl fun f fd F => F.bindsN fun _ _ _ _ _ _ us hl => match us, hl with | [_, _, _, _], _ => rfl
theorem td_l_law_draws (X : K.In h) (G : h.Ns mainGlobals mg) (c : He.SaysD fa fn K) : TD K mg "_law_draws" s_l_law_draws ["script"] := td X G c (i := 23) (j := 23) rfl rfl fun f fd F => F.bindsN fun _ _ _ _ _ _ us hl => match us, hl with | [_], _ => rfl
theorem td_l_law_take (X : K.In h) (G : h.Ns mainGlobals mg) (c : He.SaysD fa fn K) : TD K mg "_law_take" s_l_law_take ["draws", "many"] := td X G c (i := 24) (j := 24) rfl rfl fun f fd F => F.bindsN fun _ _ _ _ _ _ us hl => match us, hl with | [_, _], _ => rfl
theorem td_l_law_cell (X : K.In h) (G : h.Ns mainGlobals mg) (c : He.SaysD fa fn K) : TD K mg "_law_cell" s_l_law_cell ["draws"] := td X G c (i := 25) (j := 25) rfl rfl fun f fd F => F.bindsN fun _ _ _ _ _ _ us hl => match us, hl with | [_], _ => rfl
theorem td_l_law_total (X : K.In h) (G : h.Ns mainGlobals mg) (c : He.SaysD fa fn K) : TD K mg "_law_total" s_l_law_total ["guesser"] := td X G c (i := 26) (j := 26) rfl rfl fun f fd F => F.bindsN fun _ _ _ _ _ _ us hl => match us, hl with | [_], _ => rfl
theorem td_l_law_guesser (X : K.In h) (G : h.Ns mainGlobals mg) (c : He.SaysD fa fn K) : TD K mg "_law_guesser" s_l_law_guesser ["draws", "deep"] := td X G c (i := 27) (j := 27) rfl rfl fun f fd F => F.bindsN fun _ _ _ _ _ _ us hl => match us, hl with | [_, _], _ => rfl
theorem td_l_law_near (X : K.In h) (G : h.Ns mainGlobals mg) (c : He.SaysD fa fn K) : TD K mg "_law_near" s_l_law_near ["draws", "guesser"] := td X G c (i := 28) (j := 28) rfl rfl fun f fd F => F.bindsN fun _ _ _ _ _ _ us hl => match us, hl with | [_, _], _ => rfl
theorem td_l_law_copied (X : K.In h) (G : h.Ns mainGlobals mg) (c : He.SaysD fa fn K) : TD K mg "_law_copied" s_l_law_copied ["draws", "cell"] := td X G c (i := 29) (j := 29) rfl rfl fun f fd F => F.bindsN fun _ _ _ _ _ _ us hl => match us, hl with | [_, _], _ => rfl
theorem td_l_law_deep (X : K.In h) (G : h.Ns mainGlobals mg) (c : He.SaysD fa fn K) : TD K mg "_law_deep" s_l_law_deep ["guesser"] := td X G c (i := 30) (j := 30) rfl rfl fun f fd F => F.bindsN fun _ _ _ _ _ _ us hl => match us, hl with | [_], _ => rfl
theorem td_l_law_wrapped (X : K.In h) (G : h.Ns mainGlobals mg) (c : He.SaysD fa fn K) : TD K mg "_law_wrapped" s_l_law_wrapped ["draws", "guesser", "room"] := td X G c (i := 31) (j := 31) rfl rfl fun f fd F => F.bindsN fun _ _ _ _ _ _ us hl => match us, hl with | [_, _, _], _ => rfl
theorem td_l_law_other_form (X : K.In h) (G : h.Ns mainGlobals mg) (c : He.SaysD fa fn K) : TD K mg "_law_other_form" s_l_law_other_form ["draws", "guesser", "room"] := td X G c (i := 32) (j := 32) rfl rfl fun f fd F => F.bindsN fun _ _ _ _ _ _ us hl => match us, hl with | [_, _, _], _ => rfl
theorem td_l_law_second (X : K.In h) (G : h.Ns mainGlobals mg) (c : He.SaysD fa fn K) : TD K mg "_law_second" s_l_law_second ["draws", "one"] := td X G c (i := 33) (j := 33) rfl rfl fun f fd F => F.bindsN fun _ _ _ _ _ _ us hl => match us, hl with | [_, _], _ => rfl
theorem td_l_law_places (X : K.In h) (G : h.Ns mainGlobals mg) (c : He.SaysD fa fn K) : TD K mg "_law_places" s_l_law_places ["draws"] := td X G c (i := 34) (j := 34) rfl rfl fun f fd F => F.bindsN fun _ _ _ _ _ _ us hl => match us, hl with | [_], _ => rfl
theorem td_l_law_cells (X : K.In h) (G : h.Ns mainGlobals mg) (c : He.SaysD fa fn K) : TD K mg "_law_cells" s_l_law_cells ["guesser"] := td X G c (i := 35) (j := 35) rfl rfl fun f fd F => F.bindsN fun _ _ _ _ _ _ us hl => match us, hl with | [_], _ => rfl
theorem td_l_law_begin (X : K.In h) (G : h.Ns mainGlobals mg) (c : He.SaysD fa fn K) : TD K mg "_law_begin" s_l_law_begin ["guesser"] := td X G c (i := 36) (j := 36) rfl rfl fun f fd F => F.bindsN fun _ _ _ _ _ _ us hl => match us, hl with | [_], _ => rfl
theorem td_l_law_spot (X : K.In h) (G : h.Ns mainGlobals mg) (c : He.SaysD fa fn K) : TD K mg "_law_spot" s_l_law_spot ["guesser", "state", "place"] := td X G c (i := 37) (j := 37) rfl rfl fun f fd F => F.bindsN fun _ _ _ _ _ _ us hl => match us, hl with | [_, _, _], _ => rfl
theorem td_l_law_guess (X : K.In h) (G : h.Ns mainGlobals mg) (c : He.SaysD fa fn K) : TD K mg "_law_guess" s_l_law_guess ["guesser", "state", "place"] := td X G c (i := 38) (j := 38) rfl rfl fun f fd F => F.bindsN fun _ _ _ _ _ _ us hl => match us, hl with | [_, _, _], _ => rfl
theorem td_l_law_learn (X : K.In h) (G : h.Ns mainGlobals mg) (c : He.SaysD fa fn K) : TD K mg "_law_learn" s_l_law_learn ["guesser", "state", "place", "way"] := td X G c (i := 39) (j := 39) rfl rfl fun f fd F => F.bindsN fun _ _ _ _ _ _ us hl => match us, hl with | [_, _, _, _], _ => rfl
theorem td_l_law_begun (X : K.In h) (G : h.Ns mainGlobals mg) (c : He.SaysD fa fn K) : TD K mg "_law_begun" s_l_law_begun ["draws", "guesser"] := td X G c (i := 40) (j := 40) rfl rfl fun f fd F => F.bindsN fun _ _ _ _ _ _ us hl => match us, hl with | [_, _], _ => rfl
theorem td_l_law_rival (X : K.In h) (G : h.Ns mainGlobals mg) (c : He.SaysD fa fn K) : TD K mg "_law_rival" s_l_law_rival ["draws", "one"] := td X G c (i := 41) (j := 41) rfl rfl fun f fd F => F.bindsN fun _ _ _ _ _ _ us hl => match us, hl with | [_, _], _ => rfl
theorem td_l_law_events (X : K.In h) (G : h.Ns mainGlobals mg) (c : He.SaysD fa fn K) : TD K mg "_law_events" s_l_law_events ["places"] := td X G c (i := 42) (j := 42) rfl rfl fun f fd F => F.bindsN fun _ _ _ _ _ _ us hl => match us, hl with | [_], _ => rfl
theorem td_l_law_behind (X : K.In h) (G : h.Ns mainGlobals mg) (c : He.SaysD fa fn K) : TD K mg "_law_behind" s_l_law_behind ["one", "other", "pair", "event"] := td X G c (i := 43) (j := 43) rfl rfl fun f fd F => F.bindsN fun _ _ _ _ _ _ us hl => match us, hl with | [_, _, _, _], _ => rfl
theorem td_l_law_pairs (X : K.In h) (G : h.Ns mainGlobals mg) (c : He.SaysD fa fn K) : TD K mg "_law_pairs" s_l_law_pairs ["one", "other", "places", "most"] := td X G c (i := 44) (j := 44) rfl rfl fun f fd F => F.bindsN fun _ _ _ _ _ _ us hl => match us, hl with | [_, _, _, _], _ => rfl
theorem td_l_law_pattern (X : K.In h) (G : h.Ns mainGlobals mg) (c : He.SaysD fa fn K) : TD K mg "_law_pattern" s_l_law_pattern ["run"] := td X G c (i := 45) (j := 45) rfl rfl fun f fd F => F.bindsN fun _ _ _ _ _ _ us hl => match us, hl with | [_], _ => rfl
theorem td_l_law_difference (X : K.In h) (G : h.Ns mainGlobals mg) (c : He.SaysD fa fn K) : TD K mg "_law_difference" s_l_law_difference ["one", "other", "run"] := td X G c (i := 46) (j := 46) rfl rfl fun f fd F => F.bindsN fun _ _ _ _ _ _ us hl => match us, hl with | [_, _, _], _ => rfl
theorem td_l_law_right (X : K.In h) (G : h.Ns mainGlobals mg) (c : He.SaysD fa fn K) : TD K mg "_law_right" s_l_law_right ["one", "other", "run", "loop", "passes"] := td X G c (i := 47) (j := 47) rfl rfl fun f fd F => F.bindsN fun _ _ _ _ _ _ us hl => match us, hl with | [_, _, _, _, _], _ => rfl
theorem td_m_length (c : He.SaysD fa fn K) : MDef K (He.ga K "Passes") "length" "Passes.length" s_Passes_length ["self"] := by
  obtain ⟨fd, F⟩ := c.def_ 48 (d := dm "length" "Passes.length" s_Passes_length) rfl
  exact ⟨_, fd, F, He.meth_ok (c.fact 66 (f := .meth "Passes" "length") rfl), F.bindsN fun _ _ _ _ _ _ us hl => match us, hl with | [_], _ => rfl⟩
theorem td_m_more (c : He.SaysD fa fn K) : MDef K (He.ga K "Passes") "more" "Passes.more" s_Passes_more ["self"] := by
  obtain ⟨fd, F⟩ := c.def_ 49 (d := dm "more" "Passes.more" s_Passes_more) rfl
  exact ⟨_, fd, F, He.meth_ok (c.fact 67 (f := .meth "Passes" "more") rfl), F.bindsN fun _ _ _ _ _ _ us hl => match us, hl with | [_], _ => rfl⟩
theorem td_m_behind (c : He.SaysD fa fn K) : MDef K (He.ga K "Passes") "behind" "Passes.behind" s_Passes_behind ["self", "number"] := by
  obtain ⟨fd, F⟩ := c.def_ 50 (d := dm "behind" "Passes.behind" s_Passes_behind) rfl
  exact ⟨_, fd, F, He.meth_ok (c.fact 68 (f := .meth "Passes" "behind") rfl), F.bindsN fun _ _ _ _ _ _ us hl => match us, hl with | [_, _], _ => rfl⟩
theorem td_init (X : K.In h) (G : h.Ns mainGlobals mg) (c : He.SaysD fa fn K) : IDef K mg (He.ga K "Passes") "Passes" "Passes.__init__" s_Passes___init ["self", "guesser", "state", "pattern", "most"] := by
  obtain ⟨fd, F⟩ := c.def_ 51 (d := dm "__init__" "Passes.__init__" s_Passes___init) rfl
  exact ⟨_, fd, F, He.mkr_ok (c.fact 69 (f := .mkr "Passes") rfl), He.glo_ok X G (c.fact 49 (f := .glo "Passes") rfl), F.bindsN fun _ _ _ _ _ _ us hl => match us, hl with | [_, _, _, _, _], _ => rfl⟩
theorem blt (X : K.In h) (G : h.Ns mainGlobals mg) (c : He.SaysD fa fn K) : Blt mg := ⟨He.free_ok X G (c.fact 50 (f := .free "len") rfl), He.free_ok X G (c.fact 51 (f := .free "int") rfl), He.free_ok X G (c.fact 52 (f := .free "abs") rfl), He.free_ok X G (c.fact 53 (f := .free "min") rfl), He.free_ok X G (c.fact 54 (f := .free "max") rfl), He.free_ok X G (c.fact 55 (f := .free "sum") rfl), He.free_ok X G (c.fact 56 (f := .free "list") rfl), He.free_ok X G (c.fact 57 (f := .free "tuple") rfl), He.free_ok X G (c.fact 58 (f := .free "range") rfl), He.free_ok X G (c.fact 59 (f := .free "sorted") rfl), He.free_ok X G (c.fact 60 (f := .free "divmod") rfl), He.free_ok X G (c.fact 61 (f := .free "enumerate") rfl)⟩
theorem pasC (c : He.SaysD fa fn K) : PasC K (He.ga K "Passes") := ⟨He.cls_ok (c.fact 62 (f := .cls "Passes") rfl), He.noat_ok (c.fact 63 (f := .noat "Passes" "states") rfl), He.noat_ok (c.fact 64 (f := .noat "Passes" "totals") rfl), He.noat_ok (c.fact 65 (f := .noat "Passes" "first") rfl)⟩
theorem facts (X : K.In h) (G : h.Ns mainGlobals mg) (hfa : mg ("law" : Str) = some (.ref f)) (c : He.SaysD fa fn K) :
    ∃ fd : FuncData, (∀ (s : Shared) (v : Value), BindsTo s fd ⟨[v], []⟩ [("script", v)]) ∧ ∀ base : Heap, K.In base → base.Ns mainGlobals mg → FnOk P w K mg base CX0 19 f fd ["script"] (spLaw K) := by
  obtain ⟨fd, F⟩ := c.def_ 52 (d := dd "law" s_law) rfl
  have e := hfa.symm.trans (He.glo_ok X G (c.fact 48 (f := .glo "law") rfl))
  cases e
  have b := FunD.bindsA (ps := ["script"]) F fun _ _ _ _ _ _ us hl => match us, hl with | [_], _ => rfl
  refine ⟨fd, fun s v => b s [v] rfl, fun base _ _ => ?_⟩
  have B := blt X G c
  have pc := pasC c
  have p_alone := cal_cells_alone (P := P) (w := w) (base := base) (td_cells_alone X G c)
  have p_first := cal_first_state (td_first_state X G c) p_alone 3
  have p_cells := cal_cells_in (P := P) (w := w) (base := base) (td_cells_in X G c)
  have p_spot := cal_cell_place (P := P) (w := w) (base := base) (td_cell_place X G c)
  have p_guessA := cal_guess (td_guess X G c) p_cells p_spot
  have p_guess := p_guessA 3
  have p_repl := cal_replaced (P := P) (w := w) (base := base) (td_replaced X G c)
  have p_behindC := cal_cells_behind (td_cells_behind X G c) p_cells p_spot p_repl
  have p_more := cal_one_more (P := P) (w := w) (base := base) (td_one_more X G c)
  have p_learned := cal_learned (td_learned X G c) (td_learned_either X G c) B p_guessA p_behindC p_repl p_more 3
  have p_events := cal_events_at (P := P) (w := w) (base := base) (td_events_at X G c)
  have p_pair := cal_pair_behind (td_pair_behind X G c) p_learned
  have p_diff := cal_difference (td_difference X G c) B p_guess
  have p_way := cal_way_to (P := P) (w := w) (base := base) (td_way_to X G c)
  have p_loop := cal_loop_from (P := P) (w := w) (base := base) (td_loop_from X G c)
  have p_firstw := cal_first_ways (P := P) (w := w) (base := base) (td_first_ways X G c) B
  have p_thing := cal_thing_in_loop (P := P) (w := w) (base := base) (td_thing_in_loop X G c) B
  have p_climbed := cal_climbed (td_climbed X G c) B p_thing
  have p_all := cal_all_steps (td_all_steps X G c) p_first p_events p_pair p_diff
  have p_ahead := cal_ahead_by (td_ahead_by X G c) B p_first p_all p_climbed p_way p_loop p_firstw
  have p_missed := cal_missed (td_missed X G c) B p_first p_guess p_learned
  have p_passed := cal_passed (td_passed_pattern X G c) B p_guess p_learned 5
  have m_length := met_length (P := P) (w := w) (base := base) (td_m_length c) pc B
  have m_more := met_more (P := P) (w := w) (base := base) (td_m_more c) pc B
  have m_behind := met_behind (td_m_behind c) pc B m_length m_more
  have m_make := mak_Passes (td_init X G c) pc B p_passed
  have p_misses := cal_misses_behind (td_misses_behind X G c) p_first p_passed m_make m_behind
  have l_take := cal_take (P := P) (w := w) (base := base) (td_l_law_take X G c)
  have l_draws := cal_draws (P := P) (w := w) (base := base) (td_l_law_draws X G c) B
  have l_cell := cal_cell (td_l_law_cell X G c) B l_take
  have l_total := cal_total (P := P) (w := w) (base := base) (td_l_law_total X G c) 4
  have l_deep := cal_deep (P := P) (w := w) (base := base) (td_l_law_deep X G c) B 3
  have l_guesser2 := cal_guesser (td_l_law_guesser X G c) B l_take l_cell l_total 2 (by decide)
  have l_guesser3 := cal_guesser (td_l_law_guesser X G c) B l_take l_cell l_total 3 (by decide)
  have l_near := cal_near (td_l_law_near X G c) B l_take 3
  have l_copied := cal_lcopied (td_l_law_copied X G c) B l_take
  have l_other := cal_others (td_l_law_wrapped X G c) (td_l_law_other_form X G c) B l_take l_cell l_total l_copied 2
  have l_second := cal_second (td_l_law_second X G c) l_take l_guesser2 l_other l_deep l_near
  have l_begun := cal_lbegun (td_l_law_begun X G c) B l_take
  have l_rival := cal_rival (td_l_law_rival X G c) l_take l_begun l_second
  have l_places := cal_lplaces (td_l_law_places X G c) B l_take
  have l_cells := cal_lcells (P := P) (w := w) (base := base) (td_l_law_cells X G c)
  have l_begin := cal_lbegin (td_l_law_begin X G c) l_cells 3
  have l_spot := cal_lspot (P := P) (w := w) (base := base) (td_l_law_spot X G c)
  have l_guess := cal_lguess (td_l_law_guess X G c) l_spot 3
  have l_learn := cal_llearn (td_l_law_learn X G c) B l_spot l_guess 3 (by decide)
  have l_events := cal_levents (P := P) (w := w) (base := base) (td_l_law_events X G c) B
  have l_behind := cal_lbehind (td_l_law_behind X G c) l_learn
  have l_pairs := cal_lpairs (td_l_law_pairs X G c) B l_begin l_events l_behind
  have l_diff := cal_ldifference (td_l_law_difference X G c) B p_missed
  have l_pattern := cal_lpattern (P := P) (w := w) (base := base) (td_l_law_pattern X G c) B
  have l_right := cal_lright (td_l_law_right X G c) B l_diff l_pattern p_misses
  exact fn_law F B l_draws l_take l_guesser3 l_rival l_places l_pairs p_ahead l_right
end
end K49
open PySem PySem.W PySem.Calls PyProof.Rows
theorem PySem.Challenge.cw_wayguess_k49_whole_ever_more_for_ever_holds : PySem.Challenge.rw_wayguess_k49_whole_ever_more_for_ever.Holds := by
  w_on; o_law
  refine HandSHeadRun.head_any (r := OpenLaw.row PySem.Challenge.rw_wayguess_k49_whole_ever_more_for_ever) (q := view (OpenLaw.row PySem.Challenge.rw_wayguess_k49_whole_ever_more_for_ever).prog [57]) (H := K49.hk) (ob := K49.ob) (M := 4000) (loose := K49.loose) (d := HandSHeadRun.topDef (OpenLaw.row PySem.Challenge.rw_wayguess_k49_whole_ever_more_for_ever).prog 57) (kwd := []) K49.ob_eq
    (by kernel_rfl) (fun s => by kernel_rfl) K49.run (by kernel_rfl) (by kernel_rfl) (by kernel_rfl) (by rfl) (by first | assumption | decide +kernel) (by decide +kernel) ⟨rfl, rfl, rfl, rfl, rfl, by decide +kernel⟩ ?hw ?hc
  case hw => w_witness2
  case hc =>
    refine L2.walk_ofE (l := PySem.Challenge.rw_wayguess_k49_whole_ever_more_for_ever) (n := 63) (k := 19) (x := "script") (CX := L2.CX0) rfl (by decide) (by kernel_rfl) ⟨rfl, by decide, by decide⟩ ?F (fun _ _ _ _ z => z)
    intro w mg fa h Y G hmg0
    obtain ⟨K, KX, c⟩ := Y
    have hmg : mg ("law" : PySem.Str) = some (.ref fa) := by
      have e : (HandSHeadRun.topDef (OpenLaw.row PySem.Challenge.rw_wayguess_k49_whole_ever_more_for_ever).prog 57).name = ("law" : PySem.Str) := by kernel_rfl
      rw [← e]
      exact hmg0
    obtain ⟨fd, hb, hF⟩ := K49.facts (P := (PySem.Challenge.rw_wayguess_k49_whole_ever_more_for_ever).prog) (w := w) KX G hmg c
    exact ⟨K, fd, K49.spLaw K, KX, hb, fun H a ns hl _ hS => ⟨a, ns, rfl, hS, fun _ => rfl⟩, hF⟩
